import PyProof.Rows.All
import Wide.All
import OpenK.AllK
import Wide.FinOn
import HandS.ForMost
import HandS.IsInst
import HandS.DictComp
import HandS.Small
import HandS.Style
import HandS.TupAny
import HandS.TupMul
import PyProof.NeKinds
import HandS.More
import HandS.Text
import PyProof.EqAt
import PyProof.EqKinds
import PyProof.TupleCall
import HandS.Strs
import HandS.Codes
import PySem.Challenge.RW_throughcalls_k16_whole_libraries_judged
import HandS.WordsExc
import HandS.ExcIs
import HandS.Lambda
import HandS.RaiseMore
import HandS.ExcValue
import KE.KStateDown
import HandS.Head0
import HandS.Head1
import HandS.Head2
import HandS.HeadEnd
import HandS.HeadHook1
import HandS.HeadHook2
import HandS.HeadHook3
import HandS.HeadHook4
import HandS.HeadWalk
set_option Elab.async false
set_option linter.all false
set_option maxRecDepth 100000
set_option maxHeartbeats 4000000
/-! DLa: values by value over the hand layer: tuples are data, lists and dicts stand in a map. -/
namespace DL
open PySem PySem.Spec PyProof.Rows L2

/-- a value: tuples by value, lists, dicts and other objects by their address -/
inductive D where
  | non | bl (b : Bool) | int (i : Int) | str (x : Str) | tup (ds : List D) | ob (a : Addr) | ty (n : String)

/-- what stands at an address: a list, a list that is only read, a dict, anything else that is no tuple -/
inductive MO where
  | ls (ds : List D) | rs (ds : List D) | dc (kvs : List (Key × D)) | raw (P : HO → Prop)

abbrev DM := Addr → Option MO
abbrev DSt := List (Option D)
def mset (M : DM) (a : Addr) (o : MO) : DM := fun b => if b = a then some o else M b
theorem mset_same {M : DM} {a : Addr} {o : MO} : mset M a o a = some o := by unfold mset; rw [if_pos rfl]
theorem mset_ne {M : DM} {a b : Addr} {o : MO} (h : b ≠ a) : mset M a o b = M b := by unfold mset; rw [if_neg h]

/-- a tuple of the written part -/
def KTup (K : PySem.W.Frag) (a : Addr) (xs : List V) : Prop :=
  ∃ (o : Obj) (its : Array Value) (n : Nat), K.lookup a = some o ∧ o.cls = .type "tuple" ∧ o.data = .seq its n ∧ its.size ≤ sizeLine ∧ Vals xs its.toList
def TAt (K : PySem.W.Frag) (H : Hp) (a : Addr) (xs : List V) : Prop := H a = some (.tup xs) ∨ KTup K a xs
theorem TAt.sq {K : PySem.W.Frag} {H : Hp} {a : Addr} {xs : List V} (h : TAt K H a xs) : SqT K H a xs := by
  rcases h with h | h
  · exact .inl (.inl h)
  · exact .inr h

mutual
def Rep (K : PySem.W.Frag) (H : Hp) : D → V → Prop
  | .non, v => v = .non
  | .bl b, v => v = .bl b
  | .int i, v => v = .int i
  | .str x, v => v = .str x
  | .tup ds, v => ∃ a vs, v = .ref a ∧ TAt K H a vs ∧ RepL K H ds vs
  | .ob a, v => v = .ref a
  | .ty n, v => v = .ty n
def RepL (K : PySem.W.Frag) (H : Hp) : List D → List V → Prop
  | [], vs => vs = []
  | d :: ds, vs => ∃ v r, vs = v :: r ∧ Rep K H d v ∧ RepL K H ds r
end

/-- the tuples stay -/
def TK (H H' : Hp) : Prop := ∀ a xs, H a = some (.tup xs) → H' a = some (.tup xs)
theorem TK.refl (H : Hp) : TK H H := fun _ _ h => h
theorem TK.trans {H H1 H2 : Hp} (a : TK H H1) (b : TK H1 H2) : TK H H2 := fun x xs h => b x xs (a x xs h)
theorem TAt.mono {K : PySem.W.Frag} {H H' : Hp} {a : Addr} {xs : List V} (t : TK H H') (h : TAt K H a xs) : TAt K H' a xs := by
  rcases h with h | h
  · exact .inl (t a xs h)
  · exact .inr h
mutual
theorem Rep.mono {K : PySem.W.Frag} {H H' : Hp} (t : TK H H') : ∀ (d : D) (v : V), Rep K H d v → Rep K H' d v
  | .non, _, h => h
  | .bl _, _, h => h
  | .int _, _, h => h
  | .str _, _, h => h
  | .tup ds, _, h => by
    unfold Rep at h ⊢
    obtain ⟨a, vs, e, ha, hr⟩ := h
    exact ⟨a, vs, e, ha.mono t, RepL.mono t ds vs hr⟩
  | .ob _, _, h => h
  | .ty _, _, h => h
theorem RepL.mono {K : PySem.W.Frag} {H H' : Hp} (t : TK H H') : ∀ (ds : List D) (vs : List V), RepL K H ds vs → RepL K H' ds vs
  | [], _, h => h
  | d :: ds, _, h => by
    unfold RepL at h ⊢
    obtain ⟨v, r, e, h1, h2⟩ := h
    exact ⟨v, r, e, Rep.mono t d v h1, RepL.mono t ds r h2⟩
end
section
variable {K : PySem.W.Frag} {H : Hp}
theorem RepL.nil : RepL K H [] [] := rfl
theorem RepL.cons {d : D} {v : V} {ds : List D} {vs : List V} (h : Rep K H d v) (t : RepL K H ds vs) : RepL K H (d :: ds) (v :: vs) := by
  unfold RepL
  exact ⟨v, vs, rfl, h, t⟩
theorem RepL.length : ∀ {ds : List D} {vs : List V}, RepL K H ds vs → vs.length = ds.length
  | [], vs, h => by
    unfold RepL at h
    rw [h]
    rfl
  | d :: ds, vs, h => by
    unfold RepL at h
    obtain ⟨v, r, rfl, _, h2⟩ := h
    simp [RepL.length h2]
theorem RepL.get : ∀ {ds : List D} {vs : List V} {i : Nat} {d : D}, RepL K H ds vs → ds[i]? = some d → ∃ v, vs[i]? = some v ∧ Rep K H d v
  | [], _, _, _, _, e => by simp at e
  | d :: ds, vs, 0, x, h, e => by
    unfold RepL at h
    obtain ⟨v, r, rfl, h1, h2⟩ := h
    simp at e
    subst e
    exact ⟨v, rfl, h1⟩
  | d :: ds, vs, i + 1, x, h, e => by
    unfold RepL at h
    obtain ⟨v, r, rfl, h1, h2⟩ := h
    obtain ⟨u, e1, e2⟩ := RepL.get (i := i) h2 (by simpa using e)
    exact ⟨u, by simpa using e1, e2⟩
theorem RepL.back : ∀ {ds : List D} {vs : List V} {i : Nat} {v : V}, RepL K H ds vs → vs[i]? = some v → ∃ d, ds[i]? = some d ∧ Rep K H d v
  | [], vs, i, v, h, e => by
    unfold RepL at h
    subst h
    simp at e
  | d :: ds, vs, 0, x, h, e => by
    unfold RepL at h
    obtain ⟨v, r, rfl, h1, h2⟩ := h
    simp at e
    subst e
    exact ⟨d, rfl, h1⟩
  | d :: ds, vs, i + 1, x, h, e => by
    unfold RepL at h
    obtain ⟨v, r, rfl, h1, h2⟩ := h
    obtain ⟨u, e1, e2⟩ := RepL.back (i := i) h2 (by simpa using e)
    exact ⟨u, by simpa using e1, e2⟩
theorem RepL.append : ∀ {ds es : List D} {vs ws : List V}, RepL K H ds vs → RepL K H es ws → RepL K H (ds ++ es) (vs ++ ws)
  | [], es, vs, ws, h, h' => by
    unfold RepL at h
    subst h
    exact h'
  | d :: ds, es, vs, ws, h, h' => by
    unfold RepL at h
    obtain ⟨v, r, rfl, h1, h2⟩ := h
    exact RepL.cons h1 (RepL.append h2 h')
theorem RepL.drop : ∀ {ds : List D} {vs : List V} (n : Nat), RepL K H ds vs → RepL K H (ds.drop n) (vs.drop n)
  | ds, vs, 0, h => h
  | [], vs, n + 1, h => by
    unfold RepL at h
    subst h
    exact RepL.nil
  | d :: ds, vs, n + 1, h => by
    unfold RepL at h
    obtain ⟨v, r, rfl, h1, h2⟩ := h
    exact RepL.drop n h2
theorem RepL.take : ∀ {ds : List D} {vs : List V} (n : Nat), RepL K H ds vs → RepL K H (ds.take n) (vs.take n)
  | ds, vs, 0, h => RepL.nil
  | [], vs, n + 1, h => by
    unfold RepL at h
    subst h
    exact RepL.nil
  | d :: ds, vs, n + 1, h => by
    unfold RepL at h
    obtain ⟨v, r, rfl, h1, h2⟩ := h
    exact RepL.cons h1 (RepL.take n h2)
theorem RepL.set : ∀ {ds : List D} {vs : List V} (n : Nat) {d : D} {v : V}, RepL K H ds vs → Rep K H d v → RepL K H (ds.set n d) (vs.set n v)
  | [], vs, n, d, v, h, _ => by
    unfold RepL at h
    subst h
    exact RepL.nil
  | x :: ds, vs, 0, d, v, h, h' => by
    unfold RepL at h
    obtain ⟨u, r, rfl, h1, h2⟩ := h
    exact RepL.cons h' h2
  | x :: ds, vs, n + 1, d, v, h, h' => by
    unfold RepL at h
    obtain ⟨u, r, rfl, h1, h2⟩ := h
    exact RepL.cons h1 (RepL.set n h2 h')
theorem RepL.erase : ∀ {ds : List D} {vs : List V} (n : Nat), RepL K H ds vs → RepL K H (ds.eraseIdx n) (vs.eraseIdx n)
  | [], vs, n, h => by
    unfold RepL at h
    subst h
    exact RepL.nil
  | x :: ds, vs, 0, h => by
    unfold RepL at h
    obtain ⟨u, r, rfl, h1, h2⟩ := h
    exact h2
  | x :: ds, vs, n + 1, h => by
    unfold RepL at h
    obtain ⟨u, r, rfl, h1, h2⟩ := h
    exact RepL.cons h1 (RepL.erase n h2)
theorem RepL.reverse : ∀ {ds : List D} {vs : List V}, RepL K H ds vs → RepL K H ds.reverse vs.reverse
  | [], vs, h => by
    unfold RepL at h
    subst h
    exact RepL.nil
  | x :: ds, vs, h => by
    unfold RepL at h
    obtain ⟨u, r, rfl, h1, h2⟩ := h
    rw [List.reverse_cons, List.reverse_cons]
    exact RepL.append (RepL.reverse h2) (RepL.cons h1 RepL.nil)
theorem RepL.strs : ∀ {ss : List Str} {vs : List V}, RepL K H (ss.map D.str) vs → vs = ss.map V.str
  | [], vs, h => h
  | s :: ss, vs, h => by
    unfold RepL at h
    obtain ⟨u, r, rfl, h1, h2⟩ := h
    rw [RepL.strs h2, show u = V.str s from h1]
    rfl
theorem RepL.of_strs : ∀ (ss : List Str), RepL K H (ss.map D.str) (ss.map V.str)
  | [] => rfl
  | s :: ss => RepL.cons rfl (RepL.of_strs ss)
theorem RepL.ints : ∀ {ss : List Int} {vs : List V}, RepL K H (ss.map D.int) vs → vs = ss.map V.int
  | [], vs, h => h
  | s :: ss, vs, h => by
    unfold RepL at h
    obtain ⟨u, r, rfl, h1, h2⟩ := h
    rw [RepL.ints h2, show u = V.int s from h1]
    rfl
theorem RepL.of_ints : ∀ (ss : List Int), RepL K H (ss.map D.int) (ss.map V.int)
  | [] => rfl
  | s :: ss => RepL.cons rfl (RepL.of_ints ss)
theorem RepL.bls : ∀ {ss : List Bool} {vs : List V}, RepL K H (ss.map D.bl) vs → vs = ss.map V.bl
  | [], vs, h => h
  | s :: ss, vs, h => by
    unfold RepL at h
    obtain ⟨u, r, rfl, h1, h2⟩ := h
    rw [RepL.bls h2, show u = V.bl s from h1]
    rfl
end
/-- a dict's pairs -/
def RepD (K : PySem.W.Frag) (H : Hp) (kvs : List (Key × D)) (ws : List (Key × V)) : Prop := kvs.map (·.1) = ws.map (·.1) ∧ RepL K H (kvs.map (·.2)) (ws.map (·.2))
theorem RepD.mono {K : PySem.W.Frag} {H H' : Hp} (t : TK H H') {kvs : List (Key × D)} {ws : List (Key × V)} (h : RepD K H kvs ws) : RepD K H' kvs ws := ⟨h.1, RepL.mono t _ _ h.2⟩

def RepO (K : PySem.W.Frag) (H : Hp) (a : Addr) : MO → Prop
  | .ls ds => ∃ vs, H a = some (.lst vs) ∧ RepL K H ds vs
  | .rs ds => ∃ vs ob, H a = some (.frz ob (.lst vs)) ∧ RepL K H ds vs
  | .dc kvs => ∃ ws, H a = some (.dK ws) ∧ RepD K H kvs ws
  | .raw P => ∃ o, H a = some o ∧ (∀ xs, o ≠ .tup xs) ∧ P o
def Mem (K : PySem.W.Frag) (H : Hp) (M : DM) : Prop := ∀ a o, M a = some o → RepO K H a o

/-- from (H, M) to (H', M'): what is not in M stays, nothing is lost, what is new in M' is new in H' -/
structure Stp (H : Hp) (M : DM) (H' : Hp) (M' : DM) : Prop where
  frame : ∀ a o, H a = some o → M a = none → H' a = some o
  free : ∀ a, H' a = none → H a = none
  dom : ∀ a, M' a ≠ none → M a ≠ none ∨ H a = none
/-- M tells of objects that stand -/
theorem Mem.isNil {K : PySem.W.Frag} {H : Hp} {M : DM} (m : Mem K H M) {p : Addr} (h : H p = none) : M p = none := by
  cases e : M p with
  | none => rfl
  | some o =>
    have q := m p o e
    cases o with
    | ls ds =>
      obtain ⟨vs, e1, _⟩ := q
      rw [h] at e1
      cases e1
    | rs ds =>
      obtain ⟨vs, ob, e1, _⟩ := q
      rw [h] at e1
      cases e1
    | dc kvs =>
      obtain ⟨vs, e1, _⟩ := q
      rw [h] at e1
      cases e1
    | raw P =>
      obtain ⟨o, e1, _⟩ := q
      rw [h] at e1
      cases e1
theorem Stp.refl (H : Hp) (M : DM) : Stp H M H M := ⟨fun _ _ h _ => h, fun _ h => h, fun _ h => .inl h⟩
theorem Stp.trans {H H1 H2 : Hp} {M M1 M2 : DM} (a : Stp H M H1 M1) (b : Stp H1 M1 H2 M2) : Stp H M H2 M2 := by
  refine ⟨fun x o h n => b.frame x o (a.frame x o h n) ?_, fun x h => a.free x (b.free x h), fun x h => ?_⟩
  · cases e : M1 x with
    | none => rfl
    | some o1 =>
      rcases a.dom x (by rw [e]; simp) with z | z
      · exact absurd n z
      · rw [h] at z
        cases z
  · rcases b.dom x h with z | z
    · exact a.dom x z
    · exact .inr (a.free x z)
theorem tk_of {K : PySem.W.Frag} {H H' : Hp} {M M' : DM} (m : Mem K H M) (s : Stp H M H' M') : TK H H' := fun a xs h => by
  refine s.frame a _ h ?_
  cases e : M a with
  | none => rfl
  | some o =>
    have q := m a o e
    cases o with
    | ls ds =>
      obtain ⟨vs, e1, _⟩ := q
      rw [h] at e1
      cases e1
    | rs ds =>
      obtain ⟨vs, ob, e1, _⟩ := q
      rw [h] at e1
      cases e1
    | dc kvs =>
      obtain ⟨vs, e1, _⟩ := q
      rw [h] at e1
      cases e1
    | raw P =>
      obtain ⟨o, e1, n, _⟩ := q
      rw [h] at e1
      exact absurd (Option.some.inj e1).symm (n xs)
/-- a new object -/
theorem Stp.new {H : Hp} {M : DM} {p : Addr} {o : HO} {mo : MO} (h : H p = none) : Stp H M (upd H p o) (mset M p mo) := by
  refine ⟨fun a u e _ => ?_, fun a e => ?_, fun a e => ?_⟩
  · rw [upd_ne (ne_of_none e h)]
    exact e
  · by_cases q : a = p
    · rw [q, upd_same] at e
      cases e
    · rw [upd_ne q] at e
      exact e
  · by_cases q : a = p
    · rw [q]
      exact .inr h
    · rw [mset_ne q] at e
      exact .inl e
/-- .. that is not told -/
theorem Stp.new0 {H : Hp} {M : DM} {p : Addr} {o : HO} (h : H p = none) : Stp H M (upd H p o) M := by
  refine ⟨fun a u e _ => ?_, fun a e => ?_, fun a e => .inl e⟩
  · rw [upd_ne (ne_of_none e h)]
    exact e
  · by_cases q : a = p
    · rw [q, upd_same] at e
      cases e
    · rw [upd_ne q] at e
      exact e
/-- an object of M is changed -/
theorem Stp.put {H : Hp} {M : DM} {p : Addr} {o : HO} {mo : MO} (h : M p ≠ none) : Stp H M (upd H p o) (mset M p mo) := by
  refine ⟨fun a u e n => ?_, fun a e => ?_, fun a e => ?_⟩
  · have q : a ≠ p := fun z => by
      rw [z] at n
      exact h n
    rw [upd_ne q]
    exact e
  · by_cases q : a = p
    · rw [q, upd_same] at e
      cases e
    · rw [upd_ne q] at e
      exact e
  · by_cases q : a = p
    · rw [q]
      exact .inl h
    · rw [mset_ne q] at e
      exact .inl e
theorem TK.upd {H : Hp} {p : Addr} {o : HO} (h : ∀ xs, H p ≠ some (.tup xs)) : TK H (L2.upd H p o) := fun a xs e => by
  have q : a ≠ p := fun z => by
    rw [z] at e
    exact h xs e
  rw [upd_ne q]
  exact e
theorem TK.new {H : Hp} {p : Addr} {o : HO} (h : H p = none) : TK H (L2.upd H p o) := TK.upd fun xs e => by
  rw [h] at e
  cases e
theorem SqL.upd {K : PySem.W.Frag} {H : Hp} {p a : Addr} {o : HO} {xs : List V} (n : a ≠ p) (h : SqL K H a xs) : SqL K (L2.upd H p o) a xs := by
  rcases h with (h | ⟨ob, h⟩) | h
  · exact .inl (.inl (by rw [upd_ne n]; exact h))
  · exact .inl (.inr ⟨ob, by rw [upd_ne n]; exact h⟩)
  · exact .inr h
theorem RepO.upd {K : PySem.W.Frag} {H : Hp} {p a : Addr} {o : HO} {mo : MO} (n : a ≠ p) (t : TK H (L2.upd H p o)) (h : RepO K H a mo) : RepO K (L2.upd H p o) a mo := by
  cases mo with
  | ls ds =>
    obtain ⟨vs, e, r⟩ := h
    exact ⟨vs, by rw [upd_ne n]; exact e, RepL.mono t _ _ r⟩
  | rs ds =>
    obtain ⟨vs, ob, e, r⟩ := h
    exact ⟨vs, ob, by rw [upd_ne n]; exact e, RepL.mono t _ _ r⟩
  | dc kvs =>
    obtain ⟨vs, e, r⟩ := h
    exact ⟨vs, by rw [upd_ne n]; exact e, r.mono t⟩
  | raw P =>
    obtain ⟨u, e, r⟩ := h
    exact ⟨u, by rw [upd_ne n]; exact e, r⟩
theorem Mem.tupfree {K : PySem.W.Frag} {H : Hp} {M : DM} (m : Mem K H M) {p : Addr} {mo : MO} (h : M p = some mo) : ∀ xs, H p ≠ some (.tup xs) := fun xs e => by
  have q := m p mo h
  cases mo with
  | ls ds =>
    obtain ⟨vs, e1, _⟩ := q
    rw [e] at e1
    cases e1
  | rs ds =>
    obtain ⟨vs, ob, e1, _⟩ := q
    rw [e] at e1
    cases e1
  | dc kvs =>
    obtain ⟨vs, e1, _⟩ := q
    rw [e] at e1
    cases e1
  | raw P =>
    obtain ⟨o, e1, n, _⟩ := q
    rw [e] at e1
    exact absurd (Option.some.inj e1).symm (n xs)
theorem Mem.new0 {K : PySem.W.Frag} {H : Hp} {M : DM} (m : Mem K H M) {p : Addr} {o : HO} (h : H p = none) : Mem K (upd H p o) M := fun a mo e => by
  have q : a ≠ p := fun z => by
    rw [z, m.isNil h] at e
    cases e
  exact (m a mo e).upd q (TK.new h)
theorem Mem.put {K : PySem.W.Frag} {H : Hp} {M : DM} (m : Mem K H M) {p : Addr} {o : HO} {mo : MO} (h : ∀ xs, H p ≠ some (.tup xs)) (new : RepO K (upd H p o) p mo) : Mem K (upd H p o) (mset M p mo) := fun a u e => by
  by_cases q : a = p
  · rw [q, mset_same] at e
    cases e
    rw [q]
    exact new
  · rw [mset_ne q] at e
    exact (m a u e).upd q (TK.upd h)
end DL

/-! DLb: the judgements' readings over data. -/
namespace DL
open PySem PySem.Spec PyProof.Rows L2

/-! ### slots -/
def RS (K : PySem.W.Frag) (H : Hp) (ρ : DSt) (σ : L2.St) : Prop := σ.length = ρ.length ∧ ∀ (i : Nat) (d : D), ρ[i]? = some (some d) → ∃ v, σ[i]? = some (some v) ∧ Rep K H d v
theorem RS.mono {K : PySem.W.Frag} {H H' : Hp} {ρ : DSt} {σ : L2.St} (t : TK H H') (h : RS K H ρ σ) : RS K H' ρ σ := ⟨h.1, fun i d e => by
  obtain ⟨v, e1, r⟩ := h.2 i d e
  exact ⟨v, e1, Rep.mono t d v r⟩⟩
theorem RS.set {K : PySem.W.Frag} {H : Hp} {ρ : DSt} {σ : L2.St} {d : D} {v : V} (i : Nat) (h : RS K H ρ σ) (r : Rep K H d v) : RS K H (ρ.set i (some d)) (σ.set i (some v)) := by
  refine ⟨by rw [List.length_set, List.length_set, h.1], fun j e he => ?_⟩
  by_cases q : i = j
  · subst q
    by_cases l : i < ρ.length
    · rw [List.getElem?_set_self l] at he
      cases he
      exact ⟨v, List.getElem?_set_self (by rw [h.1]; exact l), r⟩
    · rw [List.getElem?_eq_none (by rw [List.length_set]; omega)] at he
      cases he
  · rw [List.getElem?_set_ne q] at he
    obtain ⟨u, e1, r1⟩ := h.2 j e he
    exact ⟨u, by rw [List.getElem?_set_ne q]; exact e1, r1⟩
theorem RS.none {K : PySem.W.Frag} {H : Hp} {ρ : DSt} {σ : L2.St} (i : Nat) (h : RS K H ρ σ) : RS K H (ρ.set i none) (σ.set i none) := by
  refine ⟨by rw [List.length_set, List.length_set, h.1], fun j e he => ?_⟩
  by_cases q : i = j
  · subst q
    by_cases l : i < ρ.length
    · rw [List.getElem?_set_self l] at he
      cases he
    · rw [List.getElem?_eq_none (by rw [List.length_set]; omega)] at he
      cases he
  · rw [List.getElem?_set_ne q] at he
    obtain ⟨u, e1, r1⟩ := h.2 j e he
    exact ⟨u, by rw [List.getElem?_set_ne q]; exact e1, r1⟩
def dwipe (ρ : DSt) : List Nat → DSt
  | [] => ρ
  | v :: vs => (dwipe ρ vs).set v none
theorem RS.wipe {K : PySem.W.Frag} {H : Hp} {ρ : DSt} {σ : L2.St} (h : RS K H ρ σ) : ∀ vs, RS K H (dwipe ρ vs) (L2.wipe σ vs)
  | [] => h
  | v :: vs => RS.none v (RS.wipe h vs)

/-! ### readings over data -/
abbrev DK := D → DM → Prop
abbrev DTE := DSt → DM → DK → Prop
abbrev DTT := DSt → DM → (Bool → DM → Prop) → Prop
abbrev DTA := DSt → DM → (List D → DM → Prop) → Prop
structure DEnds where
  nx : DSt → DM → Prop
  rt : DK
  bk : DSt → DM → Prop := fun _ _ => False
  ct : DSt → DM → Prop := fun _ _ => False
abbrev DTS := DEnds → DSt → DM → Prop
abbrev DTG := D → DSt → DM → (DSt → DM → Prop) → Prop

def CK (K : PySem.W.Frag) (H : Hp) (M : DM) (Q' : DK) (Q : VK) : Prop := ∀ d M' v H', Q' d M' → Stp H M H' M' → Rep K H' d v → Mem K H' M' → Q v H'
def CB (K : PySem.W.Frag) (H : Hp) (M : DM) (Q' : Bool → DM → Prop) (Q : Bool → Hp → Prop) : Prop := ∀ b M' H', Q' b M' → Stp H M H' M' → Mem K H' M' → Q b H'
def CA (K : PySem.W.Frag) (H : Hp) (M : DM) (Q' : List D → DM → Prop) (Q : List V → Hp → Prop) : Prop := ∀ ds M' vs H', Q' ds M' → Stp H M H' M' → RepL K H' ds vs → Mem K H' M' → Q vs H'
def CS (K : PySem.W.Frag) (H : Hp) (M : DM) (Q' : DSt → DM → Prop) (Q : L2.St → Hp → Prop) : Prop := ∀ ρ' M' σ' H', Q' ρ' M' → Stp H M H' M' → RS K H' ρ' σ' → Mem K H' M' → Q σ' H'
structure CE (K : PySem.W.Frag) (H : Hp) (M : DM) (E' : DEnds) (E : Ends) : Prop where
  nx : CS K H M E'.nx E.nx
  rt : CK K H M E'.rt E.rt
  bk : CS K H M E'.bk E.bk
  ct : CS K H M E'.ct E.ct
section
variable {K : PySem.W.Frag} {H H1 : Hp} {M M1 : DM}
theorem CK.step {Q' : DK} {Q : VK} (c : CK K H M Q' Q) (s : Stp H M H1 M1) : CK K H1 M1 Q' Q := fun d M' v H' h s' r m => c d M' v H' h (s.trans s') r m
theorem CB.step {Q' : Bool → DM → Prop} {Q : Bool → Hp → Prop} (c : CB K H M Q' Q) (s : Stp H M H1 M1) : CB K H1 M1 Q' Q := fun d M' H' h s' m => c d M' H' h (s.trans s') m
theorem CA.step {Q' : List D → DM → Prop} {Q : List V → Hp → Prop} (c : CA K H M Q' Q) (s : Stp H M H1 M1) : CA K H1 M1 Q' Q := fun d M' v H' h s' r m => c d M' v H' h (s.trans s') r m
theorem CS.step {Q' : DSt → DM → Prop} {Q : L2.St → Hp → Prop} (c : CS K H M Q' Q) (s : Stp H M H1 M1) : CS K H1 M1 Q' Q := fun d M' v H' h s' r m => c d M' v H' h (s.trans s') r m
theorem CE.step {E' : DEnds} {E : Ends} (c : CE K H M E' E) (s : Stp H M H1 M1) : CE K H1 M1 E' E := ⟨c.nx.step s, c.rt.step s, c.bk.step s, c.ct.step s⟩
end
def LE (K : PySem.W.Frag) (t : DTE) : TE := fun σ H Q => ∃ ρ M Q', RS K H ρ σ ∧ Mem K H M ∧ t ρ M Q' ∧ CK K H M Q' Q
def LT (K : PySem.W.Frag) (t : DTT) : TT := fun σ H Q => ∃ ρ M Q', RS K H ρ σ ∧ Mem K H M ∧ t ρ M Q' ∧ CB K H M Q' Q
def LA (K : PySem.W.Frag) (t : DTA) : TA := fun σ H Q => ∃ ρ M Q', RS K H ρ σ ∧ Mem K H M ∧ t ρ M Q' ∧ CA K H M Q' Q
def LS (K : PySem.W.Frag) (t : DTS) : TS := fun E σ H => ∃ ρ M E', RS K H ρ σ ∧ Mem K H M ∧ t E' ρ M ∧ CE K H M E' E
def LG (K : PySem.W.Frag) (t : DTG) : TG := fun v σ H Q => ∃ d ρ M Q', Rep K H d v ∧ RS K H ρ σ ∧ Mem K H M ∧ t d ρ M Q' ∧ CS K H M Q' Q

section
variable {X : Cx} {e : Expr} {es : List Expr} {st : Stmt} {sts : List Stmt}
theorem PE.weak {t t' : TE} (h : PE X e t) (w : ∀ σ H Q, t' σ H Q → t σ H Q) : PE X e t' := ⟨fun pins s σ H Q I q => h.run pins s σ H Q I (w σ H Q q)⟩
theorem PT.weak {t t' : TT} (h : PT X e t) (w : ∀ σ H Q, t' σ H Q → t σ H Q) : PT X e t' := ⟨fun pins s σ H Q I q => h.run pins s σ H Q I (w σ H Q q)⟩
theorem PW.weak {t t' : TT} (h : PW X e t) (w : ∀ σ H Q, t' σ H Q → t σ H Q) : PW X e t' := ⟨fun wh pins s σ H Q I q => h.run wh pins s σ H Q I (w σ H Q q)⟩
theorem PA.weak {t t' : TA} (h : PA X es t) (w : ∀ σ H Q, t' σ H Q → t σ H Q) : PA X es t' := ⟨fun p pins s σ H Q I q => h.run p pins s σ H Q I (w σ H Q q)⟩
theorem PS.weak {t t' : TS} (h : PS X st t) (w : ∀ D σ H, t' D σ H → t D σ H) : PS X st t' := ⟨fun pins s σ H D I q => h.run pins s σ H D I (w D σ H q)⟩
theorem PSs.weak {t t' : TS} (h : PSs X sts t) (w : ∀ D σ H, t' D σ H → t D σ H) : PSs X sts t' := ⟨fun pins s σ H D I q => h.run pins s σ H D I (w D σ H q)⟩
theorem PG.weak {t t' : TG} (h : PG X e t) (w : ∀ v σ H Q, t' v σ H Q → t v σ H Q) : PG X e t' := ⟨fun pins s σ H v u Q I r q => h.run pins s σ H v u Q I r (w v σ H Q q)⟩
end

/-! ### names, constants -/
def dVar (i : Nat) : DTE := fun ρ M Q => match ρ[i]? with
  | some (some d) => Q d M
  | _ => False
def dC (d : D) : DTE := fun _ M Q => Q d M
section
variable {X : Cx} {pos : Pos}
theorem le_var {K : PySem.W.Frag} {i : Nat} : ∀ σ H Q, LE K (dVar i) σ H Q → tVar i σ H Q := fun σ H Q ⟨ρ, M, Q', rs, m, h, c⟩ => by
  unfold dVar at h
  cases e : ρ[i]? with
  | none =>
    rw [e] at h
    exact h.elim
  | some o =>
    cases o with
    | none =>
      rw [e] at h
      exact h.elim
    | some d =>
      rw [e] at h
      obtain ⟨v, e1, r⟩ := rs.2 i d e
      exact ⟨v, e1, c d M v H h (Stp.refl H M) r m⟩
theorem dv (i : Nat) {x : Str} (hN : X.N[i]? = some x := by rfl) (hv : Vis X.env.scope x := by first | exact Or.inl rfl | exact Or.inr (Or.inl rfl) | exact Or.inr (Or.inr rfl)) (hd : (x == ("__debug__" : Str)) = false := by decide)
    (hcd : (x == ("__classdict__" : Str)) = false := by decide) : PE X (.Name x pos) (LE X.K (dVar i)) := PE.weak (pe_var hN hv hd hcd) le_var
theorem le_c {K : PySem.W.Frag} {v : V} {d : D} (r : ∀ H, Rep K H d v) : ∀ σ H Q, LE K (dC d) σ H Q → tC v σ H Q := fun σ H Q ⟨ρ, M, Q', rs, m, h, c⟩ => c d M v H h (Stp.refl H M) (r H) m
theorem dint {i : Int} {j} : PE X (.Constant (.int i) j pos) (LE X.K (dC (.int i))) := PE.weak pe_int (le_c fun _ => rfl)
theorem dbl {b : Bool} {j} : PE X (.Constant (.bool b) j pos) (LE X.K (dC (.bl b))) := PE.weak pe_bl (le_c fun _ => rfl)
theorem dnon {j} : PE X (.Constant .none j pos) (LE X.K (dC .non)) := PE.weak pe_non (le_c fun _ => rfl)
theorem dstr {x : Str} {j} : PE X (.Constant (.str x) j pos) (LE X.K (dC (.str x))) := PE.weak pe_str (le_c fun _ => rfl)
theorem dgl {x : Str} {d : D} {v : V} {u : Value} (hg : Gl X x) (hm : X.mg x = some u) (r : RelV v u) (rd : ∀ H, Rep X.K H d v) (hd : (x == ("__debug__" : Str)) = false := by decide) : PE X (.Name x pos) (LE X.K (dC d)) := PE.weak (pe_glob hg hm r hd) (le_c rd)
theorem dglI {x : Str} {i : Int} {t : Tok} (hg : Gl X x) (hm : X.mg x = some (.int i t)) (hd : (x == ("__debug__" : Str)) = false := by decide) : PE X (.Name x pos) (LE X.K (dC (.int i))) := dgl (v := .int i) hg hm ⟨t, rfl⟩ (fun _ => rfl) hd
theorem dglS {x : Str} {i : Str} {t : Tok} (hg : Gl X x) (hm : X.mg x = some (.str i t)) (hd : (x == ("__debug__" : Str)) = false := by decide) : PE X (.Name x pos) (LE X.K (dC (.str i))) := dgl (v := .str i) hg hm ⟨t, rfl⟩ (fun _ => rfl) hd
theorem dglR {x : Str} {a : Addr} (hg : Gl X x) (hm : X.mg x = some (.ref a)) (hd : (x == ("__debug__" : Str)) = false := by decide) : PE X (.Name x pos) (LE X.K (dC (.ob a))) := dgl (v := .ref a) hg hm rfl (fun _ => rfl) hd
/-- a built-in class by its name -/
theorem dbt {x : Str} {n : String} (hg : Gl X x) (hm : X.mg x = none) (hv : bootBuiltins x = some (.type n)) (hn : x ≠ "__name__" := by decide) (hd : (x == ("__debug__" : Str)) = false := by decide) : PE X (.Name x pos) (LE X.K (dC (.ty n))) :=
  PE.weak (pe_bltn (v := .ty n) hg hm hv rfl hn hd) (le_c fun _ => rfl)
end

/-! ### operators by values -/
abbrev DR2 := D → D → DM → DK → Prop
def LR2 (K : PySem.W.Frag) (r : R2) (r' : DR2) : Prop := ∀ H M x y dx dy Q' Q, Mem K H M → Rep K H dx x → Rep K H dy y → r' dx dy M Q' → CK K H M Q' Q → r x y H Q
def dOp (r : DR2) (ta tb : DTE) : DTE := fun ρ M Q => ta ρ M fun x M1 => tb ρ M1 fun y M2 => r x y M2 Q
theorem le_op {K : PySem.W.Frag} {r : R2} {r' : DR2} (hl : LR2 K r r') {ta tb : DTE} : ∀ σ H Q, LE K (dOp r' ta tb) σ H Q → tOp r (LE K ta) (LE K tb) σ H Q := fun σ H Q ⟨ρ, M, Q', rs, m, h, c⟩ => by
  refine ⟨ρ, M, _, rs, m, h, fun dx M1 x H1 h1 s1 r1 m1 => ?_⟩
  refine ⟨ρ, M1, _, rs.mono (tk_of m s1), m1, h1, fun dy M2 y H2 h2 s2 r2 m2 => ?_⟩
  exact hl H2 M2 x y dx dy Q' Q m2 (Rep.mono (tk_of m1 s2) _ _ r1) r2 h2 (c.step (s1.trans s2))
/-- a value as a test -/
def dT (t : DTE) : DTT := fun ρ M Q => t ρ M fun d M' => match d with
  | .bl b => Q b M'
  | _ => False
theorem lt_test {K : PySem.W.Frag} {t : DTE} {t' : TE} (w : ∀ σ H Q, LE K t σ H Q → t' σ H Q) : ∀ σ H Q, LT K (dT t) σ H Q → tTest t' σ H Q := fun σ H Q ⟨ρ, M, Q', rs, m, h, c⟩ => by
  refine w σ H _ ⟨ρ, M, _, rs, m, h, fun d M1 x H1 h1 s1 r1 m1 => ?_⟩
  cases d with
  | bl b => exact ⟨b, r1, c b M1 H1 h1 s1 m1⟩
  | _ => exact h1.elim
section
variable {X : Cx} {a b c : Expr} {ta tb tc : DTE} {pos : Pos}
theorem d_op {op : Operator} {r : R2} {r' : DR2} (ho : OpR X (binaryOp op) r) (hl : LR2 X.K r r') (ha : PE X a (LE X.K ta)) (hb : PE X b (LE X.K tb)) : PE X (.BinOp a op b pos) (LE X.K (dOp r' ta tb)) := PE.weak (pe_op ho ha hb) (le_op hl)
theorem d_cmp {op : CmpOp} {r : R2} {r' : DR2} (ho : OpR X (compareOp op) r) (hl : LR2 X.K r r') (ha : PE X a (LE X.K ta)) (hb : PE X b (LE X.K tb)) (hm : behindInMarks op b = false) : PE X (.Compare a [op] [b] pos) (LE X.K (dOp r' ta tb)) := PE.weak (pe_cmpR ho ha hb hm) (le_op hl)
theorem d_cmpT {op : CmpOp} {r : R2} {r' : DR2} (ho : OpR X (compareOp op) r) (hl : LR2 X.K r r') (ha : PE X a (LE X.K ta)) (hb : PE X b (LE X.K tb)) (hm : behindInMarks op b = false) : PT X (.Compare a [op] [b] pos) (LT X.K (dT (dOp r' ta tb))) := PT.weak (pt_cmpR ho ha hb hm) (lt_test (le_op hl))
theorem d_val (h : PE X a (LE X.K ta)) (he : ∀ whole, isTrue a X.env whole = (do let v ← whole; standAt a.pos; holding [v] (truthy v)) := by intro _; rfl) : PT X a (LT X.K (dT ta)) := PT.weak (pt_val h he) (lt_test fun _ _ _ q => q)
theorem d_ix {r : R2} {r' : DR2} (hr : IxR X r) (hl : LR2 X.K r r') (ha : PE X a (LE X.K ta)) (hb : PE X b (LE X.K tb)) (hs : PlainIx b := by exact fun _ _ => rfl) : PE X (.Subscript a b pos) (LE X.K (dOp r' ta tb)) := PE.weak (pe_ix hr ha hb hs) (le_op hl)
/-- x op y op' z -/
def dChain (r r' : DR2) (ta tb tc : DTE) : DTE := fun ρ M Q => ta ρ M fun x M1 => tb ρ M1 fun y M2 => r x y M2 fun z M3 => match z with
  | .bl k => if k = true then tc ρ M3 fun w M4 => r' y w M4 Q else Q (.bl false) M3
  | _ => False
theorem le_chain {K : PySem.W.Frag} {r s : R2} {r' s' : DR2} (hl : LR2 K r r') (hl' : LR2 K s s') {ta tb tc : DTE} : ∀ σ H Q, LE K (dChain r' s' ta tb tc) σ H Q → tChain r s (LE K ta) (LE K tb) (LE K tc) σ H Q := fun σ H Q ⟨ρ, M, Q', rs, m, h, c⟩ => by
  refine ⟨ρ, M, _, rs, m, h, fun dx M1 x H1 h1 s1 r1 m1 => ?_⟩
  refine ⟨ρ, M1, _, rs.mono (tk_of m s1), m1, h1, fun dy M2 y H2 h2 s2 r2 m2 => ?_⟩
  refine hl H2 M2 x y dx dy _ _ m2 (Rep.mono (tk_of m1 s2) _ _ r1) r2 h2 fun dz M3 z H3 h3 s3 r3 m3 => ?_
  cases dz with
  | bl k =>
    refine ⟨k, r3, ?_⟩
    cases k with
    | true =>
      refine ⟨ρ, M3, _, rs.mono (((tk_of m s1).trans (tk_of m1 s2)).trans (tk_of m2 s3)), m3, h3, fun dw M4 w H4 h4 s4 r4 m4 => ?_⟩
      exact hl' H4 M4 y w dy dw Q' Q m4 (Rep.mono ((tk_of m2 s3).trans (tk_of m3 s4)) _ _ r2) r4 h4 (c.step (((s1.trans s2).trans s3).trans s4))
    | false => exact c _ M3 _ H3 h3 ((s1.trans s2).trans s3) rfl m3
  | _ => exact h3.elim
theorem d_chain {op op' : CmpOp} {r s : R2} {r' s' : DR2} (ho : OpR X (compareOp op) r) (ho' : OpR X (compareOp op') s) (hl : LR2 X.K r r') (hl' : LR2 X.K s s') (ha : PE X a (LE X.K ta)) (hb : PE X b (LE X.K tb)) (hc : PE X c (LE X.K tc))
    (hm : lastMarks [op, op'] [b, c] = false := by with_unfolding_all rfl) : PE X (.Compare a [op, op'] [b, c] pos) (LE X.K (dChain r' s' ta tb tc)) := PE.weak (pe_chain ho ho' ha hb hc hm) (le_chain hl hl')
theorem d_chainT {op op' : CmpOp} {r s : R2} {r' s' : DR2} (ho : OpR X (compareOp op) r) (ho' : OpR X (compareOp op') s) (hl : LR2 X.K r r') (hl' : LR2 X.K s s') (ha : PE X a (LE X.K ta)) (hb : PE X b (LE X.K tb)) (hc : PE X c (LE X.K tc))
    (hm : lastMarks [op, op'] [b, c] = false := by with_unfolding_all rfl) : PT X (.Compare a [op, op'] [b, c] pos) (LT X.K (dT (dChain r' s' ta tb tc))) := PT.weak (pt_chain ho ho' ha hb hc hm) (lt_test (le_chain hl hl'))
end

/-! ### and, or, not, if else -/
def dAnd (t u : DTT) : DTT := fun ρ M Q => t ρ M fun c M1 => if c = true then u ρ M1 Q else Q false M1
def dOr (t u : DTT) : DTT := fun ρ M Q => t ρ M fun c M1 => if c = true then Q true M1 else u ρ M1 Q
def dNot (t : DTT) : DTT := fun ρ M Q => t ρ M fun c M1 => Q (!c) M1
def dIf (t : DTT) (ta tb : DTE) : DTE := fun ρ M Q => t ρ M fun c M1 => if c = true then ta ρ M1 Q else tb ρ M1 Q
def dAndV (ta tb : DTE) : DTE := fun ρ M Q => ta ρ M fun x M1 => match x with
  | .bl c => if c = true then tb ρ M1 Q else Q (.bl false) M1
  | _ => False
def dOrV (ta tb : DTE) : DTE := fun ρ M Q => ta ρ M fun x M1 => match x with
  | .bl c => if c = true then Q (.bl true) M1 else tb ρ M1 Q
  | _ => False
def dNotV (ta : DTE) : DTE := fun ρ M Q => ta ρ M fun x M1 => match x with
  | .bl c => Q (.bl (!c)) M1
  | _ => False
section
variable {X : Cx} {a b c : Expr} {rest : List Expr} {ta tb : DTE} {tA tB : DTT} {pos : Pos}
theorem d_and1 (ha : PT X a (LT X.K tA)) : PW X (.BoolOp .And [a] pos) (LT X.K tA) := pw_and1 ha
theorem d_or1 (ha : PT X a (LT X.K tA)) : PW X (.BoolOp .Or [a] pos) (LT X.K tA) := pw_or1 ha
theorem d_and (ha : PT X a (LT X.K tA)) (hb : PW X (.BoolOp .And (b :: rest) pos) (LT X.K tB)) : PW X (.BoolOp .And (a :: b :: rest) pos) (LT X.K (dAnd tA tB)) := PW.weak (pw_and ha hb) fun σ H Q ⟨ρ, M, Q', rs, m, h, cb⟩ => by
  refine ⟨ρ, M, _, rs, m, h, fun c M1 H1 h1 s1 m1 => ?_⟩
  cases c with
  | true => exact ⟨ρ, M1, Q', rs.mono (tk_of m s1), m1, h1, cb.step s1⟩
  | false => exact cb _ M1 H1 h1 s1 m1
theorem d_or (ha : PT X a (LT X.K tA)) (hb : PW X (.BoolOp .Or (b :: rest) pos) (LT X.K tB)) : PW X (.BoolOp .Or (a :: b :: rest) pos) (LT X.K (dOr tA tB)) := PW.weak (pw_or ha hb) fun σ H Q ⟨ρ, M, Q', rs, m, h, cb⟩ => by
  refine ⟨ρ, M, _, rs, m, h, fun c M1 H1 h1 s1 m1 => ?_⟩
  cases c with
  | false => exact ⟨ρ, M1, Q', rs.mono (tk_of m s1), m1, h1, cb.step s1⟩
  | true => exact cb _ M1 H1 h1 s1 m1
theorem d_not (ha : PT X a (LT X.K tA)) : PT X (.UnaryOp .Not a pos) (LT X.K (dNot tA)) := PT.weak (pt_not ha) fun σ H Q ⟨ρ, M, Q', rs, m, h, cb⟩ => ⟨ρ, M, _, rs, m, h, fun c M1 H1 h1 s1 m1 => cb _ M1 H1 h1 s1 m1⟩
theorem d_ifE (hc : PT X c (LT X.K tA)) (ha : PE X a (LE X.K ta)) (hb : PE X b (LE X.K tb)) : PE X (.IfExp c a b pos) (LE X.K (dIf tA ta tb)) := PE.weak (pe_ifExp hc ha hb) fun σ H Q ⟨ρ, M, Q', rs, m, h, cb⟩ => by
  refine ⟨ρ, M, _, rs, m, h, fun c M1 H1 h1 s1 m1 => ?_⟩
  cases c with
  | true => exact ⟨ρ, M1, Q', rs.mono (tk_of m s1), m1, h1, cb.step s1⟩
  | false => exact ⟨ρ, M1, Q', rs.mono (tk_of m s1), m1, h1, cb.step s1⟩
theorem d_andV (ha : PE X a (LE X.K ta)) (hb : PE X (.BoolOp .And (b :: rest) pos) (LE X.K tb)) : PE X (.BoolOp .And (a :: b :: rest) pos) (LE X.K (dAndV ta tb)) := PE.weak (pe_and ha hb) fun σ H Q ⟨ρ, M, Q', rs, m, h, cb⟩ => by
  refine ⟨ρ, M, _, rs, m, h, fun d M1 x H1 h1 s1 r1 m1 => ?_⟩
  cases d with
  | bl k =>
    refine ⟨k, r1, ?_⟩
    cases k with
    | true => exact ⟨ρ, M1, Q', rs.mono (tk_of m s1), m1, h1, cb.step s1⟩
    | false => exact cb _ M1 _ H1 h1 s1 rfl m1
  | _ => exact h1.elim
theorem d_orV (ha : PE X a (LE X.K ta)) (hb : PE X (.BoolOp .Or (b :: rest) pos) (LE X.K tb)) : PE X (.BoolOp .Or (a :: b :: rest) pos) (LE X.K (dOrV ta tb)) := PE.weak (pe_or ha hb) fun σ H Q ⟨ρ, M, Q', rs, m, h, cb⟩ => by
  refine ⟨ρ, M, _, rs, m, h, fun d M1 x H1 h1 s1 r1 m1 => ?_⟩
  cases d with
  | bl k =>
    refine ⟨k, r1, ?_⟩
    cases k with
    | false => exact ⟨ρ, M1, Q', rs.mono (tk_of m s1), m1, h1, cb.step s1⟩
    | true => exact cb _ M1 _ H1 h1 s1 rfl m1
  | _ => exact h1.elim
theorem d_oneV {op} (h : PE X a (LE X.K ta)) : PE X (.BoolOp op [a] pos) (LE X.K ta) := pe_one h
theorem d_notV (ha : PE X a (LE X.K ta)) : PE X (.UnaryOp .Not a pos) (LE X.K (dNotV ta)) := PE.weak (pe_not ha) fun σ H Q ⟨ρ, M, Q', rs, m, h, cb⟩ => by
  refine ⟨ρ, M, _, rs, m, h, fun d M1 x H1 h1 s1 r1 m1 => ?_⟩
  cases d with
  | bl k => exact ⟨k, r1, cb _ M1 _ H1 h1 s1 rfl m1⟩
  | _ => exact h1.elim
end

/-! ### arguments, displays -/
def dNil : DTA := fun _ M Q => Q [] M
def dCons (ta : DTE) (tr : DTA) : DTA := fun ρ M Q => ta ρ M fun x M1 => tr ρ M1 fun xs M2 => Q (x :: xs) M2
def dTup (t : DTA) : DTE := fun ρ M Q => t ρ M fun xs M1 => xs.length ≤ sizeLine ∧ Q (.tup xs) M1
def dLst (t : DTA) : DTE := fun ρ M Q => t ρ M fun xs M1 => xs.length ≤ sizeLine ∧ ∀ p, M1 p = none → Q (.ob p) (mset M1 p (.ls xs))
section
variable {X : Cx} {e : Expr} {es : List Expr} {te : DTE} {t : DTA} {pos : Pos}
theorem da_nil : PA X [] (LA X.K dNil) := PA.weak pa_nil fun σ H Q ⟨ρ, M, Q', rs, m, h, c⟩ => c [] M [] H h (Stp.refl H M) RepL.nil m
theorem da_cons (ha : PE X e (LE X.K te)) (hr : PA X es (LA X.K t)) (hs : starEach (e :: es) X.env = (false, eval e X.env) :: starEach es X.env := by rfl) : PA X (e :: es) (LA X.K (dCons te t)) :=
  PA.weak (pa_cons ha hr hs) fun σ H Q ⟨ρ, M, Q', rs, m, h, c⟩ => by
    refine ⟨ρ, M, _, rs, m, h, fun d M1 x H1 h1 s1 r1 m1 => ?_⟩
    refine ⟨ρ, M1, _, rs.mono (tk_of m s1), m1, h1, fun ds M2 xs H2 h2 s2 r2 m2 => ?_⟩
    exact c _ M2 _ H2 h2 (s1.trans s2) (RepL.cons (Rep.mono (tk_of m1 s2) _ _ r1) r2) m2
theorem d_tup {k} (h : PA X es (LA X.K t)) : PE X (.Tuple es k pos) (LE X.K (dTup t)) := PE.weak (pe_tup h) fun σ H Q ⟨ρ, M, Q', rs, m, h, c⟩ => by
  refine ⟨ρ, M, _, rs, m, h, fun ds M1 vs H1 ⟨z, h1⟩ s1 r1 m1 => ⟨by rw [r1.length]; exact z, fun p np => ?_⟩⟩
  refine c _ M1 _ _ h1 (s1.trans (Stp.new0 np)) ?_ (m1.new0 np)
  unfold Rep
  exact ⟨p, vs, rfl, .inl upd_same, RepL.mono (TK.new np) _ _ r1⟩
theorem d_lst (h : PA X es (LA X.K t)) : PE X (.List es pos) (LE X.K (dLst t)) := PE.weak (pe_lst h) fun σ H Q ⟨ρ, M, Q', rs, m, h, c⟩ => by
  refine ⟨ρ, M, _, rs, m, h, fun ds M1 vs H1 ⟨z, h1⟩ s1 r1 m1 => ⟨by rw [r1.length]; exact z, fun p np => ?_⟩⟩
  refine c _ _ _ _ (h1 p (m1.isNil np)) (s1.trans (Stp.new np)) rfl (m1.put (fun xs e => ?_) ⟨vs, upd_same, RepL.mono (TK.new np) _ _ r1⟩)
  rw [np] at e
  cases e
end

/-! ### statements -/
def dNext : DTS := fun E ρ M => E.nx ρ M
def dSeq (t u : DTS) : DTS := fun E ρ M => t { E with nx := u E } ρ M
def dDrop (te : DTE) : DTS := fun E ρ M => te ρ M fun _ M1 => E.nx ρ M1
def dRet (te : DTE) : DTS := fun E ρ M => te ρ M E.rt
def dRetN : DTS := fun E _ M => E.rt .non M
def dIfS (c : DTT) (t u : DTS) : DTS := fun E ρ M => c ρ M fun b M1 => if b = true then t E ρ M1 else u E ρ M1
def dCont : DTS := fun E ρ M => E.ct ρ M
def dName (i : Nat) : DTG := fun d ρ M Q => Q (ρ.set i (some d)) M
def dAsg (te : DTE) (g : DTG) : DTS := fun E ρ M => te ρ M fun d M1 => g d ρ M1 E.nx
section
variable {X : Cx} {st : Stmt} {rest sts : List Stmt} {t u : DTS} {e : Expr} {te : DTE} {pos : Pos}
theorem ds_nil : PSs X [] (LS X.K dNext) := PSs.weak pss_nil fun E σ H ⟨ρ, M, E', rs, m, h, c⟩ => c.nx ρ M σ H h (Stp.refl H M) rs m
theorem ds_cons (h1 : PS X st (LS X.K t)) (h2 : PSs X rest (LS X.K u)) : PSs X (st :: rest) (LS X.K (dSeq t u)) := PSs.weak (pss_cons h1 h2) fun E σ H ⟨ρ, M, E', rs, m, h, c⟩ => by
  refine ⟨ρ, M, _, rs, m, h, ⟨fun ρ1 M1 σ1 H1 q s1 rs1 m1 => ?_, c.rt, c.bk, c.ct⟩⟩
  exact ⟨ρ1, M1, E', rs1, m1, q, c.step s1⟩
theorem ds_one (h1 : PS X st (LS X.K t)) : PSs X [st] (LS X.K t) := pss_one h1
theorem ds_cont : PS X (.Continue pos) (LS X.K dCont) := PS.weak ps_continue fun E σ H ⟨ρ, M, E', rs, m, h, c⟩ => c.ct ρ M σ H h (Stp.refl H M) rs m
theorem ds_pass : PS X (.Pass pos) (LS X.K dNext) := PS.weak ps_pass fun E σ H ⟨ρ, M, E', rs, m, h, c⟩ => c.nx ρ M σ H h (Stp.refl H M) rs m
theorem ds_doc {x : Str} {j pos'} : PS X (.Expr (.Constant (.str x) j pos) pos') (LS X.K dNext) := PS.weak ps_doc fun E σ H ⟨ρ, M, E', rs, m, h, c⟩ => c.nx ρ M σ H h (Stp.refl H M) rs m
theorem ds_expr (he : PE X e (LE X.K te)) (hs : swapsWith e none pos.line X.env = pure false := by rfl) : PS X (.Expr e pos) (LS X.K (dDrop te)) := PS.weak (ps_expr he hs) fun E σ H ⟨ρ, M, E', rs, m, h, c⟩ =>
  ⟨ρ, M, _, rs, m, h, fun d M1 x H1 h1 s1 r1 m1 => c.nx ρ M1 σ H1 h1 s1 (rs.mono (tk_of m s1)) m1⟩
theorem ds_ret (he : PE X e (LE X.K te)) : PS X (.Return (some e) pos) (LS X.K (dRet te)) := PS.weak (ps_ret he) fun E σ H ⟨ρ, M, E', rs, m, h, c⟩ => ⟨ρ, M, _, rs, m, h, c.rt⟩
theorem ds_retN : PS X (.Return none pos) (LS X.K dRetN) := PS.weak ps_retN fun E σ H ⟨ρ, M, E', rs, m, h, c⟩ => c.rt _ M _ H h (Stp.refl H M) rfl m
theorem ds_if {c : Expr} {a b : List Stmt} {tc : DTT} (hc : PT X c (LT X.K tc)) (ha : PSs X a (LS X.K t)) (hb : PSs X b (LS X.K u)) : PS X (.If c a b pos) (LS X.K (dIfS tc t u)) := PS.weak (ps_if hc ha hb) fun E σ H ⟨ρ, M, E', rs, m, h, c⟩ => by
  refine ⟨ρ, M, _, rs, m, h, fun b M1 H1 h1 s1 m1 => ?_⟩
  cases b with
  | true => exact ⟨ρ, M1, E', rs.mono (tk_of m s1), m1, h1, c.step s1⟩
  | false => exact ⟨ρ, M1, E', rs.mono (tk_of m s1), m1, h1, c.step s1⟩
theorem lg_name {K : PySem.W.Frag} {i : Nat} : ∀ v σ H Q, LG K (dName i) v σ H Q → gName i v σ H Q := fun v σ H Q ⟨d, ρ, M, Q', r, rs, m, h, c⟩ => c _ M _ H h (Stp.refl H M) (rs.set i r) m
theorem dg_name {i : Nat} {x : Str} (hN : X.N.Nodup) (hi : X.N[i]? = some x := by rfl) (hx : Loc X.env.scope x := by first | exact Or.inl rfl | exact Or.inr rfl) (hf : X.fn x = true ∨ X.env.scope.names.lookup x = some .local := by first | exact .inl rfl | exact .inr rfl | assumption) :
    PG X (.Name x pos) (LG X.K (dName i)) := PG.weak (pg_name hN hi hx hf) lg_name
theorem le_asg {K : PySem.W.Frag} {te : DTE} {g : DTG} {g' : TG} (w : ∀ v σ H Q, LG K g v σ H Q → g' v σ H Q) : ∀ E σ H, LS K (dAsg te g) E σ H → tAsg (LE K te) g' E σ H := fun E σ H ⟨ρ, M, E', rs, m, h, c⟩ =>
  ⟨ρ, M, _, rs, m, h, fun d M1 x H1 h1 s1 r1 m1 => w _ _ _ _ ⟨d, ρ, M1, E'.nx, r1, rs.mono (tk_of m s1), m1, h1, c.nx.step s1⟩⟩
theorem ds_asg {tg : Expr} {g : DTG} (he : PE X e (LE X.K te)) (hg : PG X tg (LG X.K g)) (hs : swapsWithSole [tg] e pos.line X.env = pure false := by rfl) (hw : swappedStores [tg] e X.env = pure none := by rfl)
    (h1 : (assignEach [tg] X.env).map (·.2) = [assign tg X.env] := by rfl) : PS X (.Assign [tg] e pos) (LS X.K (dAsg te g)) := PS.weak (ps_asg he hg hs hw h1) (le_asg fun _ _ _ _ q => q)
theorem ds_set {i : Nat} {x : Str} {pos' : Pos} (hN : X.N.Nodup) (he : PE X e (LE X.K te)) (hi : X.N[i]? = some x := by rfl) (hx : Loc X.env.scope x := by first | exact Or.inl rfl | exact Or.inr rfl) (hs : swapsWith e (some (.Name x pos')) pos.line X.env = pure false := by rfl)
    (hf : X.fn x = true ∨ X.env.scope.names.lookup x = some .local := by first | exact .inl rfl | exact .inr rfl | assumption) : PS X (.Assign [.Name x pos'] e pos) (LS X.K (dAsg te (dName i))) := PS.weak (ps_set hN hi hx he hs hf) (le_asg lg_name)
/-- a, b = e1, e2 -/
def dPar (i j : Nat) (ta : DTA) : DTS := fun E ρ M => ta ρ M fun ds M1 => match ds with
  | [v, w] => E.nx ((ρ.set i (some v)).set j (some w)) M1
  | _ => False
theorem ds_par {i j : Nat} {x y : Str} {a b : Expr} {ta : DTA} {px py pt : Pos} {kt k2 pt2} (hc : X.calm = true) (hN : X.N.Nodup) (hij : i ≠ j) (ha : PA X [a, b] (LA X.K ta)) (hi : X.N[i]? = some x := by rfl) (hj : X.N[j]? = some y := by rfl)
    (hx : X.env.scope.names.lookup x = some .local := by rfl) (hy : X.env.scope.names.lookup y = some .local := by rfl)
    (hw : swappedStores [.Tuple [.Name x px, .Name y py] kt pt] (.Tuple [a, b] k2 pt2) X.env = pure (some [x, y]) := by rfl)
    (hs : swapsWithSole [.Tuple [.Name x px, .Name y py] kt pt] (.Tuple [a, b] k2 pt2) pos.line X.env = pure false := by rfl) :
    PS X (.Assign [.Tuple [.Name x px, .Name y py] kt pt] (.Tuple [a, b] k2 pt2) pos) (LS X.K (dPar i j ta)) := PS.weak (ps_par hc hN hi hj hij hx hy ha hw hs) fun E σ H ⟨ρ, M, E', rs, m, h, c⟩ => by
  refine ⟨ρ, M, _, rs, m, h, fun ds M1 vs H1 h1 s1 r1 m1 => ?_⟩
  match ds, h1 with
  | [d1, d2], h1 =>
    unfold RepL at r1
    obtain ⟨v, r, rfl, ra, rb⟩ := r1
    unfold RepL at rb
    obtain ⟨w, r', rfl, rb, rn⟩ := rb
    unfold RepL at rn
    subst rn
    exact ⟨v, w, rfl, c.nx _ M1 _ H1 h1 s1 (((rs.mono (tk_of m s1)).set i ra).set j rb) m1⟩
end
end DL

/-! DLc: operators, places, slices, lists' methods, loops, comprehensions, calls over data. -/
namespace DL
open PySem PySem.Spec PyProof.Rows L2

/-! ### ints -/
def dArith (f : Int → Int → Int) : DR2 := fun x y M Q => match x, y with
  | .int i, .int j => Q (.int (f i j)) M
  | _, _ => False
def dArithC (C : Int → Int → Prop) (f : Int → Int → Int) : DR2 := fun x y M Q => match x, y with
  | .int i, .int j => C i j ∧ Q (.int (f i j)) M
  | _, _ => False
def dCmpI (f : Int → Int → Bool) : DR2 := fun x y M Q => match x, y with
  | .int i, .int j => Q (.bl (f i j)) M
  | _, _ => False
section
variable {K : PySem.W.Frag}
theorem lr_arith {f : Int → Int → Int} : LR2 K (rI0 fun i j => .int (f i j)) (dArith f) := fun H M x y dx dy Q' Q m rx ry h c => by
  cases dx <;> cases dy <;> first | exact h.elim | exact ⟨_, _, rx, ry, c _ M _ H h (Stp.refl H M) rfl m⟩
theorem lr_arithC {C : Int → Int → Prop} {f : Int → Int → Int} : LR2 K (rI C fun i j => .int (f i j)) (dArithC C f) := fun H M x y dx dy Q' Q m rx ry h c => by
  cases dx <;> cases dy <;> first | exact h.elim | exact ⟨_, _, rx, ry, h.1, c _ M _ H h.2 (Stp.refl H M) rfl m⟩
theorem lr_cmpI {f : Int → Int → Bool} : LR2 K (rI0 fun i j => .bl (f i j)) (dCmpI f) := fun H M x y dx dy Q' Q m rx ry h c => by
  cases dx <;> cases dy <;> first | exact h.elim | exact ⟨_, _, rx, ry, c _ M _ H h (Stp.refl H M) rfl m⟩
end
/-! ### == and != of scalars -/
def sEq : D → D → Option Bool
  | .int i, .int j => some (decide (i = j))
  | .str i, .str j => some (decide (i = j))
  | .bl i, .bl j => some (decide (i = j))
  | .non, .non => some true
  | .non, .int _ => some false
  | .int _, .non => some false
  | .non, .str _ => some false
  | .str _, .non => some false
  | .int _, .str _ => some false
  | .str _, .int _ => some false
  | _, _ => none
def dEqS : DR2 := fun x y M Q => match sEq x y with
  | some b => Q (.bl b) M
  | none => False
def dNeS : DR2 := fun x y M Q => match sEq x y with
  | some b => Q (.bl (!b)) M
  | none => False
theorem sEq_ok {K : PySem.W.Frag} {H : Hp} {x y : V} {dx dy : D} {b : Bool} (rx : Rep K H dx x) (ry : Rep K H dy y) (h : sEq dx dy = some b) : scal x y = true ∧ decide (x = y) = b := by
  cases dx <;> cases dy <;> simp only [sEq, Option.some.injEq, reduceCtorEq] at h <;> (unfold Rep at rx ry; subst rx ry; subst h; refine ⟨rfl, ?_⟩; simp)
theorem lr_eqS {K : PySem.W.Frag} : LR2 K rEq dEqS := fun H M x y dx dy Q' Q m rx ry h c => by
  unfold dEqS at h
  cases e : sEq dx dy with
  | none =>
    rw [e] at h
    exact h.elim
  | some b =>
    rw [e] at h
    obtain ⟨h1, h2⟩ := sEq_ok rx ry e
    refine ⟨h1, ?_⟩
    rw [h2]
    exact c _ M _ H h (Stp.refl H M) rfl m
theorem lr_neS {K : PySem.W.Frag} : LR2 K rNe dNeS := fun H M x y dx dy Q' Q m rx ry h c => by
  unfold dNeS at h
  cases e : sEq dx dy with
  | none =>
    rw [e] at h
    exact h.elim
  | some b =>
    rw [e] at h
    obtain ⟨h1, h2⟩ := sEq_ok rx ry e
    refine ⟨h1, ?_⟩
    rw [h2]
    exact c _ M _ H h (Stp.refl H M) rfl m
/-! ### texts -/
def dCatS : DR2 := fun x y M Q => match x, y with
  | .str a, .str b => a.length + b.length ≤ sizeLine ∧ Q (.str (a ++ b)) M
  | _, _ => False
/-! ### the list that stands -/
def Msq (M : DM) (a : Addr) : Option (List D) := match M a with
  | some (.ls ds) => some ds
  | some (.rs ds) => some ds
  | _ => none
theorem msq_sq {K : PySem.W.Frag} {H : Hp} {M : DM} {a : Addr} {ds : List D} (m : Mem K H M) (h : Msq M a = some ds) : ∃ vs, SqL K H a vs ∧ RepL K H ds vs := by
  unfold Msq at h
  cases e : M a with
  | none =>
    rw [e] at h
    cases h
  | some o =>
    rw [e] at h
    have q := m a o e
    cases o with
    | ls es =>
      cases h
      obtain ⟨vs, e1, r⟩ := q
      exact ⟨vs, .inl (.inl e1), r⟩
    | rs es =>
      cases h
      obtain ⟨vs, ob, e1, r⟩ := q
      exact ⟨vs, .inl (.inr ⟨ob, e1⟩), r⟩
    | dc _ => cases h
    | raw _ => cases h
/-! ### places -/
def dIxT : DR2 := fun x y M Q => match x, y with
  | .tup ds, .int i => (match atI ds i with
    | some d => Q d M
    | none => False)
  | _, _ => False
def dIxL : DR2 := fun x y M Q => match x, y with
  | .ob a, .int i => (match Msq M a with
    | some ds => (match atI ds i with
      | some d => Q d M
      | none => False)
    | none => False)
  | _, _ => False
/-- a list or a tuple -/
def dIxA : DR2 := fun x y M Q => dIxT x y M Q ∨ dIxL x y M Q
theorem atI_rep {K : PySem.W.Frag} {H : Hp} {ds : List D} {vs : List V} {i : Int} {d : D} (r : RepL K H ds vs) (h : atI ds i = some d) : ∃ v, atI vs i = some v ∧ Rep K H d v := by
  unfold atI at h ⊢
  rw [r.length]
  cases e : ixN ds.length i with
  | none =>
    rw [e] at h
    cases h
  | some j =>
    rw [e] at h
    exact r.get h
theorem lr_ixT {K : PySem.W.Frag} : LR2 K (rIxT K) dIxT := fun H M x y dx dy Q' Q m rx ry h c => by
  cases dx with
  | tup ds =>
    cases dy with
    | int i =>
      unfold dIxT at h
      dsimp only at h
      cases e : atI ds i with
      | none =>
        rw [e] at h
        exact h.elim
      | some d =>
        rw [e] at h
        unfold Rep at rx
        obtain ⟨a, vs, rfl, ha, r⟩ := rx
        obtain ⟨v, e1, r1⟩ := atI_rep r e
        exact ⟨a, vs, i, v, rfl, ry, ha.sq, e1, c d M v H h (Stp.refl H M) r1 m⟩
    | _ => exact h.elim
  | _ => cases dy <;> exact h.elim
theorem lr_ixL {K : PySem.W.Frag} : LR2 K (rIxL K) dIxL := fun H M x y dx dy Q' Q m rx ry h c => by
  cases dx with
  | ob a =>
    cases dy with
    | int i =>
      unfold dIxL at h
      dsimp only at h
      cases e : Msq M a with
      | none =>
        rw [e] at h
        exact h.elim
      | some ds =>
        rw [e] at h
        dsimp only at h
        cases e2 : atI ds i with
        | none =>
          rw [e2] at h
          exact h.elim
        | some d =>
          rw [e2] at h
          obtain ⟨vs, hs, r⟩ := msq_sq m e
          obtain ⟨v, e1, r1⟩ := atI_rep r e2
          exact ⟨a, vs, i, v, rx, ry, hs, e1, c d M v H h (Stp.refl H M) r1 m⟩
    | _ => exact h.elim
  | _ => cases dy <;> exact h.elim
theorem lr_ixA {K : PySem.W.Frag} : LR2 K (rIx K) dIxA := fun H M x y dx dy Q' Q m rx ry h c => by
  rcases h with h | h
  · exact .inr (.inl (lr_ixT H M x y dx dy Q' Q m rx ry h c))
  · exact .inl (lr_ixL H M x y dx dy Q' Q m rx ry h c)
/-! ### in a row of texts -/
def strsOf : List D → Option (List Str)
  | [] => some []
  | .str s :: r => (strsOf r).map (s :: ·)
  | _ :: _ => none
theorem strsOf_map (ss : List Str) : strsOf (ss.map D.str) = some ss := by
  induction ss with
  | nil => rfl
  | cons s ss ih =>
    show (strsOf (ss.map D.str)).map (s :: ·) = _
    rw [ih]
    rfl
theorem strsOf_eq : ∀ {ds : List D} {ss : List Str}, strsOf ds = some ss → ds = ss.map D.str
  | [], ss, h => by
    have e : [] = ss := Option.some.inj h
    rw [← e]
    rfl
  | .str s :: r, ss, h => by
    have h' : (strsOf r).map (s :: ·) = some ss := h
    cases e : strsOf r with
    | none =>
      rw [e] at h'
      cases h'
    | some rs =>
      rw [e] at h'
      have e2 : s :: rs = ss := Option.some.inj h'
      rw [← e2, strsOf_eq e]
      rfl
  | .non :: _, _, h => nomatch h
  | .bl _ :: _, _, h => nomatch h
  | .int _ :: _, _, h => nomatch h
  | .tup _ :: _, _, h => nomatch h
  | .ob _ :: _, _, h => nomatch h
  | .ty _ :: _, _, h => nomatch h
def dIn (neg : Bool) : DR2 := fun x y M Q => match x with
  | .str s => (match (match y with
      | .tup ds => strsOf ds
      | .ob a => (Msq M a).bind strsOf
      | _ => none) with
    | some ss => Q (.bl (if neg then !decide (s ∈ ss) else decide (s ∈ ss))) M
    | none => False)
  | _ => False
theorem inV_strs (s : Str) (ss : List Str) : inV (.str s) (ss.map V.str) = decide (s ∈ ss) := by
  unfold inV
  induction ss with
  | nil => simp
  | cons x r ih =>
    rw [List.map_cons, List.any_cons, ih]
    show ((x == s) || decide (s ∈ r)) = decide (s ∈ x :: r)
    by_cases e : x = s
    · subst e
      simp
    · have e2 : (x == s) = false := by simpa using e
      have e3 : ¬ s = x := fun z => e z.symm
      rw [e2]
      simp [e3]
theorem flat_strs (ss : List Str) : (ss.map V.str).all flatV = true := by
  induction ss with
  | nil => rfl
  | cons x r ih =>
    rw [List.map_cons, List.all_cons, ih]
    rfl
theorem lr_in {K : PySem.W.Frag} {neg : Bool} : LR2 K (rIn K neg) (dIn neg) := fun H M x y dx dy Q' Q m rx ry h c => by
  cases dx with
  | str s =>
    unfold dIn at h
    dsimp only at h
    unfold Rep at rx
    subst rx
    have fin : ∀ ss : List Str, Q' (.bl (if neg then !decide (s ∈ ss) else decide (s ∈ ss))) M → Q (.bl (if neg then !inV (.str s) (ss.map V.str) else inV (.str s) (ss.map V.str))) H := fun ss q => by
      rw [inV_strs]
      exact c _ M _ H q (Stp.refl H M) rfl m
    cases dy with
    | tup ds =>
      dsimp only at h
      cases e : strsOf ds with
      | none =>
        rw [e] at h
        exact h.elim
      | some ss =>
        rw [e] at h
        unfold Rep at ry
        obtain ⟨a, vs, rfl, ha, r⟩ := ry
        rw [strsOf_eq e] at r
        have ev := r.strs
        subst ev
        exact ⟨a, _, rfl, .inr ha.sq, rfl, flat_strs ss, fin ss h⟩
    | ob a =>
      dsimp only at h
      unfold Rep at ry
      subst ry
      cases e : Msq M a with
      | none =>
        rw [e] at h
        exact h.elim
      | some ds =>
        rw [e] at h
        dsimp only [Option.bind_some] at h
        cases e2 : strsOf ds with
        | none =>
          rw [e2] at h
          exact h.elim
        | some ss =>
          rw [e2] at h
          obtain ⟨vs, hs, r⟩ := msq_sq m e
          rw [strsOf_eq e2] at r
          have ev := r.strs
          subst ev
          exact ⟨a, _, rfl, .inl hs, rfl, flat_strs ss, fin ss h⟩
    | _ => exact h.elim
  | _ => exact h.elim
/-! ### tuples: +, * -/
def dCatT : DR2 := fun x y M Q => match x, y with
  | .tup ds, .tup es => ds.length + es.length ≤ sizeLine ∧ Q (.tup (ds ++ es)) M
  | _, _ => False
theorem lr_catT {K : PySem.W.Frag} : LR2 K (rCatA K) dCatT := fun H M x y dx dy Q' Q m rx ry h c => by
  cases dx with
  | tup ds =>
    cases dy with
    | tup es =>
      obtain ⟨z, h⟩ := h
      have rx0 := rx
      have ry0 := ry
      unfold Rep at rx ry
      obtain ⟨a, vs, rfl, ha, r1⟩ := rx
      obtain ⟨b, ws, rfl, hb, r2⟩ := ry
      refine ⟨a, b, vs, ws, rfl, rfl, ha.sq, hb.sq, by rw [r1.length, r2.length]; exact z, fun e => ?_, fun _ e => ?_, fun _ _ p np => ?_⟩
      · have e2 : ds = [] := by
          have q := r1.length
          rw [e] at q
          exact List.length_eq_zero_iff.mp q.symm
        subst e2
        exact c _ M _ H h (Stp.refl H M) ry0 m
      · have e2 : es = [] := by
          have q := r2.length
          rw [e] at q
          exact List.length_eq_zero_iff.mp q.symm
        subst e2
        rw [List.append_nil] at h
        exact c _ M _ H h (Stp.refl H M) rx0 m
      · refine c _ M _ _ h (Stp.new0 np) ?_ (m.new0 np)
        unfold Rep
        exact ⟨p, _, rfl, .inl upd_same, RepL.mono (TK.new np) _ _ (r1.append r2)⟩
    | _ => exact h.elim
  | _ => cases dy <;> exact h.elim
/-! ### lists: + -/
def dCatL : DR2 := fun x y M Q => match x, y with
  | .ob a, .ob b => (match M a, M b with
    | some (.ls ds), some (.ls es) => ds.length + es.length ≤ sizeLine ∧ ∀ p, M p = none → Q (.ob p) (mset M p (.ls (ds ++ es)))
    | _, _ => False)
  | _, _ => False
theorem lr_catL {K : PySem.W.Frag} : LR2 K rCat dCatL := fun H M x y dx dy Q' Q m rx ry h c => by
  cases dx with
  | ob a =>
    cases dy with
    | ob b =>
      unfold dCatL at h
      dsimp only at h
      split at h
      · rename_i ds es ea eb
        obtain ⟨z, h⟩ := h
        obtain ⟨vs, e1, r1⟩ := m a _ ea
        obtain ⟨ws, e2, r2⟩ := m b _ eb
        unfold Rep at rx ry
        subst rx ry
        refine ⟨a, b, vs, ws, rfl, rfl, e1, e2, by rw [r1.length, r2.length]; exact z, fun p np => ?_⟩
        refine c _ _ _ _ (h p (m.isNil np)) (Stp.new np) rfl (m.put (fun xs e => ?_) ⟨_, upd_same, RepL.mono (TK.new np) _ _ (r1.append r2)⟩)
        rw [np] at e
        cases e
      · exact h.elim
    | _ => exact h.elim
  | _ => cases dy <;> exact h.elim
/-! ### slices -/
def dcut (ds : List D) (lo hi : Option Int) : List D := (ds.drop (HT.sIx ds.length 0 lo)).take (HT.sIx ds.length ds.length hi - HT.sIx ds.length 0 lo)
theorem dcut_rep {K : PySem.W.Frag} {H : Hp} {ds : List D} {vs : List V} (r : RepL K H ds vs) (lo hi : Option Int) : RepL K H (dcut ds lo hi) (cutV vs lo hi) := by
  unfold dcut cutV
  rw [r.length]
  exact (r.drop _).take _
abbrev DTO := DSt → DM → (Option Int → DM → Prop) → Prop
def LO (K : PySem.W.Frag) (t : DTO) : TO := fun σ H Q => ∃ ρ M Q', RS K H ρ σ ∧ Mem K H M ∧ t ρ M Q' ∧ ∀ o M' H', Q' o M' → Stp H M H' M' → Mem K H' M' → Q o H'
def dNoPart : DTO := fun _ M Q => Q none M
def dPart (t : DTE) : DTO := fun ρ M Q => t ρ M fun x M1 => match x with
  | .int i => Q (some i) M1
  | _ => False
def dSlT (te : DTE) (tl th : DTO) : DTE := fun ρ M Q => te ρ M fun x M1 => tl ρ M1 fun l M2 => th ρ M2 fun u M3 => match x with
  | .tup ds => Q (.tup (dcut ds l u)) M3
  | _ => False
def dSlL (te : DTE) (tl th : DTO) : DTE := fun ρ M Q => te ρ M fun x M1 => tl ρ M1 fun l M2 => th ρ M2 fun u M3 => match x with
  | .ob a => (match Msq M3 a with
    | some ds => ∀ p, M3 p = none → Q (.ob p) (mset M3 p (.ls (dcut ds l u)))
    | none => False)
  | _ => False
section
variable {X : Cx} {e : Expr} {te : DTE} {lo hi : Option Expr} {tl th : DTO} {pos p2 : Pos}
theorem do_none : PO X none (LO X.K dNoPart) := ⟨fun pins s σ H Q I h => (po_none (X := X)).run pins s σ H Q I (by
  obtain ⟨ρ, M, Q', rs, m, h, c⟩ := h
  exact c none M H h (Stp.refl H M) m)⟩
theorem do_some (h : PE X e (LE X.K te)) : PO X (some e) (LO X.K (dPart te)) := ⟨fun pins s σ H Q I hw => (po_some h).run pins s σ H Q I (by
  obtain ⟨ρ, M, Q', rs, m, h, c⟩ := hw
  refine ⟨ρ, M, _, rs, m, h, fun d M1 v H1 h1 s1 r1 m1 => ?_⟩
  cases d with
  | int i => exact ⟨i, r1, c _ M1 H1 h1 s1 m1⟩
  | _ => exact h1.elim)⟩
theorem d_slT (he : PE X e (LE X.K te)) (hl : PO X lo (LO X.K tl)) (hu : PO X hi (LO X.K th)) : PE X (.Subscript e (.Slice lo hi none p2) pos) (LE X.K (dSlT te tl th)) :=
  PE.weak (pe_slice sl_tupA he hl hu) fun σ H Q ⟨ρ, M, Q', rs, m, h, c⟩ => by
    refine ⟨ρ, M, _, rs, m, h, fun d M1 v H1 h1 s1 r1 m1 => ?_⟩
    refine ⟨ρ, M1, _, rs.mono (tk_of m s1), m1, h1, fun l M2 H2 h2 s2 m2 => ?_⟩
    refine ⟨ρ, M2, _, rs.mono ((tk_of m s1).trans (tk_of m1 s2)), m2, h2, fun u M3 H3 h3 s3 m3 => ?_⟩
    have r3 := Rep.mono ((tk_of m1 s2).trans (tk_of m2 s3)) _ _ r1
    have st := (s1.trans s2).trans s3
    cases d with
    | tup ds =>
      have r0 := r3
      unfold Rep at r3
      obtain ⟨a, vs, rfl, ha, r⟩ := r3
      refine ⟨a, vs, rfl, ha.sq, fun w => ?_, fun _ p np => ?_⟩
      · have e : dcut ds l u = ds := by
          unfold dcut
          rw [← r.length, w.1, w.2, r.length]
          simp
        dsimp only at h3
        rw [e] at h3
        exact c _ M3 _ H3 h3 st r0 m3
      · refine c _ M3 _ _ h3 (st.trans (Stp.new0 np)) ?_ (m3.new0 np)
        unfold Rep
        exact ⟨p, _, rfl, .inl upd_same, RepL.mono (TK.new np) _ _ (dcut_rep r l u)⟩
    | _ => exact h3.elim
theorem d_slL (he : PE X e (LE X.K te)) (hl : PO X lo (LO X.K tl)) (hu : PO X hi (LO X.K th)) : PE X (.Subscript e (.Slice lo hi none p2) pos) (LE X.K (dSlL te tl th)) :=
  PE.weak (pe_slice sl_list he hl hu) fun σ H Q ⟨ρ, M, Q', rs, m, h, c⟩ => by
    refine ⟨ρ, M, _, rs, m, h, fun d M1 v H1 h1 s1 r1 m1 => ?_⟩
    refine ⟨ρ, M1, _, rs.mono (tk_of m s1), m1, h1, fun l M2 H2 h2 s2 m2 => ?_⟩
    refine ⟨ρ, M2, _, rs.mono ((tk_of m s1).trans (tk_of m1 s2)), m2, h2, fun u M3 H3 h3 s3 m3 => ?_⟩
    have st := (s1.trans s2).trans s3
    cases d with
    | ob a =>
      dsimp only at h3
      cases e : Msq M3 a with
      | none =>
        rw [e] at h3
        exact h3.elim
      | some ds =>
        rw [e] at h3
        obtain ⟨vs, hs, r⟩ := msq_sq m3 e
        refine ⟨a, vs, r1, hs, fun p np => ?_⟩
        refine c _ _ _ _ (h3 p (m3.isNil np)) (st.trans (Stp.new np)) rfl (m3.put (fun xs e => ?_) ⟨_, upd_same, RepL.mono (TK.new np) _ _ (dcut_rep r l u)⟩)
        rw [np] at e
        cases e
    | _ => exact h3.elim
end
/-! ### built-ins by their values -/
abbrev DRC := List D → DM → DK → Prop
def LRC (K : PySem.W.Frag) (r : List V → Hp → VK → Prop) (r' : DRC) : Prop := ∀ H M vs ds Q' Q, Mem K H M → RepL K H ds vs → r' ds M Q' → CK K H M Q' Q → r vs H Q
def dCB (r : DRC) (t : DTA) : DTE := fun ρ M Q => t ρ M fun ds M1 => r ds M1 Q
theorem le_cb {K : PySem.W.Frag} {r : List V → Hp → VK → Prop} {r' : DRC} {t : DTA} (hl : LRC K r r') : ∀ σ H Q, LE K (dCB r' t) σ H Q → tCB r (LA K t) σ H Q := fun σ H Q ⟨ρ, M, Q', rs, m, h, c⟩ =>
  ⟨ρ, M, _, rs, m, h, fun ds M1 vs H1 h1 s1 r1 m1 => hl H1 M1 vs ds Q' Q m1 r1 h1 (c.step s1)⟩
section
variable {X : Cx} {x : Str} {p pos : Pos} {e : Expr} {es : List Expr} {t : DTA} {id T : String} {r : List V → Hp → VK → Prop} {r' : DRC}
theorem d_callB (hc : CallR X (.builtin id) r) (hl : LRC X.K r r') (hg : Gl X x) (hm : X.mg x = none) (hv : bootBuiltins x = some (.builtin id)) (ha : PA X (e :: es) (LA X.K t)) (hn : x ≠ "__name__" := by decide) (hdb : (x == ("__debug__" : Str)) = false := by decide)
    (he : starEach (e :: es) X.env = (false, eval e X.env) :: starEach es X.env := by rfl) (hpl : (backTo pos (starEach es X.env)).any (·.1) = false := by rfl) : PE X (.Call (.Name x p) (e :: es) [] pos) (LE X.K (dCB r' t)) :=
  PE.weak (pe_callB hc hg hm hv ha hn hdb he hpl) (le_cb hl)
theorem d_callTy (hc : CallR X (.type T) r) (hl : LRC X.K r r') (hg : Gl X x) (hm : X.mg x = none) (hv : bootBuiltins x = some (.type T)) (ha : PA X (e :: es) (LA X.K t)) (hn : x ≠ "__name__" := by decide) (hdb : (x == ("__debug__" : Str)) = false := by decide)
    (he : starEach (e :: es) X.env = (false, eval e X.env) :: starEach es X.env := by rfl) (hpl : (backTo pos (starEach es X.env)).any (·.1) = false := by rfl) : PE X (.Call (.Name x p) (e :: es) [] pos) (LE X.K (dCB r' t)) :=
  PE.weak (pe_callTy hc hg hm hv ha hn hdb he hpl) (le_cb hl)
end
/-! ### methods of a list -/
def dBM0 (r : D → List D → DM → DK → Prop) (to : DTE) : DTE := fun ρ M Q => to ρ M fun x M1 => match x with
  | .ob a => (Msq M1 a).isSome = true ∧ r x [] M1 Q
  | _ => False
def dBM (r : D → List D → DM → DK → Prop) (to : DTE) (t : DTA) : DTE := fun ρ M Q => to ρ M fun x M1 => match x with
  | .ob a => (Msq M1 a).isSome = true ∧ t ρ M1 fun ds M2 => r x ds M2 Q
  | _ => False
def LRM (K : PySem.W.Frag) (r : V → List V → Hp → VK → Prop) (r' : D → List D → DM → DK → Prop) : Prop := ∀ H M x d vs ds Q' Q, Mem K H M → Rep K H d x → RepL K H ds vs → r' d ds M Q' → CK K H M Q' Q → r x vs H Q
theorem tyl_of {K : PySem.W.Frag} {H : Hp} {M : DM} {a : Addr} (m : Mem K H M) (h : (Msq M a).isSome = true) : tyV K "list" (.ref a) H := by
  cases e : Msq M a with
  | none =>
    rw [e] at h
    cases h
  | some ds =>
    obtain ⟨vs, hs, _⟩ := msq_sq m e
    exact .inl ⟨rfl, vs, hs⟩
section
variable {X : Cx} {o e : Expr} {es : List Expr} {to : DTE} {t : DTA} {name : Str} {apos cpos : Pos} {id : String} {r : V → List V → Hp → VK → Prop} {r' : D → List D → DM → DK → Prop}
theorem d_bm0 (slot : Slot "list" name id) (hty : typeOf (.builtin id) = pure (.type "method_descriptor")) (hm : MtR X id r) (hl : LRM X.K r r') (ho : PE X o (LE X.K to))
    (hbase : attributeBase o name X.env (eval o X.env) = eval o X.env := by rfl) (hline : (apos.endLine == cpos.line) = true := by rfl) : PE X (.Call (.Attribute o name apos) [] [] cpos) (LE X.K (dBM0 r' to)) :=
  PE.weak (pe_bm0 PySem.F.plainAttrs_list slot hty hm ho hbase hline) fun σ H Q ⟨ρ, M, Q', rs, m, h, c⟩ => by
    refine ⟨ρ, M, _, rs, m, h, fun d M1 v H1 h1 s1 r1 m1 => ?_⟩
    cases d with
    | ob a =>
      have rv : v = .ref a := r1
      rw [rv]
      exact ⟨tyl_of m1 h1.1, hl H1 M1 _ (.ob a) _ _ Q' Q m1 rfl RepL.nil h1.2 (c.step s1)⟩
    | _ => exact h1.elim
theorem d_bm (slot : Slot "list" name id) (hty : typeOf (.builtin id) = pure (.type "method_descriptor")) (hm : MtR X id r) (hl : LRM X.K r r') (ho : PE X o (LE X.K to)) (ha : PA X (e :: es) (LA X.K t))
    (hbase : attributeBase o name X.env (eval o X.env) = eval o X.env := by rfl)
    (hfew : ((backTo cpos (starEach (e :: es) X.env)).all (fun x => !x.1) && (backToKw cpos (keywordEach [] X.env)).all (fun x => x.1.isSome)
      && decide ((e :: es).length + ([] : List Keyword).length + (if ([] : List Keyword).isEmpty then 0 else 1) < 30)) = true := by rfl)
    (hline : (apos.endLine == cpos.line) = true := by rfl) (hs : starEach (e :: es) X.env = (false, eval e X.env) :: starEach es X.env := by rfl) (hplain : (backTo cpos (starEach es X.env)).any (·.1) = false := by rfl) :
    PE X (.Call (.Attribute o name apos) (e :: es) [] cpos) (LE X.K (dBM r' to t)) :=
  PE.weak (pe_bm PySem.F.plainAttrs_list slot hty hm ho ha hbase hfew hline hs hplain) fun σ H Q ⟨ρ, M, Q', rs, m, h, c⟩ => by
    refine ⟨ρ, M, _, rs, m, h, fun d M1 v H1 h1 s1 r1 m1 => ?_⟩
    cases d with
    | ob a =>
      have rv : v = .ref a := r1
      rw [rv]
      refine ⟨tyl_of m1 h1.1, ρ, M1, _, rs.mono (tk_of m s1), m1, h1.2, fun ds M2 vs H2 h2 s2 r2 m2 => ?_⟩
      exact hl H2 M2 _ (.ob a) _ _ Q' Q m2 rfl r2 h2 (c.step (s1.trans s2))
    | _ => exact h1.elim
end
def dAppend : D → List D → DM → DK → Prop := fun x ds M Q => match x, ds with
  | .ob a, [d] => (match M a with
    | some (.ls xs) => xs.length < sizeLine ∧ Q .non (mset M a (.ls (xs ++ [d])))
    | _ => False)
  | _, _ => False
def dExtend : D → List D → DM → DK → Prop := fun x ds M Q => match x, ds with
  | .ob a, [.ob b] => (match M a, M b with
    | some (.ls xs), some (.ls ys) => xs.length + ys.length ≤ sizeLine ∧ Q .non (mset M a (.ls (xs ++ ys)))
    | _, _ => False)
  | _, _ => False
def dPop : D → List D → DM → DK → Prop := fun x ds M Q => match x, ds with
  | .ob a, [] => (match M a with
    | some (.ls xs) => (match xs.getLast? with
      | some d => Q d (mset M a (.ls xs.dropLast))
      | none => False)
    | _ => False)
  | _, _ => False
def dPopAt : D → List D → DM → DK → Prop := fun x ds M Q => match x, ds with
  | .ob a, [.int i] => (match M a with
    | some (.ls xs) => 0 ≤ i ∧ i < 2 ^ 63 ∧ (match xs[i.toNat]? with
      | some d => Q d (mset M a (.ls (xs.eraseIdx i.toNat)))
      | none => False)
    | _ => False)
  | _, _ => False
theorem RepL.dropLast {K : PySem.W.Frag} {H : Hp} {ds : List D} {vs : List V} (r : RepL K H ds vs) : RepL K H ds.dropLast vs.dropLast := by
  rw [List.dropLast_eq_take, List.dropLast_eq_take, r.length]
  exact r.take _
section
variable {K : PySem.W.Frag}
theorem lm_append : LRM K rAppend dAppend := fun H M x d vs ds Q' Q m rx rs h c => by
  unfold dAppend at h
  split at h
  · split at h
    · rename_i e a d0 _ xs ea
      obtain ⟨z, h⟩ := h
      obtain ⟨ws, e1, r1⟩ := m _ _ ea
      unfold RepL at rs
      obtain ⟨v, r, rfl, rv, rn⟩ := rs
      unfold RepL at rn
      subst rn
      refine ⟨_, ws, v, rx, rfl, e1, by rw [r1.length]; exact z, ?_⟩
      have tf := m.tupfree ea
      refine c _ _ _ _ h (Stp.put (by rw [ea]; simp)) rfl (m.put tf ⟨_, upd_same, RepL.mono (TK.upd tf) _ _ (r1.append (RepL.cons rv RepL.nil))⟩)
    · exact h.elim
  · exact h.elim
theorem lm_extend : LRM K rExtend dExtend := fun H M x d vs ds Q' Q m rx rs h c => by
  unfold dExtend at h
  split at h
  · split at h
    · rename_i e a b _ _ xs ys ea eb
      obtain ⟨z, h⟩ := h
      obtain ⟨ws, e1, r1⟩ := m _ _ ea
      obtain ⟨us, e2, r2⟩ := m _ _ eb
      unfold RepL at rs
      obtain ⟨v, r, rfl, rv, rn⟩ := rs
      unfold RepL at rn
      subst rn
      unfold Rep at rv
      subst rv
      refine ⟨_, _, ws, us, rx, rfl, e1, e2, by rw [r1.length, r2.length]; exact z, ?_⟩
      have tf := m.tupfree ea
      refine c _ _ _ _ h (Stp.put (by rw [ea]; simp)) rfl (m.put tf ⟨_, upd_same, RepL.mono (TK.upd tf) _ _ (r1.append r2)⟩)
    · exact h.elim
  · exact h.elim
theorem lm_pop : LRM K rPop dPop := fun H M x d vs ds Q' Q m rx rs h c => by
  unfold dPop at h
  split at h
  · split at h
    · split at h
      · rename_i e a _ xs ea _ y ey
        obtain ⟨ws, e1, r1⟩ := m _ _ ea
        unfold RepL at rs
        subst rs
        rw [List.getLast?_eq_getElem?] at ey
        obtain ⟨v, e2, rv⟩ := r1.get ey
        refine ⟨_, ws, v, rx, rfl, e1, by rw [r1.length]; exact e2, ?_⟩
        have tf := m.tupfree ea
        refine c _ _ _ _ h (Stp.put (by rw [ea]; simp)) (Rep.mono (TK.upd tf) _ _ rv) (m.put tf ⟨_, upd_same, RepL.mono (TK.upd tf) _ _ r1.dropLast⟩)
      · exact h.elim
    · exact h.elim
  · exact h.elim
theorem lm_popAt : LRM K rPopAt dPopAt := fun H M x d vs ds Q' Q m rx rs h c => by
  unfold dPopAt at h
  split at h
  · split at h
    · obtain ⟨z1, z2, h⟩ := h
      split at h
      · rename_i e a i _ xs ea _ y ey
        obtain ⟨ws, e1, r1⟩ := m _ _ ea
        unfold RepL at rs
        obtain ⟨v, r, rfl, rv, rn⟩ := rs
        unfold RepL at rn
        subst rn
        unfold Rep at rv
        subst rv
        obtain ⟨v, e2, rv⟩ := r1.get ey
        have hl : i.toNat < ws.length := (List.getElem?_eq_some_iff.mp e2).1
        refine ⟨_, ws, i, i.toNat, v, rx, rfl, e1, by omega, z2, ?_, e2, ?_⟩
        · exact seqIndex_of z1 (by omega)
        have tf := m.tupfree ea
        refine c _ _ _ _ h (Stp.put (by rw [ea]; simp)) (Rep.mono (TK.upd tf) _ _ rv) (m.put tf ⟨_, upd_same, RepL.mono (TK.upd tf) _ _ (r1.erase _)⟩)
      · exact h.elim
    · exact h.elim
  · exact h.elim
end
end DL

/-! DLd: walks, loops, comprehensions, calls and defs over data. -/
namespace DL
open PySem PySem.Spec PyProof.Rows L2

/-! ### what is walked -/
/-- the iterator J walks the data all, as long as the heap is so (hst) and M is so (stay) -/
structure Walk (K : PySem.W.Frag) (J : It) (all : List D) (hst : Hp → Prop) (stay : DM → Prop) : Prop where
  mono : ∀ H H', hst H → TK H H' → hst H'
  go : ∀ i H M, hst H → Mem K H M → stay M → i < all.length → J.go i H
  stop : ∀ i H M, hst H → Mem K H M → stay M → all.length ≤ i → J.stop i H
  yld : ∀ i H M x H', hst H → Mem K H M → stay M → i < all.length → J.yld i H x H' → ∃ d, all[i]? = some d ∧ Rep K H' d x ∧ Mem K H' M ∧ Stp H M H' M
abbrev DTI := DSt → DM → (List D → (DM → Prop) → DM → Prop) → Prop
def LI (K : PySem.W.Frag) (t : DTI) : TI := fun σ H R => ∃ ρ M R', RS K H ρ σ ∧ Mem K H M ∧ t ρ M R' ∧
  ∀ all stay M' H' J hst, R' all stay M' → Stp H M H' M' → Mem K H' M' → stay M' → hst H' → Walk K J all hst stay → R J H'
def always : DM → Prop := fun _ => True
/-- a tuple; a list that stands; range; a text -/
def dwT (te : DTE) : DTI := fun ρ M R => te ρ M fun d M1 => match d with
  | .tup ds => R ds always M1
  | _ => False
def dwL (te : DTE) : DTI := fun ρ M R => te ρ M fun d M1 => match d with
  | .ob a => (match Msq M1 a with
    | some ds => R ds (fun M' => Msq M' a = some ds) M1
    | none => False)
  | _ => False
def rgD (lo : Int) (n : Nat) : List D := (List.range n).map fun (k : Nat) => .int (lo + (k : Int))
def dwR1 (ta : DTA) : DTI := fun ρ M R => ta ρ M fun ds M1 => match ds with
  | [.int j] => j < 2 ^ 62 ∧ -(2 ^ 62) ≤ j ∧ R (rgD 0 j.toNat) always M1
  | _ => False
def signs (z : Str) : List D := z.cps.toList.map fun c => .str ⟨#[c]⟩
def dwS (te : DTE) : DTI := fun ρ M R => te ρ M fun d M1 => match d with
  | .str z => R (signs z) always M1
  | _ => False
section
variable {X : Cx} {e tg a : Expr} {te : DTE} {ta : DTA}
theorem di_tup (he : PE X e (LE X.K te)) : PI X tg e (LI X.K (dwT te)) := ⟨fun pins s σ H R I h => (pi_tup he).run pins s σ H R I (by
  obtain ⟨ρ, M, R', rs, m, h, c⟩ := h
  refine ⟨ρ, M, _, rs, m, h, fun d M1 v H1 h1 s1 r1 m1 => ?_⟩
  cases d with
  | tup ds =>
    unfold Rep at r1
    obtain ⟨a, vs, rfl, ha, r⟩ := r1
    refine ⟨a, rfl, ⟨vs, ha.sq⟩, c ds always M1 H1 _ (fun H => TAt X.K H a vs ∧ RepL X.K H ds vs) h1 s1 m1 True.intro ⟨ha, r⟩ ⟨fun H H' ⟨q1, q2⟩ t => ⟨q1.mono t, RepL.mono t _ _ q2⟩, fun i H M ⟨q1, q2⟩ _ _ hi => ?_, fun i H M ⟨q1, q2⟩ _ _ hi => ?_, fun i H M x H' ⟨q1, q2⟩ mm _ hi y => ?_⟩⟩
    · obtain ⟨v, e1, _⟩ := q2.get (List.getElem?_eq_getElem hi)
      exact ⟨vs, v, q1.sq, e1⟩
    · exact ⟨vs, q1.sq, by rw [q2.length]; exact hi⟩
    · obtain ⟨rfl, y⟩ := y
      obtain ⟨d, e1, rd⟩ := q2.back (y vs q1.sq)
      exact ⟨d, e1, rd, mm, Stp.refl _ _⟩
  | _ => exact h1.elim)⟩
theorem di_lst (he : PE X e (LE X.K te)) : PI X tg e (LI X.K (dwL te)) := ⟨fun pins s σ H R I h => (pi_list he).run pins s σ H R I (by
  obtain ⟨ρ, M, R', rs, m, h, c⟩ := h
  refine ⟨ρ, M, _, rs, m, h, fun d M1 v H1 h1 s1 r1 m1 => ?_⟩
  cases d with
  | ob a =>
    dsimp only at h1
    cases eM : Msq M1 a with
    | none =>
      rw [eM] at h1
      exact h1.elim
    | some ds =>
      rw [eM] at h1
      obtain ⟨vs0, hs0, r0⟩ := msq_sq m1 eM
      refine ⟨a, r1, ⟨vs0, hs0⟩, c ds _ M1 H1 _ (fun _ => True) h1 s1 m1 eM True.intro ⟨fun _ _ _ _ => True.intro, fun i H M _ mm st hi => ?_, fun i H M _ mm st hi => ?_, fun i H M x H' _ mm st hi y => ?_⟩⟩
      · obtain ⟨vs, hs, q2⟩ := msq_sq mm st
        obtain ⟨v, e1, _⟩ := q2.get (List.getElem?_eq_getElem hi)
        exact ⟨vs, v, hs, e1⟩
      · obtain ⟨vs, hs, q2⟩ := msq_sq mm st
        exact ⟨vs, hs, by rw [q2.length]; exact hi⟩
      · obtain ⟨rfl, y⟩ := y
        obtain ⟨vs, hs, q2⟩ := msq_sq mm st
        obtain ⟨d, e1, rd⟩ := q2.back (y vs hs)
        exact ⟨d, e1, rd, mm, Stp.refl _ _⟩
  | _ => exact h1.elim)⟩
theorem rgD_get {lo : Int} {n i : Nat} (h : i < n) : (rgD lo n)[i]? = some (.int (lo + (i : Int))) := by
  unfold rgD
  rw [List.getElem?_map, List.getElem?_range h]
  rfl
theorem rgD_length {lo : Int} {n : Nat} : (rgD lo n).length = n := by simp [rgD]
theorem di_rng {p pos : Pos} (hg : Gl X "range") (hm : X.mg "range" = none) (ha : PA X [a] (LA X.K ta)) (hs : starEach [a] X.env = [(false, eval a X.env)] := by rfl) : PI X tg (.Call (.Name "range" p) [a] [] pos) (LI X.K (dwR1 ta)) := ⟨fun pins s σ H R I h => (pi_range1 hg hm ha hs).run pins s σ H R I (by
  obtain ⟨ρ, M, R', rs, m, h, c⟩ := h
  refine ⟨ρ, M, _, rs, m, h, fun ds M1 vs H1 h1 s1 r1 m1 => ?_⟩
  match ds, h1 with
  | [.int j], ⟨z1, z2, h1⟩ =>
    unfold RepL at r1
    obtain ⟨v, r, rfl, rv, rn⟩ := r1
    unfold RepL at rn
    subst rn
    unfold Rep at rv
    subst rv
    refine ⟨j, rfl, z2, z1, c _ _ M1 H1 _ (fun _ => True) h1 s1 m1 True.intro True.intro ⟨fun _ _ _ _ => True.intro, fun i H M _ _ _ hi => ?_, fun i H M _ _ _ hi => ?_, fun i H M x H' _ mm _ hi y => ?_⟩⟩
    · rw [rgD_length] at hi
      exact hi
    · rw [rgD_length] at hi
      exact hi
    · rw [rgD_length] at hi
      obtain ⟨rfl, rfl⟩ := y
      exact ⟨_, rgD_get hi, rfl, mm, Stp.refl _ _⟩)⟩
theorem di_str (he : PE X e (LE X.K te)) : PI X tg e (LI X.K (dwS te)) := ⟨fun pins s σ H R I h => (pi_str he).run pins s σ H R I (by
  obtain ⟨ρ, M, R', rs, m, h, c⟩ := h
  refine ⟨ρ, M, _, rs, m, h, fun d M1 v H1 h1 s1 r1 m1 => ?_⟩
  cases d with
  | str z =>
    refine ⟨z, r1, c _ _ M1 H1 _ (fun _ => True) h1 s1 m1 True.intro True.intro ⟨fun _ _ _ _ => True.intro, fun i H M _ _ _ hi => ?_, fun i H M _ _ _ hi => ?_, fun i H M x H' _ mm _ hi y => ?_⟩⟩
    · show i < z.cps.size
      simpa [signs] using hi
    · show z.cps.size ≤ i
      simpa [signs] using hi
    · obtain ⟨rfl, c0, ec, rfl⟩ := y
      refine ⟨.str ⟨#[c0]⟩, ?_, rfl, mm, Stp.refl _ _⟩
      unfold signs
      rw [List.getElem?_map, Array.getElem?_toList, ec]
      rfl
  | _ => exact h1.elim)⟩
end

/-! ### for -/
def dLoop (stay : DM → Prop) (g : DTG) (tb : DTS) (E : DEnds) : List D → DSt → DM → Prop
  | [], ρ, M => E.nx ρ M
  | d :: r, ρ, M => g d ρ M fun ρ1 M1 => tb { E with nx := fun ρ' M' => stay M' ∧ dLoop stay g tb E r ρ' M', ct := fun ρ' M' => stay M' ∧ dLoop stay g tb E r ρ' M', bk := E.nx } ρ1 M1
def dFor (ti : DTI) (g : DTG) (tb : DTS) : DTS := fun E ρ M => ti ρ M fun all stay M1 => dLoop stay g tb E all ρ M1
section
variable {X : Cx} {tg iter : Expr} {body : List Stmt} {ti : DTI} {g : DTG} {tb : DTS} {pos : Pos}
theorem ds_for (hp : PassesOwn (model X.prog X.w) X.A X.env X.xe) (hc : X.calm = true) (hi : PI X tg iter (LI X.K ti)) (hg : PG X tg (LG X.K g)) (hb : PSs X body (LS X.K tb)) (hs : ∀ x, foldedSetIterable iter X.env x = pure x := by intro _; rfl) :
    PS X (.For tg iter body [] pos) (LS X.K (dFor ti g tb)) := PS.weak (ps_for hp hc hi hg hb hs) fun E σ H ⟨ρ, M, E', rs, m, h, c⟩ => by
  refine ⟨ρ, M, _, rs, m, h, fun all stay M1 H1 J hst h1 s1 m1 st1 hh1 w => ?_⟩
  have t1 := tk_of m s1
  refine ⟨fun i n σ' H' => n = all.length - i ∧ i ≤ all.length ∧ ∃ ρ' M', RS X.K H' ρ' σ' ∧ Mem X.K H' M' ∧ Stp H1 M1 H' M' ∧ hst H' ∧ stay M' ∧ dLoop stay g tb E' (all.drop i) ρ' M', ⟨all.length, by simp, Nat.zero_le _, ρ, M1, rs.mono t1, m1, Stp.refl _ _, hh1, st1, h1⟩, ?_⟩
  rintro i n σ2 H2 ⟨rfl, hi, ρ2, M2, rs2, m2, s2, hh2, st2, q2⟩
  by_cases hlt : i < all.length
  · refine .inr ⟨w.go i H2 M2 hh2 m2 st2 hlt, fun σ' H' => i + 1 ≤ all.length ∧ ∃ ρ' M', RS X.K H' ρ' σ' ∧ Mem X.K H' M' ∧ Stp H1 M1 H' M' ∧ hst H' ∧ stay M' ∧ dLoop stay g tb E' (all.drop (i + 1)) ρ' M', fun σ' H' ⟨z, q⟩ => ⟨all.length - (i + 1), by omega, rfl, z, q⟩, fun x H3 y => ?_⟩
    obtain ⟨d, ed, rd, m3, s3⟩ := w.yld i H2 M2 x H3 hh2 m2 st2 hlt y
    have e0 : all.drop i = d :: all.drop (i + 1) := by
      obtain ⟨hl, e⟩ := List.getElem?_eq_some_iff.mp ed
      rw [← e]
      exact List.drop_eq_getElem_cons hl
    rw [e0] at q2
    refine ⟨d, ρ2, M2, _, rd, rs2.mono (tk_of m2 s3), m3, q2, fun ρ4 M4 σ4 H4 q4 s4 rs4 m4 => ?_⟩
    have s14 : Stp H1 M1 H4 M4 := (s2.trans s3).trans s4
    have hh4 : hst H4 := w.mono _ _ hh1 (tk_of m1 s14)
    have again : CS X.K H4 M4 (fun ρ' M' => stay M' ∧ dLoop stay g tb E' (all.drop (i + 1)) ρ' M') (fun σ' H' => i + 1 ≤ all.length ∧ ∃ ρ' M', RS X.K H' ρ' σ' ∧ Mem X.K H' M' ∧ Stp H1 M1 H' M' ∧ hst H' ∧ stay M' ∧ dLoop stay g tb E' (all.drop (i + 1)) ρ' M') :=
      fun ρ' M' σ' H' ⟨q1, q2⟩ s' rs' m' => ⟨hlt, ρ', M', rs', m', s14.trans s', w.mono _ _ hh1 (tk_of m1 (s14.trans s')), q1, q2⟩
    have cc := c.step (s1.trans s14)
    exact ⟨ρ4, M4, _, rs4, m4, q4, ⟨again, cc.rt, cc.nx, again⟩⟩
  · have e0 : i = all.length := by omega
    subst e0
    rw [List.drop_length] at q2
    exact .inl ⟨w.stop _ H2 M2 hh2 m2 st2 (Nat.le_refl _), c.nx ρ2 M2 σ2 H2 q2 (s1.trans s2) rs2 m2⟩
end

/-! ### list comprehensions: the target a name -/
def dComp (stay : DM → Prop) (tt : DTT) (te : DTE) (ρ : DSt) (i : Nat) (Q : List D → DM → Prop) : List D → List D → DM → Prop
  | [], acc, M => Q acc M
  | d :: r, acc, M => tt (ρ.set i (some d)) M fun b M1 => if b = true then te (ρ.set i (some d)) M1 fun y M2 => acc.length < sizeLine ∧ stay M2 ∧ dComp stay tt te ρ i Q r (acc ++ [y]) M2 else stay M1 ∧ dComp stay tt te ρ i Q r acc M1
def dLc (ti : DTI) (i : Nat) (tt : DTT) (te : DTE) (vs : List Nat) : DTE := fun ρ M Q => ti ρ M fun all stay M1 => dComp stay tt te (dwipe ρ vs) i (fun acc M2 => ∀ p, M2 p = none → Q (.ob p) (mset M2 p (.ls acc))) all [] M1
def dYes : DTT := fun _ M Q => Q true M
theorem wipe_set {σ : L2.St} {i : Nat} {x : Option V} : ∀ {vs : List Nat}, i ∈ vs → L2.wipe (σ.set i x) vs = L2.wipe σ vs
  | [], h => nomatch h
  | v :: vs, h => by
    show (L2.wipe (σ.set i x) vs).set v none = (L2.wipe σ vs).set v none
    by_cases q : i ∈ vs
    · rw [wipe_set q]
    · have e : i = v := by
        rcases List.mem_cons.mp h with e | e
        · exact e
        · exact absurd e q
      subst e
      have aux : ∀ (ws : List Nat) (τ : L2.St), (L2.wipe (τ.set i x) ws).set i none = (L2.wipe τ ws).set i none := by
        intro ws
        induction ws with
        | nil =>
          intro τ
          show (τ.set i x).set i none = τ.set i none
          rw [List.set_set]
        | cons w ws ih =>
          intro τ
          show ((L2.wipe (τ.set i x) ws).set w none).set i none = ((L2.wipe τ ws).set w none).set i none
          by_cases e : w = i
          · subst e
            rw [List.set_set, List.set_set]
            exact ih τ
          · rw [List.set_comm _ _ e, ih τ, ← List.set_comm _ _ e]
      exact aux vs σ
theorem wipe_wipe {σ : L2.St} : ∀ {vs : List Nat}, L2.wipe (L2.wipe σ vs) vs = L2.wipe σ vs
  | [] => rfl
  | v :: vs => by
    show (L2.wipe ((L2.wipe σ vs).set v none) vs).set v none = (L2.wipe σ vs).set v none
    have h : L2.wipe ((L2.wipe σ vs).set v none) (v :: vs) = L2.wipe (L2.wipe σ vs) (v :: vs) := wipe_set List.mem_cons_self
    show L2.wipe ((L2.wipe σ vs).set v none) (v :: vs) = _
    rw [h]
    show (L2.wipe (L2.wipe σ vs) vs).set v none = _
    rw [wipe_wipe (vs := vs)]
theorem Stp.out {H H' : Hp} {M M' : DM} {P : Addr} {o : HO} (s : Stp H M H' M') (n : M P = none) (e : H P = some o) : M' P = none := by
  cases q : M' P with
  | none => rfl
  | some o' =>
    rcases s.dom P (by rw [q]; simp) with z | z
    · exact absurd n z
    · rw [e] at z
      cases z
/-- an object that the beginning did not know is changed, untold -/
theorem Stp.hid {H H' : Hp} {M M' : DM} {P : Addr} {o : HO} (s : Stp H M H' M') (n : H P = none) : Stp H M (upd H' P o) M' := by
  refine ⟨fun a u e q => ?_, fun a e => ?_, s.dom⟩
  · rw [upd_ne (ne_of_none e n)]
    exact s.frame a u e q
  · by_cases q : a = P
    · rw [q]
      exact n
    · rw [upd_ne q] at e
      exact s.free a e
theorem Stp.show {H H' : Hp} {M M' : DM} {P : Addr} {mo : MO} (s : Stp H M H' M') (n : H P = none) : Stp H M H' (mset M' P mo) := by
  refine ⟨s.frame, s.free, fun a e => ?_⟩
  by_cases q : a = P
  · rw [q]
    exact .inr n
  · rw [mset_ne q] at e
    exact s.dom a e
theorem Mem.hid {K : PySem.W.Frag} {H : Hp} {M : DM} {P : Addr} {o : HO} (m : Mem K H M) (n : M P = none) (tf : ∀ xs, H P ≠ some (.tup xs)) : Mem K (upd H P o) M := fun a mo e => by
  have q : a ≠ P := fun z => by
    rw [z, n] at e
    cases e
  exact (m a mo e).upd q (TK.upd tf)
theorem Mem.show {K : PySem.W.Frag} {H : Hp} {M : DM} {P : Addr} {mo : MO} (m : Mem K H M) (r : RepO K H P mo) : Mem K H (mset M P mo) := fun a u e => by
  by_cases q : a = P
  · rw [q, mset_same] at e
    cases e
    rw [q]
    exact r
  · rw [mset_ne q] at e
    exact m a u e
section
variable {K : PySem.W.Frag}
theorem le_lc {ti : DTI} {i : Nat} {tt : DTT} {te : DTE} {vs : List Nat} {tt' : TT} (hi : i ∈ vs) (htt : ∀ σ H Q, LT K tt σ H Q → tt' σ H Q) : ∀ σ H Q, LE K (dLc ti i tt te vs) σ H Q → tLc (LI K ti) (gName i) tt' (LE K te) vs σ H Q := fun σ H Q ⟨ρ, M, Q', rs, m, h, c⟩ => by
  refine ⟨ρ, M, _, rs, m, h, fun all stay M1 H1 J hst h1 s1 m1 st1 hh1 w => fun P nP => ?_⟩
  have t1 := tk_of m s1
  have rsw : RS K H1 (dwipe ρ vs) (L2.wipe σ vs) := (rs.mono t1).wipe vs
  refine ⟨fun j n H' => n = all.length - j ∧ j ≤ all.length ∧ ∃ M' acc ws, Mem K H' M' ∧ Stp H1 M1 H' M' ∧ hst H' ∧ stay M' ∧ M' P = none ∧ H' P = some (.lst ws) ∧ RepL K H' acc ws ∧ dComp stay tt te (dwipe ρ vs) i (fun acc M2 => ∀ p, M2 p = none → Q' (.ob p) (mset M2 p (.ls acc))) (all.drop j) acc M',
    ⟨all.length, by simp, Nat.zero_le _, M1, [], [], m1.new0 nP, Stp.new0 nP, w.mono _ _ hh1 (TK.new nP), st1, m1.isNil nP, upd_same, RepL.nil, h1⟩, ?_⟩
  rintro j n H2 ⟨rfl, hj, M2, acc, ws, m2, s12, hh2, st2, n2, e2, r2, q2⟩
  by_cases hlt : j < all.length
  · refine .inr ⟨w.go j H2 M2 hh2 m2 st2 hlt, fun H' => j + 1 ≤ all.length ∧ ∃ M' acc ws, Mem K H' M' ∧ Stp H1 M1 H' M' ∧ hst H' ∧ stay M' ∧ M' P = none ∧ H' P = some (.lst ws) ∧ RepL K H' acc ws ∧ dComp stay tt te (dwipe ρ vs) i (fun acc M2 => ∀ p, M2 p = none → Q' (.ob p) (mset M2 p (.ls acc))) (all.drop (j + 1)) acc M',
      fun H' ⟨z, q⟩ => ⟨all.length - (j + 1), by omega, rfl, z, q⟩, fun x H3 y => ?_⟩
    obtain ⟨d, ed, rd, m3, s3⟩ := w.yld j H2 M2 x H3 hh2 m2 st2 hlt y
    have e0 : all.drop j = d :: all.drop (j + 1) := by
      obtain ⟨hl, e⟩ := List.getElem?_eq_some_iff.mp ed
      rw [← e]
      exact List.drop_eq_getElem_cons hl
    rw [e0] at q2
    have t23 := tk_of m2 s3
    have s13 : Stp H1 M1 H3 M2 := s12.trans s3
    have rs3 : RS K H3 ((dwipe ρ vs).set i (some d)) ((L2.wipe σ vs).set i (some x)) := (rsw.mono (tk_of m1 s13)).set i rd
    have eP3 : H3 P = some (.lst ws) := s3.frame P _ e2 n2
    refine ⟨by rw [wipe_set hi, wipe_wipe], htt _ _ _ ⟨_, M2, _, rs3, m3, q2, fun b M4 H4 q4 s4 m4 => ?_⟩⟩
    have t34 := tk_of m3 s4
    have nP4 : M4 P = none := s4.out n2 eP3
    have eP4 : H4 P = some (.lst ws) := s4.frame P _ eP3 n2
    have s14 : Stp H1 M1 H4 M4 := s13.trans s4
    cases b with
    | false => exact ⟨hlt, M4, acc, ws, m4, s14, w.mono _ _ hh1 (tk_of m1 s14), q4.1, nP4, eP4, RepL.mono (t23.trans t34) _ _ r2, q4.2⟩
    | true =>
      refine ⟨_, M4, _, rs3.mono t34, m4, q4, fun d5 M5 y5 H5 ⟨z5, q5a, q5b⟩ s5 r5 m5 => ?_⟩
      have t45 := tk_of m4 s5
      have nP5 : M5 P = none := s5.out nP4 eP4
      have eP5 : H5 P = some (.lst ws) := s5.frame P _ eP4 nP4
      have rA : RepL K H5 acc ws := RepL.mono ((t23.trans t34).trans t45) _ _ r2
      refine ⟨ws, eP5, by rw [rA.length]; exact z5, ?_⟩
      have tf : ∀ xs, H5 P ≠ some (.tup xs) := fun xs e => by
        rw [eP5] at e
        cases e
      have tU := TK.upd (o := .lst (ws ++ [y5])) tf
      have s15 : Stp H1 M1 H5 M5 := s14.trans s5
      refine ⟨hlt, M5, acc ++ [d5], ws ++ [y5], m5.hid nP5 tf, s15.hid nP, w.mono _ _ hh1 ((tk_of m1 s15).trans tU), q5a, nP5, upd_same, RepL.mono tU _ _ (rA.append (RepL.cons r5 RepL.nil)), q5b⟩
  · have e0 : j = all.length := by omega
    subst e0
    rw [List.drop_length] at q2
    refine .inl ⟨w.stop _ H2 M2 hh2 m2 st2 (Nat.le_refl _), ?_⟩
    refine c _ _ _ _ (q2 P n2) (s1.trans (s12.show nP)) rfl (m2.show ⟨ws, e2, r2⟩)
end
section
variable {X : Cx} {elt tg iter : Expr} {ifs : List Expr} {scope : Scope} {own : List (Str × Nat)} {pos : Pos} {ti : DTI} {i : Nat} {tt : DTT} {te : DTE}
theorem dts_nil : PTs X [] (LT X.K dYes) := ⟨fun pins s σ H Q I hw => (pts_nil (X := X)).run pins s σ H Q I (by
  obtain ⟨ρ, M, Q', rs, m, h, c⟩ := hw
  exact c true M H h (Stp.refl H M) m)⟩
theorem dts_one {c : Expr} (h : PT X c (LT X.K tt)) : PTs X [c] (LT X.K tt) := pts_one h
theorem d_lc (hc : X.calm = true) (hN : X.N.Nodup) (hi : PI X tg iter (LI X.K ti)) (ok : BlkOk X.N X.env.scope scope own) (hv : i ∈ own.map (·.2))
    (hg : ∀ (s : Shared) (H : Hp) (C : Addr) (cl : List (Str × Addr)) (fp : List Addr), PG (X.blk s H scope (compEnvC scope cl C X.env) fp) tg (gName i)) (ht : ∀ (s : Shared) (H : Hp) (C : Addr) (cl : List (Str × Addr)) (fp : List Addr), PTs (X.blk s H scope (compEnvC scope cl C X.env) fp) ifs (LT X.K tt))
    (he : ∀ (s : Shared) (H : Hp) (C : Addr) (cl : List (Str × Addr)) (fp : List Addr), PE (X.blk s H scope (compEnvC scope cl C X.env) fp) elt (LE X.K te)) (hs : ∀ x, foldedSetIterable iter X.env x = pure x := by intro _; rfl) :
    PE X (.ListComp elt [⟨tg, iter, ifs, 0⟩] scope pos) (LE X.K (dLc ti i tt te (own.map (·.2)))) := PE.weak (pe_lc hc hN hi ok hg ht he hs) (le_lc hv fun _ _ _ q => q)
theorem ds_setLc {k : Nat} {y : Str} {py spos : Pos} (hc : X.calm = true) (hN : X.N.Nodup) (hi : PI X tg iter (LI X.K ti)) (ok : BlkOk X.N X.env.scope scope own) (hv : i ∈ own.map (·.2))
    (hg : ∀ (s : Shared) (H : Hp) (C : Addr) (cl : List (Str × Addr)) (fp : List Addr), PG (X.blk s H scope (compEnvC scope cl C X.env) fp) tg (gName i)) (ht : ∀ (s : Shared) (H : Hp) (C : Addr) (cl : List (Str × Addr)) (fp : List Addr), PTs (X.blk s H scope (compEnvC scope cl C X.env) fp) ifs (LT X.K tt))
    (he : ∀ (s : Shared) (H : Hp) (C : Addr) (cl : List (Str × Addr)) (fp : List Addr), PE (X.blk s H scope (compEnvC scope cl C X.env) fp) elt (LE X.K te))
    (hsw : swapsWith (.ListComp elt [⟨tg, iter, ifs, 0⟩] scope pos) (some (.Name y py)) spos.line X.env = pure true) (hy : X.N[k]? = some y := by rfl) (hyl : X.env.scope.names.lookup y = some .local := by rfl) (hs : ∀ x, foldedSetIterable iter X.env x = pure x := by intro _; rfl) :
    PS X (.Assign [.Name y py] (.ListComp elt [⟨tg, iter, ifs, 0⟩] scope pos) spos) (LS X.K (dAsg (dLc ti i tt te (own.map (·.2))) (dName k))) := PS.weak (ps_setLc hc hN hy hyl hsw hi ok hg ht he hs) fun E σ H q => by
  have q2 := le_asg (K := X.K) (te := dLc ti i tt te (own.map (·.2))) (g := dName k) lg_name E σ H q
  exact le_lc hv (fun _ _ _ q => q) _ _ _ q2
end
end DL

/-! DLe: == with what is empty, dicts, built-ins, calls and defs over data. -/
namespace DL
open PySem PySem.Spec PyProof.Rows L2

/-! ### == and != of a row and an empty one -/
def rEqE (K : PySem.W.Frag) (neg : Bool) : R2 := fun x y H Q => ∃ p q xs, x = .ref p ∧ y = .ref q ∧ ((SqL K H p xs ∧ SqL K H q []) ∨ (SqT K H p xs ∧ SqT K H q [])) ∧ Q (.bl (if neg then !xs.isEmpty else xs.isEmpty)) H
section
variable {X : Cx}
theorem isE_of {xs : List V} {its : List Value} (r : Vals xs its) : its.isEmpty = xs.isEmpty := by
  cases r <;> rfl
theorem op_eqE (hu : X.A.units < cLine) : OpR X (compareOp .Eq) (rEqE X.K false) := by
  intro pins s σ H x y v u Q I rx ry h
  obtain ⟨p, q, xs, rfl, rfl, hq, k⟩ := h
  cases rx
  cases ry
  rcases hq with ⟨h1, h2⟩ | ⟨h1, h2⟩
  · obtain ⟨its, r1, p1, _⟩ := I.list h1
    obtain ⟨its2, r2, p2, _⟩ := I.list h2
    cases r2
    have e1 := isE_of r1
    cases its with
    | nil =>
      refine SeqAt.eq_listAt (e := fun _ => true) p1.isList p2.isList rfl hu (fun j z _ => absurd z (by simp)) ⟨.bl true, H, I, rfl, ?_⟩
      have e2 : xs.isEmpty = true := e1.symm
      rw [e2] at k
      exact k
    | cons a b =>
      refine SeqAt.eq_list_lengthsAt p1.isList p2.isList (by simp) hu ⟨.bl false, H, I, rfl, ?_⟩
      have e2 : xs.isEmpty = false := e1.symm
      rw [e2] at k
      exact k
  · obtain ⟨its, r1, p1, _⟩ := I.tuple h1
    obtain ⟨its2, r2, p2, _⟩ := I.tuple h2
    cases r2
    have e1 := isE_of r1
    refine SeqAt.eq_tupleAt (e := fun _ => true) p1 p2 hu (fun j _ z => absurd z (by simp)) ⟨.bl xs.isEmpty, H, I, ?_, k⟩
    rw [← e1]
    show Value.bool _ = Value.bool _
    cases its <;> rfl
theorem op_neE (hu : X.A.units < cLine) : OpR X (compareOp .NotEq) (rEqE X.K true) := by
  intro pins s σ H x y v u Q I rx ry h
  obtain ⟨p, q, xs, rfl, rfl, hq, k⟩ := h
  cases rx
  cases ry
  rcases hq with ⟨h1, h2⟩ | ⟨h1, h2⟩
  · obtain ⟨its, r1, p1, _⟩ := I.list h1
    obtain ⟨its2, r2, p2, _⟩ := I.list h2
    cases r2
    have e1 := isE_of r1
    cases its with
    | nil =>
      refine SeqAt.RcNeAt.lists (e := fun _ => true) p1.isList p2.isList rfl hu (fun j z _ => absurd z (by simp)) X.prog X.w _ _ ⟨.bl false, H, I, rfl, ?_⟩
      have e2 : xs.isEmpty = true := e1.symm
      rw [e2] at k
      exact k
    | cons a b =>
      refine SeqAt.RcNeAt.lists_lengths p1.isList p2.isList (by simp) hu X.prog X.w _ _ ⟨.bl true, H, I, rfl, ?_⟩
      have e2 : xs.isEmpty = false := e1.symm
      rw [e2] at k
      exact k
  · obtain ⟨its, r1, p1, _⟩ := I.tuple h1
    obtain ⟨its2, r2, p2, _⟩ := I.tuple h2
    cases r2
    have e1 := isE_of r1
    refine SeqAt.RcNeAt.tuples (e := fun _ => true) p1 p2 hu (fun j _ z => absurd z (by simp)) X.prog X.w _ _ ⟨.bl (!xs.isEmpty), H, I, ?_, k⟩
    rw [← e1]
    show Value.bool _ = Value.bool _
    cases its <;> rfl
end
def dEqE (neg : Bool) : DR2 := fun x y M Q => match x, y with
  | .tup ds, .tup [] => Q (.bl (if neg then !ds.isEmpty else ds.isEmpty)) M
  | .ob a, .ob b => (match Msq M a, Msq M b with
    | some ds, some [] => Q (.bl (if neg then !ds.isEmpty else ds.isEmpty)) M
    | _, _ => False)
  | _, _ => False
theorem RepL.isE {K : PySem.W.Frag} {H : Hp} {ds : List D} {vs : List V} (r : RepL K H ds vs) : vs.isEmpty = ds.isEmpty := by
  have e := r.length
  cases ds <;> cases vs <;> simp_all
theorem lr_eqE {K : PySem.W.Frag} {neg : Bool} : LR2 K (rEqE K neg) (dEqE neg) := fun H M x y dx dy Q' Q m rx ry h c => by
  unfold dEqE at h
  split at h
  · rename_i ds
    unfold Rep at rx ry
    obtain ⟨a, vs, rfl, ha, r1⟩ := rx
    obtain ⟨b, ws, rfl, hb, r2⟩ := ry
    unfold RepL at r2
    subst r2
    refine ⟨a, b, vs, rfl, rfl, .inr ⟨ha.sq, hb.sq⟩, ?_⟩
    rw [r1.isE]
    exact c _ M _ H h (Stp.refl H M) rfl m
  · split at h
    · rename_i a b _ _ ds ea eb
      obtain ⟨vs, hs, r1⟩ := msq_sq m ea
      obtain ⟨ws, hs2, r2⟩ := msq_sq m eb
      unfold RepL at r2
      subst r2
      refine ⟨a, b, vs, rx, ry, .inl ⟨hs, hs2⟩, ?_⟩
      rw [r1.isE]
      exact c _ M _ H h (Stp.refl H M) rfl m
    · exact h.elim
  · exact h.elim

/-! ### dicts -/
def valD (kvs : List (Key × D)) (k : Key) : Option D := (kvs.find? fun kv => decide (kv.1 = k)).map (·.2)
def putD (kvs : List (Key × D)) (k : Key) (v : D) : List (Key × D) :=
  if (kvs.any fun kv => decide (kv.1 = k)) = true then kvs.map (fun kv => if kv.1 = k then (kv.1, v) else kv) else kvs ++ [(k, v)]
section
variable {K : PySem.W.Frag} {H : Hp}
theorem RepD.nil : RepD K H [] [] := ⟨rfl, rfl⟩
theorem RepD.cons {k : Key} {d : D} {v : V} {kvs : List (Key × D)} {ws : List (Key × V)} (r : Rep K H d v) (t : RepD K H kvs ws) : RepD K H ((k, d) :: kvs) ((k, v) :: ws) :=
  ⟨by rw [List.map_cons, List.map_cons, t.1], RepL.cons r t.2⟩
theorem RepD.case {kv : Key × D} {kvs : List (Key × D)} {ws : List (Key × V)} (h : RepD K H (kv :: kvs) ws) : ∃ v r, ws = (kv.1, v) :: r ∧ Rep K H kv.2 v ∧ RepD K H kvs r := by
  obtain ⟨h1, h2⟩ := h
  cases ws with
  | nil => simp at h1
  | cons w r =>
    rw [List.map_cons, List.map_cons] at h1
    injection h1 with a b
    have h3 : RepL K H (kv.2 :: kvs.map (·.2)) (w.2 :: r.map (·.2)) := h2
    unfold RepL at h3
    obtain ⟨v, s, e, q1, q2⟩ := h3
    injection e with e1 e2
    subst e1 e2
    exact ⟨w.2, r, by rw [a], q1, b, q2⟩
theorem RepD.nilE {ws : List (Key × V)} (h : RepD K H [] ws) : ws = [] := by
  have := h.1
  cases ws with
  | nil => rfl
  | cons a b => simp at this
theorem RepD.length : ∀ {kvs : List (Key × D)} {ws : List (Key × V)}, RepD K H kvs ws → ws.length = kvs.length := fun {kvs ws} h => by
  have := congrArg List.length h.1
  simpa using this.symm
theorem RepD.val : ∀ {kvs : List (Key × D)} {ws : List (Key × V)} (k : Key), RepD K H kvs ws → (valD kvs k = none ∧ valV ws k = none) ∨ ∃ d v, valD kvs k = some d ∧ valV ws k = some v ∧ Rep K H d v
  | [], ws, k, h => by
    rw [h.nilE]
    exact .inl ⟨rfl, rfl⟩
  | kv :: kvs, ws, k, h => by
    obtain ⟨v, r, rfl, q1, q2⟩ := h.case
    by_cases e : kv.1 = k
    · refine .inr ⟨kv.2, v, by simp [valD, e], by simp [valV, e], q1⟩
    · rcases RepD.val k q2 with ⟨a, b⟩ | ⟨d, u, a, b, c⟩
      · exact .inl ⟨by simpa [valD, List.find?_cons, e] using a, by simpa [valV, List.find?_cons, e] using b⟩
      · exact .inr ⟨d, u, by simpa [valD, List.find?_cons, e] using a, by simpa [valV, List.find?_cons, e] using b, c⟩
theorem RepD.mapput {k : Key} {d : D} {v : V} (r : Rep K H d v) : ∀ {kvs : List (Key × D)} {ws : List (Key × V)}, RepD K H kvs ws → RepD K H (kvs.map fun kv => if kv.1 = k then (kv.1, d) else kv) (ws.map fun kv => if kv.1 = k then (kv.1, v) else kv)
  | [], ws, h => by
    rw [h.nilE]
    exact RepD.nil
  | kv :: kvs, ws, h => by
    obtain ⟨u, s, rfl, q1, q2⟩ := h.case
    rw [List.map_cons, List.map_cons]
    by_cases e : kv.1 = k
    · simp only [e, if_true]
      exact RepD.cons r (RepD.mapput r q2)
    · simp only [e, if_false]
      exact RepD.cons q1 (RepD.mapput r q2)
theorem RepD.app {k : Key} {d : D} {v : V} (r : Rep K H d v) : ∀ {kvs : List (Key × D)} {ws : List (Key × V)}, RepD K H kvs ws → RepD K H (kvs ++ [(k, d)]) (ws ++ [(k, v)])
  | [], ws, h => by
    rw [h.nilE]
    exact RepD.cons r RepD.nil
  | kv :: kvs, ws, h => by
    obtain ⟨u, s, rfl, q1, q2⟩ := h.case
    exact RepD.cons q1 (RepD.app r q2)
theorem RepD.any {k : Key} : ∀ {kvs : List (Key × D)} {ws : List (Key × V)}, RepD K H kvs ws → (ws.any fun kv => decide (kv.1 = k)) = (kvs.any fun kv => decide (kv.1 = k))
  | [], ws, h => by
    rw [h.nilE]
    rfl
  | kv :: kvs, ws, h => by
    obtain ⟨u, s, rfl, q1, q2⟩ := h.case
    rw [List.any_cons, List.any_cons, RepD.any q2]
theorem RepD.put {k : Key} {d : D} {v : V} {kvs : List (Key × D)} {ws : List (Key × V)} (h : RepD K H kvs ws) (r : Rep K H d v) : RepD K H (putD kvs k d) (putK ws k v) := by
  unfold putD putK
  rw [h.any]
  split
  · exact RepD.mapput r h
  · exact RepD.app r h
end
theorem length_putD (kvs : List (Key × D)) (k : Key) (d : D) : (putD kvs k d).length ≤ kvs.length + 1 := by
  unfold putD
  split
  · simp
  · simp
def dkey : D → Option Key
  | .int i => some (.inl i)
  | .str s => some (.inr s)
  | _ => none
theorem dkey_rep {K : PySem.W.Frag} {H : Hp} {d : D} {v : V} {k : Key} (h : dkey d = some k) (r : Rep K H d v) : v = kV k := by
  cases d <;> simp only [dkey, Option.some.injEq, reduceCtorEq] at h <;> (subst h; exact r)
/-- d[k] -/
def dDGet (td ty : DTE) : DTE := fun ρ M Q => td ρ M fun x M1 => ty ρ M1 fun y M2 => match x, dkey y with
  | .ob a, some k => (match M2 a with
    | some (.dc kvs) => (match valD kvs k with
      | some d => Q d M2
      | none => False)
    | _ => False)
  | _, _ => False
/-- k in d, k not in d -/
def dDIn (neg : Bool) (ty td : DTE) : DTE := fun ρ M Q => ty ρ M fun y M1 => td ρ M1 fun x M2 => match x, dkey y with
  | .ob a, some k => (match M2 a with
    | some (.dc kvs) => Q (.bl (if neg then !(valD kvs k).isSome else (valD kvs k).isSome)) M2
    | _ => False)
  | _, _ => False
/-- d[k] = v -/
def dDPut (td ty tv : DTE) : DTS := fun E ρ M => tv ρ M fun v M1 => td ρ M1 fun x M2 => ty ρ M2 fun y M3 => match x, dkey y with
  | .ob a, some k => (match M3 a with
    | some (.dc kvs) => kvs.length < sizeLine ∧ E.nx ρ (mset M3 a (.dc (putD kvs k v)))
    | _ => False)
  | _, _ => False
/-- d.get(k, x) -/
def dDGet2 (td ty tx : DTE) : DTE := fun ρ M Q => td ρ M fun x M1 => match x with
  | .ob a => (match M1 a with
    | some (.dc _) => ty ρ M1 fun y M2 => tx ρ M2 fun z M3 => (match dkey y, M3 a with
      | some k, some (.dc kvs) => Q ((valD kvs k).getD z) M3
      | _, _ => False)
    | _ => False)
  | _ => False
def dDNew : DTE := fun _ M Q => ∀ p, M p = none → Q (.ob p) (mset M p (.dc []))
section
variable {X : Cx} {o i e f value : Expr} {pos pos' : Pos} {td ty tv tx : DTE}
theorem d_dnew : PE X (.Dict [] [] pos) (LE X.K dDNew) := PE.weak pe_dnewK fun σ H Q ⟨ρ, M, Q', rs, m, h, c⟩ => fun p np => by
  refine c _ _ _ _ (h p (m.isNil np)) (Stp.new np) rfl (m.put (fun xs e => ?_) ⟨[], upd_same, RepD.nil⟩)
  rw [np] at e
  cases e
theorem d_dget (hu : X.A.units + 1 < cLine) (ho : PE X o (LE X.K td)) (hi : PE X i (LE X.K ty)) (hs : NoSl i := by exact fun _ _ => rfl) : PE X (.Subscript o i pos) (LE X.K (dDGet td ty)) :=
  PE.weak (pe_dget hu ho hi hs) fun σ H Q ⟨ρ, M, Q', rs, m, h, c⟩ => by
    refine ⟨ρ, M, _, rs, m, h, fun dx M1 x H1 h1 s1 r1 m1 => ?_⟩
    refine ⟨ρ, M1, _, rs.mono (tk_of m s1), m1, h1, fun dy M2 y H2 h2 s2 r2 m2 => ?_⟩
    split at h2
    · rename_i a k ek
      split at h2
      · rename_i kvs ea
        split at h2
        · rename_i d ed
          obtain ⟨ws, e1, r⟩ := m2 a _ ea
          rcases r.val k with ⟨z, _⟩ | ⟨d', v, z1, z2, z3⟩
          · rw [ed] at z
            cases z
          · rw [ed] at z1
            cases z1
            refine ⟨a, v, r1, ?_, c _ M2 _ H2 h2 (s1.trans s2) z3 m2⟩
            rw [dkey_rep ek r2, ← z2]
            exact DGet.k e1
        · exact h2.elim
      · exact h2.elim
    · exact h2.elim
theorem le_din {K : PySem.W.Frag} {neg : Bool} : ∀ σ H Q, LE K (dDIn neg ty td) σ H Q → LE K ty σ H fun y H1 => LE K td σ H1 fun x H2 => ∃ a o, x = .ref a ∧ DGet H2 a y o ∧ Q (.bl (if neg then !o.isSome else o.isSome)) H2 := fun σ H Q ⟨ρ, M, Q', rs, m, h, c⟩ => by
  refine ⟨ρ, M, _, rs, m, h, fun dy M1 y H1 h1 s1 r1 m1 => ?_⟩
  refine ⟨ρ, M1, _, rs.mono (tk_of m s1), m1, h1, fun dx M2 x H2 h2 s2 r2 m2 => ?_⟩
  split at h2
  · rename_i a k ek
    split at h2
    · rename_i kvs ea
      obtain ⟨ws, e1, r⟩ := m2 a _ ea
      have ey := dkey_rep ek r1
      have eS : (valV ws k).isSome = (valD kvs k).isSome := by
        rcases r.val k with ⟨z1, z2⟩ | ⟨d', v, z1, z2, z3⟩
        · rw [z1, z2]
          rfl
        · rw [z1, z2]
          rfl
      refine ⟨a, valV ws k, r2, ?_, ?_⟩
      · rw [ey]
        exact DGet.k e1
      · rw [eS]
        exact c _ M2 _ H2 h2 (s1.trans s2) rfl m2
    · exact h2.elim
  · exact h2.elim
theorem pc_to {op : CmpOp} {a b : Expr} {t t' : TE} (h : PC X op a b t) (w : ∀ σ H Q, t' σ H Q → t σ H Q) : PC X op a b t' := ⟨fun pins s σ H Q I q => h.run pins s σ H Q I (w σ H Q q)⟩
theorem d_din (hu : X.A.units + 1 < cLine) (hi : PE X i (LE X.K ty)) (ho : PE X o (LE X.K td)) (hm : behindInMarks .In o = false := by rfl) : PE X (.Compare i [.In] [o] pos) (LE X.K (dDIn false ty td)) := PE.weak (pe_cmp (pc_din hu hi ho) hm) fun σ H Q h => le_din (neg := false) σ H Q h
theorem d_dinT (hu : X.A.units + 1 < cLine) (hi : PE X i (LE X.K ty)) (ho : PE X o (LE X.K td)) (hm : behindInMarks .In o = false := by rfl) : PT X (.Compare i [.In] [o] pos) (LT X.K (dT (dDIn false ty td))) :=
  PT.weak (pt_cmp (pc_din hu hi ho) hm) (lt_test fun σ H Q h => le_din (neg := false) σ H Q h)
theorem d_dnin (hu : X.A.units + 1 < cLine) (hi : PE X i (LE X.K ty)) (ho : PE X o (LE X.K td)) (hm : behindInMarks .NotIn o = false := by rfl) : PE X (.Compare i [.NotIn] [o] pos) (LE X.K (dDIn true ty td)) := PE.weak (pe_cmp (pc_dnotin hu hi ho) hm) fun σ H Q h => le_din (neg := true) σ H Q h
theorem d_dninT (hu : X.A.units + 1 < cLine) (hi : PE X i (LE X.K ty)) (ho : PE X o (LE X.K td)) (hm : behindInMarks .NotIn o = false := by rfl) : PT X (.Compare i [.NotIn] [o] pos) (LT X.K (dT (dDIn true ty td))) :=
  PT.weak (pt_cmp (pc_dnotin hu hi ho) hm) (lt_test fun σ H Q h => le_din (neg := true) σ H Q h)
theorem ds_dput (hu : X.A.units + 1 < cLine) (ho : PE X o (LE X.K td)) (hi : PE X i (LE X.K ty)) (hv : PE X value (LE X.K tv)) (hs : swapsWith value (some (.Subscript o i pos')) pos.line X.env = pure false := by rfl) :
    PS X (.Assign [.Subscript o i pos'] value pos) (LS X.K (dDPut td ty tv)) := PS.weak (ps_dput hu ho hi hv hs) fun E σ H ⟨ρ, M, E', rs, m, h, c⟩ => by
  refine ⟨ρ, M, _, rs, m, h, fun dv M1 v H1 h1 s1 r1 m1 => ?_⟩
  refine ⟨ρ, M1, _, rs.mono (tk_of m s1), m1, h1, fun dx M2 x H2 h2 s2 r2 m2 => ?_⟩
  refine ⟨ρ, M2, _, rs.mono ((tk_of m s1).trans (tk_of m1 s2)), m2, h2, fun dy M3 y H3 h3 s3 r3 m3 => ?_⟩
  split at h3
  · rename_i a k ek
    split at h3
    · rename_i kvs ea
      obtain ⟨z, h3⟩ := h3
      obtain ⟨ws, e1, r⟩ := m3 a _ ea
      have tf := m3.tupfree ea
      have rv := Rep.mono ((tk_of m1 s2).trans (tk_of m2 s3)) _ _ r1
      refine ⟨a, _, r2, by rw [dkey_rep ek r3]; exact DPut.k e1 (by rw [r.length]; exact z), ?_⟩
      have st : Stp H M (upd H3 a (.dK (putK ws k v))) (mset M3 a (.dc (putD kvs k dv))) := ((s1.trans s2).trans s3).trans (Stp.put (by rw [ea]; simp))
      exact c.nx ρ _ σ _ h3 st (rs.mono ((((tk_of m s1).trans (tk_of m1 s2)).trans (tk_of m2 s3)).trans (TK.upd tf))) (m3.put tf ⟨_, upd_same, (r.put rv).mono (TK.upd tf)⟩)
    · exact h3.elim
  · exact h3.elim
theorem d_dget2 {apos cpos : Pos} (hu : X.A.units + 1 < cLine) (ho : PE X o (LE X.K td)) (he : PE X e (LE X.K ty)) (hf : PE X f (LE X.K tx)) (mm : M2 X o "get" apos e f cpos) : PE X (.Call (.Attribute o "get" apos) [e, f] [] cpos) (LE X.K (dDGet2 td ty tx)) :=
  PE.weak (pe_dget2 hu ho he hf mm) fun σ H Q ⟨ρ, M, Q', rs, m, h, c⟩ => by
    refine ⟨ρ, M, _, rs, m, h, fun dx M1 x H1 h1 s1 r1 m1 => ?_⟩
    split at h1
    · rename_i a
      split at h1
      · rename_i kvs0 ea0
        obtain ⟨ws0, e0, _⟩ := m1 a _ ea0
        refine ⟨a, r1, .inl ⟨ws0, .inl e0⟩, ρ, M1, _, rs.mono (tk_of m s1), m1, h1, fun dy M2 y H2 h2 s2 r2 m2 => ?_⟩
        refine ⟨ρ, M2, _, rs.mono ((tk_of m s1).trans (tk_of m1 s2)), m2, h2, fun dz M3 z H3 h3 s3 r3 m3 => ?_⟩
        split at h3
        · rename_i k kvs ek ea
          obtain ⟨ws, e1, r⟩ := m3 a _ ea
          refine ⟨valV ws k, by rw [dkey_rep ek r2]; exact DGet.k e1, ?_⟩
          refine c _ M3 _ H3 h3 ((s1.trans s2).trans s3) ?_ m3
          rcases r.val k with ⟨z1, z2⟩ | ⟨d', v, z1, z2, z3⟩
          · rw [z1, z2]
            exact r3
          · rw [z1, z2]
            exact z3
        · exact h3.elim
      · exact h1.elim
    · exact h1.elim
end

/-! ### built-ins -/
def dLen : DRC := fun ds M Q => match ds with
  | [.str y] => y.length ≤ sizeLine ∧ Q (.int y.length) M
  | [.tup xs] => Q (.int xs.length) M
  | [.ob a] => (match Msq M a with
    | some xs => Q (.int xs.length) M
    | none => False)
  | _ => False
def dLenD : DRC := fun ds M Q => match ds with
  | [.ob a] => (match M a with
    | some (.dc kvs) => Q (.int kvs.length) M
    | _ => False)
  | _ => False
def blsOf : List D → Option (List Bool)
  | [] => some []
  | .bl s :: r => (blsOf r).map (s :: ·)
  | _ :: _ => none
theorem blsOf_map (ss : List Bool) : blsOf (ss.map D.bl) = some ss := by
  induction ss with
  | nil => rfl
  | cons s ss ih =>
    show (blsOf (ss.map D.bl)).map (s :: ·) = _
    rw [ih]
    rfl
theorem blsOf_eq : ∀ {ds : List D} {ss : List Bool}, blsOf ds = some ss → ds = ss.map D.bl
  | [], ss, h => by
    have e : [] = ss := Option.some.inj h
    rw [← e]
    rfl
  | .bl s :: r, ss, h => by
    have h' : (blsOf r).map (s :: ·) = some ss := h
    cases e : blsOf r with
    | none =>
      rw [e] at h'
      cases h'
    | some rs =>
      rw [e] at h'
      have e2 : s :: rs = ss := Option.some.inj h'
      rw [← e2, blsOf_eq e]
      rfl
  | .non :: _, _, h => nomatch h
  | .str _ :: _, _, h => nomatch h
  | .int _ :: _, _, h => nomatch h
  | .tup _ :: _, _, h => nomatch h
  | .ob _ :: _, _, h => nomatch h
  | .ty _ :: _, _, h => nomatch h
def intsOf : List D → Option (List Int)
  | [] => some []
  | .int s :: r => (intsOf r).map (s :: ·)
  | _ :: _ => none
theorem intsOf_map (ss : List Int) : intsOf (ss.map D.int) = some ss := by
  induction ss with
  | nil => rfl
  | cons s ss ih =>
    show (intsOf (ss.map D.int)).map (s :: ·) = _
    rw [ih]
    rfl
theorem intsOf_eq : ∀ {ds : List D} {ss : List Int}, intsOf ds = some ss → ds = ss.map D.int
  | [], ss, h => by
    have e : [] = ss := Option.some.inj h
    rw [← e]
    rfl
  | .int s :: r, ss, h => by
    have h' : (intsOf r).map (s :: ·) = some ss := h
    cases e : intsOf r with
    | none =>
      rw [e] at h'
      cases h'
    | some rs =>
      rw [e] at h'
      have e2 : s :: rs = ss := Option.some.inj h'
      rw [← e2, intsOf_eq e]
      rfl
  | .non :: _, _, h => nomatch h
  | .str _ :: _, _, h => nomatch h
  | .bl _ :: _, _, h => nomatch h
  | .tup _ :: _, _, h => nomatch h
  | .ob _ :: _, _, h => nomatch h
  | .ty _ :: _, _, h => nomatch h
def dAll : DRC := fun ds M Q => match ds with
  | [.ob a] => (match (Msq M a).bind blsOf with
    | some bs => Q (.bl (bs.all id)) M
    | none => False)
  | _ => False
def dAbs : DRC := fun ds M Q => match ds with
  | [.int i] => Q (.int (if i < 0 then -i else i)) M
  | _ => False
def dIntC : DRC := fun ds M Q => match ds with
  | [.int i] => Q (.int i) M
  | [.bl b] => Q (.int (if b then 1 else 0)) M
  | _ => False
def dMax2 : DRC := fun ds M Q => match ds with
  | [.int i, .int j] => Q (.int (if j > i then j else i)) M
  | _ => False
def dMin2 : DRC := fun ds M Q => match ds with
  | [.int i, .int j] => Q (.int (if j < i then j else i)) M
  | _ => False
def dMinL : DRC := fun ds M Q => match ds with
  | [.ob a] => (match (Msq M a).bind intsOf with
    | some ns => 0 < ns.length ∧ ∀ k, k ∈ ns → (∀ y, y ∈ ns → k ≤ y) → Q (.int k) M
    | none => False)
  | _ => False
def dListOf : DRC := fun ds M Q => match ds with
  | [.tup xs] => ∀ p, M p = none → Q (.ob p) (mset M p (.ls xs))
  | [.ob a] => (match Msq M a with
    | some xs => ∀ p, M p = none → Q (.ob p) (mset M p (.ls xs))
    | none => False)
  | _ => False
def dTupOf : DRC := fun ds M Q => match ds with
  | [.tup xs] => Q (.tup xs) M
  | [.ob a] => (match Msq M a with
    | some xs => Q (.tup xs) M
    | none => False)
  | _ => False
/-- isinstance of a value and a built-in class, str or tuple -/
def tyD : D → DM → Option String
  | .non, _ => some "NoneType"
  | .bl _, _ => some "bool"
  | .int _, _ => some "int"
  | .str _, _ => some "str"
  | .tup _, _ => some "tuple"
  | .ob a, M => (match M a with
    | some (.ls _) => some "list"
    | some (.rs _) => some "list"
    | some (.dc _) => some "dict"
    | _ => none)
  | .ty _, _ => none
def isST (t n : String) : Option Bool := if n = "str" then some (decide (t = "str")) else if n = "tuple" then some (decide (t = "tuple")) else none
def dIsI : DRC := fun ds M Q => match ds with
  | [d, .ty n] => (match (tyD d M).bind fun t => isST t n with
    | some b => Q (.bl b) M
    | none => False)
  | _ => False
theorem RepL.one {K : PySem.W.Frag} {H : Hp} {d : D} {vs : List V} (h : RepL K H [d] vs) : ∃ v, vs = [v] ∧ Rep K H d v := by
  unfold RepL at h
  obtain ⟨v, r, rfl, h1, h2⟩ := h
  unfold RepL at h2
  subst h2
  exact ⟨v, rfl, h1⟩
theorem RepL.two {K : PySem.W.Frag} {H : Hp} {d e : D} {vs : List V} (h : RepL K H [d, e] vs) : ∃ v w, vs = [v, w] ∧ Rep K H d v ∧ Rep K H e w := by
  unfold RepL at h
  obtain ⟨v, r, rfl, h1, h2⟩ := h
  obtain ⟨w, rfl, h3⟩ := h2.one
  exact ⟨v, w, rfl, h1, h3⟩
section
variable {K : PySem.W.Frag}
theorem lc_len : LRC K (fun xs H Q => ∃ x n, xs = [x] ∧ LenV K x H n ∧ Q (.int n) H) dLen := fun H M vs ds Q' Q m r h c => by
  unfold dLen at h
  split at h
  · obtain ⟨v, rfl, rv⟩ := r.one
    unfold Rep at rv
    subst rv
    exact ⟨_, _, rfl, ⟨h.1, rfl⟩, c _ M _ H h.2 (Stp.refl H M) rfl m⟩
  · obtain ⟨v, rfl, rv⟩ := r.one
    unfold Rep at rv
    obtain ⟨a, ws, rfl, ha, r1⟩ := rv
    exact ⟨_, ws.length, rfl, .inr ⟨ws, ha.sq, rfl⟩, c _ M _ H h (Stp.refl H M) (by rw [r1.length]; rfl) m⟩
  · split at h
    · rename_i a _ xs ea
      obtain ⟨v, rfl, rv⟩ := r.one
      unfold Rep at rv
      subst rv
      obtain ⟨ws, hs, r1⟩ := msq_sq m ea
      exact ⟨_, ws.length, rfl, .inl ⟨ws, hs, rfl⟩, c _ M _ H h (Stp.refl H M) (by rw [r1.length]; rfl) m⟩
    · exact h.elim
  · exact h.elim
theorem lc_lenD : LRC K (fun xs H Q => ∃ a kvs, xs = [V.ref a] ∧ H a = some (.dK kvs) ∧ Q (.int kvs.length) H) dLenD := fun H M vs ds Q' Q m r h c => by
  unfold dLenD at h
  split at h
  · split at h
    · rename_i a _ kvs ea
      obtain ⟨v, rfl, rv⟩ := r.one
      unfold Rep at rv
      subst rv
      obtain ⟨ws, hs, r1⟩ := m a _ ea
      exact ⟨_, ws, rfl, hs, c _ M _ H h (Stp.refl H M) (by rw [r1.length]; rfl) m⟩
    · exact h.elim
  · exact h.elim
theorem lc_all : LRC K (rAll K) dAll := fun H M vs ds Q' Q m r h c => by
  unfold dAll at h
  split at h
  · split at h
    · rename_i a _ bs eb
      obtain ⟨v, rfl, rv⟩ := r.one
      unfold Rep at rv
      subst rv
      cases ea : Msq M a with
      | none =>
        rw [ea] at eb
        cases eb
      | some xs =>
        rw [ea] at eb
        obtain ⟨ws, hs, r1⟩ := msq_sq m ea
        rw [blsOf_eq (show blsOf xs = some bs from eb)] at r1
        rw [r1.bls] at hs
        exact ⟨a, bs, rfl, hs, c _ M _ H h (Stp.refl H M) rfl m⟩
    · exact h.elim
  · exact h.elim
theorem lc_abs : LRC K (fun xs H Q => ∃ i, xs = [.int i] ∧ Q (.int (if i < 0 then -i else i)) H) dAbs := fun H M vs ds Q' Q m r h c => by
  unfold dAbs at h
  split at h
  · obtain ⟨v, rfl, rv⟩ := r.one
    unfold Rep at rv
    subst rv
    exact ⟨_, rfl, c _ M _ H h (Stp.refl H M) rfl m⟩
  · exact h.elim
theorem lc_int : LRC K (fun xs H Q => (∃ i, xs = [.int i] ∧ Q (.int i) H) ∨ ∃ k, xs = [.bl k] ∧ Q (.int (if k then 1 else 0)) H) dIntC := fun H M vs ds Q' Q m r h c => by
  unfold dIntC at h
  split at h
  · obtain ⟨v, rfl, rv⟩ := r.one
    unfold Rep at rv
    subst rv
    exact .inl ⟨_, rfl, c _ M _ H h (Stp.refl H M) rfl m⟩
  · obtain ⟨v, rfl, rv⟩ := r.one
    unfold Rep at rv
    subst rv
    exact .inr ⟨_, rfl, c _ M _ H h (Stp.refl H M) rfl m⟩
  · exact h.elim
theorem lc_max2 : LRC K (fun xs H Q => ∃ i j, xs = [.int i, .int j] ∧ Q (.int (if j > i then j else i)) H) dMax2 := fun H M vs ds Q' Q m r h c => by
  unfold dMax2 at h
  split at h
  · obtain ⟨v, w, rfl, rv, rw'⟩ := r.two
    unfold Rep at rv rw'
    subst rv rw'
    exact ⟨_, _, rfl, c _ M _ H h (Stp.refl H M) rfl m⟩
  · exact h.elim
theorem lc_min2 : LRC K (fun xs H Q => ∃ i j, xs = [.int i, .int j] ∧ Q (.int (if j < i then j else i)) H) dMin2 := fun H M vs ds Q' Q m r h c => by
  unfold dMin2 at h
  split at h
  · obtain ⟨v, w, rfl, rv, rw'⟩ := r.two
    unfold Rep at rv rw'
    subst rv rw'
    exact ⟨_, _, rfl, c _ M _ H h (Stp.refl H M) rfl m⟩
  · exact h.elim
theorem lc_minL : LRC K (rMin K) dMinL := fun H M vs ds Q' Q m r h c => by
  unfold dMinL at h
  split at h
  · split at h
    · rename_i a _ ns eb
      obtain ⟨v, rfl, rv⟩ := r.one
      unfold Rep at rv
      subst rv
      cases ea : Msq M a with
      | none =>
        rw [ea] at eb
        cases eb
      | some xs =>
        rw [ea] at eb
        obtain ⟨ws, hs, r1⟩ := msq_sq m ea
        rw [intsOf_eq (show intsOf xs = some ns from eb)] at r1
        rw [r1.ints] at hs
        exact ⟨a, ns, rfl, hs, h.1, fun k h1 h2 => c _ M _ H (h.2 k h1 h2) (Stp.refl H M) rfl m⟩
    · exact h.elim
  · exact h.elim
theorem lc_list : LRC K (fun xs H Q => ∃ p ys, xs = [.ref p] ∧ (SqL K H p ys ∨ SqT K H p ys) ∧ ∀ l, H l = none → Q (.ref l) (upd H l (.lst ys))) dListOf := fun H M vs ds Q' Q m r h c => by
  have fin : ∀ (xs : List D) (ys : List V), RepL K H xs ys → (∀ p, M p = none → Q' (.ob p) (mset M p (.ls xs))) → ∀ l, H l = none → Q (.ref l) (upd H l (.lst ys)) := fun xs ys r1 h l nl => by
    refine c _ _ _ _ (h l (m.isNil nl)) (Stp.new nl) rfl (m.put (fun xs e => ?_) ⟨ys, upd_same, RepL.mono (TK.new nl) _ _ r1⟩)
    rw [nl] at e
    cases e
  unfold dListOf at h
  split at h
  · obtain ⟨v, rfl, rv⟩ := r.one
    unfold Rep at rv
    obtain ⟨a, ws, rfl, ha, r1⟩ := rv
    exact ⟨a, ws, rfl, .inr ha.sq, fin _ _ r1 h⟩
  · split at h
    · rename_i a _ xs ea
      obtain ⟨v, rfl, rv⟩ := r.one
      unfold Rep at rv
      subst rv
      obtain ⟨ws, hs, r1⟩ := msq_sq m ea
      exact ⟨a, ws, rfl, .inl hs, fin _ _ r1 h⟩
    · exact h.elim
  · exact h.elim
theorem lc_tuple : LRC K (fun xs H Q => ∃ p ys, xs = [.ref p] ∧ ((SqL K H p ys ∧ ∀ l, H l = none → Q (.ref l) (upd H l (.tup ys))) ∨ (SqT K H p ys ∧ Q (.ref p) H))) dTupOf := fun H M vs ds Q' Q m r h c => by
  unfold dTupOf at h
  split at h
  · obtain ⟨v, rfl, rv⟩ := r.one
    have rv0 := rv
    unfold Rep at rv
    obtain ⟨a, ws, rfl, ha, r1⟩ := rv
    exact ⟨a, ws, rfl, .inr ⟨ha.sq, c _ M _ H h (Stp.refl H M) rv0 m⟩⟩
  · split at h
    · rename_i a _ xs ea
      obtain ⟨v, rfl, rv⟩ := r.one
      unfold Rep at rv
      subst rv
      obtain ⟨ws, hs, r1⟩ := msq_sq m ea
      refine ⟨a, ws, rfl, .inl ⟨hs, fun l nl => c _ M _ _ h (Stp.new0 nl) ?_ (m.new0 nl)⟩⟩
      unfold Rep
      exact ⟨l, ws, rfl, .inl upd_same, RepL.mono (TK.new nl) _ _ r1⟩
    · exact h.elim
  · exact h.elim
theorem kit_str (t : String) (h : t = "NoneType" ∨ t = "bool" ∨ t = "int" ∨ t = "str" ∨ t = "tuple" ∨ t = "list" ∨ t = "dict") (n : String) (b : Bool) (e : isST t n = some b) : PySem.W.kitOne K (.type t) (.type n) = some b := by
  unfold isST at e
  split at e
  · rename_i en
    subst en
    cases e
    rcases h with rfl | rfl | rfl | rfl | rfl | rfl | rfl <;> exact kit_ty (by decide +kernel)
  · split at e
    · rename_i en
      subst en
      cases e
      rcases h with rfl | rfl | rfl | rfl | rfl | rfl | rfl <;> exact kit_ty (by decide +kernel)
    · cases e
theorem lc_isi : LRC K (rIsi K) dIsI := fun H M vs ds Q' Q m r h c => by
  unfold dIsI at h
  split at h
  · rename_i d n
    obtain ⟨v, w, rfl, rv, rw'⟩ := r.two
    unfold Rep at rw'
    subst rw'
    split at h
    · rename_i b eb
      have go : ∀ t, tyD d M = some t → TyX K H v (.type t) → (t = "NoneType" ∨ t = "bool" ∨ t = "int" ∨ t = "str" ∨ t = "tuple" ∨ t = "list" ∨ t = "dict") → rIsi K [v, V.ty n] H Q := fun t et ty ht => by
        rw [et] at eb
        exact ⟨v, .ty n, .type t, .type n, b, rfl, .ty n, ty, kit_str t ht n b eb, c _ M _ H h (Stp.refl H M) rfl m⟩
      cases d with
      | non =>
        unfold Rep at rv
        subst rv
        exact go _ rfl (.base .non) (by simp)
      | bl x =>
        unfold Rep at rv
        subst rv
        exact go _ rfl (.base (.bl x)) (by simp)
      | int x =>
        unfold Rep at rv
        subst rv
        exact go _ rfl (.base (.int x)) (by simp)
      | str x =>
        unfold Rep at rv
        subst rv
        exact go _ rfl (.base (.str x)) (by simp)
      | tup xs =>
        unfold Rep at rv
        obtain ⟨a, ws, rfl, ha, r1⟩ := rv
        refine go _ rfl ?_ (by simp)
        rcases ha with ha | ⟨o, its, k, hk, hc, _⟩
        · exact .base (.tup ha)
        · exact .kTuple hk hc
      | ob a =>
        unfold Rep at rv
        subst rv
        cases ea : M a with
        | none =>
          rw [show tyD (.ob a) M = none by show (match M a with | some (.ls _) => _ | some (.rs _) => _ | some (.dc _) => _ | _ => _) = _; rw [ea]] at eb
          cases eb
        | some o =>
          have q := m a o ea
          cases o with
          | ls xs =>
            obtain ⟨ws, e1, _⟩ := q
            exact go "list" (by show (match M a with | some (.ls _) => _ | some (.rs _) => _ | some (.dc _) => _ | _ => _) = _; rw [ea]) (.base (.lst e1)) (by simp)
          | rs xs =>
            obtain ⟨ws, ob, e1, _⟩ := q
            exact go "list" (by show (match M a with | some (.ls _) => _ | some (.rs _) => _ | some (.dc _) => _ | _ => _) = _; rw [ea]) (.base (.frz e1)) (by simp)
          | dc kvs =>
            obtain ⟨ws, e1, _⟩ := q
            exact go "dict" (by show (match M a with | some (.ls _) => _ | some (.rs _) => _ | some (.dc _) => _ | _ => _) = _; rw [ea]) (.base (.dK e1)) (by simp)
          | raw P =>
            rw [show tyD (.ob a) M = none by show (match M a with | some (.ls _) => _ | some (.rs _) => _ | some (.dc _) => _ | _ => _) = _; rw [ea]] at eb
            cases eb
      | ty x => cases eb
    · exact h.elim
  · exact h.elim
end

/-! ### defs and their calls -/
abbrev DSp := List D → DM → DK → Prop
def LSp (K : PySem.W.Frag) (sp : DSp) : Sp := fun vs H Q _ => ∃ ds M Q', RepL K H ds vs ∧ Mem K H M ∧ sp ds M Q' ∧ CK K H M Q' Q
def dCall (sp : DSp) (ta : DTA) : DTE := fun ρ M Q => ta ρ M fun ds M1 => sp ds M1 Q
def dstart (n : Nat) (ds : List D) : DSt := ds.map some ++ List.replicate (n - ds.length) none
theorem rs_start {K : PySem.W.Frag} {H : Hp} {N : List Str} {ds : List D} {vs : List V} (r : RepL K H ds vs) : RS K H (dstart N.length ds) (L2.start N vs) := by
  have hl := r.length
  refine ⟨by unfold dstart L2.start; simp [hl], fun i d e => ?_⟩
  unfold dstart at e
  unfold L2.start
  by_cases hi : i < ds.length
  · rw [List.getElem?_append_left (by simpa using hi), List.getElem?_map] at e
    cases q : ds[i]? with
    | none =>
      rw [q] at e
      cases e
    | some d' =>
      rw [q] at e
      cases e
      obtain ⟨v, e1, rv⟩ := r.get q
      exact ⟨v, by rw [List.getElem?_append_left (by simpa [hl] using hi), List.getElem?_map, e1]; rfl, rv⟩
  · rw [List.getElem?_append_right (by simpa using hi)] at e
    rw [List.getElem?_replicate] at e
    split at e <;> cases e
section
variable {X : Cx} {CX : CXT} {k : Nat} {f : Addr} {fd : FuncData} {ps ks : List Str} {sp : DSp} {x : Str} {p pos : Pos} {e : Expr} {es : List Expr} {t tk : DTA} {kws : List Keyword}
theorem d_call (F : FnOk X.prog X.w X.K X.mg X.base CX0 k f fd ps (LSp X.K sp)) (hr : Room k X.A) (hg : Gl X x) (hm : X.mg x = some (.ref f)) (hk : PySem.W.keepIn X.K (.ref f) = true) (hb : Binds X.K fd ps [])
    (ha : PA X (e :: es) (LA X.K t)) (hdb : (x == ("__debug__" : Str)) = false := by decide) (he : starEach (e :: es) X.env = (false, eval e X.env) :: starEach es X.env := by rfl) (hpl : (backTo pos (starEach es X.env)).any (·.1) = false := by rfl) :
    PE X (.Call (.Name x p) (e :: es) [] pos) (LE X.K (dCall sp t)) := PE.weak (pe_call F hr hg hm hk hb .nil pass0 ha hdb he hpl) fun σ H Q ⟨ρ, M, Q', rs, m, h, c⟩ => by
  refine ⟨ρ, M, _, rs, m, h, fun ds M1 vs H1 h1 s1 r1 m1 => ?_⟩
  show LSp X.K sp (vs ++ []) H1 Q E0
  rw [List.append_nil]
  exact ⟨ds, M1, Q', r1, m1, h1, c.step s1⟩
end
section
variable {P : Program} {w : World} {K : PySem.W.Frag} {mg : Str → Option Value} {base : Heap}
/-- a def by its body over data -/
theorem dfun {x qual : Str} {st : Stmt} {f : Addr} {fd : FuncData} {N ps : List Str} {k : Nat} {sp : DSp} (F : Fun K x qual st f fd) (S : FnScope N ps (defScope st)) (len : ∀ ds M Q, sp ds M Q → ds.length = ps.length)
    (hbody : ∀ (cdv : Value) (A : Around) (outer : List Env) (s : Shared) (H : Hp) (E : XK), Room k (A.deeper (envOfC qual (defScope st) s.heap.objs.size f cdv)) →
      ∃ t, PSs (cxOf CX0 P w K mg base N qual (defScope st) f cdv A outer s H E).nox (defBody st) (LS K t) ∧ ∀ ds M Q, sp ds M Q → t { nx := fun _ M' => Q .non M', rt := Q } (dstart N.length ds) M) :
    FnOk P w K mg base CX0 (k + 1) f fd ps (LSp K sp) := by
  refine F.ok S (fun vs H Q E ⟨ds, M, Q', r, m, h, c⟩ => by rw [r.length]; exact len _ _ _ h) fun cdv A outer s H vs Q E hr ⟨ds, M, Q', r, m, h, c⟩ => ?_
  obtain ⟨t, ht, hq⟩ := hbody cdv A outer s H E hr
  refine ⟨_, ht, ?_⟩
  exact ⟨_, M, _, rs_start r, m, hq ds M Q' h, ⟨fun ρ' M' σ' H' q s' _ m' => c _ M' _ H' q s' rfl m', c, fun _ _ _ _ q => q.elim, fun _ _ _ _ q => q.elim⟩⟩
end
end DL

/-! DLf: one rule an operator, whatever the values. -/
namespace DL
open PySem PySem.Spec PyProof.Rows L2

/-! ### dicts as operands -/
def rInDk (neg : Bool) : R2 := fun y x H Q => ∃ a o, x = .ref a ∧ DGet H a y o ∧ Q (.bl (if neg then !o.isSome else o.isSome)) H
def rIxDk : R2 := fun x y H Q => ∃ a v, x = .ref a ∧ DGet H a y (some v) ∧ Q v H
section
variable {X : Cx}
theorem op_inDk (hu : X.A.units + 1 < cLine) : OpR X (compareOp .In) (rInDk false) := by
  intro pins s σ H y x u v Q I ry rx h
  obtain ⟨a, o, rfl, g, q⟩ := h
  cases rx
  exact d_in hu I g ry fun s3 I3 => ⟨.bl o.isSome, H, I3, rfl, q⟩
theorem op_ninDk (hu : X.A.units + 1 < cLine) : OpR X (compareOp .NotIn) (rInDk true) := by
  intro pins s σ H y x u v Q I ry rx h
  obtain ⟨a, o, rfl, g, q⟩ := h
  cases rx
  exact d_notIn hu I g ry fun s3 I3 => ⟨.bl (!o.isSome), H, I3, rfl, q⟩
theorem ix_dk (hu : X.A.units + 1 < cLine) : IxR X rIxDk := by
  intro value slice pins s σ H x y v u Q I rx ry h hs
  obtain ⟨a, v0, rfl, g, q⟩ := h
  cases rx
  exact tail_any (dict_typeIs I g) PySem.F.slot_dict_getitem.lookup (d_getItem hu I g ry fun w' s' I' r' => ⟨v0, H, I', r', q⟩) hs
end
def dInDk (neg : Bool) : DR2 := fun y x M Q => match x, dkey y with
  | .ob a, some k => (match M a with
    | some (.dc kvs) => Q (.bl (if neg then !(valD kvs k).isSome else (valD kvs k).isSome)) M
    | _ => False)
  | _, _ => False
def dIxDk : DR2 := fun x y M Q => match x, dkey y with
  | .ob a, some k => (match M a with
    | some (.dc kvs) => (match valD kvs k with
      | some d => Q d M
      | none => False)
    | _ => False)
  | _, _ => False
section
variable {K : PySem.W.Frag}
theorem lr_inDk {neg : Bool} : LR2 K (rInDk neg) (dInDk neg) := fun H M y x dy dx Q' Q m ry rx h c => by
  unfold dInDk at h
  split at h
  · rename_i a k ek
    split at h
    · rename_i kvs ea
      unfold Rep at rx
      subst rx
      obtain ⟨ws, e1, r⟩ := m a _ ea
      have eS : (valV ws k).isSome = (valD kvs k).isSome := by
        rcases r.val k with ⟨z1, z2⟩ | ⟨d', v, z1, z2, z3⟩
        · rw [z1, z2]
          rfl
        · rw [z1, z2]
          rfl
      refine ⟨a, valV ws k, rfl, ?_, ?_⟩
      · rw [dkey_rep ek ry]
        exact DGet.k e1
      · rw [eS]
        exact c _ M _ H h (Stp.refl H M) rfl m
    · exact h.elim
  · exact h.elim
theorem lr_ixDk : LR2 K rIxDk dIxDk := fun H M x y dx dy Q' Q m rx ry h c => by
  unfold dIxDk at h
  split at h
  · rename_i a k ek
    split at h
    · rename_i kvs ea
      split at h
      · rename_i d ed
        unfold Rep at rx
        subst rx
        obtain ⟨ws, e1, r⟩ := m a _ ea
        rcases r.val k with ⟨z, _⟩ | ⟨d', v, z1, z2, z3⟩
        · rw [ed] at z
          cases z
        · rw [ed] at z1
          cases z1
          refine ⟨a, v, rfl, ?_, c _ M _ H h (Stp.refl H M) z3 m⟩
          rw [dkey_rep ek ry, ← z2]
          exact DGet.k e1
      · exact h.elim
    · exact h.elim
  · exact h.elim
end
/-! ### or -/
theorem LR2.inl {K : PySem.W.Frag} {r s : R2} {r' s' : DR2} (h : LR2 K r r') (h' : LR2 K s s') : LR2 K (fun x y H Q => r x y H Q ∨ s x y H Q) (fun x y M Q => r' x y M Q ∨ s' x y M Q) := fun H M x y dx dy Q' Q m rx ry q c => by
  rcases q with q | q
  · exact .inl (h H M x y dx dy Q' Q m rx ry q c)
  · exact .inr (h' H M x y dx dy Q' Q m rx ry q c)
theorem LR2.imp {K : PySem.W.Frag} {r : R2} {r' s' : DR2} (h : LR2 K r r') (w : ∀ x y M Q, s' x y M Q → r' x y M Q) : LR2 K r s' := fun H M x y dx dy Q' Q m rx ry q c => h H M x y dx dy Q' Q m rx ry (w _ _ _ _ q) c
/-! ### + -/
theorem lr_catS {K : PySem.W.Frag} : LR2 K (fun x y H Q => ∃ i j, x = .str i ∧ y = .str j ∧ i.length + j.length ≤ sizeLine ∧ Q (.str (i ++ j)) H) dCatS := fun H M x y dx dy Q' Q m rx ry h c => by
  cases dx <;> cases dy <;> first | exact h.elim | exact ⟨_, _, rx, ry, h.1, c _ M _ H h.2 (Stp.refl H M) rfl m⟩
def dAdd : DR2 := fun x y M Q => match x, y with
  | .int i, .int j => Q (.int (i + j)) M
  | .str a, .str b => a.length + b.length ≤ sizeLine ∧ Q (.str (a ++ b)) M
  | .tup ds, .tup es => ds.length + es.length ≤ sizeLine ∧ Q (.tup (ds ++ es)) M
  | .ob a, .ob b => (match M a, M b with
    | some (.ls ds), some (.ls es) => ds.length + es.length ≤ sizeLine ∧ ∀ p, M p = none → Q (.ob p) (mset M p (.ls (ds ++ es)))
    | _, _ => False)
  | _, _ => False
section
variable {X : Cx} {a b c : Expr} {ta tb tc : DTE} {pos : Pos}
theorem d_add (ha : PE X a (LE X.K ta)) (hb : PE X b (LE X.K tb)) : PE X (.BinOp a .Add b pos) (LE X.K (dOp dAdd ta tb)) :=
  d_op ((op_add.or op_add_str).or (op_catA.or op_cat)) (((lr_arith.inl lr_catS).inl (lr_catT.inl lr_catL)).imp fun x y M Q h => by
    cases x <;> cases y <;> first | exact h.elim | exact .inl (.inl h) | exact .inl (.inr h) | exact .inr (.inl h) | exact .inr (.inr h)) ha hb
theorem d_sub (ha : PE X a (LE X.K ta)) (hb : PE X b (LE X.K tb)) : PE X (.BinOp a .Sub b pos) (LE X.K (dOp (dArith fun i j => i - j) ta tb)) := d_op op_sub lr_arith ha hb
theorem d_mul (ha : PE X a (LE X.K ta)) (hb : PE X b (LE X.K tb)) : PE X (.BinOp a .Mult b pos) (LE X.K (dOp (dArithC CMul fun i j => i * j) ta tb)) := d_op op_mul lr_arithC ha hb
theorem d_mod (ha : PE X a (LE X.K ta)) (hb : PE X b (LE X.K tb)) : PE X (.BinOp a .Mod b pos) (LE X.K (dOp (dArithC (fun _ j => j ≠ 0) fun i j => i.fmod j) ta tb)) := d_op op_modN lr_arithC ha hb
theorem d_fdiv (ha : PE X a (LE X.K ta)) (hb : PE X b (LE X.K tb)) : PE X (.BinOp a .FloorDiv b pos) (LE X.K (dOp (dArithC CDivN fun i j => i.fdiv j) ta tb)) := d_op op_fdivN lr_arithC ha hb
theorem d_pow (ha : PE X a (LE X.K ta)) (hb : PE X b (LE X.K tb)) : PE X (.BinOp a .Pow b pos) (LE X.K (dOp (dArithC CPow fun i j => i ^ j.toNat) ta tb)) := d_op op_pow lr_arithC ha hb
theorem d_neg (ha : PE X a (LE X.K ta)) : PE X (.UnaryOp .USub a pos) (LE X.K (fun ρ M Q => ta ρ M fun x M1 => match x with
  | .int i => Q (.int (-i)) M1
  | _ => False)) := PE.weak (pe_un un_neg ha) fun σ H Q ⟨ρ, M, Q', rs, m, h, c⟩ => by
  refine ⟨ρ, M, _, rs, m, h, fun d M1 v H1 h1 s1 r1 m1 => ?_⟩
  cases d with
  | int i => exact ⟨i, r1, c _ M1 _ H1 h1 s1 rfl m1⟩
  | _ => exact h1.elim
/-! ### comparisons -/
def dEq (neg : Bool) : DR2 := fun x y M Q => match x, y with
  | .tup ds, .tup [] => Q (.bl (if neg then !ds.isEmpty else ds.isEmpty)) M
  | .ob a, .ob b => (match Msq M a, Msq M b with
    | some ds, some [] => Q (.bl (if neg then !ds.isEmpty else ds.isEmpty)) M
    | _, _ => False)
  | x, y => (match sEq x y with
    | some b => Q (.bl (if neg then !b else b)) M
    | none => False)
theorem dEq_w {x y : D} {M : DM} {Q : DK} (h : dEq false x y M Q) : dEqS x y M Q ∨ dEqE false x y M Q := by
  unfold dEq at h
  split at h
  · exact .inr h
  · exact .inr h
  · exact .inl h
theorem dNe_w {x y : D} {M : DM} {Q : DK} (h : dEq true x y M Q) : dNeS x y M Q ∨ dEqE true x y M Q := by
  unfold dEq at h
  split at h
  · exact .inr h
  · exact .inr h
  · exact .inl h
theorem d_eq (hu : X.A.units < cLine) (ha : PE X a (LE X.K ta)) (hb : PE X b (LE X.K tb)) : PE X (.Compare a [.Eq] [b] pos) (LE X.K (dOp (dEq false) ta tb)) := d_cmp (op_eq.or (op_eqE hu)) ((lr_eqS.inl lr_eqE).imp fun _ _ _ _ h => dEq_w h) ha hb (nomark _)
theorem d_eqT (hu : X.A.units < cLine) (ha : PE X a (LE X.K ta)) (hb : PE X b (LE X.K tb)) : PT X (.Compare a [.Eq] [b] pos) (LT X.K (dT (dOp (dEq false) ta tb))) := d_cmpT (op_eq.or (op_eqE hu)) ((lr_eqS.inl lr_eqE).imp fun _ _ _ _ h => dEq_w h) ha hb (nomark _)
theorem d_ne (hu : X.A.units < cLine) (ha : PE X a (LE X.K ta)) (hb : PE X b (LE X.K tb)) : PE X (.Compare a [.NotEq] [b] pos) (LE X.K (dOp (dEq true) ta tb)) := d_cmp (op_ne.or (op_neE hu)) ((lr_neS.inl lr_eqE).imp fun _ _ _ _ h => dNe_w h) ha hb (nomark _)
theorem d_neT (hu : X.A.units < cLine) (ha : PE X a (LE X.K ta)) (hb : PE X b (LE X.K tb)) : PT X (.Compare a [.NotEq] [b] pos) (LT X.K (dT (dOp (dEq true) ta tb))) := d_cmpT (op_ne.or (op_neE hu)) ((lr_neS.inl lr_eqE).imp fun _ _ _ _ h => dNe_w h) ha hb (nomark _)
abbrev dLt : DR2 := dCmpI fun i j => decide (i < j)
abbrev dLe : DR2 := dCmpI fun i j => decide (i ≤ j)
abbrev dGt : DR2 := dCmpI fun i j => decide (j < i)
abbrev dGe : DR2 := dCmpI fun i j => decide (j ≤ i)
theorem d_lt (ha : PE X a (LE X.K ta)) (hb : PE X b (LE X.K tb)) : PE X (.Compare a [.Lt] [b] pos) (LE X.K (dOp dLt ta tb)) := d_cmp op_lt lr_cmpI ha hb (nomark _)
theorem d_le (ha : PE X a (LE X.K ta)) (hb : PE X b (LE X.K tb)) : PE X (.Compare a [.LtE] [b] pos) (LE X.K (dOp dLe ta tb)) := d_cmp op_le lr_cmpI ha hb (nomark _)
theorem d_gt (ha : PE X a (LE X.K ta)) (hb : PE X b (LE X.K tb)) : PE X (.Compare a [.Gt] [b] pos) (LE X.K (dOp dGt ta tb)) := d_cmp op_gt lr_cmpI ha hb (nomark _)
theorem d_ge (ha : PE X a (LE X.K ta)) (hb : PE X b (LE X.K tb)) : PE X (.Compare a [.GtE] [b] pos) (LE X.K (dOp dGe ta tb)) := d_cmp op_ge lr_cmpI ha hb (nomark _)
theorem d_ltT (ha : PE X a (LE X.K ta)) (hb : PE X b (LE X.K tb)) : PT X (.Compare a [.Lt] [b] pos) (LT X.K (dT (dOp dLt ta tb))) := d_cmpT op_lt lr_cmpI ha hb (nomark _)
theorem d_leT (ha : PE X a (LE X.K ta)) (hb : PE X b (LE X.K tb)) : PT X (.Compare a [.LtE] [b] pos) (LT X.K (dT (dOp dLe ta tb))) := d_cmpT op_le lr_cmpI ha hb (nomark _)
theorem d_gtT (ha : PE X a (LE X.K ta)) (hb : PE X b (LE X.K tb)) : PT X (.Compare a [.Gt] [b] pos) (LT X.K (dT (dOp dGt ta tb))) := d_cmpT op_gt lr_cmpI ha hb (nomark _)
theorem d_geT (ha : PE X a (LE X.K ta)) (hb : PE X b (LE X.K tb)) : PT X (.Compare a [.GtE] [b] pos) (LT X.K (dT (dOp dGe ta tb))) := d_cmpT op_ge lr_cmpI ha hb (nomark _)
end
/-- in: a row of texts, a dict; one sign in a text -/
def sign? (s : Str) : Option Nat := match s.cps.toList with
  | [c] => some c
  | _ => none
theorem sign_eq {s : Str} {c : Nat} (h : sign? s = some c) : s = ⟨#[c]⟩ := by
  unfold sign? at h
  split at h
  · rename_i c' e
    cases h
    cases s with
    | mk a =>
      congr 1
      exact Array.ext' e
  · cases h
def dInS (neg : Bool) : DR2 := fun x y M Q => match x, y with
  | .str s, .str z => (match sign? s with
    | some c => Q (.bl (if neg then !decide (c ∈ z.cps.toList) else decide (c ∈ z.cps.toList))) M
    | none => False)
  | _, _ => False
/-- a number in a row of numbers -/
def dInI (neg : Bool) : DR2 := fun x y M Q => match x with
  | .int s => (match (match y with
      | .tup ds => intsOf ds
      | .ob a => (Msq M a).bind intsOf
      | _ => none) with
    | some ss => Q (.bl (if neg then !decide (s ∈ ss) else decide (s ∈ ss))) M
    | none => False)
  | _ => False
theorem inV_ints (s : Int) (ss : List Int) : inV (.int s) (ss.map V.int) = decide (s ∈ ss) := by
  unfold inV
  induction ss with
  | nil => simp
  | cons x r ih =>
    rw [List.map_cons, List.any_cons, ih]
    show ((x == s) || decide (s ∈ r)) = decide (s ∈ x :: r)
    by_cases e : x = s
    · subst e
      simp
    · have e2 : (x == s) = false := by simpa using e
      have e3 : ¬ s = x := fun z => e z.symm
      rw [e2]
      simp [e3]
theorem flat_ints (ss : List Int) : (ss.map V.int).all flatV = true := by
  induction ss with
  | nil => rfl
  | cons x r ih =>
    rw [List.map_cons, List.all_cons, ih]
    rfl
theorem lr_inI {K : PySem.W.Frag} {neg : Bool} : LR2 K (rIn K neg) (dInI neg) := fun H M x y dx dy Q' Q m rx ry h c => by
  cases dx with
  | int s =>
    unfold dInI at h
    dsimp only at h
    unfold Rep at rx
    subst rx
    have fin : ∀ ss : List Int, Q' (.bl (if neg then !decide (s ∈ ss) else decide (s ∈ ss))) M → Q (.bl (if neg then !inV (.int s) (ss.map V.int) else inV (.int s) (ss.map V.int))) H := fun ss q => by
      rw [inV_ints]
      exact c _ M _ H q (Stp.refl H M) rfl m
    cases dy with
    | tup ds =>
      dsimp only at h
      cases e : intsOf ds with
      | none =>
        rw [e] at h
        exact h.elim
      | some ss =>
        rw [e] at h
        unfold Rep at ry
        obtain ⟨a, vs, rfl, ha, r⟩ := ry
        rw [intsOf_eq e] at r
        have ev := r.ints
        subst ev
        exact ⟨a, _, rfl, .inr ha.sq, rfl, flat_ints ss, fin ss h⟩
    | ob a =>
      dsimp only at h
      unfold Rep at ry
      subst ry
      cases e : Msq M a with
      | none =>
        rw [e] at h
        exact h.elim
      | some ds =>
        rw [e] at h
        dsimp only [Option.bind_some] at h
        cases e2 : intsOf ds with
        | none =>
          rw [e2] at h
          exact h.elim
        | some ss =>
          rw [e2] at h
          obtain ⟨vs, hs, r⟩ := msq_sq m e
          rw [intsOf_eq e2] at r
          have ev := r.ints
          subst ev
          exact ⟨a, _, rfl, .inl hs, rfl, flat_ints ss, fin ss h⟩
    | _ => exact h.elim
  | _ => exact h.elim
def dIn2 (neg : Bool) : DR2 := fun x y M Q => dIn neg x y M Q ∨ dInI neg x y M Q
theorem lr_in2 {K : PySem.W.Frag} {neg : Bool} : LR2 K (rIn K neg) (dIn2 neg) := fun H M x y dx dy Q' Q m rx ry h c => by
  rcases h with h | h
  · exact lr_in H M x y dx dy Q' Q m rx ry h c
  · exact lr_inI H M x y dx dy Q' Q m rx ry h c
def dInA (neg : Bool) : DR2 := fun x y M Q => dIn2 neg x y M Q ∨ dInDk neg x y M Q ∨ dInS neg x y M Q
def rInS2 (neg : Bool) : R2 := fun x y H Q => ∃ (c : Nat) (z : Str), x = .str ⟨#[c]⟩ ∧ y = .str z ∧ Q (.bl (if neg then !decide (c ∈ z.cps.toList) else decide (c ∈ z.cps.toList))) H
theorem lr_inS {K : PySem.W.Frag} {neg : Bool} : LR2 K (rInS2 neg) (dInS neg) := fun H M x y dx dy Q' Q m rx ry h c => by
  unfold dInS at h
  split at h
  · split at h
    · rename_i c0 ec
      unfold Rep at rx ry
      rw [sign_eq ec] at rx
      exact ⟨c0, _, rx, ry, c _ M _ H h (Stp.refl H M) rfl m⟩
    · exact h.elim
  · exact h.elim
section
variable {X : Cx} {a b : Expr} {ta tb : DTE} {pos : Pos}
theorem or_in (hu : X.A.units + 1 < cLine) : OpR X (compareOp .In) (fun x y H Q => rIn X.K false x y H Q ∨ rInDk false x y H Q ∨ rInS2 false x y H Q) := op_in_seq.or ((op_inDk hu).or op_in_sign)
theorem or_nin (hu : X.A.units + 1 < cLine) : OpR X (compareOp .NotIn) (fun x y H Q => rIn X.K true x y H Q ∨ rInDk true x y H Q ∨ rInS2 true x y H Q) := op_notIn_seq.or ((op_ninDk hu).or op_notIn_sign)
theorem d_in' (hu : X.A.units + 1 < cLine) (ha : PE X a (LE X.K ta)) (hb : PE X b (LE X.K tb)) (hm : behindInMarks .In b = false := by first | rfl | with_unfolding_all rfl) : PE X (.Compare a [.In] [b] pos) (LE X.K (dOp (dInA false) ta tb)) := d_cmp (or_in hu) (lr_in2.inl (lr_inDk.inl lr_inS)) ha hb hm
theorem d_inT (hu : X.A.units + 1 < cLine) (ha : PE X a (LE X.K ta)) (hb : PE X b (LE X.K tb)) (hm : behindInMarks .In b = false := by first | rfl | with_unfolding_all rfl) : PT X (.Compare a [.In] [b] pos) (LT X.K (dT (dOp (dInA false) ta tb))) := d_cmpT (or_in hu) (lr_in2.inl (lr_inDk.inl lr_inS)) ha hb hm
theorem d_nin' (hu : X.A.units + 1 < cLine) (ha : PE X a (LE X.K ta)) (hb : PE X b (LE X.K tb)) (hm : behindInMarks .NotIn b = false := by first | rfl | with_unfolding_all rfl) : PE X (.Compare a [.NotIn] [b] pos) (LE X.K (dOp (dInA true) ta tb)) := d_cmp (or_nin hu) (lr_in2.inl (lr_inDk.inl lr_inS)) ha hb hm
theorem d_ninT (hu : X.A.units + 1 < cLine) (ha : PE X a (LE X.K ta)) (hb : PE X b (LE X.K tb)) (hm : behindInMarks .NotIn b = false := by first | rfl | with_unfolding_all rfl) : PT X (.Compare a [.NotIn] [b] pos) (LT X.K (dT (dOp (dInA true) ta tb))) := d_cmpT (or_nin hu) (lr_in2.inl (lr_inDk.inl lr_inS)) ha hb hm
/-! ### is None, is True -/
def dIsN (neg : Bool) : DR2 := fun x y M Q => match y with
  | .non => Q (.bl (match x with
    | .non => !neg
    | _ => neg)) M
  | _ => False
def isNon : D → Bool
  | .non => true
  | _ => false
theorem isN_rep {K : PySem.W.Frag} {H : Hp} {d : D} {v : V} (r : Rep K H d v) : decide (v = .non) = isNon d := by
  cases d with
  | tup ds =>
    unfold Rep at r
    obtain ⟨a, vs, rfl, _⟩ := r
    rfl
  | _ => (unfold Rep at r; subst r; rfl)
theorem lr_isN {K : PySem.W.Frag} : LR2 K (fun x y H Q => y = .non ∧ Q (.bl (decide (x = .non))) H) (dIsN false) := fun H M x y dx dy Q' Q m rx ry h c => by
  unfold dIsN at h
  split at h
  · refine ⟨ry, ?_⟩
    rw [isN_rep rx]
    refine c (.bl (isNon dx)) M _ H ?_ (Stp.refl H M) rfl m
    cases dx <;> exact h
  · exact h.elim
theorem lr_notN {K : PySem.W.Frag} : LR2 K (fun x y H Q => y = .non ∧ Q (.bl (!decide (x = .non))) H) (dIsN true) := fun H M x y dx dy Q' Q m rx ry h c => by
  unfold dIsN at h
  split at h
  · refine ⟨ry, ?_⟩
    rw [isN_rep rx]
    refine c (.bl (!isNon dx)) M _ H ?_ (Stp.refl H M) rfl m
    cases dx <;> exact h
  · exact h.elim
def dIsB (neg : Bool) : DR2 := fun x y M Q => match x, y with
  | .bl a, .bl b => Q (.bl (if neg then !decide (a = b) else decide (a = b))) M
  | _, _ => False
theorem lr_isB {K : PySem.W.Frag} : LR2 K rIsB (dIsB false) := fun H M x y dx dy Q' Q m rx ry h c => by
  cases dx <;> cases dy <;> first | exact h.elim | exact ⟨_, _, rx, ry, c _ M _ H h (Stp.refl H M) rfl m⟩
theorem lr_notB {K : PySem.W.Frag} : LR2 K rNotB (dIsB true) := fun H M x y dx dy Q' Q m rx ry h c => by
  cases dx <;> cases dy <;> first | exact h.elim | exact ⟨_, _, rx, ry, c _ M _ H h (Stp.refl H M) rfl m⟩
theorem d_isN (ha : PE X a (LE X.K ta)) (hb : PE X b (LE X.K tb)) : PE X (.Compare a [.Is] [b] pos) (LE X.K (dOp (dIsN false) ta tb)) := d_cmp op_isN lr_isN ha hb (nomark _)
theorem d_isNT (ha : PE X a (LE X.K ta)) (hb : PE X b (LE X.K tb)) : PT X (.Compare a [.Is] [b] pos) (LT X.K (dT (dOp (dIsN false) ta tb))) := d_cmpT op_isN lr_isN ha hb (nomark _)
theorem d_notN (ha : PE X a (LE X.K ta)) (hb : PE X b (LE X.K tb)) : PE X (.Compare a [.IsNot] [b] pos) (LE X.K (dOp (dIsN true) ta tb)) := d_cmp op_notN lr_notN ha hb (nomark _)
theorem d_notNT (ha : PE X a (LE X.K ta)) (hb : PE X b (LE X.K tb)) : PT X (.Compare a [.IsNot] [b] pos) (LT X.K (dT (dOp (dIsN true) ta tb))) := d_cmpT op_notN lr_notN ha hb (nomark _)
theorem d_isBT (ha : PE X a (LE X.K ta)) (hb : PE X b (LE X.K tb)) : PT X (.Compare a [.Is] [b] pos) (LT X.K (dT (dOp (dIsB false) ta tb))) := d_cmpT op_isBl lr_isB ha hb (nomark _)
theorem d_notBT (ha : PE X a (LE X.K ta)) (hb : PE X b (LE X.K tb)) : PT X (.Compare a [.IsNot] [b] pos) (LT X.K (dT (dOp (dIsB true) ta tb))) := d_cmpT op_notBl lr_notB ha hb (nomark _)
/-! ### places -/
def dIx : DR2 := fun x y M Q => match x, y with
  | .tup ds, .int i => (match atI ds i with
    | some d => Q d M
    | none => False)
  | .ob a, y => (match M a with
    | some (.ls ds) => (match y with
      | .int i => (match atI ds i with
        | some d => Q d M
        | none => False)
      | _ => False)
    | some (.rs ds) => (match y with
      | .int i => (match atI ds i with
        | some d => Q d M
        | none => False)
      | _ => False)
    | some (.dc kvs) => (match dkey y with
      | some k => (match valD kvs k with
        | some d => Q d M
        | none => False)
      | none => False)
    | _ => False)
  | _, _ => False
theorem dIx_w {x y : D} {M : DM} {Q : DK} (h : dIx x y M Q) : dIxA x y M Q ∨ dIxDk x y M Q := by
  cases x with
  | tup ds =>
    cases y with
    | int i => exact .inl (.inl h)
    | _ => exact h.elim
  | ob a =>
    have h' : (match M a with
      | some (.ls ds) => (match y with
        | .int i => (match atI ds i with
          | some d => Q d M
          | none => False)
        | _ => False)
      | some (.rs ds) => (match y with
        | .int i => (match atI ds i with
          | some d => Q d M
          | none => False)
        | _ => False)
      | some (.dc kvs) => (match dkey y with
        | some k => (match valD kvs k with
          | some d => Q d M
          | none => False)
        | none => False)
      | _ => False) := by cases y <;> exact h
    cases e : M a with
    | none =>
      rw [e] at h'
      exact h'.elim
    | some o =>
      rw [e] at h'
      cases o with
      | ls ds =>
        cases y with
        | int i =>
          refine .inl (.inr ?_)
          show (match Msq M a with | some ds => (match atI ds i with | some d => Q d M | none => False) | none => False)
          unfold Msq
          rw [e]
          exact h'
        | _ => exact h'.elim
      | rs ds =>
        cases y with
        | int i =>
          refine .inl (.inr ?_)
          show (match Msq M a with | some ds => (match atI ds i with | some d => Q d M | none => False) | none => False)
          unfold Msq
          rw [e]
          exact h'
        | _ => exact h'.elim
      | dc kvs =>
        refine .inr ?_
        show (match (D.ob a), dkey y with | .ob a, some k => (match M a with | some (.dc kvs) => (match valD kvs k with | some d => Q d M | none => False) | _ => False) | _, _ => False)
        cases ek : dkey y with
        | none =>
          dsimp only at h'
          rw [ek] at h'
          exact h'.elim
        | some k =>
          dsimp only at h'
          rw [ek] at h'
          dsimp only
          rw [e]
          exact h'
      | raw P => exact h'.elim
  | _ => cases y <;> exact h.elim
theorem d_ixA (hu : X.A.units + 1 < cLine) (ha : PE X a (LE X.K ta)) (hb : PE X b (LE X.K tb)) (hs : PlainIx b := by exact fun _ _ => rfl) : PE X (.Subscript a b pos) (LE X.K (dOp dIx ta tb)) :=
  d_ix (ix_seq.or (ix_dk hu)) ((lr_ixA.inl lr_ixDk).imp fun _ _ _ _ h => dIx_w h) ha hb hs
end
/-! ### len -/
def dLenA : DRC := fun ds M Q => match ds with
  | [.str y] => y.length ≤ sizeLine ∧ Q (.int y.length) M
  | [.tup xs] => Q (.int xs.length) M
  | [.ob a] => (match M a with
    | some (.ls xs) => Q (.int xs.length) M
    | some (.rs xs) => Q (.int xs.length) M
    | some (.dc kvs) => Q (.int kvs.length) M
    | _ => False)
  | _ => False
theorem lc_lenA {K : PySem.W.Frag} : LRC K (fun xs H Q => (∃ x n, xs = [x] ∧ LenV K x H n ∧ Q (.int n) H) ∨ (∃ a kvs, xs = [V.ref a] ∧ H a = some (.dK kvs) ∧ Q (.int kvs.length) H)) dLenA := fun H M vs ds Q' Q m r h c => by
  unfold dLenA at h
  split at h
  · rename_i y
    exact .inl (lc_len H M vs [.str y] Q' Q m r h c)
  · rename_i xs
    exact .inl (lc_len H M vs [.tup xs] Q' Q m r h c)
  · rename_i a
    split at h
    · rename_i xs e
      refine .inl (lc_len H M vs [.ob a] Q' Q m r ?_ c)
      show (match Msq M a with | some xs => Q' (.int xs.length) M | none => False)
      unfold Msq
      rw [e]
      exact h
    · rename_i xs e
      refine .inl (lc_len H M vs [.ob a] Q' Q m r ?_ c)
      show (match Msq M a with | some xs => Q' (.int xs.length) M | none => False)
      unfold Msq
      rw [e]
      exact h
    · rename_i kvs e
      refine .inr (lc_lenD H M vs [.ob a] Q' Q m r ?_ c)
      show (match M a with | some (.dc kvs) => Q' (.int kvs.length) M | _ => False)
      rw [e]
      exact h
    · exact h.elim
  · exact h.elim
section
variable {X : Cx} {a : Expr} {es : List Expr} {t : DTA} {p pos : Pos}
theorem d_len (hm : X.mg "len" = none) (ha : PA X (a :: es) (LA X.K t)) (hg : Gl X "len" := by rfl) (he : starEach (a :: es) X.env = (false, eval a X.env) :: starEach es X.env := by rfl) (hpl : (backTo pos (starEach es X.env)).any (·.1) = false := by rfl) :
    PE X (.Call (.Name "len" p) (a :: es) [] pos) (LE X.K (dCB dLenA t)) := d_callB (call_len.or call_lenD) lc_lenA hg hm PySem.boot_len ha (by decide) (by decide) he hpl
theorem d_all (hc : X.calm = true) (hm : X.mg "all" = none) (ha : PA X (a :: es) (LA X.K t)) (hg : Gl X "all" := by rfl) (he : starEach (a :: es) X.env = (false, eval a X.env) :: starEach es X.env := by rfl) (hpl : (backTo pos (starEach es X.env)).any (·.1) = false := by rfl) :
    PE X (.Call (.Name "all" p) (a :: es) [] pos) (LE X.K (dCB dAll t)) := d_callB (cr_all hc) lc_all hg hm (by decide +kernel) ha (by decide) (by decide) he hpl
theorem d_isi (hm : X.mg "isinstance" = none) (ha : PA X (a :: es) (LA X.K t)) (hg : Gl X "isinstance" := by rfl) (he : starEach (a :: es) X.env = (false, eval a X.env) :: starEach es X.env := by rfl) (hpl : (backTo pos (starEach es X.env)).any (·.1) = false := by rfl) :
    PE X (.Call (.Name "isinstance" p) (a :: es) [] pos) (LE X.K (dCB dIsI t)) := d_callB call_isi lc_isi hg hm (by decide +kernel) ha (by decide) (by decide) he hpl
theorem d_abs (hm : X.mg "abs" = none) (ha : PA X (a :: es) (LA X.K t)) (hg : Gl X "abs" := by rfl) (he : starEach (a :: es) X.env = (false, eval a X.env) :: starEach es X.env := by rfl) (hpl : (backTo pos (starEach es X.env)).any (·.1) = false := by rfl) :
    PE X (.Call (.Name "abs" p) (a :: es) [] pos) (LE X.K (dCB dAbs t)) := d_callB call_abs lc_abs hg hm (by decide +kernel) ha (by decide) (by decide) he hpl
theorem d_max2 (hc : X.calm = true) (hm : X.mg "max" = none) (ha : PA X (a :: es) (LA X.K t)) (hg : Gl X "max" := by rfl) (he : starEach (a :: es) X.env = (false, eval a X.env) :: starEach es X.env := by rfl) (hpl : (backTo pos (starEach es X.env)).any (·.1) = false := by rfl) :
    PE X (.Call (.Name "max" p) (a :: es) [] pos) (LE X.K (dCB dMax2 t)) := d_callB (call_max2 hc) lc_max2 hg hm (by decide +kernel) ha (by decide) (by decide) he hpl
theorem d_min2 (hc : X.calm = true) (hm : X.mg "min" = none) (ha : PA X (a :: es) (LA X.K t)) (hg : Gl X "min" := by rfl) (he : starEach (a :: es) X.env = (false, eval a X.env) :: starEach es X.env := by rfl) (hpl : (backTo pos (starEach es X.env)).any (·.1) = false := by rfl) :
    PE X (.Call (.Name "min" p) (a :: es) [] pos) (LE X.K (dCB dMin2 t)) := d_callB (call_min2 hc) lc_min2 hg hm (by decide +kernel) ha (by decide) (by decide) he hpl
theorem d_minL (hc : X.calm = true) (hm : X.mg "min" = none) (ha : PA X (a :: es) (LA X.K t)) (hg : Gl X "min" := by rfl) (he : starEach (a :: es) X.env = (false, eval a X.env) :: starEach es X.env := by rfl) (hpl : (backTo pos (starEach es X.env)).any (·.1) = false := by rfl) :
    PE X (.Call (.Name "min" p) (a :: es) [] pos) (LE X.K (dCB dMinL t)) := d_callB (cr_min hc) lc_minL hg hm (by decide +kernel) ha (by decide) (by decide) he hpl
theorem d_int (hm : X.mg "int" = none) (ha : PA X (a :: es) (LA X.K t)) (hg : Gl X "int" := by rfl) (he : starEach (a :: es) X.env = (false, eval a X.env) :: starEach es X.env := by rfl) (hpl : (backTo pos (starEach es X.env)).any (·.1) = false := by rfl) :
    PE X (.Call (.Name "int" p) (a :: es) [] pos) (LE X.K (dCB dIntC t)) := d_callTy call_int1 lc_int hg hm (by decide +kernel) ha (by decide) (by decide) he hpl
theorem d_list (hm : X.mg "list" = none) (ha : PA X (a :: es) (LA X.K t)) (hg : Gl X "list" := by rfl) (he : starEach (a :: es) X.env = (false, eval a X.env) :: starEach es X.env := by rfl) (hpl : (backTo pos (starEach es X.env)).any (·.1) = false := by rfl) :
    PE X (.Call (.Name "list" p) (a :: es) [] pos) (LE X.K (dCB dListOf t)) := d_callTy call_list_of lc_list hg hm (by decide +kernel) ha (by decide) (by decide) he hpl
theorem d_tuple (hm : X.mg "tuple" = none) (ha : PA X (a :: es) (LA X.K t)) (hg : Gl X "tuple" := by rfl) (he : starEach (a :: es) X.env = (false, eval a X.env) :: starEach es X.env := by rfl) (hpl : (backTo pos (starEach es X.env)).any (·.1) = false := by rfl) :
    PE X (.Call (.Name "tuple" p) (a :: es) [] pos) (LE X.K (dCB dTupOf t)) := d_callTy call_tuple_of lc_tuple hg hm (by decide +kernel) ha (by decide) (by decide) he hpl
end
/-! ### slices of a list or a tuple -/
def dSl (te : DTE) (tl th : DTO) : DTE := fun ρ M Q => te ρ M fun x M1 => tl ρ M1 fun l M2 => th ρ M2 fun u M3 => match x with
  | .tup ds => Q (.tup (dcut ds l u)) M3
  | .ob a => (match Msq M3 a with
    | some ds => ∀ p, M3 p = none → Q (.ob p) (mset M3 p (.ls (dcut ds l u)))
    | none => False)
  | _ => False
section
variable {X : Cx} {e : Expr} {te : DTE} {lo hi : Option Expr} {tl th : DTO} {pos p2 : Pos}
theorem d_sl (he : PE X e (LE X.K te)) (hl : PO X lo (LO X.K tl)) (hu : PO X hi (LO X.K th)) : PE X (.Subscript e (.Slice lo hi none p2) pos) (LE X.K (dSl te tl th)) :=
  PE.weak (pe_slice (sl_tupA.or sl_list) he hl hu) fun σ H Q ⟨ρ, M, Q', rs, m, h, c⟩ => by
    refine ⟨ρ, M, _, rs, m, h, fun d M1 v H1 h1 s1 r1 m1 => ?_⟩
    refine ⟨ρ, M1, _, rs.mono (tk_of m s1), m1, h1, fun l M2 H2 h2 s2 m2 => ?_⟩
    refine ⟨ρ, M2, _, rs.mono ((tk_of m s1).trans (tk_of m1 s2)), m2, h2, fun u M3 H3 h3 s3 m3 => ?_⟩
    have r3 := Rep.mono ((tk_of m1 s2).trans (tk_of m2 s3)) _ _ r1
    have st := (s1.trans s2).trans s3
    cases d with
    | tup ds =>
      have r0 := r3
      unfold Rep at r3
      obtain ⟨a, vs, rfl, ha, r⟩ := r3
      refine .inl ⟨a, vs, rfl, ha.sq, fun w => ?_, fun _ p np => ?_⟩
      · have e : dcut ds l u = ds := by
          unfold dcut
          rw [← r.length, w.1, w.2, r.length]
          simp
        dsimp only at h3
        rw [e] at h3
        exact c _ M3 _ H3 h3 st r0 m3
      · refine c _ M3 _ _ h3 (st.trans (Stp.new0 np)) ?_ (m3.new0 np)
        unfold Rep
        exact ⟨p, _, rfl, .inl upd_same, RepL.mono (TK.new np) _ _ (dcut_rep r l u)⟩
    | ob a =>
      dsimp only at h3
      cases e : Msq M3 a with
      | none =>
        rw [e] at h3
        exact h3.elim
      | some ds =>
        rw [e] at h3
        obtain ⟨vs, hs, r⟩ := msq_sq m3 e
        refine .inr ⟨a, vs, r1, hs, fun p np => ?_⟩
        refine c _ _ _ _ (h3 p (m3.isNil np)) (st.trans (Stp.new np)) rfl (m3.put (fun xs e => ?_) ⟨_, upd_same, RepL.mono (TK.new np) _ _ (dcut_rep r l u)⟩)
        rw [np] at e
        cases e
    | _ => exact h3.elim
/-- what is walked: a tuple or a list; the generator of the derivation says which -/
theorem d_appendS {o : Expr} {to : DTE} {t : DTA} {es : List Expr} {apos cpos : Pos} (ho : PE X o (LE X.K to)) (ha : PA X (e :: es) (LA X.K t))
    (hbase : attributeBase o "append" X.env (eval o X.env) = eval o X.env := by rfl)
    (hfew : ((backTo cpos (starEach (e :: es) X.env)).all (fun x => !x.1) && (backToKw cpos (keywordEach [] X.env)).all (fun x => x.1.isSome)
      && decide ((e :: es).length + ([] : List Keyword).length + (if ([] : List Keyword).isEmpty then 0 else 1) < 30)) = true := by rfl)
    (hline : (apos.endLine == cpos.line) = true := by rfl) (hs : starEach (e :: es) X.env = (false, eval e X.env) :: starEach es X.env := by rfl) (hplain : (backTo cpos (starEach es X.env)).any (·.1) = false := by rfl) :
    PE X (.Call (.Attribute o "append" apos) (e :: es) [] cpos) (LE X.K (dBM dAppend to t)) := d_bm PySem.F.slot_list_append PySem.F.type_list_append mt_append lm_append ho ha hbase hfew hline hs hplain
theorem d_extendS {o : Expr} {to : DTE} {t : DTA} {es : List Expr} {apos cpos : Pos} (ho : PE X o (LE X.K to)) (ha : PA X (e :: es) (LA X.K t))
    (hbase : attributeBase o "extend" X.env (eval o X.env) = eval o X.env := by rfl)
    (hfew : ((backTo cpos (starEach (e :: es) X.env)).all (fun x => !x.1) && (backToKw cpos (keywordEach [] X.env)).all (fun x => x.1.isSome)
      && decide ((e :: es).length + ([] : List Keyword).length + (if ([] : List Keyword).isEmpty then 0 else 1) < 30)) = true := by rfl)
    (hline : (apos.endLine == cpos.line) = true := by rfl) (hs : starEach (e :: es) X.env = (false, eval e X.env) :: starEach es X.env := by rfl) (hplain : (backTo cpos (starEach es X.env)).any (·.1) = false := by rfl) :
    PE X (.Call (.Attribute o "extend" apos) (e :: es) [] cpos) (LE X.K (dBM dExtend to t)) := d_bm PySem.F.slot_list_extend PySem.F.type_list_extend mt_extend lm_extend ho ha hbase hfew hline hs hplain
theorem d_popS {o : Expr} {to : DTE} {apos cpos : Pos} (ho : PE X o (LE X.K to)) (hbase : attributeBase o "pop" X.env (eval o X.env) = eval o X.env := by rfl) (hline : (apos.endLine == cpos.line) = true := by rfl) :
    PE X (.Call (.Attribute o "pop" apos) [] [] cpos) (LE X.K (dBM0 dPop to)) := d_bm0 PySem.F.slot_list_pop PySem.F.type_list_pop mt_pop lm_pop ho hbase hline
theorem d_popAtS {o : Expr} {to : DTE} {t : DTA} {es : List Expr} {apos cpos : Pos} (ho : PE X o (LE X.K to)) (ha : PA X (e :: es) (LA X.K t))
    (hbase : attributeBase o "pop" X.env (eval o X.env) = eval o X.env := by rfl)
    (hfew : ((backTo cpos (starEach (e :: es) X.env)).all (fun x => !x.1) && (backToKw cpos (keywordEach [] X.env)).all (fun x => x.1.isSome)
      && decide ((e :: es).length + ([] : List Keyword).length + (if ([] : List Keyword).isEmpty then 0 else 1) < 30)) = true := by rfl)
    (hline : (apos.endLine == cpos.line) = true := by rfl) (hs : starEach (e :: es) X.env = (false, eval e X.env) :: starEach es X.env := by rfl) (hplain : (backTo cpos (starEach es X.env)).any (·.1) = false := by rfl) :
    PE X (.Call (.Attribute o "pop" apos) (e :: es) [] cpos) (LE X.K (dBM dPopAt to t)) := d_bm PySem.F.slot_list_pop PySem.F.type_list_pop mt_popAt lm_popAt ho ha hbase hfew hline hs hplain
end
end DL

/-! DLg: any walk, stores by place, while, the defs of the text in one bundle. -/
namespace DL
open PySem PySem.Spec PyProof.Rows L2

/-! ### a tuple or a list that is walked -/
section
variable {X : Cx} {tg : Expr} {pins : List (Addr × Obj)} {σ : L2.St} {H : Hp} {s : Shared} {R : It → Hp → Prop} {a : Addr} {xs : List V}
theorem walk_list {E : Value → Shared → Prop} (I : Inv X pins σ H s) (h : SqL X.K H a xs) (q : R (Itl X.K a) H) : wpAny (model X.prog X.w) X.A (pyIter (.ref a)) (PIE X pins σ tg R) E s := by
  obtain ⟨its, rv, p, hz⟩ := I.list h
  have fr : H s.heap.objs.size = none := I.hok.fresh (Nat.le_refl _)
  refine wpAny_pyIter_list p.isList ⟨s.heap.objs.size, [s.heap.objs.size], _, _, H, rfl, I.kept (t' := s.toks) fun b o e => Heap.get?_push_of_some _ e, turn_list a _, ⟨_, Heap.get?_push_size _ rfl, rfl, rfl⟩, ?_, q⟩
  intro b hb
  obtain rfl := List.mem_singleton.mp hb
  exact I.fpOk (Nat.le_refl _) fr
theorem walk_tup {E : Value → Shared → Prop} (I : Inv X pins σ H s) (h : SqT X.K H a xs) (q : R (Itt X.K a) H) : wpAny (model X.prog X.w) X.A (pyIter (.ref a)) (PIE X pins σ tg R) E s := by
  obtain ⟨its, rv, p, hz⟩ := I.tuple h
  have fr : H s.heap.objs.size = none := I.hok.fresh (Nat.le_refl _)
  have pt : s.heap.IsTuple a its.toArray := p
  refine wpAny_pyIter_tuple pt ⟨s.heap.objs.size, [s.heap.objs.size], _, _, H, rfl, I.kept (t' := s.toks) fun b o e => Heap.get?_push_of_some _ e, turn_tuple a _, ⟨_, Heap.get?_push_size _ rfl, rfl, rfl⟩, ?_, q⟩
  intro b hb
  obtain rfl := List.mem_singleton.mp hb
  exact I.fpOk (Nat.le_refl _) fr
end
def dwA (te : DTE) : DTI := fun ρ M R => te ρ M fun d M1 => match d with
  | .tup ds => R ds always M1
  | .ob a => (match Msq M1 a with
    | some ds => R ds (fun M' => Msq M' a = some ds) M1
    | none => False)
  | _ => False
theorem tup_walk {K : PySem.W.Frag} {a : Addr} {vs : List V} {ds : List D} : Walk K (Itt K a) ds (fun H => TAt K H a vs ∧ RepL K H ds vs) always :=
  ⟨fun H H' ⟨q1, q2⟩ t => ⟨q1.mono t, RepL.mono t _ _ q2⟩, fun i H M ⟨q1, q2⟩ _ _ hi => by
    obtain ⟨v, e1, _⟩ := q2.get (List.getElem?_eq_getElem hi)
    exact ⟨vs, v, q1.sq, e1⟩, fun i H M ⟨q1, q2⟩ _ _ hi => ⟨vs, q1.sq, by rw [q2.length]; exact hi⟩, fun i H M x H' ⟨q1, q2⟩ mm _ hi y => by
    obtain ⟨rfl, y⟩ := y
    obtain ⟨d, e1, rd⟩ := q2.back (y vs q1.sq)
    exact ⟨d, e1, rd, mm, Stp.refl _ _⟩⟩
theorem lst_walk {K : PySem.W.Frag} {a : Addr} {ds : List D} : Walk K (Itl K a) ds (fun _ => True) (fun M' => Msq M' a = some ds) :=
  ⟨fun _ _ _ _ => True.intro, fun i H M _ mm st hi => by
    obtain ⟨vs, hs, q2⟩ := msq_sq mm st
    obtain ⟨v, e1, _⟩ := q2.get (List.getElem?_eq_getElem hi)
    exact ⟨vs, v, hs, e1⟩, fun i H M _ mm st hi => by
    obtain ⟨vs, hs, q2⟩ := msq_sq mm st
    exact ⟨vs, hs, by rw [q2.length]; exact hi⟩, fun i H M x H' _ mm st hi y => by
    obtain ⟨rfl, y⟩ := y
    obtain ⟨vs, hs, q2⟩ := msq_sq mm st
    obtain ⟨d, e1, rd⟩ := q2.back (y vs hs)
    exact ⟨d, e1, rd, mm, Stp.refl _ _⟩⟩
section
variable {X : Cx} {e tg : Expr} {te : DTE}
theorem di_any (he : PE X e (LE X.K te)) : PI X tg e (LI X.K (dwA te)) := ⟨fun pins s σ H R I h => by
  obtain ⟨ρ, M, R', rs, m, h, c⟩ := h
  refine thn (he.run pins s σ H (fun v H1 => ∃ d M1, Rep X.K H1 d v ∧ Mem X.K H1 M1 ∧ Stp H M H1 M1 ∧ (match d with
    | .tup ds => R' ds always M1
    | .ob a => (match Msq M1 a with
      | some ds => R' ds (fun M' => Msq M' a = some ds) M1
      | none => False)
    | _ => False)) I ⟨ρ, M, _, rs, m, h, fun d M1 v H1 h1 s1 r1 m1 => ⟨d, M1, r1, m1, s1, h1⟩⟩) ?_
  rintro u s1 ⟨v, H1, I1, ru, d, M1, r1, m1, st1, h1⟩
  cases d with
  | tup ds =>
    unfold Rep at r1
    obtain ⟨a, vs, rfl, ha, r⟩ := r1
    cases ru
    exact walk_tup I1 ha.sq (c ds always M1 H1 _ _ h1 st1 m1 True.intro ⟨ha, r⟩ tup_walk)
  | ob a =>
    dsimp only at h1
    unfold Rep at r1
    subst r1
    cases ru
    cases eM : Msq M1 a with
    | none =>
      rw [eM] at h1
      exact h1.elim
    | some ds =>
      rw [eM] at h1
      obtain ⟨vs0, hs0, r0⟩ := msq_sq m1 eM
      exact walk_list I1 hs0 (c ds _ M1 H1 _ _ h1 st1 m1 eM True.intro lst_walk)
  | _ => exact h1.elim⟩
end

/-! ### o[i] = v: a list, a dict -/
def dSetIt : D → D → D → DM → (DM → Prop) → Prop := fun o i v M Q => match o with
  | .ob a => (match M a with
    | some (.ls xs) => (match i with
      | .int k => (match ixN xs.length k with
        | some j => Q (mset M a (.ls (xs.set j v)))
        | none => False)
      | _ => False)
    | some (.dc kvs) => (match dkey i with
      | some k => kvs.length < sizeLine ∧ Q (mset M a (.dc (putD kvs k v)))
      | none => False)
    | _ => False)
  | _ => False
def dgSub (to ti : DTE) : DTG := fun v ρ M Q => to ρ M fun o M1 => ti ρ M1 fun i M2 => dSetIt o i v M2 fun M3 => Q ρ M3
theorem pset_or {X : Cx} {t t' : TSet} (h : PSet X t) (h' : PSet X t') : PSet X (fun o i v H Q => t o i v H Q ∨ t' o i v H Q) := fun pins s σ H o i v ov iv u Q I ro ri rv q => by
  rcases q with q | q
  · exact h pins s σ H o i v ov iv u Q I ro ri rv q
  · exact h' pins s σ H o i v ov iv u Q I ro ri rv q
section
variable {X : Cx} {o i : Expr} {to ti : DTE} {pos : Pos}
theorem dg_sub (hu : X.A.units + 1 < cLine) (ho : PE X o (LE X.K to)) (hi : PE X i (LE X.K ti))
    (ha : ∀ v, assign (.Subscript o i pos) X.env v = (do
      let ov ← holding [v] (eval o X.env)
      let iv ← holding [v, ov] (eval i X.env)
      standAt pos
      holding [v, ov, iv] (setItem ov iv v)
      release [v, ov, iv] []) := by intro _; rfl) : PG X (.Subscript o i pos) (LG X.K (dgSub to ti)) :=
  PG.weak (pg_sub ho hi (pset_or set_list (set_dict hu)) ha) fun v σ H Q ⟨d, ρ, M, Q', r, rs, m, h, c⟩ => by
    refine ⟨ρ, M, _, rs, m, h, fun dx M1 x H1 h1 s1 r1 m1 => ?_⟩
    refine ⟨ρ, M1, _, rs.mono (tk_of m s1), m1, h1, fun dy M2 y H2 h2 s2 r2 m2 => ?_⟩
    have rv := Rep.mono ((tk_of m s1).trans (tk_of m1 s2)) _ _ r
    have st := s1.trans s2
    have rs2 := rs.mono (tk_of m st)
    cases dx with
    | ob a =>
      unfold dSetIt at h2
      dsimp only at h2
      split at h2
      · rename_i xs ea
        split at h2
        · rename_i k
          split at h2
          · rename_i j ej
            obtain ⟨ws, e1, r3⟩ := m2 a _ ea
            have tf := m2.tupfree ea
            unfold Rep at r1 r2
            subst r1 r2
            refine .inl ⟨a, ws, k, j, rfl, rfl, e1, by rw [r3.length]; exact ej, ?_⟩
            exact c ρ _ σ _ h2 (st.trans (Stp.put (by rw [ea]; simp))) (rs2.mono (TK.upd tf)) (m2.put tf ⟨_, upd_same, RepL.mono (TK.upd tf) _ _ (r3.set j rv)⟩)
          · exact h2.elim
        · exact h2.elim
      · rename_i kvs ea
        split at h2
        · rename_i k ek
          obtain ⟨z, h2⟩ := h2
          obtain ⟨ws, e1, r3⟩ := m2 a _ ea
          have tf := m2.tupfree ea
          refine .inr ⟨a, _, r1, by rw [dkey_rep ek r2]; exact DPut.k e1 (by rw [r3.length]; exact z), ?_⟩
          exact c ρ _ σ _ h2 (st.trans (Stp.put (by rw [ea]; simp))) (rs2.mono (TK.upd tf)) (m2.put tf ⟨_, upd_same, (r3.put rv).mono (TK.upd tf)⟩)
        · exact h2.elim
      · exact h2.elim
    | _ => exact h2.elim
end

/-! ### while -/
def dWhile (c : DTT) (tb : DTS) : DTS := fun E ρ M => ∃ W : Nat → DSt → DM → Prop, (∃ n, W n ρ M) ∧ ∀ n ρ M, W n ρ M →
  c ρ M fun b M1 => if b = true then tb { E with nx := fun ρ' M' => ∃ n', n' < n ∧ W n' ρ' M', ct := fun ρ' M' => ∃ n', n' < n ∧ W n' ρ' M', bk := E.nx } ρ M1 else E.nx ρ M1
section
variable {X : Cx} {c : Expr} {body : List Stmt} {tc : DTT} {tb : DTS} {pos : Pos}
theorem ds_while (hp : PassesOwn (model X.prog X.w) X.A X.env X.xe) (hc : PT X c (LT X.K tc)) (hb : PSs X body (LS X.K tb)) : PS X (.While c body [] pos) (LS X.K (dWhile tc tb)) := PS.weak (ps_while hp hc hb) fun E σ H ⟨ρ, M, E', rs, m, ⟨W, ⟨n0, w0⟩, turn⟩, cc⟩ => by
  refine ⟨fun n σ' H' => ∃ ρ' M', RS X.K H' ρ' σ' ∧ Mem X.K H' M' ∧ Stp H M H' M' ∧ W n ρ' M', ⟨n0, ρ, M, rs, m, Stp.refl _ _, w0⟩, ?_⟩
  rintro n σ1 H1 ⟨ρ1, M1, rs1, m1, s1, w1⟩
  refine ⟨ρ1, M1, _, rs1, m1, turn n ρ1 M1 w1, fun b M2 H2 h2 s2 m2 => ?_⟩
  have s12 := s1.trans s2
  have rs2 := rs1.mono (tk_of m1 s2)
  cases b with
  | false => exact cc.nx ρ1 M2 σ1 H2 h2 s12 rs2 m2
  | true =>
    refine ⟨fun σ' H' => ∃ n', n' < n ∧ ∃ ρ' M', RS X.K H' ρ' σ' ∧ Mem X.K H' M' ∧ Stp H M H' M' ∧ W n' ρ' M', fun σ' H' ⟨n', l, q⟩ => ⟨n', l, q⟩, ?_⟩
    have again : CS X.K H2 M2 (fun ρ' M' => ∃ n', n' < n ∧ W n' ρ' M') (fun σ' H' => ∃ n', n' < n ∧ ∃ ρ' M', RS X.K H' ρ' σ' ∧ Mem X.K H' M' ∧ Stp H M H' M' ∧ W n' ρ' M') :=
      fun ρ' M' σ' H' ⟨n', l, q⟩ s' rs' m' => ⟨n', l, ρ', M', rs', m', s12.trans s', q⟩
    have c2 := cc.step s12
    exact ⟨ρ1, M2, _, rs2, m2, h2, ⟨again, c2.rt, c2.nx, again⟩⟩
end

/-! ### a def of the text -/
structure Fn (K : PySem.W.Frag) (mg : Str → Option Value) (x : Str) (st : Stmt) (ps : List Str) where
  f : Addr
  fd : FuncData
  F : Fun K x x st f fd
  m : mg x = some (.ref f)
  b : Binds K fd ps []
section
variable {X : Cx} {k : Nat} {ps : List Str} {sp : DSp} {x : Str} {st : Stmt} {p pos : Pos} {e : Expr} {es : List Expr} {t : DTA}
theorem d_fn {fn : Fn X.K X.mg x st ps} (G : FnOk X.prog X.w X.K X.mg X.base CX0 k fn.f fn.fd ps (LSp X.K sp)) (hr : Room k X.A) (ha : PA X (e :: es) (LA X.K t)) (hg : Gl X x := by rfl) (hdb : (x == ("__debug__" : Str)) = false := by decide)
    (he : starEach (e :: es) X.env = (false, eval e X.env) :: starEach es X.env := by rfl) (hpl : (backTo pos (starEach es X.env)).any (·.1) = false := by rfl) : PE X (.Call (.Name x p) (e :: es) [] pos) (LE X.K (dCall sp t)) := d_call G hr hg fn.m fn.F.kp fn.b ha hdb he hpl
end
theorem hu1 {A : Around} {k : Nat} (hr : Room k A) : A.units + 1 < cLine := hu_of hr
theorem hu0 {A : Around} {k : Nat} (hr : Room k A) : A.units < cLine := Nat.lt_of_succ_lt (hu_of hr)
end DL

/-! DLh: tuples of targets, written dicts, displays, pairs, sorted, more comprehensions. -/
namespace DL
open PySem PySem.Spec PyProof.Rows L2

/-! ### a, b, .. = a tuple -/
abbrev DTGs := List D → DSt → DM → (DSt → DM → Prop) → Prop
def LGs (K : PySem.W.Frag) (t : DTGs) : TGs := fun vs σ H Q => ∃ ds ρ M Q', RepL K H ds vs ∧ RS K H ρ σ ∧ Mem K H M ∧ t ds ρ M Q' ∧ CS K H M Q' Q
def dgNil : DTGs := fun ds ρ M Q => match ds with
  | [] => Q ρ M
  | _ => False
def dgCons (g : DTG) (u : DTGs) : DTGs := fun ds ρ M Q => match ds with
  | d :: r => g d ρ M fun ρ1 M1 => u r ρ1 M1 Q
  | [] => False
def dgTup (n : Nat) (u : DTGs) : DTG := fun d ρ M Q => match d with
  | .tup ds => ds.length = n ∧ u ds ρ M Q
  | _ => False
section
variable {X : Cx} {e : Expr} {es : List Expr} {g : DTG} {u : DTGs} {k n : Nat} {pos : Pos}
theorem PGs.weak {t t' : TGs} (h : PGs X es t) (w : ∀ v σ H Q, t' v σ H Q → t v σ H Q) : PGs X es t' := ⟨fun pins s σ H v u Q I r q => h.run pins s σ H v u Q I r (w v σ H Q q)⟩
theorem dgs_nil : PGs X [] (LGs X.K dgNil) := PGs.weak pgs_nil fun vs σ H Q ⟨ds, ρ, M, Q', r, rs, m, h, c⟩ => by
  cases ds with
  | nil =>
    unfold RepL at r
    exact ⟨r, c ρ M σ H h (Stp.refl H M) rs m⟩
  | cons => exact h.elim
theorem dgs_cons (h1 : PG X e (LG X.K g)) (h2 : PGs X es (LGs X.K u)) (hs : (assignEach (e :: es) X.env).map (·.2) = assign e X.env :: (assignEach es X.env).map (·.2) := by rfl) : PGs X (e :: es) (LGs X.K (dgCons g u)) :=
  PGs.weak (pgs_cons h1 h2 hs) fun vs σ H Q ⟨ds, ρ, M, Q', r, rs, m, h, c⟩ => by
    cases ds with
    | nil => exact h.elim
    | cons d rest =>
      unfold RepL at r
      obtain ⟨v, vr, rfl, r1, r2⟩ := r
      exact ⟨v, vr, rfl, d, ρ, M, _, r1, rs, m, h, fun ρ1 M1 σ1 H1 q s1 rs1 m1 => ⟨rest, ρ1, M1, Q', RepL.mono (tk_of m s1) _ _ r2, rs1, m1, q, c.step s1⟩⟩
theorem dg_tup (hc : X.calm = true) (h : PGs X es (LGs X.K u)) (hn : (assignEach es X.env).length = n := by rfl) (hst : (assignEach es X.env).findIdx? (·.1) = none := by rfl) : PG X (.Tuple es k pos) (LG X.K (dgTup n u)) :=
  PG.weak (pg_tup hc h hn hst) fun v σ H Q ⟨d, ρ, M, Q', r, rs, m, h, c⟩ => by
    cases d with
    | tup ds =>
      unfold Rep at r
      obtain ⟨a, vs, rfl, ha, r⟩ := r
      exact ⟨a, vs, rfl, ha.sq, by rw [r.length]; exact h.1, ds, ρ, M, Q', r, rs, m, h.2, c⟩
    | _ => exact h.elim
end
/-- a, b, c = e1, e2, e3 -/
def dPar3 (i j l : Nat) (ta : DTA) : DTS := fun E ρ M => ta ρ M fun ds M1 => match ds with
  | [u, v, w] => E.nx (((ρ.set i (some u)).set j (some v)).set l (some w)) M1
  | _ => False
section
variable {X : Cx}
theorem ds_par3 {i j l : Nat} {x y z : Str} {a b c : Expr} {ta : DTA} {px py pz pt pos : Pos} {kt k2 pt2} (hc : X.calm = true) (hN : X.N.Nodup) (hij : i ≠ j) (hil : i ≠ l) (hjl : j ≠ l) (ha : PA X [a, b, c] (LA X.K ta))
    (hi : X.N[i]? = some x := by rfl) (hj : X.N[j]? = some y := by rfl) (hl : X.N[l]? = some z := by rfl)
    (hx : X.env.scope.names.lookup x = some .local := by rfl) (hy : X.env.scope.names.lookup y = some .local := by rfl) (hz : X.env.scope.names.lookup z = some .local := by rfl)
    (hw : swappedStores [.Tuple [.Name x px, .Name y py, .Name z pz] kt pt] (.Tuple [a, b, c] k2 pt2) X.env = pure (some [x, y, z]) := by rfl)
    (hs : swapsWithSole [.Tuple [.Name x px, .Name y py, .Name z pz] kt pt] (.Tuple [a, b, c] k2 pt2) pos.line X.env = pure false := by rfl) :
    PS X (.Assign [.Tuple [.Name x px, .Name y py, .Name z pz] kt pt] (.Tuple [a, b, c] k2 pt2) pos) (LS X.K (dPar3 i j l ta)) := PS.weak (ps_par3 hc hN hi hj hl hij hil hjl hx hy hz ha hw hs) fun E σ H ⟨ρ, M, E', rs, m, h, c⟩ => by
  refine ⟨ρ, M, _, rs, m, h, fun ds M1 vs H1 h1 s1 r1 m1 => ?_⟩
  match ds, h1 with
  | [d1, d2, d3], h1 =>
    unfold RepL at r1
    obtain ⟨v, r, rfl, ra, rb⟩ := r1
    obtain ⟨w, z, rfl, rb, rc⟩ := rb.two
    exact ⟨v, w, z, rfl, c.nx _ M1 _ H1 h1 s1 ((((rs.mono (tk_of m s1)).set i ra).set j rb).set l rc) m1⟩
end

/-! ### a dict of the module, texts to numbers -/
structure WD (K : PySem.W.Frag) (w : World) (a : Addr) (kvs : List (Str × Int)) : Prop where
  dict : ∃ es n, KDict K w a es n
  get : ∀ z i, kvs.lookup z = some i → ∃ t, PySem.W.nsIn K a z = some (some (.int i t))
  miss : ∀ z, kvs.lookup z = none → PySem.W.nsIn K a z = some none
def dInW (neg : Bool) (a : Addr) (kvs : List (Str × Int)) : DR2 := fun x y M Q => match x, y with
  | .str z, .ob b => b = a ∧ Q (.bl (if neg then !(kvs.lookup z).isSome else (kvs.lookup z).isSome)) M
  | _, _ => False
def dIxW (a : Addr) (kvs : List (Str × Int)) : DR2 := fun x y M Q => match x, y with
  | .ob b, .str z => b = a ∧ (match kvs.lookup z with
    | some i => Q (.int i) M
    | none => False)
  | _, _ => False
section
variable {X : Cx} {a : Addr} {kvs : List (Str × Int)} {e f : Expr} {te tf : DTE} {pos : Pos}
theorem WD.some {K : PySem.W.Frag} {w : World} (W : WD K w a kvs) (z : Str) : ∃ r, PySem.W.nsIn K a z = some r ∧ r.isSome = (kvs.lookup z).isSome := by
  cases e : kvs.lookup z with
  | none => exact ⟨_, W.miss z e, rfl⟩
  | some i =>
    obtain ⟨t, q⟩ := W.get z i e
    exact ⟨_, q, rfl⟩
theorem d_ninW (W : WD X.K X.w a kvs) (he : PE X e (LE X.K te)) (hf : PE X f (LE X.K tf)) (hm : behindInMarks .NotIn f = false := by first | rfl | with_unfolding_all rfl) : PT X (.Compare e [.NotIn] [f] pos) (LT X.K (dT (dOp (dInW true a kvs) te tf))) := by
  obtain ⟨es, n, D0⟩ := W.dict
  refine d_cmpT (op_notIn_kd D0) (fun H M x y dx dy Q' Q m rx ry h c => ?_) he hf hm
  unfold dInW at h
  split at h
  · obtain ⟨rfl, h⟩ := h
    rename_i z b
    obtain ⟨r, e1, e2⟩ := W.some z
    refine ⟨z, r, rx, ry, e1, ?_⟩
    rw [e2]
    exact c _ M _ H h (Stp.refl H M) rfl m
  · exact h.elim
theorem d_ixW (W : WD X.K X.w a kvs) (he : PE X e (LE X.K te)) (hf : PE X f (LE X.K tf)) (hs : PlainIx f := by exact fun _ _ => rfl) : PE X (.Subscript e f pos) (LE X.K (dOp (dIxW a kvs) te tf)) := by
  obtain ⟨es, n, D0⟩ := W.dict
  refine d_ix (r := fun x y H Q => ∃ (z : Str) (u0 : Value) (v0 : V), x = .ref a ∧ y = .str z ∧ PySem.W.nsIn X.K a z = some (some u0) ∧ RelV v0 u0 ∧ Q v0 H) ?_ (fun H M x y dx dy Q' Q m rx ry h c => ?_) he hf hs
  · intro value slice pins s σ H x y v u Q I rx ry h hs
    have h0 := h
    obtain ⟨z, u0, v0, rfl, rfl, _⟩ := h0
    have rx0 := rx
    cases rx
    exact tail_any (kd_type D0 I) PySem.F.slot_dict_getitem.lookup (op_item_kd D0 pins s σ H _ _ _ _ Q I rx0 ry h) hs
  · unfold dIxW at h
    split at h
    · obtain ⟨rfl, h⟩ := h
      split at h
      · rename_i z _ i ei
        obtain ⟨t, e1⟩ := W.get z i ei
        exact ⟨z, _, .int i, rx, ry, e1, ⟨t, rfl⟩, c _ M _ H h (Stp.refl H M) rfl m⟩
      · exact h.elim
    · exact h.elim
end

/-! ### repr of a truth value; x.split(); xs[::-1] -/
section
variable {X : Cx}
theorem call_reprB : CallR X (.builtin "repr") (fun xs H Q => ∃ b, xs = [.bl b] ∧ Q (.str (if b then "True" else "False")) H) := by
  intro pins s σ H xs us Q I r h
  obtain ⟨b, rfl, q⟩ := h
  cases r with
  | cons r1 rn =>
    cases rn
    cases (show _ = Value.bool b from r1)
    exact PySem.P.repr_of_bool ⟨.str _, H, I.tok _, ⟨_, rfl⟩, q⟩
end
def dReprB : DRC := fun ds M Q => match ds with
  | [.bl b] => Q (.str (if b then "True" else "False")) M
  | _ => False
theorem lc_reprB {K : PySem.W.Frag} : LRC K (fun xs H Q => ∃ b, xs = [.bl b] ∧ Q (.str (if b then "True" else "False")) H) dReprB := fun H M vs ds Q' Q m r h c => by
  unfold dReprB at h
  split at h
  · obtain ⟨v, rfl, rv⟩ := r.one
    unfold Rep at rv
    subst rv
    exact ⟨_, rfl, c _ M _ H h (Stp.refl H M) rfl m⟩
  · exact h.elim
def dRevL (te : DTE) : DTE := fun ρ M Q => te ρ M fun x M1 => match x with
  | .ob a => (match Msq M1 a with
    | some ds => ∀ p, M1 p = none → Q (.ob p) (mset M1 p (.ls ds.reverse))
    | none => False)
  | _ => False
section
variable {X : Cx} {e : Expr} {te : DTE} {k : Nat} {p1 p2 p3 pos : Pos}
theorem d_revL (he : PE X e (LE X.K te)) : PE X (.Subscript e (.Slice none none (some (.UnaryOp .USub (.Constant (.int 1) k p1) p2)) p3) pos) (LE X.K (dRevL te)) :=
  PE.weak (pe_revL he) fun σ H Q ⟨ρ, M, Q', rs, m, h, c⟩ => by
    refine ⟨ρ, M, _, rs, m, h, fun d M1 v H1 h1 s1 r1 m1 => ?_⟩
    cases d with
    | ob a =>
      dsimp only at h1
      cases e : Msq M1 a with
      | none =>
        rw [e] at h1
        exact h1.elim
      | some ds =>
        rw [e] at h1
        obtain ⟨vs, hs, r⟩ := msq_sq m1 e
        refine ⟨a, vs, r1, hs, fun p np => ?_⟩
        refine c _ _ _ _ (h1 p (m1.isNil np)) (s1.trans (Stp.new np)) rfl (m1.put (fun xs e => ?_) ⟨_, upd_same, RepL.mono (TK.new np) _ _ r.reverse⟩)
        rw [np] at e
        cases e
    | _ => exact h1.elim
end

/-! ### {k: v, ..} -/
def dPairs : List (DTE × DTE) → DSt → DM → (List (D × D) → DM → Prop) → Prop
  | [], _, M, Q => Q [] M
  | (tk, tv) :: r, ρ, M, Q => tk ρ M fun x M1 => tv ρ M1 fun y M2 => dPairs r ρ M2 fun ps M3 => Q ((x, y) :: ps) M3
def keyed : List (D × D) → Option (List (Key × D))
  | [] => some []
  | (x, y) :: r => match dkey x, keyed r with
    | some k, some kvs => some ((k, y) :: kvs)
    | _, _ => none
def mergeD (kvs more : List (Key × D)) : List (Key × D) := more.foldl (fun acc kv => putD acc kv.1 kv.2) kvs
def dDisp (ts : List (DTE × DTE)) : DTE := fun ρ M Q => dPairs ts ρ M fun ps M1 => match keyed ps with
  | some kvs => kvs.length ≤ 15 ∧ ∀ p, M1 p = none → Q (.ob p) (mset M1 p (.dc (mergeD [] kvs)))
  | none => False
section
variable {K : PySem.W.Frag}
theorem RepD.merge {H : Hp} : ∀ {more : List (Key × D)} {ws : List (Key × V)} {kvs : List (Key × D)} {vs : List (Key × V)}, RepD K H more ws → RepD K H kvs vs → RepD K H (mergeD kvs more) (mergeK vs ws)
  | [], ws, kvs, vs, r, r' => by
    rw [r.nilE]
    exact r'
  | kv :: more, ws, kvs, vs, r, r' => by
    obtain ⟨v, rest, rfl, r1, r2⟩ := r.case
    exact RepD.merge (more := more) (ws := rest) (kvs := putD kvs kv.1 kv.2) (vs := putK vs kv.1 v) r2 (r'.put r1)
/-- the pairs' values, and the keys they are -/
def Rep2 (K : PySem.W.Frag) (H : Hp) (ps : List (D × D)) (vs : List (V × V)) : Prop := RepL K H (ps.map (·.1)) (vs.map (·.1)) ∧ RepL K H (ps.map (·.2)) (vs.map (·.2))
theorem Rep2.case {H : Hp} {p : D × D} {ps : List (D × D)} {vs : List (V × V)} (r : Rep2 K H (p :: ps) vs) : ∃ x y rest, vs = (x, y) :: rest ∧ Rep K H p.1 x ∧ Rep K H p.2 y ∧ Rep2 K H ps rest := by
  cases vs with
  | nil =>
    obtain ⟨r1, _⟩ := r
    rw [List.map_cons, List.map_nil] at r1
    unfold RepL at r1
    obtain ⟨v, r, e, _⟩ := r1
    cases e
  | cons q rest =>
    obtain ⟨r1, r2⟩ := r
    rw [List.map_cons, List.map_cons] at r1 r2
    unfold RepL at r1 r2
    obtain ⟨v, r, e, a1, a2⟩ := r1
    obtain ⟨v', r', e', b1, b2⟩ := r2
    cases e
    cases e'
    exact ⟨q.1, q.2, rest, rfl, a1, b1, a2, b2⟩
theorem keyed_rep {H : Hp} : ∀ {ps : List (D × D)} {kvs : List (Key × D)} {vs : List (V × V)}, keyed ps = some kvs → Rep2 K H ps vs → ∃ ws : List (Key × V), vs = ws.map (fun kv => (kV kv.1, kv.2)) ∧ RepD K H kvs ws
  | [], kvs, vs, e, r => by
    cases e
    have q := r.1.length
    have : vs = [] := by
      cases vs with
      | nil => rfl
      | cons a b => simp at q
    subst this
    exact ⟨[], rfl, RepD.nil⟩
  | (x, y) :: ps, kvs, vs, e, r => by
    obtain ⟨a, b, rest, rfl, r1, r2, r3⟩ := r.case
    unfold keyed at e
    split at e
    · rename_i k kv2 ek e2
      cases e
      obtain ⟨ws, rfl, q⟩ := keyed_rep e2 r3
      exact ⟨(k, b) :: ws, by rw [List.map_cons, dkey_rep ek r1], RepD.cons r2 q⟩
    · cases e
theorem pairs_lift {P : Addr} : ∀ {ts : List (DTE × DTE)} {σ : L2.St} {H : Hp} {Q : List (V × V) → Hp → Prop} {ρ : DSt} {M : DM} {Q' : List (D × D) → DM → Prop}, RS K H ρ σ → Mem K H M → M P = none → H P = some (.dK []) → dPairs ts ρ M Q' →
    (∀ ps M' vs H', Q' ps M' → Stp H M H' M' → Rep2 K H' ps vs → Mem K H' M' → Q vs H') → tPairs (ts.map fun p => (LE K p.1, LE K p.2)) σ H Q
  | [], σ, H, Q, ρ, M, Q', rs, m, n, e, h, c => c [] M [] H h (Stp.refl H M) ⟨RepL.nil, RepL.nil⟩ m
  | (tk, tv) :: r, σ, H, Q, ρ, M, Q', rs, m, n, e, h, c => by
    refine ⟨ρ, M, _, rs, m, h, fun d M1 x H1 h1 s1 r1 m1 => ?_⟩
    have n1 := s1.out n e
    have e1 := s1.frame P _ e n
    refine ⟨ρ, M1, _, rs.mono (tk_of m s1), m1, h1, fun d2 M2 y H2 h2 s2 r2 m2 => ?_⟩
    have n2 := s2.out n1 e1
    have e2 := s2.frame P _ e1 n1
    refine pairs_lift (rs.mono (tk_of m (s1.trans s2))) m2 n2 e2 h2 fun ps M3 vs H3 q3 s3 r3 m3 => ?_
    have t3 := tk_of m2 s3
    refine c _ M3 _ H3 q3 ((s1.trans s2).trans s3) ⟨?_, ?_⟩ m3
    · exact RepL.cons (Rep.mono ((tk_of m1 s2).trans t3) _ _ r1) r3.1
    · exact RepL.cons (Rep.mono t3 _ _ r2) r3.2
end
section
variable {X : Cx} {pos : Pos} {keys : List (Option Expr)} {values : List Expr} {ts : List (DTE × DTE)}
theorem d_disp (h : PPs X pos keys values (ts.map fun p => (LE X.K p.1, LE X.K p.2))) (hall : keys.all (·.isSome) = true := by rfl) (hl : keys.length = values.length := by rfl) (h0 : keys ≠ [] := by simp) (h15 : keys.length ≤ 15 := by decide) :
    PE X (.Dict keys values pos) (LE X.K (dDisp ts)) := PE.weak (pe_disp h hall hl h0 h15) fun σ H Q ⟨ρ, M, Q', rs, m, h, c⟩ => fun P nP => by
  have eP : upd H P (HO.dK []) P = some (.dK []) := upd_same
  have s0 : Stp H M (upd H P (.dK [])) M := Stp.new0 nP
  have m0 : Mem X.K (upd H P (.dK [])) M := m.new0 nP
  refine pairs_lift (P := P) (rs.mono (tk_of m s0)) m0 (m.isNil nP) eP h fun ps M1 vs H1 q1 s1 r1 m1 => ?_
  split at q1
  · rename_i kvs ek
    obtain ⟨ws, rfl, rd⟩ := keyed_rep ek r1
    have n1 := s1.out (m.isNil nP) eP
    have e1 := s1.frame P _ eP (m.isNil nP)
    have tf : ∀ xs, H1 P ≠ some (.tup xs) := fun xs e => by
      rw [e1] at e
      cases e
    refine ⟨e1, ws, rfl, by rw [rd.length]; exact q1.1, ?_⟩
    have st : Stp H M H1 M1 := s0.trans s1
    refine c _ _ _ _ (q1.2 P n1) ((st.hid (o := .dK (mergeK [] ws)) nP).show nP) rfl (m1.put tf ⟨_, upd_same, (RepD.merge rd RepD.nil).mono (TK.upd tf)⟩)
  · exact q1.elim
end

/-! ### dict(xs) of pairs, sorted(d) -/
def pairOf : D → Option (Key × D)
  | .tup [x, y] => (dkey x).map (·, y)
  | _ => none
def pairsOf : List D → Option (List (Key × D))
  | [] => some []
  | d :: r => match pairOf d, pairsOf r with
    | some p, some ps => some (p :: ps)
    | _, _ => none
def dDictP : DRC := fun ds M Q => match ds with
  | [.ob a] => (match (Msq M a).bind pairsOf with
    | some kvs => ∀ p, M p = none → Q (.ob p) (mset M p (.dc (mergeD [] kvs)))
    | none => False)
  | _ => False
theorem pairs_rep {K : PySem.W.Frag} {H : Hp} : ∀ {ds : List D} {kvs : List (Key × D)} {vs : List V}, pairsOf ds = some kvs → RepL K H ds vs →
    ∃ (ps : List Addr) (ws : List (Key × V)), vs = ps.map V.ref ∧ Paired (fun p kv => SqT K H p [kV kv.1, kv.2]) ps ws ∧ RepD K H kvs ws
  | [], kvs, vs, e, r => by
    cases e
    unfold RepL at r
    subst r
    exact ⟨[], [], rfl, .nil, RepD.nil⟩
  | d :: ds, kvs, vs, e, r => by
    unfold RepL at r
    obtain ⟨v, vr, rfl, r1, r2⟩ := r
    unfold pairsOf at e
    split at e
    · rename_i p ps ep es
      cases e
      obtain ⟨qs, ws, rfl, pr, rd⟩ := pairs_rep es r2
      unfold pairOf at ep
      split at ep
      · rename_i x y
        cases ek : dkey x with
        | none =>
          rw [ek] at ep
          cases ep
        | some k =>
          rw [ek] at ep
          cases ep
          unfold Rep at r1
          obtain ⟨a, us, rfl, ha, r1⟩ := r1
          obtain ⟨v1, v2, rfl, x1, x2⟩ := r1.two
          rw [dkey_rep ek x1] at ha
          exact ⟨a :: qs, (k, v2) :: ws, rfl, .cons ha.sq pr, RepD.cons x2 rd⟩
      · cases ep
    · cases e
theorem lc_dictP {K : PySem.W.Frag} : LRC K (fun xs H Q => ∃ (a : Addr) (ps : List Addr) (kvs : List (Key × V)), xs = [.ref a] ∧ SqL K H a (ps.map V.ref) ∧ Paired (fun p kv => SqT K H p [kV kv.1, kv.2]) ps kvs ∧
    ∀ p, H p = none → Q (.ref p) (upd H p (.dK (mergeK [] kvs)))) dDictP := fun H M vs ds Q' Q m r h c => by
  unfold dDictP at h
  split at h
  · rename_i a
    split at h
    · rename_i kvs ek
      obtain ⟨v, rfl, rv⟩ := r.one
      unfold Rep at rv
      subst rv
      cases ea : Msq M a with
      | none =>
        rw [ea] at ek
        cases ek
      | some xs =>
        rw [ea] at ek
        obtain ⟨ws, hs, r1⟩ := msq_sq m ea
        obtain ⟨qs, ks, rfl, pr, rd⟩ := pairs_rep ek r1
        refine ⟨a, qs, ks, rfl, hs, pr, fun p np => ?_⟩
        refine c _ _ _ _ (h p (m.isNil np)) (Stp.new np) rfl (m.put (fun xs e => ?_) ⟨_, upd_same, (RepD.merge rd RepD.nil).mono (TK.new np)⟩)
        rw [np] at e
        cases e
    · exact h.elim
  · exact h.elim
def textKeys : List (Key × D) → Option (List Str)
  | [] => some []
  | (.inr s, _) :: r => (textKeys r).map (s :: ·)
  | _ => none
theorem textKeys_eq : ∀ {kvs : List (Key × D)} {ss : List Str}, textKeys kvs = some ss → kvs.map (·.1) = ss.map Sum.inr
  | [], ss, e => by
    cases e
    rfl
  | (.inr s, d) :: r, ss, e => by
    unfold textKeys at e
    cases q : textKeys r with
    | none =>
      rw [q] at e
      cases e
    | some rs =>
      rw [q] at e
      cases e
      rw [List.map_cons, List.map_cons, textKeys_eq q]
  | (.inl i, d) :: r, ss, e => by cases e
def dSortedD : DRC := fun ds M Q => match ds with
  | [.ob a] => (match M a with
    | some (.dc kvs) => (match textKeys kvs with
      | some ss => ss.length < 64 ∧ ∀ (ys : List Str) (p : Addr), ys.Perm ss → M p = none → Q (.ob p) (mset M p (.ls (ys.map D.str)))
      | none => False)
    | _ => False)
  | _ => False
theorem lc_sortedD {K : PySem.W.Frag} : LRC K (fun xs H Q => ∃ (a : Addr) (kvs : List (Key × V)) (ks : List Str), xs = [.ref a] ∧ Rd H a (.dK kvs) ∧ kvs.map (·.1) = ks.map Sum.inr ∧ ks.length < 64 ∧
    ∀ (ys : List Str) (p : Addr), ys.Perm ks → sortedS ys = true → H p = none → Q (.ref p) (upd H p (.lst (ys.map V.str)))) dSortedD := fun H M vs ds Q' Q m r h c => by
  unfold dSortedD at h
  split at h
  · rename_i a
    split at h
    · rename_i kvs ea
      split at h
      · rename_i ss es
        obtain ⟨v, rfl, rv⟩ := r.one
        unfold Rep at rv
        subst rv
        obtain ⟨ws, e1, rd⟩ := m a _ ea
        refine ⟨a, ws, ss, rfl, .inl e1, by rw [← rd.1]; exact textKeys_eq es, h.1, fun ys p hp _ np => ?_⟩
        refine c _ _ _ _ (h.2 ys p hp (m.isNil np)) (Stp.new np) rfl (m.put (fun xs e => ?_) ⟨_, upd_same, RepL.of_strs ys⟩)
        rw [np] at e
        cases e
      · exact h.elim
    · exact h.elim
  · exact h.elim
end DL

/-! DLi: comprehensions of two fors, dict comprehensions, calls by keyword. -/
namespace DL
open PySem PySem.Spec PyProof.Rows L2

/-! ### [.. for .. for ..] -/
def dComp2 (stay : DM → Prop) (tt : DTT) (ti1 : DTI) (j : Nat) (tt1 : DTT) (te : DTE) (vs1 : List Nat) (ρ : DSt) (i : Nat) (Q : List D → DM → Prop) : List D → List D → DM → Prop
  | [], acc, M => Q acc M
  | d :: r, acc, M => tt (ρ.set i (some d)) M fun b M1 => if b = true then ti1 (ρ.set i (some d)) M1 fun all1 stay1 M2 =>
      dComp stay1 tt1 te (dwipe (ρ.set i (some d)) vs1) j (fun acc2 M3 => stay M3 ∧ dComp2 stay tt ti1 j tt1 te vs1 ρ i Q r acc2 M3) all1 acc M2 else stay M1 ∧ dComp2 stay tt ti1 j tt1 te vs1 ρ i Q r acc M1
def dLc2 (ti : DTI) (i : Nat) (tt : DTT) (ti1 : DTI) (j : Nat) (tt1 : DTT) (te : DTE) (vs vs1 : List Nat) : DTE := fun ρ M Q => ti ρ M fun all stay M1 =>
  dComp2 stay tt ti1 j tt1 te vs1 (dwipe ρ vs) i (fun acc M2 => ∀ p, M2 p = none → Q (.ob p) (mset M2 p (.ls acc))) all [] M1
theorem drop_get {α : Type} {all : List α} {j : Nat} {d : α} (ed : all[j]? = some d) : all.drop j = d :: all.drop (j + 1) := by
  obtain ⟨hl, e⟩ := List.getElem?_eq_some_iff.mp ed
  rw [← e]
  exact List.drop_eq_getElem_cons hl
section
variable {K : PySem.W.Frag}
theorem le_lc2 {ti ti1 : DTI} {i j : Nat} {tt tt1 : DTT} {te : DTE} {vs vs1 : List Nat} (hi : i ∈ vs) (hj : j ∈ vs1) : ∀ σ H Q, LE K (dLc2 ti i tt ti1 j tt1 te vs vs1) σ H Q → tLc2 (LI K ti) (gName i) (LT K tt) (LI K ti1) (gName j) (LT K tt1) (LE K te) vs vs1 σ H Q := fun σ H Q ⟨ρ, M, Q', rs, m, h, c⟩ => by
  refine ⟨ρ, M, _, rs, m, h, fun all stay M1 H1 J hst h1 s1 m1 st1 hh1 w => fun P nP => ?_⟩
  have t1 := tk_of m s1
  have rsw : RS K H1 (dwipe ρ vs) (L2.wipe σ vs) := (rs.mono t1).wipe vs
  let Fin : List D → DM → Prop := fun acc M2 => ∀ p, M2 p = none → Q' (.ob p) (mset M2 p (.ls acc))
  let Out : Nat → Hp → Prop := fun k H' => ∃ M' acc ws, Mem K H' M' ∧ Stp H1 M1 H' M' ∧ hst H' ∧ stay M' ∧ M' P = none ∧ H' P = some (.lst ws) ∧ RepL K H' acc ws ∧ dComp2 stay tt ti1 j tt1 te vs1 (dwipe ρ vs) i Fin (all.drop k) acc M'
  refine ⟨fun k n H' => n = all.length - k ∧ k ≤ all.length ∧ Out k H', ⟨all.length, by simp, Nat.zero_le _, M1, [], [], m1.new0 nP, Stp.new0 nP, w.mono _ _ hh1 (TK.new nP), st1, m1.isNil nP, upd_same, RepL.nil, h1⟩, ?_⟩
  rintro k n H2 ⟨rfl, hk, M2, acc, ws, m2, s12, hh2, st2, n2, e2, r2, q2⟩
  by_cases hlt : k < all.length
  · refine .inr ⟨w.go k H2 M2 hh2 m2 st2 hlt, fun H' => k + 1 ≤ all.length ∧ Out (k + 1) H', fun H' ⟨z, q⟩ => ⟨all.length - (k + 1), by omega, rfl, z, q⟩, fun x H3 y => ?_⟩
    obtain ⟨d, ed, rd, m3, s3⟩ := w.yld k H2 M2 x H3 hh2 m2 st2 hlt y
    rw [drop_get ed] at q2
    have t23 := tk_of m2 s3
    have s13 : Stp H1 M1 H3 M2 := s12.trans s3
    have rs3 : RS K H3 ((dwipe ρ vs).set i (some d)) ((L2.wipe σ vs).set i (some x)) := (rsw.mono (tk_of m1 s13)).set i rd
    have eP3 : H3 P = some (.lst ws) := s3.frame P _ e2 n2
    refine ⟨by rw [wipe_set hi, wipe_wipe], ⟨_, M2, _, rs3, m3, q2, fun b M4 H4 q4 s4 m4 => ?_⟩⟩
    have t34 := tk_of m3 s4
    have nP4 : M4 P = none := s4.out n2 eP3
    have eP4 : H4 P = some (.lst ws) := s4.frame P _ eP3 n2
    have s14 : Stp H1 M1 H4 M4 := s13.trans s4
    have r4 := RepL.mono (t23.trans t34) _ _ r2
    cases b with
    | false => exact ⟨hlt, M4, acc, ws, m4, s14, w.mono _ _ hh1 (tk_of m1 s14), q4.1, nP4, eP4, r4, q4.2⟩
    | true =>
      have rs4 := rs3.mono t34
      refine ⟨_, M4, _, rs4, m4, q4, fun all1 stay1 M5 H5 J1 hst1 h5 s5 m5 st5 hh5 w1 => ?_⟩
      have nP5 : M5 P = none := s5.out nP4 eP4
      have eP5 : H5 P = some (.lst ws) := s5.frame P _ eP4 nP4
      have s15 : Stp H1 M1 H5 M5 := s14.trans s5
      have r5 := RepL.mono (tk_of m4 s5) _ _ r4
      have rs5 : RS K H5 (dwipe ((dwipe ρ vs).set i (some d)) vs1) (L2.wipe ((L2.wipe σ vs).set i (some x)) vs1) := (rs4.mono (tk_of m4 s5)).wipe vs1
      let Fin1 : List D → DM → Prop := fun acc2 M3 => stay M3 ∧ dComp2 stay tt ti1 j tt1 te vs1 (dwipe ρ vs) i Fin (all.drop (k + 1)) acc2 M3
      let In : Nat → Hp → Prop := fun l H' => ∃ M' acc ws, Mem K H' M' ∧ Stp H1 M1 H' M' ∧ TK H5 H' ∧ stay1 M' ∧ M' P = none ∧ H' P = some (.lst ws) ∧ RepL K H' acc ws ∧ dComp stay1 tt1 te (dwipe ((dwipe ρ vs).set i (some d)) vs1) j Fin1 (all1.drop l) acc M'
      refine ⟨fun l n H' => n = all1.length - l ∧ l ≤ all1.length ∧ In l H', ⟨all1.length, by simp, Nat.zero_le _, M5, acc, ws, m5, s15, TK.refl _, st5, nP5, eP5, r5, h5⟩, ?_⟩
      rintro l n H6 ⟨rfl, hl, M6, acc6, ws6, m6, s16, tk56, st6, nP6, eP6, r6, q6⟩
      have hh6 := w1.mono _ _ hh5 tk56
      by_cases hl1 : l < all1.length
      · refine .inr ⟨w1.go l H6 M6 hh6 m6 st6 hl1, fun H' => l + 1 ≤ all1.length ∧ In (l + 1) H', fun H' ⟨z, q⟩ => ⟨all1.length - (l + 1), by omega, rfl, z, q⟩, fun x1 H7 y1 => ?_⟩
        obtain ⟨d1, ed1, rd1, m7, s7⟩ := w1.yld l H6 M6 x1 H7 hh6 m6 st6 hl1 y1
        rw [drop_get ed1] at q6
        have t67 := tk_of m6 s7
        have eP7 : H7 P = some (.lst ws6) := s7.frame P _ eP6 nP6
        have s17 : Stp H1 M1 H7 M6 := s16.trans s7
        have rs7 : RS K H7 ((dwipe ((dwipe ρ vs).set i (some d)) vs1).set j (some d1)) ((L2.wipe ((L2.wipe σ vs).set i (some x)) vs1).set j (some x1)) := (rs5.mono (tk56.trans t67)).set j rd1
        refine ⟨by rw [wipe_set hj, wipe_wipe], ⟨_, M6, _, rs7, m7, q6, fun b8 M8 H8 q8 s8 m8 => ?_⟩⟩
        have t78 := tk_of m7 s8
        have nP8 : M8 P = none := s8.out nP6 eP7
        have eP8 : H8 P = some (.lst ws6) := s8.frame P _ eP7 nP6
        have s18 : Stp H1 M1 H8 M8 := s17.trans s8
        have r8 := RepL.mono (t67.trans t78) _ _ r6
        have t58 := (tk56.trans t67).trans t78
        cases b8 with
        | false => exact ⟨hl1, M8, acc6, ws6, m8, s18, t58, q8.1, nP8, eP8, r8, q8.2⟩
        | true =>
          refine ⟨_, M8, _, rs7.mono t78, m8, q8, fun d9 M9 y9 H9 ⟨z9, q9a, q9b⟩ s9 r9 m9 => ?_⟩
          have t89 := tk_of m8 s9
          have nP9 : M9 P = none := s9.out nP8 eP8
          have eP9 : H9 P = some (.lst ws6) := s9.frame P _ eP8 nP8
          have rA : RepL K H9 acc6 ws6 := RepL.mono t89 _ _ r8
          refine ⟨ws6, eP9, by rw [rA.length]; exact z9, ?_⟩
          have tf : ∀ xs, H9 P ≠ some (.tup xs) := fun xs e => by
            rw [eP9] at e
            cases e
          have tU := TK.upd (o := .lst (ws6 ++ [y9])) tf
          exact ⟨hl1, M9, acc6 ++ [d9], ws6 ++ [y9], m9.hid nP9 tf, (s18.trans s9).hid nP, (t58.trans t89).trans tU, q9a, nP9, upd_same, RepL.mono tU _ _ (rA.append (RepL.cons r9 RepL.nil)), q9b⟩
      · have e0 : l = all1.length := by omega
        subst e0
        rw [List.drop_length] at q6
        exact .inl ⟨w1.stop _ H6 M6 hh6 m6 st6 (Nat.le_refl _), hlt, M6, acc6, ws6, m6, s16, w.mono _ _ hh1 (tk_of m1 s16), q6.1, nP6, eP6, r6, q6.2⟩
  · have e0 : k = all.length := by omega
    subst e0
    rw [List.drop_length] at q2
    refine .inl ⟨w.stop _ H2 M2 hh2 m2 st2 (Nat.le_refl _), ?_⟩
    exact c _ _ _ _ (q2 P n2) (s1.trans (s12.show nP)) rfl (m2.show ⟨ws, e2, r2⟩)
end
section
variable {X : Cx} {elt tg iter tg1 iter1 : Expr} {ifs ifs1 : List Expr} {scope : Scope} {own : List (Str × Nat)} {vs1 : List Nat} {pos : Pos} {ti ti1 : DTI} {i j : Nat} {tt tt1 : DTT} {te : DTE}
theorem d_lc2 (hc : X.calm = true) (hN : X.N.Nodup) (hi : PI X tg iter (LI X.K ti)) (ok : BlkOk X.N X.env.scope scope own) (hv : i ∈ own.map (·.2)) (hv1 : ∀ i ∈ vs1, i ∈ own.map (·.2)) (hj : j ∈ vs1)
    (hg : ∀ (s : Shared) (H : Hp) (C : Addr) (cl : List (Str × Addr)) (fp : List Addr), PG (X.blk s H scope (compEnvC scope cl C X.env) fp) tg (gName i)) (ht : ∀ (s : Shared) (H : Hp) (C : Addr) (cl : List (Str × Addr)) (fp : List Addr), PTs (X.blk s H scope (compEnvC scope cl C X.env) fp) ifs (LT X.K tt))
    (hi1 : ∀ (s : Shared) (H : Hp) (C : Addr) (cl : List (Str × Addr)) (fp : List Addr), PI (X.blk s H scope (compEnvC scope cl C X.env) fp) tg1 iter1 (LI X.K ti1))
    (hg1 : ∀ (s : Shared) (H : Hp) (C : Addr) (cl : List (Str × Addr)) (fp : List Addr), PG (X.blk s H scope (compEnvC scope cl C X.env) fp) tg1 (gName j)) (ht1 : ∀ (s : Shared) (H : Hp) (C : Addr) (cl : List (Str × Addr)) (fp : List Addr), PTs (X.blk s H scope (compEnvC scope cl C X.env) fp) ifs1 (LT X.K tt1))
    (he : ∀ (s : Shared) (H : Hp) (C : Addr) (cl : List (Str × Addr)) (fp : List Addr), PE (X.blk s H scope (compEnvC scope cl C X.env) fp) elt (LE X.K te)) (hs : ∀ x, foldedSetIterable iter X.env x = pure x := by intro _; rfl) (hs1 : ∀ env x, foldedSetIterable iter1 env x = pure x := by intro _ _; rfl) :
    PE X (.ListComp elt [⟨tg, iter, ifs, 0⟩, ⟨tg1, iter1, ifs1, 0⟩] scope pos) (LE X.K (dLc2 ti i tt ti1 j tt1 te (own.map (·.2)) vs1)) := PE.weak (pe_lc2 hc hN hi ok hv1 hg ht hi1 hg1 ht1 he hs hs1) (le_lc2 hv hj)
theorem ds_setLc2 {k : Nat} {y : Str} {py spos : Pos} (hc : X.calm = true) (hN : X.N.Nodup) (hi : PI X tg iter (LI X.K ti)) (ok : BlkOk X.N X.env.scope scope own) (hv : i ∈ own.map (·.2)) (hv1 : ∀ i ∈ vs1, i ∈ own.map (·.2)) (hj : j ∈ vs1)
    (hg : ∀ (s : Shared) (H : Hp) (C : Addr) (cl : List (Str × Addr)) (fp : List Addr), PG (X.blk s H scope (compEnvC scope cl C X.env) fp) tg (gName i)) (ht : ∀ (s : Shared) (H : Hp) (C : Addr) (cl : List (Str × Addr)) (fp : List Addr), PTs (X.blk s H scope (compEnvC scope cl C X.env) fp) ifs (LT X.K tt))
    (hi1 : ∀ (s : Shared) (H : Hp) (C : Addr) (cl : List (Str × Addr)) (fp : List Addr), PI (X.blk s H scope (compEnvC scope cl C X.env) fp) tg1 iter1 (LI X.K ti1))
    (hg1 : ∀ (s : Shared) (H : Hp) (C : Addr) (cl : List (Str × Addr)) (fp : List Addr), PG (X.blk s H scope (compEnvC scope cl C X.env) fp) tg1 (gName j)) (ht1 : ∀ (s : Shared) (H : Hp) (C : Addr) (cl : List (Str × Addr)) (fp : List Addr), PTs (X.blk s H scope (compEnvC scope cl C X.env) fp) ifs1 (LT X.K tt1))
    (he : ∀ (s : Shared) (H : Hp) (C : Addr) (cl : List (Str × Addr)) (fp : List Addr), PE (X.blk s H scope (compEnvC scope cl C X.env) fp) elt (LE X.K te))
    (hsw : swapsWith (.ListComp elt [⟨tg, iter, ifs, 0⟩, ⟨tg1, iter1, ifs1, 0⟩] scope pos) (some (.Name y py)) spos.line X.env = pure true) (hy : X.N[k]? = some y := by rfl) (hyl : X.env.scope.names.lookup y = some .local := by rfl) (hs : ∀ x, foldedSetIterable iter X.env x = pure x := by intro _; rfl) (hs1 : ∀ env x, foldedSetIterable iter1 env x = pure x := by intro _ _; rfl) :
    PS X (.Assign [.Name y py] (.ListComp elt [⟨tg, iter, ifs, 0⟩, ⟨tg1, iter1, ifs1, 0⟩] scope pos) spos) (LS X.K (dAsg (dLc2 ti i tt ti1 j tt1 te (own.map (·.2)) vs1) (dName k))) := PS.weak (ps_setLc2 hc hN hy hyl hsw hi ok hv1 hg ht hi1 hg1 ht1 he hs hs1) fun E σ H q => by
  have q2 := le_asg (K := X.K) (te := dLc2 ti i tt ti1 j tt1 te (own.map (·.2)) vs1) (g := dName k) lg_name E σ H q
  exact le_lc2 hv hj _ _ _ q2
end

/-! ### {k: v for ..} -/
def dDcL (stay : DM → Prop) (tt : DTT) (tk tv : DTE) (ρ : DSt) (i : Nat) (Q : List (Key × D) → DM → Prop) : List D → List (Key × D) → DM → Prop
  | [], acc, M => Q acc M
  | d :: r, acc, M => tt (ρ.set i (some d)) M fun b M1 => if b = true then tk (ρ.set i (some d)) M1 fun x M2 => tv (ρ.set i (some d)) M2 fun y M3 => (match dkey x with
      | some k => acc.length < sizeLine ∧ stay M3 ∧ dDcL stay tt tk tv ρ i Q r (putD acc k y) M3
      | none => False) else stay M1 ∧ dDcL stay tt tk tv ρ i Q r acc M1
def dDc (ti : DTI) (i : Nat) (tt : DTT) (tk tv : DTE) (vs : List Nat) : DTE := fun ρ M Q => ti ρ M fun all stay M1 => dDcL stay tt tk tv (dwipe ρ vs) i (fun acc M2 => ∀ p, M2 p = none → Q (.ob p) (mset M2 p (.dc acc))) all [] M1
section
variable {K : PySem.W.Frag}
theorem le_dc {ti : DTI} {i : Nat} {tt : DTT} {tk tv : DTE} {vs : List Nat} (hi : i ∈ vs) : ∀ σ H Q, LE K (dDc ti i tt tk tv vs) σ H Q → tDc (LI K ti) (gName i) (LT K tt) (LE K tk) (LE K tv) vs σ H Q := fun σ H Q ⟨ρ, M, Q', rs, m, h, c⟩ => by
  refine ⟨ρ, M, _, rs, m, h, fun all stay M1 H1 J hst h1 s1 m1 st1 hh1 w => fun P nP => ?_⟩
  have t1 := tk_of m s1
  have rsw : RS K H1 (dwipe ρ vs) (L2.wipe σ vs) := (rs.mono t1).wipe vs
  let Out : Nat → Hp → Prop := fun j H' => ∃ M' acc ws, Mem K H' M' ∧ Stp H1 M1 H' M' ∧ hst H' ∧ stay M' ∧ M' P = none ∧ H' P = some (.dK ws) ∧ RepD K H' acc ws ∧ dDcL stay tt tk tv (dwipe ρ vs) i (fun acc M2 => ∀ p, M2 p = none → Q' (.ob p) (mset M2 p (.dc acc))) (all.drop j) acc M'
  refine ⟨fun j n H' => n = all.length - j ∧ j ≤ all.length ∧ Out j H', ⟨all.length, by simp, Nat.zero_le _, M1, [], [], m1.new0 nP, Stp.new0 nP, w.mono _ _ hh1 (TK.new nP), st1, m1.isNil nP, upd_same, RepD.nil, h1⟩, ?_⟩
  rintro j n H2 ⟨rfl, hj, M2, acc, ws, m2, s12, hh2, st2, n2, e2, r2, q2⟩
  by_cases hlt : j < all.length
  · refine .inr ⟨w.go j H2 M2 hh2 m2 st2 hlt, fun H' => j + 1 ≤ all.length ∧ Out (j + 1) H', fun H' ⟨z, q⟩ => ⟨all.length - (j + 1), by omega, rfl, z, q⟩, fun x H3 y => ?_⟩
    obtain ⟨d, ed, rd, m3, s3⟩ := w.yld j H2 M2 x H3 hh2 m2 st2 hlt y
    rw [drop_get ed] at q2
    have t23 := tk_of m2 s3
    have s13 : Stp H1 M1 H3 M2 := s12.trans s3
    have rs3 : RS K H3 ((dwipe ρ vs).set i (some d)) ((L2.wipe σ vs).set i (some x)) := (rsw.mono (tk_of m1 s13)).set i rd
    have eP3 : H3 P = some (.dK ws) := s3.frame P _ e2 n2
    refine ⟨by rw [wipe_set hi, wipe_wipe], ⟨_, M2, _, rs3, m3, q2, fun b M4 H4 q4 s4 m4 => ?_⟩⟩
    have t34 := tk_of m3 s4
    have nP4 : M4 P = none := s4.out n2 eP3
    have eP4 : H4 P = some (.dK ws) := s4.frame P _ eP3 n2
    have s14 : Stp H1 M1 H4 M4 := s13.trans s4
    have r4 := r2.mono (t23.trans t34)
    cases b with
    | false => exact ⟨hlt, M4, acc, ws, m4, s14, w.mono _ _ hh1 (tk_of m1 s14), q4.1, nP4, eP4, r4, q4.2⟩
    | true =>
      refine ⟨_, M4, _, rs3.mono t34, m4, q4, fun d5 M5 y5 H5 h5 s5 r5 m5 => ?_⟩
      have t45 := tk_of m4 s5
      have nP5 : M5 P = none := s5.out nP4 eP4
      have eP5 : H5 P = some (.dK ws) := s5.frame P _ eP4 nP4
      refine ⟨_, M5, _, rs3.mono (t34.trans t45), m5, h5, fun d6 M6 y6 H6 h6 s6 r6 m6 => ?_⟩
      have t56 := tk_of m5 s6
      have nP6 : M6 P = none := s6.out nP5 eP5
      have eP6 : H6 P = some (.dK ws) := s6.frame P _ eP5 nP5
      have rA := r4.mono (t45.trans t56)
      cases ek : dkey d5 with
      | none =>
        rw [ek] at h6
        exact h6.elim
      | some k =>
        rw [ek] at h6
        obtain ⟨z6, q6a, q6b⟩ := h6
        refine ⟨ws, k, dkey_rep ek r5, eP6, by rw [rA.length]; exact z6, ?_⟩
        have tf : ∀ xs, H6 P ≠ some (.tup xs) := fun xs e => by
          rw [eP6] at e
          cases e
        have tU := TK.upd (o := .dK (putK ws k y6)) tf
        have s16 : Stp H1 M1 H6 M6 := (s14.trans s5).trans s6
        exact ⟨hlt, M6, putD acc k d6, putK ws k y6, m6.hid nP6 tf, s16.hid nP, w.mono _ _ hh1 ((tk_of m1 s16).trans tU), q6a, nP6, upd_same, (rA.put r6).mono tU, q6b⟩
  · have e0 : j = all.length := by omega
    subst e0
    rw [List.drop_length] at q2
    refine .inl ⟨w.stop _ H2 M2 hh2 m2 st2 (Nat.le_refl _), ?_⟩
    exact c _ _ _ _ (q2 P n2) (s1.trans (s12.show nP)) rfl (m2.show ⟨ws, e2, r2⟩)
end
section
variable {X : Cx} {kx vx tg iter : Expr} {ifs : List Expr} {scope : Scope} {own : List (Str × Nat)} {pos : Pos} {ti : DTI} {i : Nat} {tt : DTT} {tk tv : DTE}
theorem d_dc (hc : X.calm = true) (hN : X.N.Nodup) (hi : PI X tg iter (LI X.K ti)) (ok : BlkOk X.N X.env.scope scope own) (hv : i ∈ own.map (·.2))
    (hg : ∀ (s : Shared) (H : Hp) (C : Addr) (cl : List (Str × Addr)) (fp : List Addr), PG (X.blk s H scope (compEnvC scope cl C X.env) fp) tg (gName i)) (ht : ∀ (s : Shared) (H : Hp) (C : Addr) (cl : List (Str × Addr)) (fp : List Addr), PTs (X.blk s H scope (compEnvC scope cl C X.env) fp) ifs (LT X.K tt))
    (hk : ∀ (s : Shared) (H : Hp) (C : Addr) (cl : List (Str × Addr)) (fp : List Addr), PE (X.blk s H scope (compEnvC scope cl C X.env) fp) kx (LE X.K tk))
    (he : ∀ (s : Shared) (H : Hp) (C : Addr) (cl : List (Str × Addr)) (fp : List Addr), PE (X.blk s H scope (compEnvC scope cl C X.env) fp) vx (LE X.K tv)) (hs : ∀ x, foldedSetIterable iter X.env x = pure x := by intro _; rfl) :
    PE X (.DictComp kx vx [⟨tg, iter, ifs, 0⟩] scope pos) (LE X.K (dDc ti i tt tk tv (own.map (·.2)))) := PE.weak (pe_dc hc hN hi ok hg ht hk he hs) (le_dc hv)
end

/-! ### f(k = v) -/
section
variable {X : Cx} {k : Nat} {f : Addr} {fd : FuncData} {ps ks : List Str} {sp : DSp} {x : Str} {p pos kpos : Pos} {e : Expr} {nm : Option Str} {t : DTE}
theorem d_callK1 {g : List Value → List Value → List Value} (F : FnOk X.prog X.w X.K X.mg X.base CX0 k f fd ps (LSp X.K sp)) (hr : Room k X.A) (hg : Gl X x) (hm : X.mg x = some (.ref f)) (hk : PySem.W.keepIn X.K (.ref f) = true)
    (hb : KBinds X.K fd ps ks g (fun _ ws => ws)) (ha : PE X e (LE X.K t)) (hdb : (x == ("__debug__" : Str)) = false := by decide) (hall : (backToKw pos (keywordEach [⟨nm, e, kpos⟩] X.env)).all (·.1.isSome) = true := by rfl) (hks : (backToKw pos (keywordEach [⟨nm, e, kpos⟩] X.env)).filterMap (·.1) = ks := by rfl)
    (hpl : ((backTo pos (starEach [] X.env)).any (·.1) || (backToKw pos (keywordEach [⟨nm, e, kpos⟩] X.env)).any (·.1.isNone)) = false := by rfl) :
    PE X (.Call (.Name x p) [] [⟨nm, e, kpos⟩] pos) (LE X.K (dCall sp (dCons t dNil))) := by
  refine ⟨fun pins s σ H Q I h => ?_⟩
  obtain ⟨ρ, M, Q', rs, m, h, c⟩ := h
  refine wpAny_Call_Name_kw (ld_glob I hg hm ?_ hdb)
  refine PySem.W.callWith_KW0 (h₀ := X.base) I.ok.mod.kin hk hall ?_ hpl
  have hp : PK X [⟨nm, e, kpos⟩] (tCons (LE X.K t) tNil) := pk_cons ha pk_nil
  refine thn (hp.run pos pins s σ H (fun zs H2 => ∃ M1 d v, zs = [v] ∧ Rep X.K H2 d v ∧ Mem X.K H2 M1 ∧ Stp H M H2 M1 ∧ sp [d] M1 Q') I ⟨ρ, M, _, rs, m, h, fun d M1 v H1 h1 s1 r1 m1 => ⟨M1, d, v, rfl, r1, m1, s1, h1⟩⟩) fun ws s2 ⟨zs, H2, I2, rz, M1, d, v, ez, rv, m1, s1, q2⟩ => ⟨I2.kIn, ?_⟩
  subst ez
  rw [hks]
  exact run_fnk (us := []) (vs := []) F hr hb pass0 I2 .nil rz (E := E0) ⟨[d], M1, Q', RepL.cons rv RepL.nil, m1, q2, c.step s1⟩
end
end DL

/-! DLj: a tuple times a number. -/
namespace DL
open PySem PySem.Spec PyProof.Rows L2
theorem tm_one (l : Addr) (items : Array Value) (n : Nat) (dd : Option Addr) (sl : Array (Option Value)) (u : Tok) :
    Meets (Builtin.«tuple.__mul__» ⟨[.ref l, .int 1 u], []⟩) (fun _ R s => s.heap.get? l = some { cls := .type "tuple", dict := dd, data := .seq items n, slots := sl } ∧ R (.ok (.ret (Value.ref l))) s) :=
  .of_wp fun prog w A R s h => by
    obtain ⟨hp, g, d, tk, os⟩ := s
    obtain ⟨hl, h⟩ := h
    have f1 := AutoSeq1.idx_int
    have c1 : (items.isEmpty || (1 : Int) == 1) = true := by simp
    wp_walk using MeetsSeq3.wpAny_loadPart' hl
    exact ⟨_, rfl, h⟩
theorem tm_nil (l : Addr) (items : Array Value) (n : Nat) (dd : Option Addr) (sl : Array (Option Value)) (u : Tok) (c0 : items.isEmpty = false) :
    Meets (Builtin.«tuple.__mul__» ⟨[.ref l, .int 0 u], []⟩) (fun _ R s => s.heap.get? l = some { cls := .type "tuple", dict := dd, data := .seq items n, slots := sl } ∧
      R (.ok (.ret (Value.ref s.heap.objs.size))) { s with heap := s.heap.push { cls := Value.type "tuple", data := Data.seq #[] }, toks := s.toks }) :=
  .of_wp fun prog w A R s h => by
    obtain ⟨hp, g, d, tk, os⟩ := s
    obtain ⟨hl, h⟩ := h
    have f1 := AutoSeq1.idx_int
    have c1 : (items.isEmpty || (0 : Int) == 1) = false := by simp [c0]
    wp_walk using MeetsSeq3.wpAny_loadPart' hl
    exact ⟨_, rfl, h⟩
/-- t * 0 and t * 1, t not empty -/
def rRep01 (K : PySem.W.Frag) : R2 := fun x y H Q => ∃ l xs, x = .ref l ∧ SqT K H l xs ∧ xs ≠ [] ∧ ((y = .int 1 ∧ Q (.ref l) H) ∨ (y = .int 0 ∧ ∀ p, H p = none → Q (.ref p) (upd H p (.tup []))))
section
variable {X : Cx}
theorem op_rep01 : OpR X (binaryOp .Mult) (rRep01 X.K) := by
  intro pins s σ H x y v u Q I rx ry h
  obtain ⟨l, xs, rfl, hT, hne, h⟩ := h
  cases rx
  obtain ⟨its, r, ⟨⟨cls, dd, data, sl⟩, ho, hc, n, hd⟩, hs⟩ := I.tuple hT
  simp only at hc hd
  subst hc hd
  rcases h with ⟨rfl, q⟩ | ⟨rfl, q⟩
  · obtain ⟨t, rfl⟩ := ry
    refine wpAny_binaryOp_repeat_ref (T := "tuple") (U := "int") (by decide) ⟨_, ho, rfl⟩ (fun s' => typeIs_int s' 1 t) noFill_tuple_mul F.fills_int_mul F.slot_int_rmul repeat_tuple F.slot_int_index.lookup ?_
    refine call_meets F.slot_int_rmul (typeIs_int s 1 t) F.entry_int_rmul (F.args_int_rmul_2 _ _) (int_rmul_tuple 1 t l its.toArray n dd sl) ⟨ho, rfl, ⟨_, ho, rfl⟩, ?_⟩
    exact call_meets F.slot_tuple_mul ⟨_, ho, rfl⟩ F.entry_tuple_mul (F.args_tuple_mul_2 _ _) (tm_one l its.toArray n dd sl t) ⟨ho, .ref l, H, I, rfl, q⟩
  · obtain ⟨t, rfl⟩ := ry
    have ie : its.toArray.isEmpty = false := by
      cases its with
      | nil =>
        have z := r.length
        exact absurd (List.eq_nil_of_length_eq_zero z) hne
      | cons a b => rfl
    refine wpAny_binaryOp_repeat_ref (T := "tuple") (U := "int") (by decide) ⟨_, ho, rfl⟩ (fun s' => typeIs_int s' 0 t) noFill_tuple_mul F.fills_int_mul F.slot_int_rmul repeat_tuple F.slot_int_index.lookup ?_
    refine call_meets F.slot_int_rmul (typeIs_int s 0 t) F.entry_int_rmul (F.args_int_rmul_2 _ _) (int_rmul_tuple 0 t l its.toArray n dd sl) ⟨ho, rfl, ⟨_, ho, rfl⟩, ?_⟩
    refine call_meets F.slot_tuple_mul ⟨_, ho, rfl⟩ F.entry_tuple_mul (F.args_tuple_mul_2 _ _) (tm_nil l its.toArray n dd sl t ie) ⟨ho, ?_⟩
    refine ⟨.ref s.heap.objs.size, _, I.laid (t' := s.toks) (o := .tup []) (fun b ob q => Heap.get?_push_of_some _ q) (Nat.le_refl _) ?_, rfl, q _ (I.hok.fresh (Nat.le_refl _))⟩
    exact ⟨Nat.zero_le _, [], .nil, IsTup.new _ _⟩
end
/-- * : numbers; a tuple times a small number -/
def dMul : DR2 := fun x y M Q => match x, y with
  | .int i, .int j => CMul i j ∧ Q (.int (i * j)) M
  | .tup ds, .int k => ds ≠ [] ∧ ds.length ≤ 1000 ∧ 0 ≤ k ∧ k ≤ 1000 ∧ Q (.tup (List.replicate k.toNat ds).flatten) M
  | _, _ => False
theorem RepL.app {K : PySem.W.Frag} {H : Hp} {ds : List D} {vs : List V} (r : RepL K H ds vs) : ∀ n : Nat, RepL K H (List.replicate n ds).flatten (List.replicate n vs).flatten
  | 0 => RepL.nil
  | n + 1 => by
    rw [List.replicate_succ, List.replicate_succ, List.flatten_cons, List.flatten_cons]
    exact r.append (RepL.app r n)
theorem lr_repT {K : PySem.W.Frag} : LR2 K (fun x y H Q => rRepT K x y H Q ∨ rRep01 K x y H Q) (fun x y M Q => match x, y with
  | .tup ds, .int k => ds ≠ [] ∧ ds.length ≤ 1000 ∧ 0 ≤ k ∧ k ≤ 1000 ∧ Q (.tup (List.replicate k.toNat ds).flatten) M
  | _, _ => False) := fun H M x y dx dy Q' Q m rx ry h c => by
  cases dx <;> cases dy <;> first
    | exact h.elim
    | skip
  rename_i ds k
  obtain ⟨h0, h1, h2, h3, q⟩ := h
  have rx0 := rx
  unfold Rep at rx ry
  obtain ⟨a, vs, rfl, ha, r⟩ := rx
  subst ry
  have hne : vs ≠ [] := fun e => by
    have z := r.length
    rw [e] at z
    exact h0 (List.eq_nil_of_length_eq_zero z.symm)
  by_cases k1 : k = 1
  · subst k1
    refine .inr ⟨a, vs, rfl, ha.sq, hne, .inl ⟨rfl, ?_⟩⟩
    have e : (List.replicate (1 : Int).toNat ds).flatten = ds := by simp
    rw [e] at q
    exact c _ M _ H q (Stp.refl H M) rx0 m
  · by_cases k0 : k = 0
    · subst k0
      refine .inr ⟨a, vs, rfl, ha.sq, hne, .inr ⟨rfl, fun p np => ?_⟩⟩
      refine c _ M _ _ q (Stp.new0 np) ?_ (m.new0 np)
      unfold Rep
      exact ⟨p, [], rfl, .inl upd_same, RepL.nil⟩
    · refine .inl ⟨a, k, vs, rfl, rfl, ha.sq, hne, by omega, h3, by rw [r.length]; exact h1, fun p np => ?_⟩
      refine c _ M _ _ q (Stp.new0 np) ?_ (m.new0 np)
      unfold Rep
      exact ⟨p, _, rfl, .inl upd_same, RepL.mono (TK.new np) _ _ (RepL.app r _)⟩
section
variable {X : Cx} {a b : Expr} {ta tb : DTE} {pos : Pos}
theorem d_mulA (ha : PE X a (LE X.K ta)) (hb : PE X b (LE X.K tb)) : PE X (.BinOp a .Mult b pos) (LE X.K (dOp dMul ta tb)) :=
  d_op (op_mul.or (op_repT.or op_rep01)) ((lr_arithC.inl lr_repT).imp fun x y M Q h => by
    cases x <;> cases y <;> first | exact h.elim | exact .inl h | exact .inr h) ha hb
end
end DL

/-! DLk: len(set(xs)), xs a list of texts. -/
namespace DL
open PySem PySem.Spec PyProof.Rows L2

def seen1 (acc : List Str) (x : Str) : List Str := if x ∈ acc then acc else acc ++ [x]
def seen (xs : List Str) : List Str := xs.foldl seen1 []
theorem seen_le (xs : List Str) : (seen xs).length ≤ xs.length := by
  have aux : ∀ (ys acc : List Str), (ys.foldl seen1 acc).length ≤ acc.length + ys.length := by
    intro ys
    induction ys with
    | nil => intro acc; simp
    | cons y ys ih =>
      intro acc
      have h := ih (seen1 acc y)
      have h2 : (seen1 acc y).length ≤ acc.length + 1 := by
        unfold seen1
        split <;> simp
      simp only [List.foldl_cons, List.length_cons]
      omega
  simpa [seen] using aux xs []
theorem seen_snoc (xs : List Str) (x : Str) : seen (xs ++ [x]) = seen1 (seen xs) x := by
  simp [seen, List.foldl_append]
theorem seen1_mem (acc : List Str) (x k : Str) : (decide (k ∈ acc) || decide (k = x)) = decide (k ∈ seen1 acc x) := by
  unfold seen1
  by_cases e : x ∈ acc
  · rw [if_pos e]
    by_cases ek : k = x
    · subst ek
      simp [e]
    · simp [ek]
  · rw [if_neg e]
    by_cases ek : k = x <;> simp [ek]
theorem seen1_len (acc : List Str) (x : Str) : (if decide (x ∈ acc) = true then acc.length else acc.length + 1) = (seen1 acc x).length := by
  unfold seen1
  by_cases e : x ∈ acc <;> simp [e]
section
variable {pr : Program} {wo : World} {Ar : Around} {Rz : Result → Shared → Prop} {it : Addr} {fp wr : List Addr} {Gn : Array GenState → Array GenState → Prop} {n : Nat} {Pv : Nat → Value → Prop} {Sx : Nat → Shared → Prop}
abbrev TS (pr : Program) (wo : World) (h : Heap) (a : Addr) (zs : List Str) : Prop := h.SetOf (PySem.strKind pr wo) a (fun k => decide (k ∈ zs)) zs.length
theorem ts_keep {h h' : Heap} {a : Addr} {zs : List Str} (k : ∀ o, h.get? a = some o → h'.get? a = some o) (q : TS pr wo h a zs) : TS pr wo h' a zs := by
  obtain ⟨o, es, ep, t, ho, rest⟩ := q
  exact ⟨o, es, ep, t, k o ho, rest⟩
theorem upd_loop (Wk : WalksS pr wo Ar.in1 it fp wr Gn n Pv Sx) (T : Addr) (hT : T ∉ fp) (xs : List Str) (hl : xs.length = n) (few : n + 1 < scanBound) (val : ∀ i v, Pv i v → ∃ t, v = .str (xs.getD i Str.empty) t) :
    ∀ (m i : Nat) (s : Shared), n - i = m → i ≤ n → Sx i s → TS pr wo s.heap T (seen (xs.take i)) →
      (∀ s', Moved (T :: wr) Gn s s' → TS pr wo s'.heap T (seen xs) → Rz (.ok (.ret .none)) s') → codeAny (model pr wo) Ar (.builtin "set.update.loop" ⟨[.ref T, .ref it], []⟩) Rz s := by
  have nw : T ∉ wr := fun q => hT (Wk.sub _ q)
  have up : ∀ b ∈ wr, b ∈ T :: wr := fun b q => .tail _ q
  intro m
  induction m with
  | zero =>
    intro i s em hi hx hs fin
    have ei : i = n := Nat.le_antisymm hi (Nat.le_of_sub_eq_zero em)
    rw [ei, ← hl, List.take_length] at hs
    rw [ei] at hx
    refine codeAny_builtin PyProof.Rows.F.entry_set_update_loop ?_
    rw [Around.under_plainId PyProof.Rows.F.plain_set_update_loop _]
    refine wpAny_bind (Wk.done s _ _ hx fun s1 mv => ?_)
    exact wpAny_pure (fin s1 (mv.mono up) (ts_keep (fun o e => mv.heap T o nw e) hs))
  | succ m ih =>
    intro i s em hi hx hs fin
    have li : i < n := by omega
    refine codeAny_builtin PyProof.Rows.F.entry_set_update_loop ?_
    rw [Around.under_plainId PyProof.Rows.F.plain_set_update_loop _]
    refine wpAny_bind (Wk.item i s _ _ li hx fun v s1 pv hx1 mv => ?_)
    obtain ⟨t, rfl⟩ := val i v pv
    have hs1 : TS pr wo s1.heap T (seen (xs.take i)) := ts_keep (fun o e => mv.heap T o nw e) hs
    have ex : xs.take (i + 1) = xs.take i ++ [xs.getD i Str.empty] := by
      rw [List.take_succ, List.getD_eq_getElem?_getD]
      have : i < xs.length := by omega
      rw [List.getElem?_eq_getElem this]
      rfl
    refine wpAny_bind (wpAny_holding ?_)
    unfold setAdd
    refine wpAny_holding (wpAny_bind ((PySem.strKind pr wo).pyHash (k := xs.getD i Str.empty) (strKind_is _ _ _ _) ?_))
    have few1 : (seen (xs.take i)).length + 1 < scanBound := by
      have z := seen_le (xs.take i)
      rw [List.length_take] at z
      omega
    refine wpAny_setAddHashed_of (knd := PySem.strKind pr wo) (s := { s1 with toks := s1.toks + 1 }) (strKind_is _ _ _ _) rfl hs1 few1 fun h2 sb hs2 => ?_
    have hs3 : TS pr wo h2 T (seen (xs.take (i + 1))) := by
      refine PyProof.Rows.SetOf_congr hs2 (fun k => ?_) ?_
      · rw [ex, seen_snoc]
        exact seen1_mem _ _ _
      · rw [ex, seen_snoc]
        exact seen1_len _ _
    have off : ∀ b, b ≠ T → h2.get? b = s1.heap.get? b := fun b ne => sb.2 b ne
    refine wpAny_pure ⟨plainId_quiet PyProof.Rows.F.plain_set_update_loop _, ih (i + 1) _ (by omega) li (Wk.frame _ s1 _ _ hx1 (Nat.le_succ _) fun b q o e => ?_) hs3 fun s3 mv3 q3 => ?_⟩
    · exact (off b fun z => hT (z ▸ q)).trans e
    · refine fin s3 (Moved.trans Wk.gtrans ((mv.mono up).then_heap (Nat.le_succ _) fun b o q e => ?_) mv3) q3
      exact (off b fun z => q (z ▸ List.mem_cons_self)).trans e
end
section
variable {pr : Program} {wo : World} {Ar : Around} {Er : Value → Shared → Prop} {s : Shared}
def setO (led : Bool) : Obj := { cls := .type "set", dict := none, data := .set #[] 0 (.fresh 0 0 led) }
theorem set_of_texts {l : Addr} {its : Array Value} {xs : List Str} {Qv : Value → Shared → Prop} (calm : Ar.handled = none) (hl : s.heap.IsList l its) (hx : PyProof.Rows.StrsAre its.toList xs) (few : xs.length + 1 < scanBound)
    (done : ∀ (h' : Heap) (tk : Nat), TS pr wo h' s.heap.objs.size (seen xs) → (∀ b o, b < s.heap.objs.size → s.heap.get? b = some o → h'.get? b = some o) → Qv (.ref s.heap.objs.size) { s with heap := h', toks := tk }) :
    wpAny (model pr wo) Ar (call (.type "set") [.ref l]) Qv Er s := by
  have ⟨_, _, hmro⟩ := PySem.F.called_set.mro
  have hmade := PySem.F.called_set.made
  have hsub := PySem.F.called_set.sub
  have h1 := PySem.F.called_set.notType
  have h2 := PySem.F.called_set.canCreate
  have hct := PySem.F.typeCall_set_1 (.ref l)
  refine wpAny_call (codeAny_of_tree (wpAny_pure ⟨Code.quiet_builtin _ (by decide +kernel), codeAny_builtin PySem.F.entry_type_call ?_⟩))
  rw [Around.under_plain (weight_type_call_type "set" [.ref l] []) rfl]
  repeat (any_goals (first | assumption | wp_step))
  refine codeAny_mono (code_set_new_1 (.ref l) (E := Er) (Q₁ := fun u s1 => ∃ led, u = .ref s.heap.objs.size ∧ s1 = { s with heap := s.heap.push (setO led) }) fun led => ⟨led, rfl, rfl⟩) fun r s1 hr => ?_
  match r, hr with
  | .error e, hr => exact hr
  | .ok (.ret u), hr =>
    obtain ⟨led, rfl, rfl⟩ := hr
    have e0 : (s.heap.push (setO led)).get? s.heap.objs.size = some (setO led) := Heap.get?_push_size _ rfl
    have tS : Shared.TypeIs { s with heap := s.heap.push (setO led) } (.ref s.heap.objs.size) "set" := ⟨_, e0, rfl⟩
    have hli := PySem.F.called_set.init.lookup
    have hbi := PySem.F.called_set.init.bind (.ref s.heap.objs.size)
    repeat (any_goals (first | assumption | wp_step))
    let Goal : Value → Shared → Prop := fun v s2 => v = .none ∧ ∃ h' tk, s2 = { s with heap := h', toks := tk } ∧ TS pr wo h' s.heap.objs.size (seen xs) ∧ ∀ b o, b < s.heap.objs.size → s.heap.get? b = some o → h'.get? b = some o
    refine codeAny_mono (codeAny_call_builtin (R := wants Goal Er) PySem.F.called_set.init.plain PySem.F.entry_set_init (check_set_init_1 tS ?_)) fun r2 s2 hr2 => ?_
    · obtain ⟨⟨cl, dd, dt, sl⟩, ol, hc, nl, hd⟩ := hl
      simp only at hc hd
      subst hc hd
      have ol1 : (s.heap.push (setO led)).get? l = some { cls := .type "list", dict := dd, data := .seq its nl, slots := sl } := Heap.get?_push_of_some _ ol
      have a1 := PySem.F.sub_list_set
      have a2 := PySem.F.sub_list_frozenset
      have a3 : (Value.type "list" == Value.type "dict") = false := by decide
      have il : (s.heap.push (setO led)).IsList l its := ⟨_, ol1, rfl, nl, rfl⟩
      unfold Builtin.«set.__init__» noKeywords Builtin.Frozenset.updateFrom
      generalize ePI : pyIter = PI
      wp_walk
      subst ePI
      refine wpAny_pyIter_list il (wpAny_bind (wpAny_runValue ?_))
      have lt := Heap.lt_size ol
      have sz : (s.heap.push (setO led)).objs.size = s.heap.objs.size + 1 := Heap.size_push ..
      have calm3 : Ar.in1.in1.in1.handled = none := by simp [calm]
      have ne1 : l ≠ (s.heap.push (setO led)).objs.size := by
        rw [sz]
        exact Nat.ne_of_lt (Nat.lt_succ_of_lt lt)
      have nf : s.heap.objs.size ∉ [(s.heap.push (setO led)).objs.size, l] := by
        rw [sz]
        simp only [List.mem_cons, List.not_mem_nil, or_false, not_or]
        exact ⟨Nat.ne_of_lt (Nat.lt_succ_self _), Nat.ne_of_gt lt⟩
      have len : xs.length = its.size := by rw [← StrsAre.len_eq hx, Array.length_toList]
      refine upd_loop ((Walks.list calm3 _ l ne1 its).toS) s.heap.objs.size nf xs len (by rw [← len]; exact few) (fun i v hv => SS.strs_at hx i v (by rw [Array.getElem?_toList]; exact hv)) its.size 0 _ rfl (Nat.zero_le _) ⟨⟨_, Heap.get?_push_size _ rfl, rfl, rfl⟩, il.push _⟩ ?_ ?_
      · have e1 : ((s.heap.push (setO led)).push { cls := .type "list_iterator", data := .fields #[.ref l, .int 0 0] }).get? s.heap.objs.size = some (setO led) := Heap.get?_push_of_some _ e0
        exact PyProof.Rows.SetOf_congr ((PyProof.Rows.setObjOf_fresh (knd := PySem.strKind pr wo) led).setOf e1 (by unfold scanBound; omega)) (fun _ => rfl) rfl
      · intro s3 mv q3
        obtain ⟨h3, g3, d3, t3, o3⟩ := s3
        obtain rfl : g3 = s.gens := mv.gens
        obtain rfl : d3 = s.drawn := mv.drawn
        obtain rfl : o3 = s.os := mv.os
        refine wpAny_pure (wpAny_pure ⟨rfl, h3, t3, rfl, q3, fun b o lb e => ?_⟩)
        refine mv.heap b o ?_ (Heap.get?_push_of_some _ (Heap.get?_push_of_some _ e))
        rw [sz]
        simp only [List.mem_cons, List.not_mem_nil, or_false, not_or]
        exact ⟨Nat.ne_of_lt lb, Nat.ne_of_lt (Nat.lt_succ_of_lt lb)⟩
    · match r2, hr2 with
      | .error e, hr2 => exact hr2
      | .ok (.ret v), hr2 =>
        obtain ⟨rfl, h', tk, rfl, q, k⟩ := hr2
        repeat (any_goals (first | assumption | wp_step))
        exact done _ _ q k
      | .ok .next, hr2 => exact hr2.elim
      | .ok .brk, hr2 => exact hr2.elim
      | .ok .cont, hr2 => exact hr2.elim
  | .ok .next, hr => exact hr.elim
  | .ok .brk, hr => exact hr.elim
  | .ok .cont, hr => exact hr.elim
end
/-! ### len(set(xs)) -/
def dLenSet (te : DTE) : DTE := fun ρ M Q => te ρ M fun x M1 => match x with
  | .ob a => (match (Msq M1 a).bind strsOf with
    | some ss => ss.length + 1 < scanBound ∧ Q (.int (seen ss).length) M1
    | none => False)
  | _ => False
section
variable {X : Cx} {a : Expr} {te : DTE} {p p2 q pos : Pos}
theorem d_lenSet (hm : X.mg "len" = none) (hm2 : X.mg "set" = none) (ha : PE X a (LE X.K te)) (hc : X.calm = true := by rfl) (hg : Gl X "len" := by rfl) (hg2 : Gl X "set" := by rfl)
    (na : starEach [a] X.env = (false, eval a X.env) :: starEach [] X.env := by rfl) : PE X (.Call (.Name "len" p) [.Call (.Name "set" p2) [a] [] q] [] pos) (LE X.K (dLenSet te)) := by
  refine ⟨fun pins s σ H Q I h => ?_⟩
  obtain ⟨ρ, M, Q', rs, m, h, c⟩ := h
  refine Call_ (ld_blt I hg hm PySem.boot_len ?_)
  refine PyProof.Rows.callWith_builtin1 (PyProof.Rows.args_cons ?_ rfl) rfl rfl
  refine Call_ (ld_blt I hg2 hm2 PyProof.Rows.boot_set ?_)
  refine PyProof.Rows.callWith_type1 (PyProof.Rows.args_cons (thn (ha.run pins s σ H (fun v H1 => ∃ M1 l ss, v = .ref l ∧ SqL X.K H1 l (ss.map V.str) ∧ ss.length + 1 < scanBound ∧ Mem X.K H1 M1 ∧ Stp H M H1 M1 ∧ Q' (.int (seen ss).length) M1) I ⟨ρ, M, _, rs, m, h, fun d M1 v H1 h1 s1 r1 m1 => ?_⟩) fun v s1 ⟨x, H1, I1, r1, q1⟩ => PyProof.Rows.args_nil ?_) na) na rfl
  · cases d with
    | ob l =>
      dsimp only at h1
      split at h1
      · rename_i ss es
        cases ea : Msq M1 l with
        | none =>
          rw [ea] at es
          cases es
        | some xs =>
          rw [ea] at es
          obtain ⟨ws, hs, r⟩ := msq_sq m1 ea
          rw [strsOf_eq (show strsOf xs = some ss from es)] at r
          rw [r.strs] at hs
          exact ⟨M1, l, ss, r1, hs, h1.1, m1, s1, h1.2⟩
      · exact h1.elim
    | _ => exact h1.elim
  · obtain ⟨M1, l, ss, rfl, hs, few, m1, st1, h1⟩ := q1
    cases r1
    obtain ⟨its, r, pl, hz⟩ := I1.list hs
    refine set_of_texts (I1.ok.hd hc) pl.isList (by simpa using strsAre_of r) few fun h' tk hS hk => PyProof.Rows.args_nil ?_
    obtain ⟨o, es, ep, t, ho, hex, hd, _, _, _, hf, hn⟩ := hS
    have I2 : Inv X pins σ H1 { s1 with heap := h', toks := tk } := I1.kept fun b o e => hk b o (Heap.lt_size e) e
    have le := seen_le ss
    refine call_len_set ho hex hd hf (by rw [hn]; unfold scanBound at few; omega) ⟨.int (seen ss).length, H1, I2.tok _, ⟨_, by rw [hn]⟩, c _ M1 _ H1 h1 st1 rfl m1⟩
end
end DL

/-! DLm: what grows, invariants of loops over data. -/
namespace DL
open PySem PySem.Spec PyProof.Rows L2

/-- all of M but what S names stands in M' -/
def GrowB (S : Addr → Prop) (M M' : DM) : Prop := ∀ a o, ¬ S a → M a = some o → M' a = some o
def Grow (M M' : DM) : Prop := ∀ a o, M a = some o → M' a = some o
theorem Grow.refl (M : DM) : Grow M M := fun _ _ h => h
theorem Grow.trans {M M1 M2 : DM} (a : Grow M M1) (b : Grow M1 M2) : Grow M M2 := fun x o h => b x o (a x o h)
theorem Grow.new {M : DM} {p : Addr} {o : MO} (n : M p = none) : Grow M (mset M p o) := fun a u e => by
  rw [mset_ne (fun z => by rw [z, n] at e; cases e)]
  exact e
theorem Grow.but {M M' : DM} {S : Addr → Prop} (a : Grow M M') : GrowB S M M' := fun x o _ h => a x o h
theorem GrowB.refl {S : Addr → Prop} (M : DM) : GrowB S M M := fun _ _ _ h => h
theorem GrowB.trans {S : Addr → Prop} {M M1 M2 : DM} (a : GrowB S M M1) (b : GrowB S M1 M2) : GrowB S M M2 := fun x o n h => b x o n (a x o n h)
theorem GrowB.put {S : Addr → Prop} {M : DM} {p : Addr} {o : MO} (n : S p) : GrowB S M (mset M p o) := fun a u na e => by
  rw [mset_ne (fun z => by rw [z] at na; exact na n)]
  exact e
theorem GrowB.weak {S T : Addr → Prop} {M M' : DM} (a : GrowB S M M') (w : ∀ x, S x → T x) : GrowB T M M' := fun x o n h => a x o (fun s => n (w x s)) h

-- what is in d stands: lists
mutual
def Ok (M : DM) : D → Prop
  | .tup ds => OkL M ds
  | .ob a => ∃ xs, M a = some (.ls xs)
  | .ty _ => False
  | .str x => x.length ≤ 64
  | _ => True
def OkL (M : DM) : List D → Prop
  | [] => True
  | d :: ds => Ok M d ∧ OkL M ds
end
mutual
theorem Ok.grow {M M' : DM} (g : Grow M M') : ∀ d, Ok M d → Ok M' d
  | .tup ds, h => by
    unfold Ok at h ⊢
    exact OkL.grow g ds h
  | .ob a, h => by
    unfold Ok at h ⊢
    obtain ⟨xs, e⟩ := h
    exact ⟨xs, g a _ e⟩
  | .ty _, h => h
  | .non, _ => True.intro
  | .bl _, _ => True.intro
  | .int _, _ => True.intro
  | .str _, h => h
theorem OkL.grow {M M' : DM} (g : Grow M M') : ∀ ds, OkL M ds → OkL M' ds
  | [], _ => True.intro
  | d :: ds, h => by
    unfold OkL at h ⊢
    exact ⟨Ok.grow g d h.1, OkL.grow g ds h.2⟩
end
theorem okL_mem {M : DM} : ∀ {ds : List D}, OkL M ds ↔ ∀ d ∈ ds, Ok M d
  | [] => by simp [OkL]
  | d :: ds => by
    unfold OkL
    rw [okL_mem]
    simp
theorem ok_tup {M : DM} {ds : List D} : Ok M (.tup ds) ↔ ∀ d ∈ ds, Ok M d := by
  show Ok M (.tup ds) ↔ _
  rw [show Ok M (.tup ds) = OkL M ds by unfold Ok; rfl]
  exact okL_mem
theorem ok_str {M : DM} {x : Str} (h : x.length ≤ 64) : Ok M (.str x) := by
  unfold Ok
  exact h
theorem ok_strE {M : DM} {x : Str} (h : Ok M (.str x)) : x.length ≤ 64 := by
  unfold Ok at h
  exact h
theorem ok_int {M : DM} {x : Int} : Ok M (.int x) := by unfold Ok; trivial
theorem ok_bl {M : DM} {b : Bool} : Ok M (.bl b) := by unfold Ok; trivial
theorem ok_non {M : DM} : Ok M .non := by unfold Ok; trivial

/-! ### loops -/
theorem loopI {stay : DM → Prop} {g : DTG} {tb : DTS} {E : DEnds} (P : List D → DSt → DM → Prop) (nil : ∀ ρ M, P [] ρ M → E.nx ρ M)
    (cons : ∀ d r ρ M, P (d :: r) ρ M → ∀ (N : DSt → DM → Prop), (∀ ρ' M', stay M' → P r ρ' M' → N ρ' M') → g d ρ M fun ρ1 M1 => tb { E with nx := N, ct := N, bk := E.nx } ρ1 M1) :
    ∀ all ρ M, P all ρ M → dLoop stay g tb E all ρ M
  | [], ρ, M, h => nil ρ M h
  | d :: r, ρ, M, h => cons d r ρ M h (fun ρ' M' => stay M' ∧ dLoop stay g tb E r ρ' M') fun ρ' M' s p => ⟨s, loopI P nil cons r ρ' M' p⟩
theorem compI {stay : DM → Prop} {tt : DTT} {te : DTE} {ρ : DSt} {i : Nat} {Q : List D → DM → Prop} (P : List D → List D → DM → Prop) (nil : ∀ acc M, P [] acc M → Q acc M)
    (cons : ∀ d r acc M, P (d :: r) acc M → ∀ (N : List D → DM → Prop), (∀ acc M, P r acc M → N acc M) →
      tt (ρ.set i (some d)) M fun b M1 => if b = true then te (ρ.set i (some d)) M1 fun y M2 => acc.length < sizeLine ∧ stay M2 ∧ N (acc ++ [y]) M2 else stay M1 ∧ N acc M1) :
    ∀ all acc M, P all acc M → dComp stay tt te ρ i Q all acc M
  | [], acc, M, h => nil acc M h
  | d :: r, acc, M, h => cons d r acc M h (dComp stay tt te ρ i Q r) fun acc M p => compI P nil cons r acc M p
/-- a comprehension of values without a test -/
theorem compMap {stay : DM → Prop} {te : DTE} {ρ : DSt} {i : Nat} {Q : List D → DM → Prop} {M : DM} {all : List D} (f : D → D) (hs : ∀ M', Grow M M' → stay M') (hl : all.length ≤ sizeLine)
    (step : ∀ d ∈ all, ∀ M1 (N : DK), Grow M M1 → (∀ M2, Grow M1 M2 → N (f d) M2) → te (ρ.set i (some d)) M1 N) (fin : ∀ M', Grow M M' → Q (all.map f) M') : dComp stay dYes te ρ i Q all [] M := by
  refine compI (fun r acc M1 => Grow M M1 ∧ ∃ done, all = done ++ r ∧ acc = done.map f) (fun acc M1 ⟨g, done, e, ea⟩ => ?_) (fun d r acc M1 ⟨g, done, e, ea⟩ N hN => ?_) all [] M ⟨Grow.refl M, [], rfl, rfl⟩
  · rw [ea, show done = all by rw [e, List.append_nil]]
    exact fin M1 g
  · unfold dYes
    dsimp only
    rw [if_pos rfl]
    refine step d (by rw [e]; simp) M1 _ g fun M2 g2 => ⟨?_, hs M2 (g.trans g2), hN _ M2 ⟨g.trans g2, done ++ [d], by rw [e, List.append_assoc]; rfl, by rw [ea, List.map_append]; rfl⟩⟩
    rw [ea, List.length_map]
    rw [e, List.length_append, List.length_cons] at hl
    omega
/-- a comprehension of values with a test -/
theorem compFil {stay : DM → Prop} {tt : DTT} {te : DTE} {ρ : DSt} {i : Nat} {Q : List D → DM → Prop} {M : DM} {all : List D} (f : D → D) (t : D → Bool) (hs : ∀ M', Grow M M' → stay M') (hl : all.length ≤ sizeLine)
    (test : ∀ d ∈ all, ∀ M1 (N : Bool → DM → Prop), Grow M M1 → (∀ M2, Grow M1 M2 → N (t d) M2) → tt (ρ.set i (some d)) M1 N)
    (step : ∀ d ∈ all, t d = true → ∀ M1 (N : DK), Grow M M1 → (∀ M2, Grow M1 M2 → N (f d) M2) → te (ρ.set i (some d)) M1 N) (fin : ∀ M', Grow M M' → Q ((all.filter t).map f) M') : dComp stay tt te ρ i Q all [] M := by
  refine compI (fun r acc M1 => Grow M M1 ∧ ∃ done, all = done ++ r ∧ acc = (done.filter t).map f) (fun acc M1 ⟨g, done, e, ea⟩ => ?_) (fun d r acc M1 ⟨g, done, e, ea⟩ N hN => ?_) all [] M ⟨Grow.refl M, [], rfl, rfl⟩
  · rw [ea, show done = all by rw [e, List.append_nil]]
    exact fin M1 g
  · have hd : d ∈ all := by rw [e]; simp
    refine test d hd M1 _ g fun M2 g2 => ?_
    have le : ((done.filter t).map f).length < sizeLine := by
      rw [List.length_map]
      have := List.length_filter_le t done
      rw [e, List.length_append, List.length_cons] at hl
      omega
    cases et : t d with
    | true =>
      rw [if_pos rfl]
      refine step d hd et M2 _ (g.trans g2) fun M3 g3 => ⟨by rw [ea]; exact le, hs M3 ((g.trans g2).trans g3), hN _ M3 ⟨(g.trans g2).trans g3, done ++ [d], by rw [e, List.append_assoc]; rfl, ?_⟩⟩
      rw [ea, List.filter_append, List.map_append]
      simp [et]
    | false =>
      rw [if_neg (by simp)]
      refine ⟨hs M2 (g.trans g2), hN _ M2 ⟨g.trans g2, done ++ [d], by rw [e, List.append_assoc]; rfl, ?_⟩⟩
      rw [ea, List.filter_append, List.map_append]
      simp [et]
theorem msq_ls {M : DM} {a : Addr} {xs : List D} (h : M a = some (.ls xs)) : Msq M a = some xs := by
  unfold Msq
  rw [h]
/-! ### readings that are values -/
/-- te gives v, M grows -/
def Gives (te : DTE) (ρ : DSt) (M : DM) (v : D) : Prop := ∀ M1 Q, Grow M M1 → (∀ M2, Grow M1 M2 → Q v M2) → te ρ M1 Q
end DL

/-! DLn: readings that are values. -/
namespace DL
open PySem PySem.Spec PyProof.Rows L2

/-- te is v, whatever grew -/
def Gv (te : DTE) (ρ : DSt) (M : DM) (v : D) : Prop := ∀ M1, Grow M M1 → ∀ Q : DK, (∀ M2, Grow M1 M2 → Q v M2) → te ρ M1 Q
def Gt (tt : DTT) (ρ : DSt) (M : DM) (b : Bool) : Prop := ∀ M1, Grow M M1 → ∀ Q : Bool → DM → Prop, (∀ M2, Grow M1 M2 → Q b M2) → tt ρ M1 Q
def Ga (ta : DTA) (ρ : DSt) (M : DM) (vs : List D) : Prop := ∀ M1, Grow M M1 → ∀ Q : List D → DM → Prop, (∀ M2, Grow M1 M2 → Q vs M2) → ta ρ M1 Q
/-- te is a new list -/
def Gx (te : DTE) (ρ : DSt) (M : DM) (xs : List D) : Prop := ∀ M1, Grow M M1 → ∀ Q : DK, (∀ M2 p, Grow M1 M2 → M1 p = none → M2 p = some (.ls xs) → Q (.ob p) M2) → te ρ M1 Q
def Rv (r : DR2) (x y : D) (M : DM) (v : D) : Prop := ∀ M1, Grow M M1 → ∀ Q : DK, Q v M1 → r x y M1 Q
def Rc (r : List D → DM → DK → Prop) (xs : List D) (M : DM) (v : D) : Prop := ∀ M1, Grow M M1 → ∀ Q : DK, (∀ M2, Grow M1 M2 → Q v M2) → r xs M1 Q
section
variable {ρ : DSt} {M M' : DM} {v w x y : D} {vs : List D} {b c : Bool} {te ta tb tc : DTE} {tt tu : DTT} {t : DTA} {r s : DR2}
theorem Gv.grow (h : Gv te ρ M v) (g : Grow M M') : Gv te ρ M' v := fun M1 g1 => h M1 (g.trans g1)
theorem Gt.grow (h : Gt tt ρ M b) (g : Grow M M') : Gt tt ρ M' b := fun M1 g1 => h M1 (g.trans g1)
theorem Gx.grow (h : Gx te ρ M vs) (g : Grow M M') : Gx te ρ M' vs := fun M1 g1 => h M1 (g.trans g1)
theorem gv_c : Gv (dC v) ρ M v := fun M1 _ Q q => q M1 (Grow.refl M1)
theorem gv_var {i : Nat} (h : ρ[i]? = some (some v)) : Gv (dVar i) ρ M v := fun M1 _ Q q => by
  unfold dVar
  rw [h]
  exact q M1 (Grow.refl M1)
theorem ga_nil : Ga dNil ρ M [] := fun M1 _ Q q => q M1 (Grow.refl M1)
theorem ga_cons (h : Gv te ρ M v) (h' : Ga t ρ M vs) : Ga (dCons te t) ρ M (v :: vs) := fun M1 g1 Q q => h M1 g1 _ fun M2 g2 => h' M2 (g1.trans g2) _ fun M3 g3 => q M3 (g2.trans g3)
theorem gv_op (ha : Gv ta ρ M x) (hb : Gv tb ρ M y) (hr : Rv r x y M v) : Gv (dOp r ta tb) ρ M v := fun M1 g1 Q q => ha M1 g1 _ fun M2 g2 => hb M2 (g1.trans g2) _ fun M3 g3 => hr M3 ((g1.trans g2).trans g3) Q (q M3 (g2.trans g3))
theorem gv_cb {rc : DRC} (ha : Ga t ρ M vs) (hr : Rc rc vs M v) : Gv (dCB rc t) ρ M v := fun M1 g1 Q q => ha M1 g1 _ fun M2 g2 => hr M2 (g1.trans g2) Q fun M3 g3 => q M3 (g2.trans g3)
theorem gv_call {sp : DSp} (ha : Ga t ρ M vs) (hr : Rc sp vs M v) : Gv (dCall sp t) ρ M v := fun M1 g1 Q q => ha M1 g1 _ fun M2 g2 => hr M2 (g1.trans g2) Q fun M3 g3 => q M3 (g2.trans g3)
theorem gv_tup (ha : Ga t ρ M vs) (hl : vs.length ≤ sizeLine) : Gv (dTup t) ρ M (.tup vs) := fun M1 g1 Q q => ha M1 g1 _ fun M2 g2 => ⟨hl, q M2 g2⟩
theorem gl_lst (ha : Ga t ρ M vs) (hl : vs.length ≤ sizeLine) : Gx (dLst t) ρ M vs := fun M1 g1 Q q => ha M1 g1 _ fun M2 g2 => ⟨hl, fun p np => q _ p (g2.trans (Grow.new np)) (by
  cases e : M1 p with
  | none => rfl
  | some o =>
    rw [g2 p o e] at np
    cases np) mset_same⟩
theorem gt_t (h : Gv te ρ M (.bl b)) : Gt (dT te) ρ M b := fun M1 g1 Q q => h M1 g1 _ fun M2 g2 => q M2 g2
theorem gt_not (h : Gt tt ρ M b) : Gt (dNot tt) ρ M (!b) := fun M1 g1 Q q => h M1 g1 _ fun M2 g2 => q M2 g2
theorem gt_and (h : Gt tt ρ M b) (h' : b = true → Gt tu ρ M c) : Gt (dAnd tt tu) ρ M (b && c) := fun M1 g1 Q q => h M1 g1 _ fun M2 g2 => by
  cases b with
  | true =>
    rw [if_pos rfl]
    exact h' rfl M2 (g1.trans g2) _ fun M3 g3 => q M3 (g2.trans g3)
  | false =>
    rw [if_neg (by simp)]
    exact q M2 g2
theorem gt_or (h : Gt tt ρ M b) (h' : b = false → Gt tu ρ M c) : Gt (dOr tt tu) ρ M (b || c) := fun M1 g1 Q q => h M1 g1 _ fun M2 g2 => by
  cases b with
  | true =>
    rw [if_pos rfl]
    exact q M2 g2
  | false =>
    rw [if_neg (by simp)]
    exact h' rfl M2 (g1.trans g2) _ fun M3 g3 => q M3 (g2.trans g3)
theorem gv_and (h : Gv ta ρ M (.bl b)) (h' : b = true → Gv tb ρ M (.bl c)) : Gv (dAndV ta tb) ρ M (.bl (b && c)) := fun M1 g1 Q q => h M1 g1 _ fun M2 g2 => by
  cases b with
  | true =>
    dsimp only
    rw [if_pos rfl]
    exact h' rfl M2 (g1.trans g2) _ fun M3 g3 => q M3 (g2.trans g3)
  | false =>
    dsimp only
    rw [if_neg (by simp)]
    exact q M2 g2
theorem gv_or (h : Gv ta ρ M (.bl b)) (h' : b = false → Gv tb ρ M (.bl c)) : Gv (dOrV ta tb) ρ M (.bl (b || c)) := fun M1 g1 Q q => h M1 g1 _ fun M2 g2 => by
  cases b with
  | true =>
    dsimp only
    rw [if_pos rfl]
    exact q M2 g2
  | false =>
    dsimp only
    rw [if_neg (by simp)]
    exact h' rfl M2 (g1.trans g2) _ fun M3 g3 => q M3 (g2.trans g3)
theorem gv_not (h : Gv ta ρ M (.bl b)) : Gv (dNotV ta) ρ M (.bl (!b)) := fun M1 g1 Q q => h M1 g1 _ fun M2 g2 => q M2 g2
theorem gv_if (h : Gt tt ρ M b) (h1 : b = true → Gv ta ρ M v) (h2 : b = false → Gv tb ρ M w) : Gv (dIf tt ta tb) ρ M (if b = true then v else w) := fun M1 g1 Q q => h M1 g1 _ fun M2 g2 => by
  cases b with
  | true =>
    rw [if_pos rfl]
    exact h1 rfl M2 (g1.trans g2) _ fun M3 g3 => q M3 (g2.trans g3)
  | false =>
    rw [if_neg (by simp)]
    exact h2 rfl M2 (g1.trans g2) _ fun M3 g3 => q M3 (g2.trans g3)
theorem gv_chain (ha : Gv ta ρ M x) (hb : Gv tb ρ M y) (hr : Rv r x y M (.bl b)) (hc : b = true → Gv tc ρ M w) (hs : b = true → Rv s y w M (.bl c)) : Gv (dChain r s ta tb tc) ρ M (.bl (b && c)) := fun M1 g1 Q q =>
  ha M1 g1 _ fun M2 g2 => hb M2 (g1.trans g2) _ fun M3 g3 => hr M3 ((g1.trans g2).trans g3) _ (by
    cases b with
    | true =>
      dsimp only
      rw [if_pos rfl]
      exact hc rfl M3 ((g1.trans g2).trans g3) _ fun M4 g4 => hs rfl M4 (((g1.trans g2).trans g3).trans g4) _ (q M4 ((g2.trans g3).trans g4))
    | false =>
      dsimp only
      rw [if_neg (by simp)]
      exact q M3 (g2.trans g3))
/-! operators by shape -/
theorem rv_add {i j : Int} : Rv dAdd (.int i) (.int j) M (.int (i + j)) := fun M1 _ Q q => q
theorem rv_cat {i j : Str} (h : i.length + j.length ≤ sizeLine) : Rv dAdd (.str i) (.str j) M (.str (i ++ j)) := fun M1 _ Q q => ⟨h, q⟩
theorem rv_catT {i j : List D} (h : i.length + j.length ≤ sizeLine) : Rv dAdd (.tup i) (.tup j) M (.tup (i ++ j)) := fun M1 _ Q q => ⟨h, q⟩
theorem rv_sub {i j : Int} : Rv (dArith fun i j => i - j) (.int i) (.int j) M (.int (i - j)) := fun M1 _ Q q => q
theorem rv_mul {i j : Int} (h : CMul i j) : Rv dMul (.int i) (.int j) M (.int (i * j)) := fun M1 _ Q q => ⟨h, q⟩
theorem rv_mod {i j : Int} (h : j ≠ 0) : Rv (dArithC (fun _ j => j ≠ 0) fun i j => i.fmod j) (.int i) (.int j) M (.int (i.fmod j)) := fun M1 _ Q q => ⟨h, q⟩
theorem rv_fdiv {i j : Int} (h : CDivN i j) : Rv (dArithC CDivN fun i j => i.fdiv j) (.int i) (.int j) M (.int (i.fdiv j)) := fun M1 _ Q q => ⟨h, q⟩
theorem rv_pow {i j : Int} (h : CPow i j) : Rv (dArithC CPow fun i j => i ^ j.toNat) (.int i) (.int j) M (.int (i ^ j.toNat)) := fun M1 _ Q q => ⟨h, q⟩
theorem rv_eqI {i j : Int} : Rv (dEq false) (.int i) (.int j) M (.bl (decide (i = j))) := fun M1 _ Q q => q
theorem rv_neI {i j : Int} : Rv (dEq true) (.int i) (.int j) M (.bl (!decide (i = j))) := fun M1 _ Q q => q
theorem rv_eqS {i j : Str} : Rv (dEq false) (.str i) (.str j) M (.bl (decide (i = j))) := fun M1 _ Q q => q
theorem rv_neS {i j : Str} : Rv (dEq true) (.str i) (.str j) M (.bl (!decide (i = j))) := fun M1 _ Q q => q
theorem rv_eqT {ds : List D} : Rv (dEq false) (.tup ds) (.tup []) M (.bl ds.isEmpty) := fun M1 _ Q q => q
theorem rv_neT {ds : List D} : Rv (dEq true) (.tup ds) (.tup []) M (.bl (!ds.isEmpty)) := fun M1 _ Q q => q
theorem rv_lt {i j : Int} : Rv dLt (.int i) (.int j) M (.bl (decide (i < j))) := fun M1 _ Q q => q
theorem rv_le {i j : Int} : Rv dLe (.int i) (.int j) M (.bl (decide (i ≤ j))) := fun M1 _ Q q => q
theorem rv_gt {i j : Int} : Rv dGt (.int i) (.int j) M (.bl (decide (j < i))) := fun M1 _ Q q => q
theorem rv_ge {i j : Int} : Rv dGe (.int i) (.int j) M (.bl (decide (j ≤ i))) := fun M1 _ Q q => q
theorem rv_isN : Rv (dIsN false) x .non M (.bl (isNon x)) := fun M1 _ Q q => by cases x <;> exact q
theorem rv_notN : Rv (dIsN true) x .non M (.bl (!isNon x)) := fun M1 _ Q q => by cases x <;> exact q
theorem rv_isB {i j : Bool} : Rv (dIsB false) (.bl i) (.bl j) M (.bl (decide (i = j))) := fun M1 _ Q q => q
theorem rv_notB {i j : Bool} : Rv (dIsB true) (.bl i) (.bl j) M (.bl (!decide (i = j))) := fun M1 _ Q q => q
theorem rv_inT {z : Str} {ss : List Str} : Rv (dInA false) (.str z) (.tup (ss.map D.str)) M (.bl (decide (z ∈ ss))) := fun M1 _ Q q => .inl (.inl (by
  unfold dIn
  dsimp only
  rw [strsOf_map]
  exact q))
theorem rv_ninT {z : Str} {ss : List Str} : Rv (dInA true) (.str z) (.tup (ss.map D.str)) M (.bl (!decide (z ∈ ss))) := fun M1 _ Q q => .inl (.inl (by
  unfold dIn
  dsimp only
  rw [strsOf_map]
  exact q))
theorem rv_inL {z : Str} {ss : List Str} {a : Addr} (e : M a = some (.ls (ss.map D.str))) : Rv (dInA false) (.str z) (.ob a) M (.bl (decide (z ∈ ss))) := fun M1 g Q q => .inl (.inl (by
  unfold dIn
  dsimp only
  rw [msq_ls (g a _ e)]
  dsimp only [Option.bind_some]
  rw [strsOf_map]
  exact q))
theorem rv_ninL {z : Str} {ss : List Str} {a : Addr} (e : M a = some (.ls (ss.map D.str))) : Rv (dInA true) (.str z) (.ob a) M (.bl (!decide (z ∈ ss))) := fun M1 g Q q => .inl (.inl (by
  unfold dIn
  dsimp only
  rw [msq_ls (g a _ e)]
  dsimp only [Option.bind_some]
  rw [strsOf_map]
  exact q))
theorem rv_inLI {z : Int} {ss : List Int} {a : Addr} (e : M a = some (.ls (ss.map D.int))) : Rv (dInA false) (.int z) (.ob a) M (.bl (decide (z ∈ ss))) := fun M1 g Q q => .inl (.inr (by
  unfold dInI
  dsimp only
  rw [msq_ls (g a _ e)]
  dsimp only [Option.bind_some]
  rw [intsOf_map]
  exact q))
theorem rv_inD {k : Key} {kvs : List (Key × D)} {a : Addr} (ek : dkey x = some k) (e : M a = some (.dc kvs)) : Rv (dInA false) x (.ob a) M (.bl (valD kvs k).isSome) := fun M1 g Q q => .inr (.inl (by
  unfold dInDk
  rw [ek]
  dsimp only
  rw [g a _ e]
  exact q))
theorem rv_ninD {k : Key} {kvs : List (Key × D)} {a : Addr} (ek : dkey x = some k) (e : M a = some (.dc kvs)) : Rv (dInA true) x (.ob a) M (.bl (!(valD kvs k).isSome)) := fun M1 g Q q => .inr (.inl (by
  unfold dInDk
  rw [ek]
  dsimp only
  rw [g a _ e]
  exact q))
theorem rv_inS {k : Nat} {z : Str} : Rv (dInA false) (.str ⟨#[k]⟩) (.str z) M (.bl (decide (k ∈ z.cps.toList))) := fun M1 g Q q => .inr (.inr q)
theorem rv_ninS {k : Nat} {z : Str} : Rv (dInA true) (.str ⟨#[k]⟩) (.str z) M (.bl (!decide (k ∈ z.cps.toList))) := fun M1 g Q q => .inr (.inr q)
theorem rv_ixT {ds : List D} {i : Int} (h : atI ds i = some v) : Rv dIx (.tup ds) (.int i) M v := fun M1 g Q q => by
  unfold dIx
  dsimp only
  rw [h]
  exact q
theorem rv_ixL {ds : List D} {i : Int} {a : Addr} (e : M a = some (.ls ds)) (h : atI ds i = some v) : Rv dIx (.ob a) (.int i) M v := fun M1 g Q q => by
  unfold dIx
  dsimp only
  rw [g a _ e]
  dsimp only
  rw [h]
  exact q
theorem rv_ixD {kvs : List (Key × D)} {k : Key} {a : Addr} (ek : dkey y = some k) (e : M a = some (.dc kvs)) (h : valD kvs k = some v) : Rv dIx (.ob a) y M v := fun M1 g Q q => by
  unfold dIx
  cases y with
  | int i => (dsimp only; rw [g a _ e]; dsimp only; rw [ek]; dsimp only; rw [h]; exact q)
  | str i => (dsimp only; rw [g a _ e]; dsimp only; rw [ek]; dsimp only; rw [h]; exact q)
  | non => cases ek
  | bl _ => cases ek
  | tup _ => cases ek
  | ob _ => cases ek
  | ty _ => cases ek
theorem rv_inW {z : Str} {a : Addr} {kvs : List (Str × Int)} : Rv (dInW true a kvs) (.str z) (.ob a) M (.bl (!(kvs.lookup z).isSome)) := fun M1 _ Q q => ⟨rfl, q⟩
theorem rv_ixW {z : Str} {a : Addr} {kvs : List (Str × Int)} {i : Int} (h : kvs.lookup z = some i) : Rv (dIxW a kvs) (.ob a) (.str z) M (.int i) := fun M1 _ Q q => ⟨rfl, by
  rw [h]
  exact q⟩
/-! built-ins by shape -/
def isStr : D → Bool
  | .str _ => true
  | _ => false
def isTup : D → Bool
  | .tup _ => true
  | _ => false
theorem rc_isS (h : Ok M x) : Rc dIsI [x, .ty "str"] M (.bl (isStr x)) := fun M1 g Q q => by
  have h1 := Ok.grow g x h
  have q1 := q M1 (Grow.refl M1)
  unfold dIsI
  cases x with
  | ob a =>
    unfold Ok at h1
    obtain ⟨xs, e⟩ := h1
    have t : tyD (.ob a) M1 = some "list" := by
      unfold tyD
      dsimp only
      rw [e]
    dsimp only
    rw [t]
    exact q1
  | ty _ => exact (show False from h1).elim
  | _ => exact q1
theorem rc_isT (h : Ok M x) : Rc dIsI [x, .ty "tuple"] M (.bl (isTup x)) := fun M1 g Q q => by
  have h1 := Ok.grow g x h
  have q1 := q M1 (Grow.refl M1)
  unfold dIsI
  cases x with
  | ob a =>
    unfold Ok at h1
    obtain ⟨xs, e⟩ := h1
    have t : tyD (.ob a) M1 = some "list" := by
      unfold tyD
      dsimp only
      rw [e]
    dsimp only
    rw [t]
    exact q1
  | ty _ => exact (show False from h1).elim
  | _ => exact q1
theorem rc_lenT {ds : List D} : Rc dLenA [.tup ds] M (.int ds.length) := fun M1 g Q q => q M1 (Grow.refl M1)
theorem rc_lenS {z : Str} (h : z.length ≤ sizeLine) : Rc dLenA [.str z] M (.int z.length) := fun M1 g Q q => ⟨h, q M1 (Grow.refl M1)⟩
theorem rc_lenL {ds : List D} {a : Addr} (e : M a = some (.ls ds)) : Rc dLenA [.ob a] M (.int ds.length) := fun M1 g Q q => by
  unfold dLenA
  dsimp only
  rw [g a _ e]
  exact q M1 (Grow.refl M1)
theorem rc_lenD {ds : List (Key × D)} {a : Addr} (e : M a = some (.dc ds)) : Rc dLenA [.ob a] M (.int ds.length) := fun M1 g Q q => by
  unfold dLenA
  dsimp only
  rw [g a _ e]
  exact q M1 (Grow.refl M1)
theorem rc_abs {i : Int} : Rc dAbs [.int i] M (.int (if i < 0 then -i else i)) := fun M1 g Q q => q M1 (Grow.refl M1)
theorem rc_int {i : Int} : Rc dIntC [.int i] M (.int i) := fun M1 g Q q => q M1 (Grow.refl M1)
theorem rc_intB {b : Bool} : Rc dIntC [.bl b] M (.int (if b then 1 else 0)) := fun M1 g Q q => q M1 (Grow.refl M1)
theorem rc_max {i j : Int} : Rc dMax2 [.int i, .int j] M (.int (if j > i then j else i)) := fun M1 g Q q => q M1 (Grow.refl M1)
theorem rc_min {i j : Int} : Rc dMin2 [.int i, .int j] M (.int (if j < i then j else i)) := fun M1 g Q q => q M1 (Grow.refl M1)
theorem rc_tup {ds : List D} : Rc dTupOf [.tup ds] M (.tup ds) := fun M1 g Q q => q M1 (Grow.refl M1)
theorem rc_tupL {ds : List D} {a : Addr} (e : M a = some (.ls ds)) : Rc dTupOf [.ob a] M (.tup ds) := fun M1 g Q q => by
  unfold dTupOf
  dsimp only
  rw [msq_ls (g a _ e)]
  exact q M1 (Grow.refl M1)
theorem rc_repr {b : Bool} : Rc dReprB [.bl b] M (.str (if b then "True" else "False")) := fun M1 g Q q => q M1 (Grow.refl M1)
/-- all of a new list -/
theorem gv_all {bs : List Bool} (h : Gx te ρ M (bs.map D.bl)) : Gv (dCB dAll (dCons te dNil)) ρ M (.bl (bs.all id)) := fun M1 g1 Q q => h M1 g1 _ fun M2 p g2 np e => by
  unfold dNil dAll
  dsimp only
  rw [msq_ls e]
  dsimp only [Option.bind_some]
  rw [blsOf_map]
  exact q M2 g2
theorem gv_tupOf (h : Gx te ρ M vs) : Gv (dCB dTupOf (dCons te dNil)) ρ M (.tup vs) := fun M1 g1 Q q => h M1 g1 _ fun M2 p g2 np e => by
  unfold dNil dTupOf
  dsimp only
  rw [msq_ls e]
  exact q M2 g2
theorem gv_lenL (h : Gx te ρ M vs) : Gv (dCB dLenA (dCons te dNil)) ρ M (.int vs.length) := fun M1 g1 Q q => h M1 g1 _ fun M2 p g2 np e => by
  unfold dNil dLenA
  dsimp only
  rw [e]
  exact q M2 g2
theorem gv_neL (h : Gx te ρ M vs) : Gv (dOp (dEq true) te (dLst dNil)) ρ M (.bl (!vs.isEmpty)) := fun M1 g1 Q q => h M1 g1 _ fun M2 p g2 np e => by
  refine ⟨Nat.zero_le _, fun p2 np2 => ?_⟩
  have ne : p ≠ p2 := fun z => by
    rw [← z, e] at np2
    cases np2
  unfold dEq
  dsimp only
  rw [msq_ls (show mset M2 p2 (.ls []) p = some (.ls vs) by rw [mset_ne ne]; exact e), msq_ls (show mset M2 p2 (.ls []) p2 = some (.ls []) from mset_same)]
  exact q _ (g2.trans (Grow.new np2))
theorem gv_eqL (h : Gx te ρ M vs) : Gv (dOp (dEq false) te (dLst dNil)) ρ M (.bl vs.isEmpty) := fun M1 g1 Q q => h M1 g1 _ fun M2 p g2 np e => by
  refine ⟨Nat.zero_le _, fun p2 np2 => ?_⟩
  have ne : p ≠ p2 := fun z => by
    rw [← z, e] at np2
    cases np2
  unfold dEq
  dsimp only
  rw [msq_ls (show mset M2 p2 (.ls []) p = some (.ls vs) by rw [mset_ne ne]; exact e), msq_ls (show mset M2 p2 (.ls []) p2 = some (.ls []) from mset_same)]
  exact q _ (g2.trans (Grow.new np2))
/-- a list that stands, by its name: like a new one -/
theorem gv_ne_at {a : Addr} (h : Gv te ρ M (.ob a)) (e : M a = some (.ls vs)) : Gv (dOp (dEq true) te (dLst dNil)) ρ M (.bl (!vs.isEmpty)) := fun M1 g1 Q q => h M1 g1 _ fun M2 g2 => by
  refine ⟨Nat.zero_le _, fun p2 np2 => ?_⟩
  have e2 : M2 a = some (.ls vs) := g2 a _ (g1 a _ e)
  have ne : a ≠ p2 := fun z => by
    rw [← z, e2] at np2
    cases np2
  unfold dEq
  dsimp only
  rw [msq_ls (show mset M2 p2 (.ls []) a = some (.ls vs) by rw [mset_ne ne]; exact e2), msq_ls (show mset M2 p2 (.ls []) p2 = some (.ls []) from mset_same)]
  exact q _ (g2.trans (Grow.new np2))
theorem gv_eq_at {a : Addr} (h : Gv te ρ M (.ob a)) (e : M a = some (.ls vs)) : Gv (dOp (dEq false) te (dLst dNil)) ρ M (.bl vs.isEmpty) := fun M1 g1 Q q => h M1 g1 _ fun M2 g2 => by
  refine ⟨Nat.zero_le _, fun p2 np2 => ?_⟩
  have e2 : M2 a = some (.ls vs) := g2 a _ (g1 a _ e)
  have ne : a ≠ p2 := fun z => by
    rw [← z, e2] at np2
    cases np2
  unfold dEq
  dsimp only
  rw [msq_ls (show mset M2 p2 (.ls []) a = some (.ls vs) by rw [mset_ne ne]; exact e2), msq_ls (show mset M2 p2 (.ls []) p2 = some (.ls []) from mset_same)]
  exact q _ (g2.trans (Grow.new np2))
/-- in a display of texts -/
theorem gv_inLst {z : Str} {ss : List Str} (h : Gv te ρ M (.str z)) (ha : Ga t ρ M (ss.map D.str)) (hl : ss.length ≤ sizeLine) : Gv (dOp (dInA false) te (dLst t)) ρ M (.bl (decide (z ∈ ss))) := fun M1 g1 Q q => h M1 g1 _ fun M2 g2 => ha M2 (g1.trans g2) _ fun M3 g3 => ⟨by rw [List.length_map]; exact hl, fun p np =>
  rv_inL (M := mset M3 p (.ls (ss.map D.str))) mset_same _ (Grow.refl _) Q (q _ ((g2.trans g3).trans (Grow.new np)))⟩
theorem gv_inLstI {z : Int} {ss : List Int} (h : Gv te ρ M (.int z)) (ha : Ga t ρ M (ss.map D.int)) (hl : ss.length ≤ sizeLine) : Gv (dOp (dInA false) te (dLst t)) ρ M (.bl (decide (z ∈ ss))) := fun M1 g1 Q q => h M1 g1 _ fun M2 g2 => ha M2 (g1.trans g2) _ fun M3 g3 => ⟨by rw [List.length_map]; exact hl, fun p np =>
  rv_inLI (M := mset M3 p (.ls (ss.map D.int))) mset_same _ (Grow.refl _) Q (q _ ((g2.trans g3).trans (Grow.new np)))⟩
theorem gv_ninLst {z : Str} {ss : List Str} (h : Gv te ρ M (.str z)) (ha : Ga t ρ M (ss.map D.str)) (hl : ss.length ≤ sizeLine) : Gv (dOp (dInA true) te (dLst t)) ρ M (.bl (!decide (z ∈ ss))) := fun M1 g1 Q q => h M1 g1 _ fun M2 g2 => ha M2 (g1.trans g2) _ fun M3 g3 => ⟨by rw [List.length_map]; exact hl, fun p np =>
  rv_ninL (M := mset M3 p (.ls (ss.map D.str))) mset_same _ (Grow.refl _) Q (q _ ((g2.trans g3).trans (Grow.new np)))⟩
/-! slices of a tuple -/
def Go (to : DTO) (ρ : DSt) (M : DM) (o : Option Int) : Prop := ∀ M1, Grow M M1 → ∀ Q : Option Int → DM → Prop, (∀ M2, Grow M1 M2 → Q o M2) → to ρ M1 Q
theorem go_none : Go dNoPart ρ M none := fun M1 _ Q q => q M1 (Grow.refl M1)
theorem go_some {i : Int} (h : Gv te ρ M (.int i)) : Go (dPart te) ρ M (some i) := fun M1 g1 Q q => h M1 g1 _ fun M2 g2 => q M2 g2
theorem gv_sl {tl th : DTO} {l u : Option Int} (h : Gv te ρ M (.tup vs)) (hl : Go tl ρ M l) (hu : Go th ρ M u) : Gv (dSl te tl th) ρ M (.tup (dcut vs l u)) := fun M1 g1 Q q => h M1 g1 _ fun M2 g2 => hl M2 (g1.trans g2) _ fun M3 g3 => hu M3 ((g1.trans g2).trans g3) _ fun M4 g4 => q M4 ((g2.trans g3).trans g4)
theorem gl_sl {tl th : DTO} {l u : Option Int} {a : Addr} (h : Gv te ρ M (.ob a)) (e : M a = some (.ls vs)) (hl : Go tl ρ M l) (hu : Go th ρ M u) : Gx (dSl te tl th) ρ M (dcut vs l u) := fun M1 g1 Q q => h M1 g1 _ fun M2 g2 => hl M2 (g1.trans g2) _ fun M3 g3 => hu M3 ((g1.trans g2).trans g3) _ fun M4 g4 => by
  dsimp only
  have g14 := (g2.trans g3).trans g4
  rw [msq_ls ((g1.trans g14) a _ e)]
  exact fun p np => q _ p (g14.trans (Grow.new np)) (by
    cases z : M1 p with
    | none => rfl
    | some o =>
      rw [g14 p o z] at np
      cases np) mset_same
/-! list(..) -/
theorem gl_listT (h : Gv te ρ M (.tup vs)) : Gx (dCB dListOf (dCons te dNil)) ρ M vs := fun M1 g1 Q q => h M1 g1 _ fun M2 g2 => fun p np => q _ p (g2.trans (Grow.new np)) (by
    cases z : M1 p with
    | none => rfl
    | some o =>
      rw [g2 p o z] at np
      cases np) mset_same
/-! lists joined -/
theorem gl_cat {ws : List D} (h : Gx ta ρ M vs) (h' : Gx tb ρ M ws) (hl : vs.length + ws.length ≤ sizeLine) : Gx (dOp dAdd ta tb) ρ M (vs ++ ws) := fun M1 g1 Q q => h M1 g1 _ fun M2 p g2 np e => h' M2 (g1.trans g2) _ fun M3 p2 g3 np2 e2 => by
  unfold dAdd
  dsimp only
  rw [g3 p _ e, e2]
  exact ⟨hl, fun p3 np3 => q _ p3 ((g2.trans g3).trans (Grow.new np3)) (by
    cases z : M1 p3 with
    | none => rfl
    | some o =>
      rw [(g2.trans g3) p3 o z] at np3
      cases np3) mset_same⟩
theorem gl_at {a : Addr} {ws : List D} (h : Gv ta ρ M (.ob a)) (e0 : M a = some (.ls vs)) (h' : Gx tb ρ M ws) (hl : vs.length + ws.length ≤ sizeLine) : Gx (dOp dAdd ta tb) ρ M (vs ++ ws) := fun M1 g1 Q q => h M1 g1 _ fun M2 g2 => h' M2 (g1.trans g2) _ fun M3 p2 g3 np2 e2 => by
  unfold dAdd
  dsimp only
  rw [g3 a _ (g2 a _ (g1 a _ e0)), e2]
  exact ⟨hl, fun p3 np3 => q _ p3 ((g2.trans g3).trans (Grow.new np3)) (by
    cases z : M1 p3 with
    | none => rfl
    | some o =>
      rw [(g2.trans g3) p3 o z] at np3
      cases np3) mset_same⟩
end
/-! ### comprehensions as new lists -/
section
variable {ρ : DSt} {M : DM} {all : List D} {ti : DTI} {i : Nat} {te : DTE} {tt : DTT} {vs : List Nat}
/-- what is walked: all, whatever grows -/
def Gi (ti : DTI) (ρ : DSt) (M : DM) (all : List D) : Prop := ∀ M1, Grow M M1 → ∀ R : List D → (DM → Prop) → DM → Prop, (∀ M2 stay, Grow M1 M2 → (∀ M3, Grow M2 M3 → stay M3) → R all stay M2) → ti ρ M1 R
theorem gi_tup {te : DTE} (h : Gv te ρ M (.tup all)) : Gi (dwA te) ρ M all := fun M1 g1 R q => h M1 g1 _ fun M2 g2 => q M2 always g2 fun _ _ => True.intro
theorem gi_lst {te : DTE} {a : Addr} (h : Gv te ρ M (.ob a)) (e : M a = some (.ls all)) : Gi (dwA te) ρ M all := fun M1 g1 R q => h M1 g1 _ fun M2 g2 => by
  have e2 := msq_ls (g2 a _ (g1 a _ e))
  dsimp only
  rw [e2]
  exact q M2 _ g2 fun M3 g3 => msq_ls (g3 a _ (g2 a _ (g1 a _ e)))
theorem gi_new {te : DTE} (h : Gx te ρ M all) : Gi (dwA te) ρ M all := fun M1 g1 R q => h M1 g1 _ fun M2 p g2 np e => by
  dsimp only
  rw [msq_ls e]
  exact q M2 _ g2 fun M3 g3 => msq_ls (g3 p _ e)
theorem gi_str {te : DTE} {z : Str} (h : Gv te ρ M (.str z)) : Gi (dwS te) ρ M (signs z) := fun M1 g1 R q => h M1 g1 _ fun M2 g2 => q M2 always g2 fun _ _ => True.intro
theorem gi_rng {te : DTE} {n : Nat} (h : Gv te ρ M (.int n)) (hn : n < 2 ^ 62) : Gi (dwR1 (dCons te dNil)) ρ M (rgD 0 n) := fun M1 g1 R q => h M1 g1 _ fun M2 g2 => ⟨by omega, by omega, q M2 always g2 fun _ _ => True.intro⟩
theorem gl_lc (f : D → D) (hi : Gi ti ρ M all) (hl : all.length ≤ sizeLine) (step : ∀ d ∈ all, Gv te ((dwipe ρ vs).set i (some d)) M (f d)) : Gx (dLc ti i dYes te vs) ρ M (all.map f) := fun M1 g1 Q q => by
  refine hi M1 g1 _ fun M2 stay g2 hs => ?_
  refine compMap f hs hl (fun d hd M3 N g3 hN => step d hd M3 ((g1.trans g2).trans g3) N hN) fun M3 g3 p np => ?_
  exact q _ p ((g2.trans g3).trans (Grow.new np)) (by
    cases z : M1 p with
    | none => rfl
    | some o =>
      rw [(g2.trans g3) p o z] at np
      cases np) mset_same
theorem gl_lcF (f : D → D) (t : D → Bool) (hi : Gi ti ρ M all) (hl : all.length ≤ sizeLine) (test : ∀ d ∈ all, Gt tt ((dwipe ρ vs).set i (some d)) M (t d)) (step : ∀ d ∈ all, t d = true → Gv te ((dwipe ρ vs).set i (some d)) M (f d)) :
    Gx (dLc ti i tt te vs) ρ M ((all.filter t).map f) := fun M1 g1 Q q => by
  refine hi M1 g1 _ fun M2 stay g2 hs => ?_
  refine compFil f t hs hl (fun d hd M3 N g3 hN => test d hd M3 ((g1.trans g2).trans g3) N hN) (fun d hd ht M3 N g3 hN => step d hd ht M3 ((g1.trans g2).trans g3) N hN) fun M3 g3 p np => ?_
  exact q _ p ((g2.trans g3).trans (Grow.new np)) (by
    cases z : M1 p with
    | none => rfl
    | some o =>
      rw [(g2.trans g3) p o z] at np
      cases np) mset_same
end
/-! ### statements -/
section
variable {ρ : DSt} {M : DM} {E : DEnds} {te : DTE} {tt : DTT} {t u : DTS} {v : D} {b : Bool} {i : Nat} {xs : List D}
theorem s_ret (h : Gv te ρ M v) (q : ∀ M1, Grow M M1 → E.rt v M1) : dRet te E ρ M := h M (Grow.refl M) _ q
theorem s_retL (h : Gx te ρ M xs) (q : ∀ M1 p, Grow M M1 → M p = none → M1 p = some (.ls xs) → E.rt (.ob p) M1) : dRet te E ρ M := h M (Grow.refl M) _ q
theorem s_seq (h : t { E with nx := u E } ρ M) : dSeq t u E ρ M := h
theorem s_if (h : Gt tt ρ M b) (h1 : b = true → ∀ M1, Grow M M1 → t E ρ M1) (h2 : b = false → ∀ M1, Grow M M1 → u E ρ M1) : dIfS tt t u E ρ M := h M (Grow.refl M) _ fun M1 g1 => by
  cases b with
  | true =>
    rw [if_pos rfl]
    exact h1 rfl M1 g1
  | false =>
    rw [if_neg (by simp)]
    exact h2 rfl M1 g1
theorem s_set (h : Gv te ρ M v) (q : ∀ M1, Grow M M1 → E.nx (ρ.set i (some v)) M1) : dAsg te (dName i) E ρ M := h M (Grow.refl M) _ q
theorem s_setL (h : Gx te ρ M xs) (q : ∀ M1 p, Grow M M1 → M p = none → M1 p = some (.ls xs) → E.nx (ρ.set i (some (.ob p))) M1) : dAsg te (dName i) E ρ M := h M (Grow.refl M) _ q
theorem s_for {ti : DTI} {g : DTG} {all : List D} (h : Gi ti ρ M all) (q : ∀ M1 stay, Grow M M1 → (∀ M2, Grow M1 M2 → stay M2) → dLoop stay g t E all ρ M1) : dFor ti g t E ρ M := h M (Grow.refl M) _ q
end
end DL
namespace DL
open PySem PySem.Spec PyProof.Rows L2
/-! ### places and slices -/
theorem atI_nat {α : Type} {ds : List α} {n : Nat} {v : α} (h : ds[n]? = some v) : atI ds (n : Int) = some v := by
  have l := (List.getElem?_eq_some_iff.mp h).1
  unfold atI ixN
  rw [if_pos (by omega), if_pos (by omega)]
  exact h
theorem atI_last {α : Type} {ds : List α} {v : α} (h : ds.getLast? = some v) : atI ds (-1) = some v := by
  cases ds with
  | nil => cases h
  | cons a r =>
    unfold atI ixN
    rw [if_neg (by omega), if_pos (by rw [List.length_cons]; omega)]
    rw [List.getLast?_eq_getElem?] at h
    show (a :: r)[(-1 + ((a :: r).length : Int)).toNat]? = some v
    rw [← h]
    congr 1
    omega
theorem dcut_from {ds : List D} {n : Nat} : dcut ds (some (n : Int)) none = ds.drop n := by
  unfold dcut
  rw [HT.sIx_nat, HT.sIx_none]
  by_cases h : n ≤ ds.length
  · rw [Nat.min_eq_left h, List.take_of_length_le]
    rw [List.length_drop]
    exact Nat.le_refl _
  · rw [Nat.min_eq_right (by omega), List.drop_of_length_le (Nat.le_refl _), List.drop_of_length_le (by omega)]
    simp
theorem dcut_to {ds : List D} {n : Nat} : dcut ds none (some (n : Int)) = ds.take n := by
  unfold dcut
  rw [HT.sIx_nat, HT.sIx_none, List.drop_zero, Nat.sub_zero]
  by_cases h : n ≤ ds.length
  · rw [Nat.min_eq_left h]
  · rw [Nat.min_eq_right (by omega), List.take_of_length_le (Nat.le_refl _), List.take_of_length_le (by omega)]
theorem dcut_init {ds : List D} : dcut ds none (some (-1)) = ds.dropLast := by
  unfold dcut
  rw [HT.sIx_none, List.drop_zero, Nat.sub_zero]
  have e : HT.sIx ds.length ds.length (some (-1)) = ds.length - 1 := by
    unfold HT.sIx
    dsimp only
    rw [if_pos (by omega)]
    omega
  rw [e, List.dropLast_eq_take]
end DL
namespace DL
open PySem PySem.Spec PyProof.Rows L2
/-- what is never reached -/
theorem PSs.none {X : Cx} {sts : List Stmt} : PSs X sts (LS X.K fun _ _ _ => False) := ⟨fun _ _ _ _ _ _ ⟨_, _, _, _, _, h, _⟩ => h.elim⟩
theorem PS.none {X : Cx} {st : Stmt} : PS X st (LS X.K fun _ _ _ => False) := ⟨fun _ _ _ _ _ _ ⟨_, _, _, _, _, h, _⟩ => h.elim⟩
theorem PE.none {X : Cx} {e : Expr} : PE X e (LE X.K fun _ _ _ => False) := ⟨fun _ _ _ _ _ _ ⟨_, _, _, _, _, h, _⟩ => h.elim⟩
end DL
namespace DL
open PySem PySem.Spec PyProof.Rows L2
section
variable {ρ : DSt} {M : DM} {E : DEnds} {te : DTE} {t : DTS} {g : DTG} {all : List D}
theorem s_forT (h : Gv te ρ M (.tup all)) (q : ∀ M1, Grow M M1 → dLoop always g t E all ρ M1) : dFor (dwA te) g t E ρ M := h M (Grow.refl M) _ q
theorem s_forL {a : Addr} (h : Gv te ρ M (.ob a)) (e : M a = some (.ls all)) (q : ∀ M1, Grow M M1 → dLoop (fun M' => Msq M' a = some all) g t E all ρ M1) : dFor (dwA te) g t E ρ M := h M (Grow.refl M) _ fun M1 g1 => by
  dsimp only
  rw [msq_ls (g1 a _ e)]
  exact q M1 g1
theorem s_forX (h : Gx te ρ M all) (q : ∀ M1 p, Grow M M1 → M p = none → M1 p = some (.ls all) → dLoop (fun M' => Msq M' p = some all) g t E all ρ M1) : dFor (dwA te) g t E ρ M := h M (Grow.refl M) _ fun M1 p g1 np e => by
  dsimp only
  rw [msq_ls e]
  exact q M1 p g1 np e
theorem s_forR {n : Nat} (h : Gv te ρ M (.int n)) (hn : n < 2 ^ 62) (q : ∀ M1, Grow M M1 → dLoop always g t E (rgD 0 n) ρ M1) : dFor (dwR1 (dCons te dNil)) g t E ρ M := h M (Grow.refl M) _ fun M1 g1 => ⟨by omega, by omega, q M1 g1⟩
end
end DL

/-! DLo: new dicts, comprehensions of two fors, dicts by their keys. -/
namespace DL
open PySem PySem.Spec PyProof.Rows L2

theorem fresh_of {M M1 : DM} {p : Addr} (g : Grow M M1) (np : M1 p = none) : M p = none := by
  cases z : M p with
  | none => rfl
  | some o =>
    rw [g p o z] at np
    cases np
/-- te is a new dict -/
def Gd (te : DTE) (ρ : DSt) (M : DM) (kvs : List (Key × D)) : Prop := ∀ M1, Grow M M1 → ∀ Q : DK, (∀ M2 p, Grow M1 M2 → M1 p = none → M2 p = some (.dc kvs) → Q (.ob p) M2) → te ρ M1 Q
def dictOf (f : D → Key) (g : D → D) (ds : List D) : List (Key × D) := ds.foldl (fun acc d => putD acc (f d) (g d)) []
theorem dictOf_snoc {f : D → Key} {g : D → D} {ds : List D} {d : D} : dictOf f g (ds ++ [d]) = putD (dictOf f g ds) (f d) (g d) := by
  unfold dictOf
  rw [List.foldl_append]
  rfl
theorem putD_len (kvs : List (Key × D)) (k : Key) (v : D) : (putD kvs k v).length ≤ kvs.length + 1 := by
  unfold putD
  split
  · simp
  · simp
theorem dictOf_len {f : D → Key} {g : D → D} : ∀ {ds : List D}, (dictOf f g ds).length ≤ ds.length := by
  intro ds
  have aux : ∀ (ds : List D) (acc : List (Key × D)), (ds.foldl (fun acc d => putD acc (f d) (g d)) acc).length ≤ acc.length + ds.length := by
    intro ds
    induction ds with
    | nil => intro acc; simp
    | cons d ds ih =>
      intro acc
      have h := ih (putD acc (f d) (g d))
      have h2 := putD_len acc (f d) (g d)
      simp only [List.foldl_cons, List.length_cons]
      omega
  simpa [dictOf] using aux ds []
section
variable {ρ : DSt} {M : DM} {all : List D} {ti : DTI} {i j : Nat} {te tk tv : DTE} {vs vs1 : List Nat} {ti1 : DTI}
theorem gd_dc (x : D → D) (f : D → Key) (g : D → D) (hi : Gi ti ρ M all) (hl : all.length ≤ sizeLine) (hk : ∀ d ∈ all, Gv tk ((dwipe ρ vs).set i (some d)) M (x d)) (hx : ∀ d ∈ all, dkey (x d) = some (f d)) (hv : ∀ d ∈ all, Gv tv ((dwipe ρ vs).set i (some d)) M (g d)) :
    Gd (dDc ti i dYes tk tv vs) ρ M (dictOf f g all) := fun M1 g1 Q q => by
  refine hi M1 g1 _ fun M2 stay g2 hs => ?_
  have main : ∀ (r done : List D) (M3 : DM), all = done ++ r → Grow M2 M3 → dDcL stay dYes tk tv (dwipe ρ vs) i (fun acc M2 => ∀ p, M2 p = none → Q (.ob p) (mset M2 p (.dc acc))) r (dictOf f g done) M3 := by
    intro r
    induction r with
    | nil =>
      intro done M3 e g3 p np
      rw [List.append_nil] at e
      rw [← e]
      exact q _ p ((g2.trans g3).trans (Grow.new np)) (fresh_of (g2.trans g3) np) mset_same
    | cons d r ih =>
      intro done M3 e g3
      have hd : d ∈ all := by rw [e]; simp
      unfold dDcL dYes
      dsimp only
      rw [if_pos rfl]
      refine hk d hd M3 ((g1.trans g2).trans g3) _ fun M4 g4 => hv d hd M4 (((g1.trans g2).trans g3).trans g4) _ fun M5 g5 => ?_
      rw [hx d hd]
      refine ⟨?_, hs M5 ((g3.trans g4).trans g5), ?_⟩
      · have := dictOf_len (f := f) (g := g) (ds := done)
        rw [e, List.length_append, List.length_cons] at hl
        omega
      · rw [← dictOf_snoc]
        exact ih (done ++ [d]) M5 (by rw [e]; simp) ((g3.trans g4).trans g5)
  exact main all [] M2 rfl (Grow.refl _)
/-- [e for d in a tuple for e in a new list of d] -/
theorem gx_lc2 (f : D → List D) (hi : Gi ti ρ M all) (hl : (all.flatMap f).length ≤ sizeLine) (h1 : ∀ d ∈ all, Gi ti1 ((dwipe ρ vs).set i (some d)) M (f d)) (he : ∀ d ∈ all, ∀ e ∈ f d, Gv te ((dwipe ((dwipe ρ vs).set i (some d)) vs1).set j (some e)) M e) :
    Gx (dLc2 ti i dYes ti1 j dYes te vs vs1) ρ M (all.flatMap f) := fun M1 g1 Q q => by
  refine hi M1 g1 _ fun M2 stay g2 hs => ?_
  have main : ∀ (r done : List D) (M3 : DM), all = done ++ r → Grow M2 M3 → dComp2 stay dYes ti1 j dYes te vs1 (dwipe ρ vs) i (fun acc M2 => ∀ p, M2 p = none → Q (.ob p) (mset M2 p (.ls acc))) r (done.flatMap f) M3 := by
    intro r
    induction r with
    | nil =>
      intro done M3 e g3 p np
      rw [List.append_nil] at e
      rw [← e]
      exact q _ p ((g2.trans g3).trans (Grow.new np)) (fresh_of (g2.trans g3) np) mset_same
    | cons d r ih =>
      intro done M3 e g3
      have hd : d ∈ all := by rw [e]; simp
      unfold dComp2 dYes
      dsimp only
      rw [if_pos rfl]
      refine h1 d hd M3 ((g1.trans g2).trans g3) _ fun M4 stay1 g4 hs1 => ?_
      have len : (done.flatMap f).length + (f d).length ≤ sizeLine := by
        rw [e, List.flatMap_append, List.flatMap_cons, List.length_append, List.length_append] at hl
        omega
      refine compI (fun r2 acc M5 => Grow M4 M5 ∧ ∃ done2, f d = done2 ++ r2 ∧ acc = done.flatMap f ++ done2) (fun acc M5 ⟨g5, done2, e2, ea⟩ => ?_) (fun y r2 acc M5 ⟨g5, done2, e2, ea⟩ N hN => ?_) _ _ _ ⟨Grow.refl _, [], rfl, by simp⟩
      · refine ⟨hs M5 ((g3.trans g4).trans g5), ?_⟩
        have z := ih (done ++ [d]) M5 (by rw [e]; simp) ((g3.trans g4).trans g5)
        rw [List.flatMap_append, List.flatMap_cons, List.flatMap_nil, List.append_nil] at z
        rw [ea, show done2 = f d by rw [e2, List.append_nil]]
        exact z
      · dsimp only
        rw [if_pos rfl]
        refine he d hd y (by rw [e2]; simp) M5 ((((g1.trans g2).trans g3).trans g4).trans g5) _ fun M6 g6 => ⟨?_, hs1 M6 (g5.trans g6), hN _ M6 ⟨g5.trans g6, done2 ++ [y], by rw [e2]; simp, by rw [ea]; simp⟩⟩
        rw [ea, List.length_append]
        rw [e2, List.length_append, List.length_cons] at len
        omega
  exact main all [] M2 rfl (Grow.refl _)
end
/-! ### keys that are texts -/
section
variable {nm : D → Str} {g : D → D}
theorem any_keys {kvs : List (Key × D)} {ss : List Str} (h : kvs.map (·.1) = ss.map Sum.inr) (s : Str) : (kvs.any fun kv => decide (kv.1 = .inr s)) = decide (s ∈ ss) := by
  induction kvs generalizing ss with
  | nil =>
    cases ss with
    | nil => simp
    | cons => simp at h
  | cons kv kvs ih =>
    cases ss with
    | nil => simp at h
    | cons x ss =>
      rw [List.map_cons, List.map_cons, List.cons.injEq] at h
      rw [List.any_cons, ih h.2, h.1]
      by_cases e : s = x
      · subst e
        simp
      · have ne : ¬ x = s := fun z => e z.symm
        have e2 : decide ((Sum.inr x : Key) = Sum.inr s) = false := decide_eq_false fun z => ne (Sum.inr.inj z)
        rw [e2]
        simp [e]
theorem putD_keys {kvs : List (Key × D)} {ss : List Str} (h : kvs.map (·.1) = ss.map Sum.inr) (s : Str) (v : D) : (putD kvs (.inr s) v).map (·.1) = (seen1 ss s).map Sum.inr := by
  unfold putD seen1
  rw [any_keys h]
  by_cases e : s ∈ ss
  · rw [if_pos (decide_eq_true e), if_pos e, List.map_map, ← h]
    apply List.map_congr_left
    intro kv _
    show (if kv.1 = .inr s then (kv.1, v) else kv).1 = kv.1
    split <;> rfl
  · rw [decide_eq_false e, if_neg (by simp), if_neg e, List.map_append, h]
    simp
theorem dictOf_keys (ds : List D) : (dictOf (fun d => .inr (nm d)) g ds).map (·.1) = (seen (ds.map nm)).map Sum.inr := by
  have aux : ∀ (ds : List D) (acc : List (Key × D)) (ss : List Str), acc.map (·.1) = ss.map Sum.inr → (ds.foldl (fun acc d => putD acc (.inr (nm d)) (g d)) acc).map (·.1) = ((ds.map nm).foldl seen1 ss).map Sum.inr := by
    intro ds
    induction ds with
    | nil => intro acc ss h; exact h
    | cons d ds ih =>
      intro acc ss h
      rw [List.foldl_cons, List.map_cons, List.foldl_cons]
      exact ih _ _ (putD_keys h _ _)
  exact aux ds [] [] rfl
theorem seen_mem (xs : List Str) (s : Str) : s ∈ seen xs ↔ s ∈ xs := by
  have aux : ∀ (xs acc : List Str), s ∈ xs.foldl seen1 acc ↔ s ∈ acc ∨ s ∈ xs := by
    intro xs
    induction xs with
    | nil => intro acc; simp
    | cons x xs ih =>
      intro acc
      rw [List.foldl_cons, ih]
      unfold seen1
      split
      · rename_i h
        constructor
        · rintro (h | h)
          · exact .inl h
          · exact .inr (List.mem_cons_of_mem _ h)
        · rintro (h2 | h2)
          · exact .inl h2
          · rcases List.mem_cons.mp h2 with rfl | h2
            · exact .inl h
            · exact .inr h2
      · constructor
        · rintro (h | h)
          · rcases List.mem_append.mp h with h | h
            · exact .inl h
            · exact .inr (by rw [List.mem_singleton.mp h]; exact List.mem_cons_self)
          · exact .inr (List.mem_cons_of_mem _ h)
        · rintro (h | h)
          · exact .inl (List.mem_append_left _ h)
          · rcases List.mem_cons.mp h with rfl | h
            · exact .inl (by simp)
            · exact .inr h
  simpa [seen] using aux xs []
theorem valD_some {kvs : List (Key × D)} {ss : List Str} (h : kvs.map (·.1) = ss.map Sum.inr) (s : Str) : (valD kvs (.inr s)).isSome = decide (s ∈ ss) := by
  rw [← any_keys h s]
  unfold valD
  rw [Option.isSome_map]
  induction kvs generalizing ss with
  | nil => rfl
  | cons kv kvs ih =>
    cases ss with
    | nil => simp at h
    | cons x ss =>
      rw [List.map_cons, List.map_cons, List.cons.injEq] at h
      rw [List.find?_cons, List.any_cons]
      cases e : decide (kv.1 = Sum.inr s) with
      | true => rfl
      | false => exact ih h.2
theorem seen_foldl_le : ∀ (ys acc : List Str), (ys.foldl seen1 acc).length ≤ acc.length + ys.length
  | [], acc => by simp
  | y :: ys, acc => by
    have h := seen_foldl_le ys (seen1 acc y)
    have h2 : (seen1 acc y).length ≤ acc.length + 1 := by
      unfold seen1
      split <;> simp
    simp only [List.foldl_cons, List.length_cons]
    omega
theorem seen_nodup (xs : List Str) : (seen xs).length = xs.length ↔ xs.Nodup := by
  have aux : ∀ (xs acc : List Str), (xs.foldl seen1 acc).length = acc.length + xs.length ↔ xs.Nodup ∧ ∀ x ∈ xs, x ∉ acc := by
    intro xs
    induction xs with
    | nil => intro acc; simp
    | cons x xs ih =>
      intro acc
      rw [List.foldl_cons]
      unfold seen1
      by_cases e : x ∈ acc
      · rw [if_pos e]
        have := seen_foldl_le xs acc
        constructor
        · intro h
          rw [List.length_cons] at h
          have h3 : (xs.foldl seen1 acc).length = acc.length + (xs.length + 1) := h
          omega
        · intro ⟨_, h⟩
          exact absurd e (h x List.mem_cons_self)
      · rw [if_neg e, List.length_cons]
        have z := ih (acc ++ [x])
        rw [List.length_append, List.length_singleton] at z
        have e3 : acc.length + (xs.length + 1) = acc.length + 1 + xs.length := by omega
        rw [e3]
        refine Iff.trans z ?_
        rw [List.nodup_cons]
        constructor
        · intro ⟨h1, h2⟩
          refine ⟨⟨fun hx => ?_, h1⟩, fun y hy => ?_⟩
          · exact h2 x hx (by simp)
          · rcases List.mem_cons.mp hy with rfl | hy
            · exact e
            · exact fun ha => h2 y hy (List.mem_append_left _ ha)
        · intro ⟨⟨h1, h2⟩, h3⟩
          refine ⟨h2, fun y hy ha => ?_⟩
          rcases List.mem_append.mp ha with ha | ha
          · exact h3 y (List.mem_cons_of_mem _ hy) ha
          · rw [List.mem_singleton.mp ha] at hy
            exact h1 hy
  have z := aux xs []
  simpa [seen] using z
end
end DL
namespace DL
open PySem PySem.Spec PyProof.Rows L2
/-! ### x.split() -/
def dWords (to : DTE) : DTE := fun ρ M Q => to ρ M fun x M1 => match x with
  | .str a => a.length + 2 ≤ sizeLine ∧ ∀ p, M1 p = none → Q (.ob p) (mset M1 p (.ls ((Txt.words a).map D.str)))
  | _ => False
section
variable {X : Cx} {o : Expr} {to : DTE} {apos pos : Pos}
theorem d_splitS (ho : PE X o (LE X.K to)) (hbase : attributeBase o "split" X.env (eval o X.env) = eval o X.env := by rfl) (hline : (apos.endLine == pos.line) = true := by rfl) : PE X (.Call (.Attribute o "split" apos) [] [] pos) (LE X.K (dWords to)) :=
  PE.weak (L2.pe_words ho hbase hline) fun σ H Q ⟨ρ, M, Q', rs, m, h, c⟩ => by
    refine ⟨ρ, M, _, rs, m, h, fun d M1 v H1 h1 s1 r1 m1 => ?_⟩
    cases d with
    | str a =>
      refine ⟨⟨a, r1⟩, a, r1, rfl, h1.1, fun p np => ?_⟩
      refine c _ _ _ _ (h1.2 p (m1.isNil np)) (s1.trans (Stp.new np)) rfl (m1.put (fun xs e => ?_) ⟨_, upd_same, RepL.of_strs _⟩)
      rw [np] at e
      cases e
    | _ => exact h1.elim
end
theorem gx_words {ρ : DSt} {M : DM} {to : DTE} {a : Str} (h : Gv to ρ M (.str a)) (hl : a.length + 2 ≤ sizeLine) : Gx (dWords to) ρ M ((Txt.words a).map D.str) := fun M1 g1 Q q => h M1 g1 _ fun M2 g2 => ⟨hl, fun p np => q _ p (g2.trans (Grow.new np)) (fresh_of g2 np) mset_same⟩
theorem d_repr {X : Cx} {p pos : Pos} {a : Expr} {es : List Expr} {t : DTA} (hm : X.mg "repr" = none) (ha : PA X (a :: es) (LA X.K t)) (hg : Gl X "repr" := by rfl) (he : starEach (a :: es) X.env = (false, eval a X.env) :: starEach es X.env := by rfl) (hpl : (backTo pos (starEach es X.env)).any (·.1) = false := by rfl) :
    PE X (.Call (.Name "repr" p) (a :: es) [] pos) (LE X.K (dCB dReprB t)) := d_callB call_reprB lc_reprB hg hm PyProof.Rows.boot_repr ha (by decide) (by decide) he hpl
theorem d_dict {X : Cx} {p pos : Pos} {a : Expr} {es : List Expr} {t : DTA} (hc : X.calm = true) (hm : X.mg "dict" = none) (ha : PA X (a :: es) (LA X.K t)) (hg : Gl X "dict" := by rfl) (he : starEach (a :: es) X.env = (false, eval a X.env) :: starEach es X.env := by rfl) (hpl : (backTo pos (starEach es X.env)).any (·.1) = false := by rfl) :
    PE X (.Call (.Name "dict" p) (a :: es) [] pos) (LE X.K (dCB dDictP t)) := d_callTy (call_dictP hc) lc_dictP hg hm (by decide +kernel) ha (by decide) (by decide) he hpl
theorem d_sorted {X : Cx} {p pos : Pos} {a : Expr} {es : List Expr} {t : DTA} (hc : X.calm = true) (hm : X.mg "sorted" = none) (ha : PA X (a :: es) (LA X.K t)) (hg : Gl X "sorted" := by rfl) (he : starEach (a :: es) X.env = (false, eval a X.env) :: starEach es X.env := by rfl) (hpl : (backTo pos (starEach es X.env)).any (·.1) = false := by rfl) :
    PE X (.Call (.Name "sorted" p) (a :: es) [] pos) (LE X.K (dCB dSortedD t)) := d_callB (call_sortedD hc) lc_sortedD hg hm (by decide +kernel) ha (by decide) (by decide) he hpl
/-- a new list against a new empty one -/
theorem gv_dictP {ρ : DSt} {M : DM} {te : DTE} {ds : List D} {kvs : List (Key × D)} (h : Gx te ρ M ds) (e : pairsOf ds = some kvs) : Gd (dCB dDictP (dCons te dNil)) ρ M (mergeD [] kvs) := fun M1 g1 Q q => h M1 g1 _ fun M2 p g2 np ep => by
  unfold dNil dDictP
  dsimp only
  rw [msq_ls ep]
  dsimp only [Option.bind_some]
  rw [e]
  exact fun p2 np2 => q _ p2 (g2.trans (Grow.new np2)) (fresh_of g2 np2) mset_same
end DL
namespace DL
open PySem PySem.Spec PyProof.Rows L2
section
variable {X : Cx} {pos : Pos} {k v : Expr} {ks : List (Option Expr)} {vs : List Expr} {tk tv : DTE} {ts : List (DTE × DTE)}
theorem dpp_nil : PPs X pos [] [] (([] : List (DTE × DTE)).map fun p => (LE X.K p.1, LE X.K p.2)) := pps_nil
theorem dpp_cons (hk : PE X k (LE X.K tk)) (hv : PE X v (LE X.K tv)) (hr : PPs X pos ks vs (ts.map fun p => (LE X.K p.1, LE X.K p.2))) : PPs X pos (some k :: ks) (v :: vs) (((tk, tv) :: ts).map fun p => (LE X.K p.1, LE X.K p.2)) := pps_cons hk hv hr
end
end DL

/-! DLp: a box that is drawn from: what else stands is kept. -/
namespace DL
open PySem PySem.Spec PyProof.Rows L2

/-- M without the addresses a, l -/
def hide (a l : Addr) (M : DM) : DM := fun x => if x = a ∨ x = l then none else M x
theorem hide_ne {a l x : Addr} {M : DM} (h1 : x ≠ a) (h2 : x ≠ l) : hide a l M x = M x := by
  unfold hide
  rw [if_neg (fun z => z.elim h1 h2)]
theorem hide_some {a l x : Addr} {M : DM} {o : MO} (h : hide a l M x = some o) : x ≠ a ∧ x ≠ l ∧ M x = some o := by
  unfold hide at h
  split at h
  · cases h
  · rename_i n
    exact ⟨fun z => n (.inl z), fun z => n (.inr z), h⟩
theorem hide_le {a l : Addr} {M : DM} : Grow (hide a l M) M := fun x o e => (hide_some e).2.2
abbrev GrowH (a l : Addr) (M M' : DM) : Prop := Grow (hide a l M) (hide a l M')
theorem Grow.h {a l : Addr} {M M' : DM} (g : Grow M M') : GrowH a l M M' := fun x o e => by
  obtain ⟨h1, h2, h3⟩ := hide_some e
  rw [hide_ne h1 h2]
  exact g x o h3
theorem GrowH.get {a l : Addr} {M M' : DM} (g : GrowH a l M M') {x : Addr} {o : MO} (h1 : x ≠ a) (h2 : x ≠ l) (e : M x = some o) : M' x = some o :=
  (hide_some (g x o (by rw [hide_ne h1 h2]; exact e))).2.2
theorem GrowH.putA {a l : Addr} {M : DM} {o : MO} : GrowH a l M (mset M a o) := fun x u e => by
  obtain ⟨h1, h2, h3⟩ := hide_some e
  rw [hide_ne h1 h2, mset_ne h1]
  exact h3
theorem GrowH.putL {a l : Addr} {M : DM} {o : MO} : GrowH a l M (mset M l o) := fun x u e => by
  obtain ⟨h1, h2, h3⟩ := hide_some e
  rw [hide_ne h1 h2, mset_ne h2]
  exact h3
/-- an own list that was not told at the start is changed -/
theorem GrowH.put {a l p : Addr} {M M1 : DM} {o : MO} (g : GrowH a l M M1) (n : hide a l M p = none) : GrowH a l M (mset M1 p o) := fun x u e => by
  have ne : x ≠ p := fun z => by
    rw [z, n] at e
    cases e
  have e2 := g x u e
  obtain ⟨h1, h2, h3⟩ := hide_some e2
  rw [hide_ne h1 h2, mset_ne ne]
  exact h3
theorem hide_none {a l p : Addr} {M M1 : DM} (g : GrowH a l M M1) (n : M1 p = none) : hide a l M p = none := by
  cases e : hide a l M p with
  | none => rfl
  | some o =>
    have := (hide_some (g p o e)).2.2
    rw [n] at this
    cases this
def drw (l c : Addr) (r t : Int) : List (Key × D) := [(.inr "large", .ob l), (.inr "cells", .ob c), (.inr "rest", .int r), (.inr "turn", .int t)]
/-- the box at a: its numbers at l, its cells at c -/
def Drw (a l c : Addr) (M : DM) : Prop := a ≠ l ∧ a ≠ c ∧ l ≠ c ∧ ∃ (L C : List Int) (r t : Int), M a = some (.dc (drw l c r t)) ∧ M l = some (.ls (L.map D.int)) ∧ M c = some (.ls (C.map D.int))
theorem Drw.grow {a l c : Addr} {M M' : DM} (h : Drw a l c M) (g : Grow M M') : Drw a l c M' := by
  obtain ⟨h1, h2, h3, L, C, r, t, e1, e2, e3⟩ := h
  exact ⟨h1, h2, h3, L, C, r, t, g _ _ e1, g _ _ e2, g _ _ e3⟩
theorem Drw.putOther {a l c p : Addr} {M : DM} {o : MO} (h : Drw a l c M) (h1 : p ≠ a) (h2 : p ≠ l) (h3 : p ≠ c) : Drw a l c (mset M p o) := by
  obtain ⟨q1, q2, q3, L, C, r, t, e1, e2, e3⟩ := h
  exact ⟨q1, q2, q3, L, C, r, t, by rw [mset_ne h1.symm]; exact e1, by rw [mset_ne h2.symm]; exact e2, by rw [mset_ne h3.symm]; exact e3⟩
/-- what is new beside a box is none of its parts -/
theorem Drw.new {a l c p : Addr} {M : DM} (h : Drw a l c M) (n : M p = none) : p ≠ a ∧ p ≠ l ∧ p ≠ c := by
  obtain ⟨q1, q2, q3, L, C, r, t, e1, e2, e3⟩ := h
  refine ⟨fun z => ?_, fun z => ?_, fun z => ?_⟩
  · rw [z, e1] at n
    cases n
  · rw [z, e2] at n
    cases n
  · rw [z, e3] at n
    cases n
theorem valD_cons {k1 k : Key} {v : D} {r : List (Key × D)} : valD ((k1, v) :: r) k = if k1 = k then some v else valD r k := by
  unfold valD
  rw [List.find?_cons]
  by_cases e : k1 = k
  · rw [if_pos e]
    simp [e]
  · rw [if_neg e]
    simp [e]
theorem ne_lr : ¬ ((.inr "large" : Key) = .inr "rest") := by decide
theorem ne_lc : ¬ ((.inr "large" : Key) = .inr "cells") := by decide
theorem ne_lt : ¬ ((.inr "large" : Key) = .inr "turn") := by decide
theorem ne_cr : ¬ ((.inr "cells" : Key) = .inr "rest") := by decide
theorem ne_ct : ¬ ((.inr "cells" : Key) = .inr "turn") := by decide
theorem ne_rt : ¬ ((.inr "rest" : Key) = .inr "turn") := by decide
theorem ne_tr : ¬ ((.inr "turn" : Key) = .inr "rest") := by decide
theorem drw_large {l c : Addr} {r t : Int} : valD (drw l c r t) (.inr "large") = some (.ob l) := by
  unfold drw
  rw [valD_cons, if_pos rfl]
theorem drw_cells {l c : Addr} {r t : Int} : valD (drw l c r t) (.inr "cells") = some (.ob c) := by
  unfold drw
  rw [valD_cons, if_neg ne_lc, valD_cons, if_pos rfl]
theorem drw_rest {l c : Addr} {r t : Int} : valD (drw l c r t) (.inr "rest") = some (.int r) := by
  unfold drw
  rw [valD_cons, if_neg ne_lr, valD_cons, if_neg ne_cr, valD_cons, if_pos rfl]
theorem drw_turn {l c : Addr} {r t : Int} : valD (drw l c r t) (.inr "turn") = some (.int t) := by
  unfold drw
  rw [valD_cons, if_neg ne_lt, valD_cons, if_neg ne_ct, valD_cons, if_neg ne_rt, valD_cons, if_pos rfl]
theorem drw_putR {l c : Addr} {r t s : Int} : putD (drw l c r t) (.inr "rest") (.int s) = drw l c s t := by
  unfold putD drw
  simp only [List.any_cons, List.map_cons, List.map_nil, if_neg ne_lr, if_neg ne_cr, if_neg ne_tr, if_true, decide_true, Bool.true_or, Bool.or_true]
theorem drw_putT {l c : Addr} {r t s : Int} : putD (drw l c r t) (.inr "turn") (.int s) = drw l c r s := by
  unfold putD drw
  simp only [List.any_cons, List.map_cons, List.map_nil, if_neg ne_lt, if_neg ne_ct, if_neg ne_rt, if_true, decide_true, Bool.true_or, Bool.or_true]
theorem gi_msq {ρ : DSt} {M : DM} {all : List D} {te : DTE} {a : Addr} (h : Gv te ρ M (.ob a)) (e : ∀ M1, Grow M M1 → Msq M1 a = some all) : Gi (dwA te) ρ M all := fun M1 g1 R q => h M1 g1 _ fun M2 g2 => by
  dsimp only
  rw [e M2 (g1.trans g2)]
  exact q M2 _ g2 fun M3 g3 => e M3 ((g1.trans g2).trans g3)
end DL

/-! DLq: all but some addresses is kept; the state of a drawn library. -/
namespace DL
open PySem PySem.Spec PyProof.Rows L2

def hid (S : List Addr) (M : DM) : DM := fun x => if x ∈ S then none else M x
abbrev GS (S : List Addr) (M M' : DM) : Prop := Grow (hid S M) (hid S M')
section
variable {S : List Addr} {M M1 M' : DM} {x p a l : Addr} {o : MO}
theorem hid_ne (h : x ∉ S) : hid S M x = M x := by
  unfold hid
  rw [if_neg h]
theorem hid_some (h : hid S M x = some o) : x ∉ S ∧ M x = some o := by
  unfold hid at h
  split at h
  · cases h
  · exact ⟨by assumption, h⟩
theorem hid_in (h : x ∈ S) : hid S M x = none := by
  unfold hid
  rw [if_pos h]
theorem GS.get (g : GS S M M') (n : x ∉ S) (e : M x = some o) : M' x = some o := (hid_some (g x o (by rw [hid_ne n]; exact e))).2
theorem GS.of (g : Grow M M') : GS S M M' := fun x o e => by
  obtain ⟨h1, h2⟩ := hid_some e
  rw [hid_ne h1]
  exact g x o h2
theorem GS.ofH (g : GrowH a l M M') (ha : a ∈ S) (hl : l ∈ S) : GS S M M' := fun x o e => by
  obtain ⟨h1, h2⟩ := hid_some e
  rw [hid_ne h1]
  exact g.get (fun z => h1 (z ▸ ha)) (fun z => h1 (z ▸ hl)) h2
theorem GS.put (g : GS S M M1) (n : hid S M p = none) : GS S M (mset M1 p o) := fun x u e => by
  have ne : x ≠ p := fun z => by
    rw [z, n] at e
    cases e
  obtain ⟨h1, h2⟩ := hid_some (g x u e)
  rw [hid_ne h1, mset_ne ne]
  exact h2
theorem hid_none (g : GS S M M1) (n : M1 p = none) : hid S M p = none := by
  cases e : hid S M p with
  | none => rfl
  | some o =>
    have := (hid_some (g p o e)).2
    rw [n] at this
    cases this
theorem GS.toH (g : GS [a, l] M M') : GrowH a l M M' := fun x o e => by
  obtain ⟨h1, h2, h3⟩ := hide_some e
  rw [hide_ne h1 h2]
  exact g.get (by simp [h1, h2]) h3
end
/-! ### the state -/
def stD (h lb s : Addr) (c n : Int) : List (Key × D) := [(.inr "heads", .ob h), (.inr "labels", .ob lb), (.inr "sites", .ob s), (.inr "calls", .int c), (.inr "left", .int n)]
/-- the state at b: heads H, labels L, sites Z left, c calls left, n items left -/
def StM (b h lb s : Addr) (H L Z : List Str) (n : Nat) (M : DM) : Prop := ∃ c : Int, M b = some (.dc (stD h lb s c n)) ∧ M h = some (.ls (H.map D.str)) ∧ M lb = some (.ls (L.map D.str)) ∧ M s = some (.ls (Z.map D.str))
theorem k_hl : ¬ ((.inr "heads" : Key) = .inr "labels") := by decide
theorem k_hs : ¬ ((.inr "heads" : Key) = .inr "sites") := by decide
theorem k_hc : ¬ ((.inr "heads" : Key) = .inr "calls") := by decide
theorem k_hn : ¬ ((.inr "heads" : Key) = .inr "left") := by decide
theorem k_ls : ¬ ((.inr "labels" : Key) = .inr "sites") := by decide
theorem k_lc : ¬ ((.inr "labels" : Key) = .inr "calls") := by decide
theorem k_ln : ¬ ((.inr "labels" : Key) = .inr "left") := by decide
theorem k_sc : ¬ ((.inr "sites" : Key) = .inr "calls") := by decide
theorem k_sn : ¬ ((.inr "sites" : Key) = .inr "left") := by decide
theorem k_cn : ¬ ((.inr "calls" : Key) = .inr "left") := by decide
theorem k_nc : ¬ ((.inr "left" : Key) = .inr "calls") := by decide
section
variable {h lb s : Addr} {c n v : Int}
theorem st_heads : valD (stD h lb s c n) (.inr "heads") = some (.ob h) := by
  unfold stD
  rw [valD_cons, if_pos rfl]
theorem st_labels : valD (stD h lb s c n) (.inr "labels") = some (.ob lb) := by
  unfold stD
  rw [valD_cons, if_neg k_hl, valD_cons, if_pos rfl]
theorem st_sites : valD (stD h lb s c n) (.inr "sites") = some (.ob s) := by
  unfold stD
  rw [valD_cons, if_neg k_hs, valD_cons, if_neg k_ls, valD_cons, if_pos rfl]
theorem st_calls : valD (stD h lb s c n) (.inr "calls") = some (.int c) := by
  unfold stD
  rw [valD_cons, if_neg k_hc, valD_cons, if_neg k_lc, valD_cons, if_neg k_sc, valD_cons, if_pos rfl]
theorem st_left : valD (stD h lb s c n) (.inr "left") = some (.int n) := by
  unfold stD
  rw [valD_cons, if_neg k_hn, valD_cons, if_neg k_ln, valD_cons, if_neg k_sn, valD_cons, if_neg k_cn, valD_cons, if_pos rfl]
theorem st_putC : putD (stD h lb s c n) (.inr "calls") (.int v) = stD h lb s v n := by
  unfold putD stD
  simp only [List.any_cons, List.map_cons, List.map_nil, if_neg k_hc, if_neg k_lc, if_neg k_sc, if_neg k_nc, if_true, decide_true, Bool.true_or, Bool.or_true]
theorem st_putN : putD (stD h lb s c n) (.inr "left") (.int v) = stD h lb s c v := by
  unfold putD stD
  simp only [List.any_cons, List.map_cons, List.map_nil, if_neg k_hn, if_neg k_ln, if_neg k_sn, if_neg k_cn, if_true, decide_true, Bool.true_or, Bool.or_true]
end
/-- the parts are apart, and apart from the box a, l, c -/
structure Apart (a l c b h lb s : Addr) : Prop where
  nd : [a, l, c, b, h, lb, s].Nodup
theorem StM.grow {b h lb s : Addr} {H L Z : List Str} {n : Nat} {M M' : DM} (q : StM b h lb s H L Z n M) (g : Grow M M') : StM b h lb s H L Z n M' := by
  obtain ⟨c, e1, e2, e3, e4⟩ := q
  exact ⟨c, g _ _ e1, g _ _ e2, g _ _ e3, g _ _ e4⟩
theorem StM.growH {a l c b h lb s : Addr} {H L Z : List Str} {n : Nat} {M M' : DM} (ap : Apart a l c b h lb s) (q : StM b h lb s H L Z n M) (g : GrowH a l M M') : StM b h lb s H L Z n M' := by
  obtain ⟨k, e1, e2, e3, e4⟩ := q
  have nd := ap.nd
  simp only [List.nodup_cons, List.mem_cons, List.not_mem_nil, or_false, not_or] at nd
  obtain ⟨⟨_, _, ab, ah, alb, as⟩, ⟨_, lb', lh, llb, ls⟩, _⟩ := nd
  exact ⟨k, g.get (Ne.symm ab) (Ne.symm lb') e1, g.get (Ne.symm ah) (Ne.symm lh) e2, g.get (Ne.symm alb) (Ne.symm llb) e3, g.get (Ne.symm as) (Ne.symm ls) e4⟩
end DL

/-! TxA: the text by places. -/
namespace DL
open PySem PySem.Spec PyProof.Rows L2

def topS (i : Nat) : Stmt := PySem.Challenge.pw_throughcalls_k16_whole_libraries_judged.main.body.getD i (.Pass ⟨0, 0, 0, 0⟩)
abbrev s_is_name : Stmt := topS 7
theorem sc_is_name : FnScope ["thing", "sign"] ["thing"] (defScope s_is_name) := C8.fnScope_by (by decide +kernel)
abbrev s_is_row : Stmt := topS 8
theorem sc_is_row : FnScope ["thing", "most"] ["thing", "most"] (defScope s_is_row) := C8.fnScope_by (by decide +kernel)
abbrev s_is_item : Stmt := topS 16
theorem sc_is_item : FnScope ["thing", "name"] ["thing"] (defScope s_is_item) := C8.fnScope_by (by decide +kernel)
abbrev s_args_in : Stmt := topS 17
theorem sc_args_in : FnScope ["item"] ["item"] (defScope s_args_in) := C8.fnScope_by (by decide +kernel)
abbrev s_bodies_of : Stmt := topS 18
theorem sc_bodies_of : FnScope ["item"] ["item"] (defScope s_bodies_of) := C8.fnScope_by (by decide +kernel)
abbrev s_is_body : Stmt := topS 19
theorem sc_is_body : FnScope ["thing", "deep", "item", "body"] ["thing", "deep"] (defScope s_is_body) := C8.fnScope_by (by decide +kernel)
abbrev s_is_proc : Stmt := topS 20
theorem sc_is_proc : FnScope ["thing"] ["thing"] (defScope s_is_proc) := C8.fnScope_by (by decide +kernel)
abbrev s_items_in : Stmt := topS 21
theorem sc_items_in : FnScope ["body", "found", "item", "inner"] ["body"] (defScope s_items_in) := C8.fnScope_by (by decide +kernel)
abbrev s_are_calls_right : Stmt := topS 22
theorem sc_are_calls_right : FnScope ["procs", "items", "proc", "item", "names"] ["procs"] (defScope s_are_calls_right) := C8.fnScope_by (by decide +kernel)
abbrev s_rank_in : Stmt := topS 23
theorem sc_rank_in : FnScope ["body", "ranks", "found", "item", "here", "some", "one", "inner"] ["body", "ranks"] (defScope s_rank_in) := C8.fnScope_by (by decide +kernel)
abbrev s_ranks_in : Stmt := topS 24
theorem sc_ranks_in : FnScope ["procs", "found", "lap", "more", "proc", "name"] ["procs"] (defScope s_ranks_in) := C8.fnScope_by (by decide +kernel)
abbrev s_is_library : Stmt := topS 25
theorem sc_is_library : FnScope ["thing", "procs", "proc"] ["thing"] (defScope s_is_library) := C8.fnScope_by (by decide +kernel)
abbrev s_check_library : Stmt := topS 26
theorem sc_check_library : FnScope ["library"] ["library"] (defScope s_check_library) := C8.fnScope_by (by decide +kernel)
abbrev s_procs_told : Stmt := topS 28
theorem sc_procs_told : FnScope ["library", "proc"] ["library"] (defScope s_procs_told) := C8.fnScope_by (by decide +kernel)
abbrev s_check_name : Stmt := topS 29
theorem sc_check_name : FnScope ["library", "name"] ["library", "name"] (defScope s_check_name) := C8.fnScope_by (by decide +kernel)
abbrev s_called_in : Stmt := topS 31
theorem sc_called_in : FnScope ["proc", "item"] ["proc"] (defScope s_called_in) := C8.fnScope_by (by decide +kernel)
abbrev s_reached_from : Stmt := topS 32
theorem sc_reached_from : FnScope ["library", "line", "procs", "found", "name", "other"] ["library", "line"] (defScope s_reached_from) := C8.fnScope_by (by decide +kernel)
abbrev s_reached : Stmt := topS 33
theorem sc_reached : FnScope ["library"] ["library"] (defScope s_reached) := C8.fnScope_by (by decide +kernel)
abbrev s_may_told : Stmt := topS 35
theorem sc_may_told : FnScope ["library", "own", "proc", "item", "found", "name", "some", "other", "one"] ["library"] (defScope s_may_told) := C8.fnScope_by (by decide +kernel)
abbrev s_may : Stmt := topS 36
theorem sc_may : FnScope ["library", "name"] ["library", "name"] (defScope s_may) := C8.fnScope_by (by decide +kernel)
abbrev s__law_begun : Stmt := topS 38
theorem sc__law_begun : FnScope ["script", "large", "grain"] ["script"] (defScope s__law_begun) := C8.fnScope_by (by decide +kernel)
abbrev s__law_mixed : Stmt := topS 39
theorem sc__law_mixed : FnScope ["draw", "turn", "found", "prime", "blend", "grain"] ["draw"] (defScope s__law_mixed) := C8.fnScope_by (by decide +kernel)
abbrev s__law_take : Stmt := topS 40
theorem sc__law_take : FnScope ["draw", "many", "found"] ["draw", "many"] (defScope s__law_take) := C8.fnScope_by (by decide +kernel)
abbrev s__law_pick : Stmt := topS 41
theorem sc__law_pick : FnScope ["draw", "some"] ["draw", "some"] (defScope s__law_pick) := C8.fnScope_by (by decide +kernel)
abbrev s__law_shuffled : Stmt := topS 42
theorem sc__law_shuffled : FnScope ["draw", "some", "left", "found"] ["draw", "some"] (defScope s__law_shuffled) := C8.fnScope_by (by decide +kernel)
abbrev s__law_words : Stmt := topS 43
theorem sc__law_words : FnScope ["heads", "found", "head", "sign"] ["heads"] (defScope s__law_words) := C8.fnScope_by (by decide +kernel)
abbrev s__law_args : Stmt := topS 44
theorem sc__law_args : FnScope ["item"] ["item"] (defScope s__law_args) := C8.fnScope_by (by decide +kernel)
abbrev s__law_bodies : Stmt := topS 45
theorem sc__law_bodies : FnScope ["item"] ["item"] (defScope s__law_bodies) := C8.fnScope_by (by decide +kernel)
abbrev s__law_items : Stmt := topS 46
theorem sc__law_items : FnScope ["body", "found", "item", "inner"] ["body"] (defScope s__law_items) := C8.fnScope_by (by decide +kernel)
abbrev s__law_procs : Stmt := topS 47
theorem sc__law_procs : FnScope ["library", "proc"] ["library"] (defScope s__law_procs) := C8.fnScope_by (by decide +kernel)
abbrev s__law_labels : Stmt := topS 48
theorem sc__law_labels : FnScope ["library", "found", "proc", "item", "one"] ["library"] (defScope s__law_labels) := C8.fnScope_by (by decide +kernel)
abbrev s__law_some_args : Stmt := topS 49
theorem sc__law_some_args : FnScope ["draw", "labels", "most", "lap"] ["draw", "labels", "most"] (defScope s__law_some_args) := C8.fnScope_by (by decide +kernel)
abbrev s__law_body : Stmt := topS 50
theorem sc__law_body : FnScope ["draw", "state", "k", "deep", "many", "is_safe", "found", "lap", "way", "most", "site", "args", "item", "free", "body", "other", "some"] ["draw", "state", "k", "deep", "many", "is_safe"] (defScope s__law_body) := C8.fnScope_by (by decide +kernel)
abbrev s__law_library : Stmt := topS 51
theorem sc__law_library : FnScope ["draw", "most", "count", "heads", "labels", "state", "procs", "k"] ["draw", "most"] (defScope s__law_library) := C8.fnScope_by (by decide +kernel)
abbrev s__law_caught : Stmt := topS 52
theorem sc__law_caught : FnScope ["work", "caught", "error"] ["work"] (defScope s__law_caught) := C8.fnScope_by (by decide +kernel)
abbrev s__law_wrong_library : Stmt := topS 53
theorem sc__law_wrong_library : FnScope ["draw", "library", "procs", "word", "name", "body", "some", "more"] ["draw", "library"] (defScope s__law_wrong_library) := C8.fnScope_by (by decide +kernel)
abbrev s__law_is_name : Stmt := topS 54
theorem sc__law_is_name : FnScope ["thing", "kept", "sign"] ["thing"] (defScope s__law_is_name) := C8.fnScope_by (by decide +kernel)
abbrev s__law_is_body : Stmt := topS 55
theorem sc__law_is_body : FnScope ["thing", "deep", "item", "args", "one", "inner"] ["thing", "deep"] (defScope s__law_is_body) := C8.fnScope_by (by decide +kernel)
abbrev s__law_can : Stmt := topS 56
theorem sc__law_can : FnScope ["body", "lot", "item"] ["body", "lot"] (defScope s__law_can) := C8.fnScope_by (by decide +kernel)
abbrev s__law_is_library : Stmt := topS 57
theorem sc__law_is_library : FnScope ["thing", "proc", "procs", "every", "lot", "item", "lap"] ["thing"] (defScope s__law_is_library) := C8.fnScope_by (by decide +kernel)
abbrev s__law_changed : Stmt := topS 58
theorem sc__law_changed : FnScope ["body", "site", "due", "found", "item", "inner", "one"] ["body", "site", "due"] (defScope s__law_changed) := C8.fnScope_by (by decide +kernel)
abbrev s__law_with_args : Stmt := topS 59
theorem sc__law_with_args : FnScope ["item", "args"] ["item", "args"] (defScope s__law_with_args) := C8.fnScope_by (by decide +kernel)
abbrev s__law_instead : Stmt := topS 60
theorem sc__law_instead : FnScope ["draw", "item", "names", "others", "way", "args", "other", "k", "some"] ["draw", "item", "names", "others"] (defScope s__law_instead) := C8.fnScope_by (by decide +kernel)
abbrev s__law_bent : Stmt := topS 61
theorem sc__law_bent : FnScope ["draw", "library", "procs", "k", "way", "word", "name", "body", "items", "item", "others", "proc", "one", "at"] ["draw", "library"] (defScope s__law_bent) := C8.fnScope_by (by decide +kernel)
abbrev s__law_steps : Stmt := topS 62
theorem sc__law_steps : FnScope ["letters", "head", "many", "k"] ["letters", "head", "many"] (defScope s__law_steps) := C8.fnScope_by (by decide +kernel)
abbrev s__law_limits : Stmt := topS 63
theorem sc__law_limits : FnScope ["draw", "letters", "many", "wide", "deep", "found", "k", "parts", "head", "body", "inner", "calls", "first", "last", "round_body", "procs"] ["draw"] (defScope s__law_limits) := C8.fnScope_by (by decide +kernel)
abbrev s_law : Stmt := topS 64
theorem sc_law : FnScope ["script", "draw", "turn", "library", "lap", "thing", "wrong", "first", "second"] ["script"] (defScope s_law) := C8.fnScope_by (by decide +kernel)
def kept : List Str := (["alike", "args", "at", "back", "call", "calls", "cannot", "cut", "do", "done", "edit", "else", "end", "if", "in"] : List Str) ++ (["inline", "journal", "least", "library", "main", "may", "move", "must", "no", "none", "nothing", "open", "outer", "outline", "proc"] : List Str) ++ (["put", "redo", "sets", "slice", "store", "then", "to", "turn", "undo", "unproc", "version", "what", "while", "yes"] : List Str)
def abc : Str := "abcdefghijklmnopqrstuvwxyz"
def lens : List (Str × Int) := [("do", 4), ("if", 5), ("while", 4), ("call", 3)]
structure Tx (K : PySem.W.Frag) (mg : Str → Option Value) (w : World) where
  f_is_name : Fn K mg "is_name" s_is_name ["thing"]
  f_is_row : Fn K mg "is_row" s_is_row ["thing", "most"]
  f_is_item : Fn K mg "is_item" s_is_item ["thing"]
  f_args_in : Fn K mg "args_in" s_args_in ["item"]
  f_bodies_of : Fn K mg "bodies_of" s_bodies_of ["item"]
  f_is_body : Fn K mg "is_body" s_is_body ["thing", "deep"]
  f_is_proc : Fn K mg "is_proc" s_is_proc ["thing"]
  f_items_in : Fn K mg "items_in" s_items_in ["body"]
  f_are_calls_right : Fn K mg "are_calls_right" s_are_calls_right ["procs"]
  f_rank_in : Fn K mg "rank_in" s_rank_in ["body", "ranks"]
  f_ranks_in : Fn K mg "ranks_in" s_ranks_in ["procs"]
  f_is_library : Fn K mg "is_library" s_is_library ["thing"]
  f_check_library : Fn K mg "check_library" s_check_library ["library"]
  f_procs_told : Fn K mg "procs_told" s_procs_told ["library"]
  f_check_name : Fn K mg "check_name" s_check_name ["library", "name"]
  f_called_in : Fn K mg "called_in" s_called_in ["proc"]
  f_reached_from : Fn K mg "reached_from" s_reached_from ["library", "line"]
  f_reached : Fn K mg "reached" s_reached ["library"]
  f_may_told : Fn K mg "may_told" s_may_told ["library"]
  f_may : Fn K mg "may" s_may ["library", "name"]
  f__law_begun : Fn K mg "_law_begun" s__law_begun ["script"]
  f__law_mixed : Fn K mg "_law_mixed" s__law_mixed ["draw"]
  f__law_take : Fn K mg "_law_take" s__law_take ["draw", "many"]
  f__law_pick : Fn K mg "_law_pick" s__law_pick ["draw", "some"]
  f__law_shuffled : Fn K mg "_law_shuffled" s__law_shuffled ["draw", "some"]
  f__law_words : Fn K mg "_law_words" s__law_words ["heads"]
  f__law_args : Fn K mg "_law_args" s__law_args ["item"]
  f__law_bodies : Fn K mg "_law_bodies" s__law_bodies ["item"]
  f__law_items : Fn K mg "_law_items" s__law_items ["body"]
  f__law_procs : Fn K mg "_law_procs" s__law_procs ["library"]
  f__law_labels : Fn K mg "_law_labels" s__law_labels ["library"]
  f__law_some_args : Fn K mg "_law_some_args" s__law_some_args ["draw", "labels", "most"]
  f__law_body : Fn K mg "_law_body" s__law_body ["draw", "state", "k", "deep", "many", "is_safe"]
  f__law_library : Fn K mg "_law_library" s__law_library ["draw", "most"]
  f__law_caught : Fn K mg "_law_caught" s__law_caught ["work"]
  f__law_wrong_library : Fn K mg "_law_wrong_library" s__law_wrong_library ["draw", "library"]
  f__law_is_name : Fn K mg "_law_is_name" s__law_is_name ["thing"]
  f__law_is_body : Fn K mg "_law_is_body" s__law_is_body ["thing", "deep"]
  f__law_can : Fn K mg "_law_can" s__law_can ["body", "lot"]
  f__law_is_library : Fn K mg "_law_is_library" s__law_is_library ["thing"]
  f__law_changed : Fn K mg "_law_changed" s__law_changed ["body", "site", "due"]
  f__law_with_args : Fn K mg "_law_with_args" s__law_with_args ["item", "args"]
  f__law_instead : Fn K mg "_law_instead" s__law_instead ["draw", "item", "names", "others"]
  f__law_bent : Fn K mg "_law_bent" s__law_bent ["draw", "library"]
  f__law_steps : Fn K mg "_law_steps" s__law_steps ["letters", "head", "many"]
  f__law_limits : Fn K mg "_law_limits" s__law_limits ["draw"]
  f_law : Fn K mg "law" s_law ["script"]
  b_len : mg "len" = none
  b_all : mg "all" = none
  b_isinstance : mg "isinstance" = none
  b_abs : mg "abs" = none
  b_int : mg "int" = none
  b_list : mg "list" = none
  b_tuple : mg "tuple" = none
  b_max : mg "max" = none
  b_min : mg "min" = none
  b_repr : mg "repr" = none
  b_sorted : mg "sorted" = none
  b_dict : mg "dict" = none
  b_set : mg "set" = none
  b_range : mg "range" = none
  b_str : mg "str" = none
  c_ITEMS : ∃ t, mg "ITEMS" = some (.int 10 t)
  c_SITES : ∃ t, mg "SITES" = some (.int 40 t)
  c_DEEP : ∃ t, mg "DEEP" = some (.int 3 t)
  c_ARGS : ∃ t, mg "ARGS" = some (.int 3 t)
  c_PROCS : ∃ t, mg "PROCS" = some (.int 8 t)
  c_LETTERS : ∃ t, mg "LETTERS" = some (.str abc t)
  aK : Addr
  c_KEPT : mg "KEPT" = some (.ref aK)
  k_KEPT : KTup K aK (kept.map V.str)
  aW : Addr
  c_LENGTHS : mg "LENGTHS" = some (.ref aW)
  w_LENGTHS : WD K w aW lens
section
variable {X : Cx} {pos : Pos}
theorem d_KEPT (T : Tx X.K X.mg X.w) (hg : Gl X "KEPT") : PE X (.Name "KEPT" pos) (LE X.K (dC (.tup (kept.map D.str)))) := dgl (v := .ref T.aK) hg T.c_KEPT rfl (fun H => by
  unfold Rep
  exact ⟨T.aK, _, rfl, .inr T.k_KEPT, RepL.of_strs kept⟩)
end
end DL

/-! J1: the judges of names, items, bodies. -/
namespace DL
open PySem PySem.Spec PyProof.Rows L2
def nameS (s : Str) : Bool := (decide (1 ≤ (s.length : Int)) && decide ((s.length : Int) ≤ 8)) && !decide (s ∈ kept) && s.cps.toList.all fun c => decide (c ∈ abc.cps.toList)
def isName : D → Bool
  | .str s => nameS s
  | _ => false
theorem gt_or1 {ρ : DSt} {M : DM} {t u : DTT} (h : Gt t ρ M true) : Gt (dOr t u) ρ M true := gt_or (c := true) h fun e => nomatch e
theorem gt_or0 {ρ : DSt} {M : DM} {t u : DTT} {c : Bool} (h : Gt t ρ M false) (h' : Gt u ρ M c) : Gt (dOr t u) ρ M c := gt_or (b := false) h fun _ => h'
theorem gt_and0 {ρ : DSt} {M : DM} {t u : DTT} (h : Gt t ρ M false) : Gt (dAnd t u) ρ M false := gt_and (c := true) h fun e => nomatch e
theorem gt_and1 {ρ : DSt} {M : DM} {t u : DTT} {c : Bool} (h : Gt t ρ M true) (h' : Gt u ρ M c) : Gt (dAnd t u) ρ M c := gt_and (b := true) h fun _ => h'
theorem gv_and0 {ρ : DSt} {M : DM} {t u : DTE} (h : Gv t ρ M (.bl false)) : Gv (dAndV t u) ρ M (.bl false) := gv_and (c := true) h fun e => nomatch e
theorem gv_and1 {ρ : DSt} {M : DM} {t u : DTE} {c : Bool} (h : Gv t ρ M (.bl true)) (h' : Gv u ρ M (.bl c)) : Gv (dAndV t u) ρ M (.bl c) := gv_and (b := true) h fun _ => h'
theorem gt_eq {ρ : DSt} {M : DM} {t : DTT} {b c : Bool} (h : Gt t ρ M b) (e : b = c) : Gt t ρ M c := e ▸ h
theorem gv_eq {ρ : DSt} {M : DM} {t : DTE} {b c : D} (h : Gv t ρ M b) (e : b = c) : Gv t ρ M c := e ▸ h
theorem s_if1 {ρ : DSt} {M : DM} {E : DEnds} {tt : DTT} {t u : DTS} (h : Gt tt ρ M true) (h1 : ∀ M1, Grow M M1 → t E ρ M1) : dIfS tt t u E ρ M := s_if h (fun _ => h1) fun e => nomatch e
theorem s_if0 {ρ : DSt} {M : DM} {E : DEnds} {tt : DTT} {t u : DTS} (h : Gt tt ρ M false) (h1 : ∀ M1, Grow M M1 → u E ρ M1) : dIfS tt t u E ρ M := s_if h (fun e => nomatch e) fun _ => h1
theorem s_guard {ρ : DSt} {M : DM} {E : DEnds} {tt : DTT} {t u : DTS} {b : Bool} (h : Gt tt ρ M b) (h1 : b = true → ∀ M1, Grow M M1 → t { E with nx := u E } ρ M1) (h2 : b = false → ∀ M1, Grow M M1 → u E ρ M1) : dSeq (dIfS tt t dNext) u E ρ M := s_seq (s_if h h1 h2)
theorem s_guard1 {ρ : DSt} {M : DM} {E : DEnds} {tt : DTT} {t u : DTS} (h : Gt tt ρ M true) (h1 : ∀ M1, Grow M M1 → t { E with nx := u E } ρ M1) : dSeq (dIfS tt t dNext) u E ρ M := s_seq (s_if1 h h1)
theorem s_guard0 {ρ : DSt} {M : DM} {E : DEnds} {tt : DTT} {t u : DTS} (h : Gt tt ρ M false) (h2 : ∀ M1, Grow M M1 → u E ρ M1) : dSeq (dIfS tt t dNext) u E ρ M := s_seq (s_if0 h h2)
theorem s_next {ρ : DSt} {M : DM} {E : DEnds} (h : E.nx ρ M) : dNext E ρ M := h
/-- isinstance(x, str), isinstance(x, tuple), told -/
theorem gt_isS {ρ : DSt} {M : DM} {te : DTE} {x : D} {b : Bool} (h : Gv te ρ M x) (ok : Ok M x) (e : isStr x = b) : Gt (dT (dCB dIsI (dCons te (dCons (dC (.ty "str")) dNil)))) ρ M b := gt_t (gv_cb (ga_cons h (ga_cons gv_c ga_nil)) (e ▸ rc_isS ok))
theorem gt_isT {ρ : DSt} {M : DM} {te : DTE} {x : D} {b : Bool} (h : Gv te ρ M x) (ok : Ok M x) (e : isTup x = b) : Gt (dT (dCB dIsI (dCons te (dCons (dC (.ty "tuple")) dNil)))) ρ M b := gt_t (gv_cb (ga_cons h (ga_cons gv_c ga_nil)) (e ▸ rc_isT ok))
theorem gv_isT {ρ : DSt} {M : DM} {te : DTE} {x : D} {b : Bool} (h : Gv te ρ M x) (ok : Ok M x) (e : isTup x = b) : Gv (dCB dIsI (dCons te (dCons (dC (.ty "tuple")) dNil))) ρ M (.bl b) := gv_cb (ga_cons h (ga_cons gv_c ga_nil)) (e ▸ rc_isT ok)
theorem isStr_ex {d : D} (h : isStr d = true) : ∃ z, d = .str z := by
  cases d <;> first | exact ⟨_, rfl⟩ | cases h
theorem isTup_ex {d : D} (h : isTup d = true) : ∃ z, d = .tup z := by
  cases d <;> first | exact ⟨_, rfl⟩ | cases h
theorem sz64 {z : Str} (h : z.length ≤ 64) : z.length ≤ sizeLine := Nat.le_trans h (by rw [sizeLine_eq]; omega)
/-- a promise: of the values ds the value v -/
def spF (f : List D → Option D) : DSp := fun ds M Q => ∃ v, f ds = some v ∧ OkL M ds ∧ ∀ M', Grow M M' → Q v M'
theorem rc_spF {f : List D → Option D} {ds : List D} {v : D} {M : DM} (e : f ds = some v) (ok : OkL M ds) : Rc (spF f) ds M v := fun M1 g Q q => ⟨v, e, OkL.grow g ds ok, q⟩
def fName : List D → Option D
  | [d] => some (.bl (isName d))
  | _ => none
section
variable {P : Program} {w : World} {K : PySem.W.Frag} {mg : Str → Option Value} {base : Heap}
theorem signs_all (z : Str) : (signs z).map (fun d => D.bl (match d with
    | .str ⟨#[c]⟩ => decide (c ∈ abc.cps.toList)
    | _ => false)) = (z.cps.toList.map fun c => decide (c ∈ abc.cps.toList)).map D.bl := by
  unfold signs
  rw [List.map_map, List.map_map]
  rfl
theorem signs_len (z : Str) : (signs z).length = z.length := by
  unfold signs
  rw [List.length_map]
  rfl
theorem ok_is_name (T : Tx K mg w) : FnOk P w K mg base CX0 1 T.f_is_name.f T.f_is_name.fd ["thing"] (LSp K (spF fName)) := by
  refine dfun T.f_is_name.F sc_is_name (fun ds M Q ⟨v, e, _⟩ => by match ds, e with | [d], _ => rfl) fun cdv A outer s H E hr => ⟨_, (ds_cons (ds_if (PW.pt (d_or (d_not (d_val (d_isi T.b_isinstance (da_cons (dv 0) (da_cons (dbt rfl T.b_str rfl) da_nil))))) (d_or (d_not (d_chainT op_le op_le lr_cmpI lr_cmpI dint (d_len T.b_len (da_cons (dv 0) da_nil)) dint)) (d_or1 (d_inT (hu1 hr) (dv 0) (d_KEPT T rfl)))))) (ds_one (ds_ret dbl)) ds_nil) (ds_one (ds_ret (d_all rfl T.b_all (da_cons (d_lc rfl sc_is_name.nd (di_str (dv 0)) (blkOk_by (own := [("sign", 1)]) (N := ["thing", "sign"]) (sc := defScope s_is_name) (by decide +kernel)) (by decide) (fun _ _ _ _ _ => pg_name (i := 1) sc_is_name.nd rfl (Or.inl rfl)) (fun _ _ _ _ _ => dts_nil) (fun _ _ _ _ _ => (d_in' (hu1 hr) (dv 1) (dglS rfl T.c_LETTERS.choose_spec)))) da_nil))))), ?_⟩
  rintro ds M Q ⟨v, e, hd, q⟩
  match ds, e with
  | [d], e =>
    cases e
    unfold OkL at hd
    obtain ⟨hd, _⟩ := hd
    cases hs : isStr d with
    | false =>
      have e : isName d = false := by cases d <;> first | rfl | cases hs
      rw [e] at q
      exact s_guard1 (gt_or1 (gt_not (b := false) (gt_isS (gv_var rfl) hd hs))) fun M1 g1 => s_ret gv_c fun M2 g2 => q M2 (g1.trans g2)
    | true =>
      obtain ⟨z, rfl⟩ := isStr_ex hs
      have hz := ok_strE hd
      refine s_guard (gt_or0 (gt_not (b := true) (gt_isS (gv_var rfl) hd rfl)) (gt_or (gt_not (gt_t (gv_chain gv_c (gv_cb (ga_cons (gv_var rfl) ga_nil) (rc_lenS (sz64 hz))) rv_le (fun _ => gv_c) (fun _ => rv_le)))) fun _ => gt_t (gv_op (gv_var rfl) gv_c rv_inT))) ?_ ?_
      · intro hb M1 g1
        refine s_ret gv_c fun M2 g2 => ?_
        have e : isName (.str z) = false := by
          show nameS z = _
          unfold nameS
          cases h1 : (decide (1 ≤ (z.length : Int)) && decide ((z.length : Int) ≤ 8)) with
          | false => rfl
          | true =>
            rw [h1] at hb
            have hb2 : decide (z ∈ kept) = true := hb
            rw [hb2]
            rfl
        rw [e] at q
        exact q M2 (g1.trans g2)
      · intro hb M1 g1
        refine s_ret (gv_all (bs := z.cps.toList.map fun c => decide (c ∈ abc.cps.toList)) ?_) fun M2 g2 => ?_
        · rw [← signs_all]
          refine gl_lc _ (gi_str (gv_var rfl)) (by rw [signs_len]; exact sz64 hz) fun d hm => ?_
          unfold signs at hm
          obtain ⟨c, _, rfl⟩ := List.mem_map.mp hm
          exact gv_op (gv_var rfl) gv_c rv_inS
        · have e : isName (.str z) = (z.cps.toList.map fun c => decide (c ∈ abc.cps.toList)).all id := by
            show nameS z = _
            unfold nameS
            cases h1 : (decide (1 ≤ (z.length : Int)) && decide ((z.length : Int) ≤ 8)) with
            | false =>
              rw [h1] at hb
              cases hb
            | true =>
              rw [h1] at hb
              have hb2 : decide (z ∈ kept) = false := hb
              rw [hb2, List.all_map]
              rfl
          rw [e] at q
          exact q M2 (g1.trans g2)
end
end DL

/-! J2: rows, items. -/
namespace DL
open PySem PySem.Spec PyProof.Rows L2
def isRow : D → Int → Bool
  | .tup xs, m => decide ((xs.length : Int) ≤ m)
  | _, _ => false
def fRow : List D → Option D
  | [d, .int m] => some (.bl (isRow d m))
  | _ => none
def argsD : D → Option D
  | .tup (.str k :: r) => if k = "call" then some (.tup []) else if k = "do" then r[2]? else r[1]?
  | _ => none
def fArgs : List D → Option D
  | [d] => argsD d
  | _ => none
def bodiesD : D → Option (List D)
  | .tup (.str k :: r) => if k = "if" ∨ k = "while" then some (r.drop 2) else some []
  | _ => none
def fBodies : List D → Option D
  | [d] => (bodiesD d).map D.tup
  | _ => none
def isNames : D → Bool
  | .tup xs => decide ((xs.length : Int) ≤ 3) && xs.all isName
  | _ => false
def nmAt (r : List D) (i : Nat) : Bool := match r[i]? with
  | some d => isName d
  | none => false
def isItem : D → Bool
  | .tup (.str k :: r) => match lens.lookup k with
    | some n => decide ((r.length + 1 : Int) = n) && nmAt r 0 && (if k = "do" ∨ k = "call" then nmAt r 1 else true) && (match argsD (.tup (.str k :: r)) with
      | some a => isNames a
      | none => false)
    | none => false
  | _ => false
def fItem : List D → Option D
  | [d] => some (.bl (isItem d))
  | _ => none
theorem s_if2 {ρ : DSt} {M : DM} {E : DEnds} {tt : DTT} {t u : DTS} {b : Bool} (h : Gt tt ρ M b) (k : ∀ M1, Grow M M1 → if b = true then t E ρ M1 else u E ρ M1) : dIfS tt t u E ρ M := h M (Grow.refl M) _ k
theorem spF_len {f : List D → Option D} {n : Nat} (h : ∀ ds v, f ds = some v → ds.length = n) : ∀ ds M Q, spF f ds M Q → ds.length = n := fun ds M Q ⟨v, e, _⟩ => h ds v e
theorem spF_one {f : D → Option D} {g : List D → Option D} (hg : ∀ ds, g ds = match ds with
    | [d] => f d
    | _ => none) : ∀ ds M Q, spF g ds M Q → ds.length = 1 := spF_len fun ds v e => by
  rw [hg] at e
  split at e
  · rfl
  · cases e
section
variable {P : Program} {w : World} {K : PySem.W.Frag} {mg : Str → Option Value} {base : Heap}
theorem ok_is_row (T : Tx K mg w) : FnOk P w K mg base CX0 1 T.f_is_row.f T.f_is_row.fd ["thing", "most"] (LSp K (spF fRow)) := by
  refine dfun T.f_is_row.F sc_is_row (spF_len fun ds v e => by unfold fRow at e; split at e <;> first | rfl | cases e) fun cdv A outer s H E hr => ⟨_, (ds_one (ds_ret (d_andV (d_isi T.b_isinstance (da_cons (dv 0) (da_cons (dbt rfl T.b_tuple rfl) da_nil))) (d_oneV (d_le (d_len T.b_len (da_cons (dv 0) da_nil)) (dv 1)))))), ?_⟩
  rintro ds M Q ⟨v, e, hd, q⟩
  unfold fRow at e
  split at e
  · rename_i d m
    cases e
    have hd := hd.1
    cases hs : isTup d with
    | false =>
      have e : isRow d m = false := by cases d <;> first | rfl | cases hs
      rw [e] at q
      exact s_ret (gv_and0 (gv_isT (gv_var rfl) hd hs)) q
    | true =>
      obtain ⟨z, rfl⟩ := isTup_ex hs
      exact s_ret (gv_and1 (gv_isT (gv_var rfl) hd rfl) (gv_op (gv_cb (ga_cons (gv_var rfl) ga_nil) rc_lenT) (gv_var rfl) rv_le)) q
  · cases e
theorem ok_args_in (T : Tx K mg w) : FnOk P w K mg base CX0 1 T.f_args_in.f T.f_args_in.fd ["item"] (LSp K (spF fArgs)) := by
  refine dfun T.f_args_in.F sc_args_in (spF_one (f := argsD) fun ds => rfl) fun cdv A outer s H E hr => ⟨_, (ds_cons (ds_if (d_eqT (hu0 hr) (d_ixA (hu1 hr) (dv 0) dint) dstr) (ds_one (ds_ret (d_tup da_nil))) ds_nil) (ds_one (ds_ret (d_ifE (d_eqT (hu0 hr) (d_ixA (hu1 hr) (dv 0) dint) dstr) (d_ixA (hu1 hr) (dv 0) dint) (d_ixA (hu1 hr) (dv 0) dint))))), ?_⟩
  rintro ds M Q ⟨v, e, hd, q⟩
  unfold fArgs at e
  split at e
  · rename_i d
    unfold argsD at e
    split at e
    · rename_i k r
      have i0 : ∀ M1, Gv (dOp dIx (dVar 0) (dC (.int 0))) (dstart ["item"].length [D.tup (.str k :: r)]) M1 (.str k) := fun M1 => gv_op (gv_var rfl) gv_c (rv_ixT (atI_nat (n := 0) rfl))
      refine s_guard (gt_t (gv_op (i0 _) gv_c rv_eqS)) (fun hb M1 g1 => ?_) fun hb M1 g1 => ?_
      · have ek : k = "call" := of_decide_eq_true hb
        rw [if_pos ek] at e
        cases e
        exact s_ret (gv_tup ga_nil (Nat.zero_le _)) fun M2 g2 => q M2 (g1.trans g2)
      · have ek : ¬ k = "call" := of_decide_eq_false hb
        rw [if_neg ek] at e
        refine s_ret (v := v) (gv_eq (gv_if (v := v) (w := v) (gt_t (gv_op (i0 _) gv_c rv_eqS)) (fun hd => ?_) (fun hd => ?_)) (by split <;> rfl)) fun M2 g2 => q M2 (g1.trans g2)
        · rw [if_pos (of_decide_eq_true hd)] at e
          exact gv_op (gv_var rfl) gv_c (rv_ixT (atI_nat (n := 3) e))
        · rw [if_neg (of_decide_eq_false hd)] at e
          exact gv_op (gv_var rfl) gv_c (rv_ixT (atI_nat (n := 2) e))
    · cases e
  · cases e
theorem ok_bodies_of (T : Tx K mg w) : FnOk P w K mg base CX0 1 T.f_bodies_of.f T.f_bodies_of.fd ["item"] (LSp K (spF fBodies)) := by
  refine dfun T.f_bodies_of.F sc_bodies_of (spF_one (f := fun d => (bodiesD d).map D.tup) fun ds => rfl) fun cdv A outer s H E hr => ⟨_, (ds_one (ds_ret (d_ifE (d_inT (hu1 hr) (d_ixA (hu1 hr) (dv 0) dint) (d_tup (da_cons dstr (da_cons dstr da_nil)))) (d_sl (dv 0) (do_some dint) do_none) (d_tup da_nil)))), ?_⟩
  rintro ds M Q ⟨v, e, hd, q⟩
  unfold fBodies at e
  split at e
  · rename_i d
    unfold bodiesD at e
    split at e
    · rename_i k r
      have t : ∀ M1, Gt (dT (dOp (dInA false) (dOp dIx (dVar 0) (dC (.int 0))) (dTup (dCons (dC (.str "if")) (dCons (dC (.str "while")) dNil))))) (dstart ["item"].length [D.tup (.str k :: r)]) M1 (decide (k ∈ (["if", "while"] : List Str))) := fun M1 =>
        gt_t (gv_op (gv_op (gv_var rfl) gv_c (rv_ixT (atI_nat (n := 0) rfl))) (gv_tup (vs := [.str "if", .str "while"]) (ga_cons gv_c (ga_cons gv_c ga_nil)) (by decide)) (rv_inT (ss := ["if", "while"])))
      refine s_ret (v := v) (gv_eq (gv_if (v := v) (w := v) (t _) (fun hd => ?_) (fun hd => ?_)) (by split <;> rfl)) q
      · have ek : k = "if" ∨ k = "while" := by simpa using of_decide_eq_true hd
        rw [if_pos ek] at e
        cases e
        exact gv_eq (gv_sl (gv_var rfl) (go_some gv_c) go_none) (congrArg D.tup (dcut_from (n := 3)))
      · have ek : ¬ (k = "if" ∨ k = "while") := by simpa using of_decide_eq_false hd
        rw [if_neg ek] at e
        cases e
        exact gv_tup ga_nil (Nat.zero_le _)
    · cases e
  · cases e
end
end DL

/-! J3: an item. -/
namespace DL
open PySem PySem.Spec PyProof.Rows L2
theorem lens_cases {k : Str} {n : Int} (h : lens.lookup k = some n) : (k = "do" ∧ n = 4) ∨ (k = "if" ∧ n = 5) ∨ (k = "while" ∧ n = 4) ∨ (k = "call" ∧ n = 3) := by
  unfold lens at h
  simp only [List.lookup] at h
  split at h
  · rename_i q
    exact .inl ⟨eq_of_beq q, (Option.some.inj h).symm⟩
  · split at h
    · rename_i q
      exact .inr (.inl ⟨eq_of_beq q, (Option.some.inj h).symm⟩)
    · split at h
      · rename_i q
        exact .inr (.inr (.inl ⟨eq_of_beq q, (Option.some.inj h).symm⟩))
      · split at h
        · rename_i q
          exact .inr (.inr (.inr ⟨eq_of_beq q, (Option.some.inj h).symm⟩))
        · cases h
theorem args_some {k : Str} {n : Int} {r : List D} (h : lens.lookup k = some n) (hl : (r.length + 1 : Int) = n) : ∃ a, argsD (.tup (.str k :: r)) = some a ∧ ∀ M, Ok M (.tup (.str k :: r)) → Ok M a := by
  have mem : ∀ i, i < r.length → ∃ a, r[i]? = some a ∧ ∀ M, Ok M (.tup (.str k :: r)) → Ok M a := fun i hi => ⟨r[i], List.getElem?_eq_getElem hi, fun M ok => ok_tup.1 ok _ (List.mem_cons_of_mem _ (List.getElem_mem hi))⟩
  unfold argsD
  dsimp only
  rcases lens_cases h with ⟨rfl, rfl⟩ | ⟨rfl, rfl⟩ | ⟨rfl, rfl⟩ | ⟨rfl, rfl⟩
  · rw [if_neg (by decide), if_pos rfl]
    exact mem 2 (by omega)
  · rw [if_neg (by decide), if_neg (by decide)]
    exact mem 1 (by omega)
  · rw [if_neg (by decide), if_neg (by decide)]
    exact mem 1 (by omega)
  · rw [if_pos rfl]
    exact ⟨_, rfl, fun M _ => by rw [ok_tup]; intro d h; cases h⟩
theorem isItem_eq {k : Str} {r : List D} : isItem (.tup (.str k :: r)) = (match lens.lookup k with
    | some n => decide ((r.length + 1 : Int) = n) && nmAt r 0 && (if k = "do" ∨ k = "call" then nmAt r 1 else true) && (match argsD (.tup (.str k :: r)) with
      | some a => isNames a
      | none => false)
    | none => false) := rfl
theorem isNames_eq {xs : List D} : isNames (.tup xs) = (decide ((xs.length : Int) ≤ 3) && xs.all isName) := rfl
theorem okL_one {M : DM} {d : D} (h : Ok M d) : OkL M [d] := by
  unfold OkL
  exact ⟨h, by unfold OkL; trivial⟩
section
variable {P : Program} {w : World} {K : PySem.W.Frag} {mg : Str → Option Value} {base : Heap}
theorem ok_is_item (T : Tx K mg w) : FnOk P w K mg base CX0 2 T.f_is_item.f T.f_is_item.fd ["thing"] (LSp K (spF fItem)) := by
  refine dfun T.f_is_item.F sc_is_item (spF_one (f := fun d => some (.bl (isItem d))) fun ds => by unfold fItem; split <;> rfl) fun cdv A outer s H E hr => ⟨_, (ds_cons (ds_if (PW.pt (d_or (d_not (d_val (d_isi T.b_isinstance (da_cons (dv 0) (da_cons (dbt rfl T.b_tuple rfl) da_nil))))) (d_or (d_eqT (hu0 hr) (dv 0) (d_tup da_nil)) (d_or (d_not (d_val (d_isi T.b_isinstance (da_cons (d_ixA (hu1 hr) (dv 0) dint) (da_cons (dbt rfl T.b_str rfl) da_nil))))) (d_or1 (d_ninW T.w_LENGTHS (d_ixA (hu1 hr) (dv 0) dint) (dglR rfl T.c_LENGTHS))))))) (ds_one (ds_ret dbl)) ds_nil) (ds_cons (ds_if (PW.pt (d_or (d_neT (hu0 hr) (d_len T.b_len (da_cons (dv 0) da_nil)) (d_ixW T.w_LENGTHS (dglR rfl T.c_LENGTHS) (d_ixA (hu1 hr) (dv 0) dint))) (d_or1 (d_not (d_val (d_fn (fn := T.f_is_name) (ok_is_name T) (hr.mono (by first | decide | omega)) (da_cons (d_ixA (hu1 hr) (dv 0) dint) da_nil))))))) (ds_one (ds_ret dbl)) ds_nil) (ds_cons (ds_if (PW.pt (d_and (d_inT (hu1 hr) (d_ixA (hu1 hr) (dv 0) dint) (d_tup (da_cons dstr (da_cons dstr da_nil)))) (d_and1 (d_not (d_val (d_fn (fn := T.f_is_name) (ok_is_name T) (hr.mono (by first | decide | omega)) (da_cons (d_ixA (hu1 hr) (dv 0) dint) da_nil))))))) (ds_one (ds_ret dbl)) ds_nil) (ds_one (ds_ret (d_andV (d_fn (fn := T.f_is_row) (ok_is_row T) (hr.mono (by first | decide | omega)) (da_cons (d_fn (fn := T.f_args_in) (ok_args_in T) (hr.mono (by first | decide | omega)) (da_cons (dv 0) da_nil)) (da_cons (dglI rfl T.c_ARGS.choose_spec) da_nil))) (d_oneV (d_all rfl T.b_all (da_cons (d_lc rfl sc_is_item.nd (di_any (d_fn (fn := T.f_args_in) (ok_args_in T) (hr.mono (by first | decide | omega)) (da_cons (dv 0) da_nil))) (blkOk_by (own := [("name", 1)]) (N := ["thing", "name"]) (sc := defScope s_is_item) (by decide +kernel)) (by decide) (fun _ _ _ _ _ => pg_name (i := 1) sc_is_item.nd rfl (Or.inl rfl)) (fun _ _ _ _ _ => dts_nil) (fun _ _ _ _ _ => (d_fn (fn := T.f_is_name) (ok_is_name T) (hr.mono (by first | decide | omega)) (da_cons (dv 1) da_nil)))) da_nil))))))))), ?_⟩
  rintro ds M Q ⟨v, e, hd, q⟩
  unfold fItem at e
  split at e
  · rename_i d
    cases e
    have hd := hd.1
    cases hs : isTup d with
    | false =>
      have e : isItem d = false := by cases d <;> first | rfl | cases hs
      rw [e] at q
      exact s_guard1 (gt_or1 (gt_not (b := false) (gt_isT (gv_var rfl) hd hs))) fun M1 g1 => s_ret gv_c fun M2 g2 => q M2 (g1.trans g2)
    | true =>
      obtain ⟨xs, rfl⟩ := isTup_ex hs
      have t0 : ∀ ρ, ρ[0]? = some (some (D.tup xs)) → Gt (dT (dCB dIsI (dCons (dVar 0) (dCons (dC (.ty "tuple")) dNil)))) ρ M true := fun ρ h => gt_isT (gv_var h) hd rfl
      have t1 : ∀ ρ, ρ[0]? = some (some (D.tup xs)) → Gt (dT (dOp (dEq false) (dVar 0) (dTup dNil))) ρ M xs.isEmpty := fun ρ h => gt_t (gv_op (gv_var h) (gv_tup ga_nil (Nat.zero_le _)) rv_eqT)
      cases xs with
      | nil =>
        exact s_guard1 (gt_or0 (gt_not (b := true) (t0 _ rfl)) (gt_or1 (t1 _ rfl))) fun M1 g1 => s_ret gv_c fun M2 g2 => q M2 (g1.trans g2)
      | cons a r =>
        have ha : Ok M a := ok_tup.1 hd a List.mem_cons_self
        have i0 : ∀ (M1 : DM) (ρ : DSt), ρ[0]? = some (some (D.tup (a :: r))) → Gv (dOp dIx (dVar 0) (dC (.int 0))) ρ M1 a := fun M1 ρ h => gv_op (gv_var h) gv_c (rv_ixT (atI_nat (n := 0) rfl))
        cases hs2 : isStr a with
        | false =>
          have e : isItem (.tup (a :: r)) = false := by cases a <;> first | rfl | cases hs2
          rw [e] at q
          exact s_guard1 (gt_or0 (gt_not (b := true) (t0 _ rfl)) (gt_or0 (t1 _ rfl) (gt_or1 (gt_not (b := false) (gt_isS (i0 _ _ rfl) ha hs2))))) fun M1 g1 => s_ret gv_c fun M2 g2 => q M2 (g1.trans g2)
        | true =>
          obtain ⟨k, rfl⟩ := isStr_ex hs2
          have t2 : Gt (dNot (dT (dCB dIsI (dCons (dOp dIx (dVar 0) (dC (.int 0))) (dCons (dC (.ty "str")) dNil))))) (dstart ["thing", "name"].length [D.tup (.str k :: r)]) M false := gt_not (b := true) (gt_isS (i0 _ _ rfl) ha rfl)
          have t3 : ∀ M1, Gt (dT (dOp (dInW true T.aW lens) (dOp dIx (dVar 0) (dC (.int 0))) (dC (.ob T.aW)))) (dstart ["thing", "name"].length [D.tup (.str k :: r)]) M1 (!(lens.lookup k).isSome) := fun M1 => gt_t (gv_op (i0 _ _ rfl) gv_c rv_inW)
          cases hn : lens.lookup k with
          | none =>
            have e : isItem (.tup (.str k :: r)) = false := by
              rw [isItem_eq]
              rw [hn]
            rw [e] at q
            refine s_guard1 (gt_or0 (gt_not (b := true) (t0 _ rfl)) (gt_or0 (t1 _ rfl) (gt_or0 t2 (gt_eq (t3 _) (by rw [hn]; rfl))))) fun M1 g1 => s_ret gv_c fun M2 g2 => q M2 (g1.trans g2)
          | some n =>
            refine s_guard0 (gt_or0 (gt_not (b := true) (t0 _ rfl)) (gt_or0 (t1 _ rfl) (gt_or0 t2 (gt_eq (t3 _) (by rw [hn]; rfl))))) fun M1 g1 => ?_
            have hd1 := Ok.grow g1 _ hd
            by_cases hl : (r.length + 1 : Int) = n
            · have hr0 : 0 < r.length := by rcases lens_cases hn with ⟨_, rfl⟩ | ⟨_, rfl⟩ | ⟨_, rfl⟩ | ⟨_, rfl⟩ <;> omega
              obtain ⟨s, r1, rfl⟩ : ∃ s r1, r = s :: r1 := by
                cases r with
                | nil => cases hr0
                | cons s r1 => exact ⟨s, r1, rfl⟩
              have okS : Ok M1 s := ok_tup.1 hd1 s (by simp)
              obtain ⟨ar, ea, oka⟩ := args_some hn hl
              have ok1 := oka M1 hd1
              have eI : isItem (.tup (.str k :: s :: r1)) = (isName s && (if k = "do" ∨ k = "call" then nmAt (s :: r1) 1 else true) && isNames ar) := by
                rw [isItem_eq]
                rw [hn]
                dsimp only
                rw [ea, decide_eq_true hl, Bool.true_and]
                rfl
              rw [eI] at q
              have c1 : ∀ M2, Grow M1 M2 → Gv (dCall (spF fName) (dCons (dOp dIx (dVar 0) (dC (.int 1))) dNil)) (dstart ["thing", "name"].length [D.tup (.str k :: s :: r1)]) M2 (.bl (isName s)) := fun M2 g2 => gv_call (ga_cons (gv_op (gv_var rfl) gv_c (rv_ixT (atI_nat (n := 1) rfl))) ga_nil) (rc_spF rfl (okL_one (Ok.grow g2 _ okS)))
              refine s_guard (gt_or0 (gt_eq (gt_t (gv_op (gv_cb (ga_cons (gv_var rfl) ga_nil) rc_lenT) (gv_op gv_c (i0 _ _ rfl) (rv_ixW hn)) rv_neI)) (by rw [List.length_cons]; simpa using hl)) (gt_not (gt_t (c1 M1 (Grow.refl _))))) (fun hb M2 g2 => ?_) fun hb M2 g2 => ?_
              · have e1 : isName s = false := by simpa using hb
                rw [e1] at q
                exact s_ret gv_c fun M3 g3 => q M3 ((g1.trans g2).trans g3)
              · have e1 : isName s = true := by simpa using hb
                rw [e1, Bool.true_and] at q
                have t4 : ∀ M1, Gt (dT (dOp (dInA false) (dOp dIx (dVar 0) (dC (.int 0))) (dTup (dCons (dC (.str "do")) (dCons (dC (.str "call")) dNil))))) (dstart ["thing", "name"].length [D.tup (.str k :: s :: r1)]) M1 (decide (k ∈ (["do", "call"] : List Str))) := fun M1 =>
                  gt_t (gv_op (i0 _ _ rfl) (gv_tup (vs := [.str "do", .str "call"]) (ga_cons gv_c (ga_cons gv_c ga_nil)) (by decide)) (rv_inT (ss := ["do", "call"])))
                have last : ∀ M3, Grow M2 M3 → (∀ M', Grow M3 M' → Q (.bl (isNames ar)) M') → dRet (dAndV (dCall (spF fRow) (dCons (dCall (spF fArgs) (dCons (dVar 0) dNil)) (dCons (dC (.int 3)) dNil))) (dCB dAll (dCons (dLc (dwA (dCall (spF fArgs) (dCons (dVar 0) dNil))) 1 dYes (dCall (spF fName) (dCons (dVar 1) dNil)) (List.map (fun x => x.snd) [(Str.ofString "name", 1)])) dNil))) { nx := fun _ M' => Q .non M', rt := Q } (dstart ["thing", "name"].length [D.tup (.str k :: s :: r1)]) M3 := fun M3 g3 q3 => by
                  have hd3 := Ok.grow (g2.trans g3) _ hd1
                  have ok3 := Ok.grow (g2.trans g3) _ ok1
                  have ca : ∀ (ρ : DSt), ρ[0]? = some (some (D.tup (.str k :: s :: r1))) → Gv (dCall (spF fArgs) (dCons (dVar 0) dNil)) ρ M3 ar := fun ρ h => gv_call (ga_cons (gv_var h) ga_nil) (rc_spF ea (okL_one hd3))
                  have cr : Gv (dCall (spF fRow) (dCons (dCall (spF fArgs) (dCons (dVar 0) dNil)) (dCons (dC (.int 3)) dNil))) (dstart ["thing", "name"].length [D.tup (.str k :: s :: r1)]) M3 (.bl (isRow ar 3)) := gv_call (ga_cons (ca _ rfl) (ga_cons gv_c ga_nil)) (rc_spF rfl (by unfold OkL; exact ⟨ok3, okL_one ok_int⟩))
                  cases hr3 : isRow ar 3 with
                  | false =>
                    have e : isNames ar = false := by
                      cases ar <;> first | rfl | skip
                      rw [isNames_eq]
                      rw [show decide _ = false from hr3]
                      rfl
                    rw [e] at q3
                    rw [hr3] at cr
                    exact s_ret (gv_and0 cr) q3
                  | true =>
                    obtain ⟨as, rfl⟩ : ∃ as, ar = .tup as := by
                      cases ar <;> first | exact ⟨_, rfl⟩ | cases hr3
                    have e : isNames (.tup as) = (as.map isName).all id := by
                      rw [isNames_eq]
                      rw [show decide _ = true from hr3, Bool.true_and, List.all_map]
                      rfl
                    have l3 : (as.length : Int) ≤ 3 := of_decide_eq_true hr3
                    rw [e] at q3
                    rw [hr3] at cr
                    refine s_ret (gv_and1 cr (gv_all (bs := as.map isName) ?_)) q3
                    rw [List.map_map]
                    refine gl_lc (D.bl ∘ isName) (gi_tup (ca _ rfl)) (by rw [sizeLine_eq]; omega) fun x hx => ?_
                    exact gv_call (ga_cons (gv_var rfl) ga_nil) (rc_spF rfl (okL_one (ok_tup.1 ok3 x hx)))
                by_cases hk : k = "do" ∨ k = "call"
                · have dk : decide (k ∈ (["do", "call"] : List Str)) = true := by simpa using hk
                  rw [if_pos hk] at q
                  have hr1 : 0 < r1.length := by
                    rw [List.length_cons] at hl
                    rcases lens_cases hn with ⟨_, rfl⟩ | ⟨_, rfl⟩ | ⟨_, rfl⟩ | ⟨_, rfl⟩ <;> omega
                  obtain ⟨l, r2, rfl⟩ : ∃ s r1', r1 = s :: r1' := by
                    cases r1 with
                    | nil => cases hr1
                    | cons s r1 => exact ⟨s, r1, rfl⟩
                  have okl : Ok M2 l := ok_tup.1 (Ok.grow g2 _ hd1) l (by simp)
                  have q : ∀ M', Grow M M' → Q (.bl (isName l && isNames ar)) M' := q
                  refine s_guard (gt_and1 (gt_eq (t4 _) dk) (gt_not (gt_t (gv_call (ga_cons (gv_op (gv_var rfl) gv_c (rv_ixT (atI_nat (n := 2) rfl))) ga_nil) (rc_spF rfl (okL_one okl)))))) (fun hb M3 g3 => ?_) fun hb M3 g3 => ?_
                  · have e2 : isName l = false := by simpa using hb
                    rw [e2] at q
                    exact s_ret gv_c fun M4 g4 => q M4 (((g1.trans g2).trans g3).trans g4)
                  · have e2 : isName l = true := by simpa using hb
                    rw [e2, Bool.true_and] at q
                    exact last M3 g3 fun M4 g4 => q M4 (((g1.trans g2).trans g3).trans g4)
                · have dk : decide (k ∈ (["do", "call"] : List Str)) = false := by simpa using hk
                  rw [if_neg hk, Bool.true_and] at q
                  refine s_guard0 (gt_and0 (gt_eq (t4 _) dk)) fun M3 g3 => ?_
                  exact last M3 g3 fun M4 g4 => q M4 (((g1.trans g2).trans g3).trans g4)
            · have e : isItem (.tup (.str k :: r)) = false := by
                rw [isItem_eq]
                rw [hn]
                dsimp only
                rw [decide_eq_false hl]
                rfl
              rw [e] at q
              refine s_guard1 (gt_or1 (gt_eq (gt_t (gv_op (gv_cb (ga_cons (gv_var rfl) ga_nil) rc_lenT) (gv_op gv_c (i0 _ _ rfl) (rv_ixW hn)) rv_neI)) (by rw [List.length_cons]; simpa using hl))) fun M2 g2 => s_ret gv_c fun M3 g3 => q M3 ((g1.trans g2).trans g3)
  · cases e
end
end DL

/-! J4: bodies, procs. -/
namespace DL
open PySem PySem.Spec PyProof.Rows L2
def isBody : Nat → D → Bool
  | 0, .tup xs => xs.isEmpty
  | n + 1, .tup xs => decide ((xs.length : Int) ≤ 10) && xs.all fun it => isItem it && ((bodiesD it).getD []).all (isBody n)
  | _, _ => false
def fBody (n : Nat) : List D → Option D
  | [d, .int m] => if m = n then some (.bl (isBody n d)) else none
  | _ => none
def isProc : D → Bool
  | .tup [.str k, x, b] => decide (k = "proc") && isName x && isBody 3 b
  | _ => false
def fProc : List D → Option D
  | [d] => some (.bl (isProc d))
  | _ => none
theorem isBody_eq {n : Nat} {xs : List D} : isBody (n + 1) (.tup xs) = (decide ((xs.length : Int) ≤ 10) && xs.all fun it => isItem it && ((bodiesD it).getD []).all (isBody n)) := rfl
theorem item_bodies {it : D} (h : isItem it = true) : ∃ bs, bodiesD it = some bs ∧ ∀ M, Ok M it → ∀ b ∈ bs, Ok M b := by
  match it, h with
  | .tup (.str k :: r), h =>
    unfold bodiesD
    dsimp only
    by_cases e : k = "if" ∨ k = "while"
    · rw [if_pos e]
      exact ⟨_, rfl, fun M ok b hb => ok_tup.1 ok b (List.mem_cons_of_mem _ (List.mem_of_mem_drop hb))⟩
    · rw [if_neg e]
      exact ⟨_, rfl, fun M ok b hb => nomatch hb⟩
section
variable {P : Program} {w : World} {K : PySem.W.Frag} {mg : Str → Option Value} {base : Heap}
theorem bodies_few {it : D} {bs : List D} (h : isItem it = true) (e : bodiesD it = some bs) : bs.length ≤ 2 := by
  match it, h with
  | .tup (.str k :: r), h =>
    rw [isItem_eq] at h
    cases hn : lens.lookup k with
    | none =>
      rw [hn] at h
      cases h
    | some n =>
      rw [hn] at h
      dsimp only at h
      have hl : (r.length + 1 : Int) = n := by
        by_cases z : (r.length + 1 : Int) = n
        · exact z
        · rw [decide_eq_false z] at h
          cases h
      unfold bodiesD at e
      dsimp only at e
      split at e
      · cases e
        rw [List.length_drop]
        rcases lens_cases hn with ⟨_, rfl⟩ | ⟨_, rfl⟩ | ⟨_, rfl⟩ | ⟨_, rfl⟩ <;> omega
      · cases e
        exact Nat.zero_le _
theorem body_step (T : Tx K mg w) {n k : Nat} {sp : DSp} (hsp : ∀ m, n = m + 1 → sp = spF (fBody m)) (hk : 2 ≤ k) (G : FnOk P w K mg base CX0 k T.f_is_body.f T.f_is_body.fd ["thing", "deep"] (LSp K sp)) :
    FnOk P w K mg base CX0 (k + 1) T.f_is_body.f T.f_is_body.fd ["thing", "deep"] (LSp K (spF (fBody n))) := by
  refine dfun T.f_is_body.F sc_is_body (spF_len fun ds v e => by unfold fBody at e; split at e <;> first | rfl | cases e) fun cdv A outer s H E hr => ⟨_, (ds_cons (ds_if (PW.pt (d_or (d_not (d_val (d_fn (fn := T.f_is_row) (ok_is_row T) (hr.mono (by first | decide | omega)) (da_cons (dv 0) (da_cons (dglI rfl T.c_ITEMS.choose_spec) da_nil))))) (d_or1 (PW.pt (d_and (d_eqT (hu0 hr) (dv 1) dint) (d_and1 (d_neT (hu0 hr) (dv 0) (d_tup da_nil)))))))) (ds_one (ds_ret dbl)) ds_nil) (ds_cons (ds_for PassesOwn.never rfl (di_any (dv 0)) (dg_name (i := 2) sc_is_body.nd) (ds_one (ds_if (PW.pt (d_or (d_not (d_val (d_fn (fn := T.f_is_item) (ok_is_item T) (hr.mono (by first | decide | omega)) (da_cons (dv 2) da_nil)))) (d_or1 (d_not (d_val (d_all rfl T.b_all (da_cons (d_lc rfl sc_is_body.nd (di_any (d_fn (fn := T.f_bodies_of) (ok_bodies_of T) (hr.mono (by first | decide | omega)) (da_cons (dv 2) da_nil))) (blkOk_by (own := [("body", 3)]) (N := ["thing", "deep", "item", "body"]) (sc := defScope s_is_body) (by decide +kernel)) (by decide) (fun _ _ _ _ _ => pg_name (i := 3) sc_is_body.nd rfl (Or.inl rfl)) (fun _ _ _ _ _ => dts_nil) (fun _ _ _ _ _ => (d_fn (fn := T.f_is_body) G (hr.mono (by first | decide | omega)) (da_cons (dv 3) (da_cons (d_sub (dv 1) dint) da_nil))))) da_nil))))))) (ds_one (ds_ret dbl)) ds_nil))) (ds_one (ds_ret dbl)))), ?_⟩
  rintro ds M Q ⟨v, e, hd, q⟩
  unfold fBody at e
  split at e
  · rename_i d m
    by_cases em : m = n
    · subst em
      rw [if_pos rfl] at e
      cases e
      have hd1 := hd.1
      have c0 : ∀ ρ, ρ[0]? = some (some d) → Gt (dNot (dT (dCall (spF fRow) (dCons (dVar 0) (dCons (dC (.int 10)) dNil))))) ρ M (!isRow d 10) := fun ρ h => gt_not (gt_t (gv_call (ga_cons (gv_var h) (ga_cons gv_c ga_nil)) (rc_spF rfl (by unfold OkL; exact ⟨hd1, okL_one ok_int⟩))))
      cases hr0 : isRow d 10 with
      | false =>
        have e : isBody n d = false := by
          cases d with
          | tup xs =>
            cases n with
            | zero =>
              cases xs with
              | nil => cases hr0
              | cons => rfl
            | succ n =>
              rw [isBody_eq, show decide _ = false from hr0]
              rfl
          | _ => cases n <;> rfl
        rw [e] at q
        exact s_guard1 (gt_or1 (gt_eq (c0 _ rfl) (by rw [hr0]; rfl))) fun M1 g1 => s_ret gv_c fun M2 g2 => q M2 (g1.trans g2)
      | true =>
        obtain ⟨xs, rfl⟩ : ∃ as, d = .tup as := by
          cases d <;> first | exact ⟨_, rfl⟩ | cases hr0
        have l10 : (xs.length : Int) ≤ 10 := of_decide_eq_true hr0
        have t1 : Gt (dAnd (dT (dOp (dEq false) (dVar 1) (dC (.int 0)))) (dT (dOp (dEq true) (dVar 0) (dTup dNil)))) (dstart ["thing", "deep", "item", "body"].length [D.tup xs, .int n]) M (decide ((n : Int) = 0) && !xs.isEmpty) := gt_and (gt_t (gv_op (gv_var rfl) gv_c rv_eqI)) fun _ => gt_t (gv_op (gv_var rfl) (gv_tup ga_nil (Nat.zero_le _)) rv_neT)
        refine s_guard (gt_or0 (gt_eq (c0 _ rfl) (by rw [hr0]; rfl)) t1) (fun hb M1 g1 => ?_) fun hb M1 g1 => ?_
        · have e : isBody n (.tup xs) = false := by
            cases n with
            | zero =>
              cases xs with
              | nil => simp at hb
              | cons => rfl
            | succ n =>
              rw [decide_eq_false (show ¬ (((n + 1 : Nat) : Int) = 0) by omega)] at hb
              cases hb
          rw [e] at q
          exact s_ret gv_c fun M2 g2 => q M2 (g1.trans g2)
        · have good : ∀ it, it ∈ xs → ∃ m, n = m + 1 := fun it hit => by
            cases n with
            | zero =>
              cases xs with
              | nil => cases hit
              | cons => simp at hb
            | succ n => exact ⟨n, rfl⟩
          let okI : D → Bool := fun it => isItem it && ((bodiesD it).getD []).all (isBody (n - 1))
          have eB : isBody n (.tup xs) = xs.all okI := by
            cases n with
            | zero =>
              cases xs with
              | nil => rfl
              | cons a r =>
                obtain ⟨m, z⟩ := good a List.mem_cons_self
                cases z
            | succ n => rw [isBody_eq, decide_eq_true l10, Bool.true_and]; rfl
          rw [eB] at q
          refine s_seq (s_for (gi_tup (gv_var rfl)) fun M2 stay g2 hs => ?_)
          refine loopI (fun r ρ M3 => Grow M2 M3 ∧ ∃ o2 done, ρ = [some (.tup xs), some (.int n), o2, none] ∧ xs = done ++ r ∧ done.all okI = true) (fun ρ M3 ⟨g3, o2, done, eρ, ex, hall⟩ => ?_) (fun it r ρ M3 ⟨g3, o2, done, eρ, ex, hall⟩ N hN => ?_) _ _ _ ⟨Grow.refl _, none, [], rfl, rfl, rfl⟩
          · have e : xs.all okI = true := by rw [ex, List.append_nil]; exact hall
            rw [e] at q
            exact (s_ret gv_c fun M4 g4 => q M4 (((g1.trans g2).trans g3).trans g4) : dRet (dC (.bl true)) { nx := fun _ M' => Q .non M', rt := Q } ρ M3)
          · subst eρ
            have hit : it ∈ xs := by rw [ex]; simp
            obtain ⟨m, rfl⟩ := good it hit
            rw [hsp m rfl]
            have g03 := (g1.trans g2).trans g3
            have oki : Ok M3 it := ok_tup.1 (Ok.grow g03 _ hd1) it hit
            show dIfS _ _ _ _ [some (.tup xs), some (.int ((m + 1 : Nat) : Int)), some it, none] M3
            have ci : Gt (dNot (dT (dCall (spF fItem) (dCons (dVar 2) dNil)))) [some (.tup xs), some (.int ((m + 1 : Nat) : Int)), some it, none] M3 (!isItem it) := gt_not (gt_t (gv_call (ga_cons (gv_var rfl) ga_nil) (rc_spF rfl (okL_one oki))))
            have bad : okI it = false → ∀ M4, Grow M3 M4 → Q (.bl false) M4 := fun h M4 g4 => by
              have e : xs.all okI = false := by
                rw [ex, List.all_append, List.all_cons, h]
                simp
              rw [e] at q
              exact q M4 (g03.trans g4)
            cases hI : isItem it with
            | false => exact s_if1 (gt_or1 (gt_eq ci (by rw [hI]; rfl))) fun M4 g4 => s_ret gv_c fun M5 g5 => bad (by show (isItem it && _) = false; rw [hI]; rfl) M5 (g4.trans g5)
            | true =>
              obtain ⟨bs, eb, okb⟩ := item_bodies hI
              have few := bodies_few hI eb
              have eO : okI it = (bs.map (isBody m)).all id := by
                show (isItem it && ((bodiesD it).getD []).all (isBody m)) = _
                rw [hI, eb, List.all_map]
                rfl
              have t2 : Gt (dNot (dT (dCB dAll (dCons (dLc (dwA (dCall (spF fBodies) (dCons (dVar 2) dNil))) 3 dYes (dCall (spF (fBody m)) (dCons (dVar 3) (dCons (dOp (dArith fun i j => i - j) (dVar 1) (dC (.int 1))) dNil))) (List.map (fun x => x.snd) [(Str.ofString "body", 3)])) dNil)))) [some (.tup xs), some (.int ((m + 1 : Nat) : Int)), some it, none] M3 (!(bs.map (isBody m)).all id) := by
                refine gt_not (gt_t (gv_all ?_))
                rw [List.map_map]
                refine gl_lc (D.bl ∘ isBody m) (gi_tup (gv_call (ga_cons (gv_var rfl) ga_nil) (rc_spF (show (bodiesD it).map D.tup = some (.tup bs) by rw [eb]; rfl) (okL_one oki)))) (by rw [sizeLine_eq]; omega) fun b hb => ?_
                refine gv_call (ga_cons (gv_var rfl) (ga_cons (gv_op (gv_var rfl) gv_c rv_sub) ga_nil)) (rc_spF ?_ (by unfold OkL; exact ⟨okb M3 oki b hb, okL_one ok_int⟩))
                unfold fBody
                dsimp only
                rw [if_pos (by omega)]
                rfl
              refine s_if (gt_or0 (gt_eq ci (by rw [hI]; rfl)) t2) (fun hb M4 g4 => ?_) fun hb M4 g4 => ?_
              · exact s_ret gv_c fun M5 g5 => bad (by rw [eO]; simpa using hb) M5 (g4.trans g5)
              · refine hN _ M4 (hs M4 (g3.trans g4)) ⟨g3.trans g4, some it, done ++ [it], rfl, by rw [ex]; simp, ?_⟩
                rw [List.all_append, hall, List.all_cons, eO, show (bs.map (isBody m)).all id = true by simpa using hb]
                rfl
    · rw [if_neg em] at e
      cases e
  · cases e
theorem ok_body0 (T : Tx K mg w) : FnOk P w K mg base CX0 3 T.f_is_body.f T.f_is_body.fd ["thing", "deep"] (LSp K (spF (fBody 0))) :=
  body_step T (sp := fun _ _ _ => False) (fun m h => nomatch h) (by decide) (dfun T.f_is_body.F sc_is_body (fun _ _ _ h => h.elim) fun _ _ _ _ _ _ _ => ⟨fun _ _ _ => False, PSs.none, fun _ _ _ h => h.elim⟩)
theorem ok_body (T : Tx K mg w) : ∀ n, FnOk P w K mg base CX0 (n + 3) T.f_is_body.f T.f_is_body.fd ["thing", "deep"] (LSp K (spF (fBody n)))
  | 0 => ok_body0 T
  | n + 1 => body_step T (sp := spF (fBody n)) (fun m h => by cases h; rfl) (by omega) (ok_body T n)
end
end DL

/-! J5: procs; the items in a body. -/
namespace DL
open PySem PySem.Spec PyProof.Rows L2
theorem name_str {d : D} (h : isName d = true) : ∃ s, d = .str s ∧ nameS s = true := by
  cases d <;> first | exact ⟨_, rfl, h⟩ | cases h
theorem names_strs : ∀ {xs : List D}, xs.all isName = true → ∃ ss : List Str, xs = ss.map D.str ∧ ss.all nameS = true
  | [], _ => ⟨[], rfl, rfl⟩
  | x :: xs, h => by
    rw [List.all_cons, Bool.and_eq_true] at h
    obtain ⟨s, rfl, hs⟩ := name_str h.1
    obtain ⟨ss, rfl, hss⟩ := names_strs h.2
    exact ⟨s :: ss, rfl, by rw [List.all_cons, hs, hss]; rfl⟩
/-- args that are right -/
def ArgsOk (as : List Str) : Prop := as.length ≤ 3 ∧ as.all nameS = true
theorem isNames_ex {d : D} (h : isNames d = true) : ∃ as : List Str, d = .tup (as.map D.str) ∧ ArgsOk as := by
  cases d with
  | tup xs =>
    rw [isNames_eq, Bool.and_eq_true] at h
    obtain ⟨ss, rfl, hss⟩ := names_strs h.2
    have l := of_decide_eq_true h.1
    rw [List.length_map] at l
    exact ⟨ss, rfl, by omega, hss⟩
  | _ => cases h
/-- the four forms of an item -/
inductive Shape : D → Prop
  | stp (s l : Str) (as : List Str) (hs : nameS s = true) (hl : nameS l = true) (ha : ArgsOk as) : Shape (.tup [.str "do", .str s, .str l, .tup (as.map D.str)])
  | iff (s : Str) (as : List Str) (a b : D) (hs : nameS s = true) (ha : ArgsOk as) : Shape (.tup [.str "if", .str s, .tup (as.map D.str), a, b])
  | whl (s : Str) (as : List Str) (a : D) (hs : nameS s = true) (ha : ArgsOk as) : Shape (.tup [.str "while", .str s, .tup (as.map D.str), a])
  | cal (s h : Str) (hs : nameS s = true) (hh : nameS h = true) : Shape (.tup [.str "call", .str s, .str h])
theorem item_shape {it : D} (h : isItem it = true) : Shape it := by
  match it, h with
  | .tup (.str k :: r), h =>
    rw [isItem_eq] at h
    cases hn : lens.lookup k with
    | none =>
      rw [hn] at h
      cases h
    | some n =>
      rw [hn] at h
      dsimp only at h
      rw [Bool.and_eq_true, Bool.and_eq_true, Bool.and_eq_true] at h
      obtain ⟨⟨⟨hl, h0⟩, h1⟩, h2⟩ := h
      have hl := of_decide_eq_true hl
      rcases lens_cases hn with ⟨rfl, rfl⟩ | ⟨rfl, rfl⟩ | ⟨rfl, rfl⟩ | ⟨rfl, rfl⟩
      · obtain ⟨a, b, c, rfl⟩ : ∃ a b c, r = [a, b, c] := by
          match r, hl with
          | [a, b, c], _ => exact ⟨a, b, c, rfl⟩
          | [], hl => cases hl
          | [a], hl => cases hl
          | [a, b], hl => cases hl
          | a :: b :: c :: d :: e, hl => (simp only [List.length_cons] at hl; omega)
        obtain ⟨s, rfl, hs⟩ := name_str (show isName a = true from h0)
        obtain ⟨l, rfl, hll⟩ := name_str (show isName b = true from h1)
        obtain ⟨as, rfl, ha⟩ := isNames_ex (show isNames c = true from h2)
        exact .stp s l as hs hll ha
      · obtain ⟨a, b, c, d, rfl⟩ : ∃ a b c d, r = [a, b, c, d] := by
          match r, hl with
          | [a, b, c, d], _ => exact ⟨a, b, c, d, rfl⟩
          | [], hl => cases hl
          | [a], hl => cases hl
          | [a, b], hl => cases hl
          | [a, b, c], hl => cases hl
          | a :: b :: c :: d :: e :: f, hl => (simp only [List.length_cons] at hl; omega)
        obtain ⟨s, rfl, hs⟩ := name_str (show isName a = true from h0)
        obtain ⟨as, rfl, ha⟩ := isNames_ex (show isNames b = true from h2)
        exact .iff s as c d hs ha
      · obtain ⟨a, b, c, rfl⟩ : ∃ a b c, r = [a, b, c] := by
          match r, hl with
          | [a, b, c], _ => exact ⟨a, b, c, rfl⟩
          | [], hl => cases hl
          | [a], hl => cases hl
          | [a, b], hl => cases hl
          | a :: b :: c :: d :: e, hl => (simp only [List.length_cons] at hl; omega)
        obtain ⟨s, rfl, hs⟩ := name_str (show isName a = true from h0)
        obtain ⟨as, rfl, ha⟩ := isNames_ex (show isNames b = true from h2)
        exact .whl s as c hs ha
      · obtain ⟨a, b, rfl⟩ : ∃ a b, r = [a, b] := by
          match r, hl with
          | [a, b], _ => exact ⟨a, b, rfl⟩
          | [], hl => cases hl
          | [a], hl => cases hl
          | a :: b :: c :: d, hl => (simp only [List.length_cons] at hl; omega)
        obtain ⟨s, rfl, hs⟩ := name_str (show isName a = true from h0)
        obtain ⟨l, rfl, hll⟩ := name_str (show isName b = true from h1)
        exact .cal s l hs hll
def itemsD : Nat → D → List D
  | n + 1, .tup xs => xs.flatMap fun it => it :: ((bodiesD it).getD []).flatMap (itemsD n)
  | _, _ => []
def roomB : Nat → Nat
  | 0 => 0
  | n + 1 => 10 * (1 + 2 * roomB n)
theorem flat_few {α β : Type} (f : α → List β) (k : Nat) : ∀ xs : List α, (∀ x ∈ xs, (f x).length ≤ k) → (xs.flatMap f).length ≤ xs.length * k := by
  intro xs
  induction xs with
  | nil => simp
  | cons x xs ih =>
    intro each
    rw [List.flatMap_cons, List.length_append, List.length_cons, Nat.succ_mul]
    have h1 := each x List.mem_cons_self
    have h2 := ih fun it hit => each it (List.mem_cons_of_mem _ hit)
    omega
theorem items_few : ∀ (n : Nat) (d : D), isBody n d = true → (itemsD n d).length ≤ roomB n
  | 0, .tup xs, h => by
    unfold itemsD
    exact Nat.zero_le _
  | n + 1, .tup xs, h => by
    rw [isBody_eq, Bool.and_eq_true] at h
    obtain ⟨h1, h2⟩ := h
    have l := of_decide_eq_true h1
    have each : ∀ it ∈ xs, (it :: ((bodiesD it).getD []).flatMap (itemsD n)).length ≤ 1 + 2 * roomB n := fun it hit => by
      have q := List.all_eq_true.mp h2 it hit
      rw [Bool.and_eq_true] at q
      obtain ⟨bs, eb, _⟩ := item_bodies q.1
      have few := bodies_few q.1 eb
      rw [eb, Option.getD_some] at q ⊢
      have z := flat_few (itemsD n) (roomB n) bs fun b hb => items_few n b (List.all_eq_true.mp q.2 b hb)
      rw [List.length_cons]
      have : bs.length * roomB n ≤ 2 * roomB n := Nat.mul_le_mul_right _ few
      omega
    show (xs.flatMap fun it => it :: ((bodiesD it).getD []).flatMap (itemsD n)).length ≤ 10 * (1 + 2 * roomB n)
    have z := flat_few _ (1 + 2 * roomB n) xs each
    have : xs.length * (1 + 2 * roomB n) ≤ 10 * (1 + 2 * roomB n) := Nat.mul_le_mul_right _ (by omega)
    omega
/-- items stand -/
theorem items_ok : ∀ (n : Nat) (d : D) (M : DM), isBody n d = true → Ok M d → ∀ it ∈ itemsD n d, Ok M it ∧ isItem it = true
  | 0, d, M, h, ok, it, hit => by
    unfold itemsD at hit
    cases hit
  | n + 1, .tup xs, M, h, ok, it, hit => by
    rw [isBody_eq, Bool.and_eq_true] at h
    have hit : it ∈ xs.flatMap fun it => it :: ((bodiesD it).getD []).flatMap (itemsD n) := hit
    obtain ⟨x, hx, hm⟩ := List.mem_flatMap.mp hit
    have q := List.all_eq_true.mp h.2 x hx
    rw [Bool.and_eq_true] at q
    have okx := ok_tup.1 ok x hx
    rcases List.mem_cons.mp hm with rfl | hm
    · exact ⟨okx, q.1⟩
    · obtain ⟨bs, eb, okb⟩ := item_bodies q.1
      rw [eb, Option.getD_some] at hm q
      obtain ⟨b, hb, hm⟩ := List.mem_flatMap.mp hm
      exact items_ok n b M (List.all_eq_true.mp q.2 b hb) (okb M okx b hb) it hm
/-- a promise of a new list -/
def spL (pre : List D → DM → Prop) (f : List D → List D) : DSp := fun ds M Q => pre ds M ∧ ∀ M' p, Grow M M' → M p = none → M' p = some (.ls (f ds)) → Q (.ob p) M'
def preItems (n : Nat) : List D → DM → Prop := fun ds M => ∃ d, ds = [d] ∧ isBody n d = true ∧ Ok M d
def fItems (n : Nat) : List D → List D
  | [d] => itemsD n d
  | _ => []
theorem gx_call {ρ : DSt} {M : DM} {vs : List D} {t : DTA} {pre : List D → DM → Prop} {f : List D → List D} (ha : Ga t ρ M vs) (h : ∀ M1, Grow M M1 → pre vs M1) : Gx (dCall (spL pre f) t) ρ M (f vs) := fun M1 g1 Q q => ha M1 g1 _ fun M2 g2 => ⟨h M2 (g1.trans g2), fun M3 p g3 np e => q M3 p (g2.trans g3) (by
  cases z : M1 p with
  | none => rfl
  | some o =>
    rw [g2 p o z] at np
    cases np) e⟩
theorem Grow.put {M M1 : DM} {a : Addr} {o : MO} (g : Grow M M1) (n : M a = none) : Grow M (mset M1 a o) := fun b u e => by
  rw [mset_ne (fun z => by rw [z, n] at e; cases e)]
  exact g b u e
theorem s_append {ρ : DSt} {M : DM} {E : DEnds} {to te : DTE} {a : Addr} {v : D} {xs : List D} (ho : Gv to ρ M (.ob a)) (he : Gv te ρ M v) (e : M a = some (.ls xs)) (hl : xs.length < sizeLine) (q : ∀ M1, Grow M M1 → E.nx ρ (mset M1 a (.ls (xs ++ [v])))) :
    dDrop (dBM dAppend to (dCons te dNil)) E ρ M := ho M (Grow.refl M) _ fun M1 g1 => ⟨by rw [msq_ls (g1 a _ e)]; rfl, he M1 g1 _ fun M2 g2 => by
  unfold dNil dAppend
  dsimp only
  rw [g2 a _ (g1 a _ e)]
  exact ⟨hl, q M2 (g1.trans g2)⟩⟩
theorem s_extend {ρ : DSt} {M : DM} {E : DEnds} {to te : DTE} {a : Addr} {xs ys : List D} (ho : Gv to ρ M (.ob a)) (he : Gx te ρ M ys) (e : M a = some (.ls xs)) (hl : xs.length + ys.length ≤ sizeLine) (q : ∀ M1, Grow M M1 → E.nx ρ (mset M1 a (.ls (xs ++ ys)))) :
    dDrop (dBM dExtend to (dCons te dNil)) E ρ M := ho M (Grow.refl M) _ fun M1 g1 => ⟨by rw [msq_ls (g1 a _ e)]; rfl, he M1 g1 _ fun M2 p g2 np ep => by
  unfold dNil dExtend
  dsimp only
  rw [g2 a _ (g1 a _ e), ep]
  exact ⟨hl, q M2 (g1.trans g2)⟩⟩
section
variable {P : Program} {w : World} {K : PySem.W.Frag} {mg : Str → Option Value} {base : Heap}
theorem ok_is_proc (T : Tx K mg w) : FnOk P w K mg base CX0 7 T.f_is_proc.f T.f_is_proc.fd ["thing"] (LSp K (spF fProc)) := by
  have G3 := ok_body (P := P) (base := base) T 3
  refine dfun T.f_is_proc.F sc_is_proc (spF_len fun ds v e => by unfold fProc at e; split at e <;> first | rfl | cases e) fun cdv A outer s H E hr => ⟨_, (ds_cons (ds_if (PW.pt (d_or (d_not (d_val (d_isi T.b_isinstance (da_cons (dv 0) (da_cons (dbt rfl T.b_tuple rfl) da_nil))))) (d_or (d_neT (hu0 hr) (d_len T.b_len (da_cons (dv 0) da_nil)) dint) (d_or (d_not (d_val (d_isi T.b_isinstance (da_cons (d_ixA (hu1 hr) (dv 0) dint) (da_cons (dbt rfl T.b_str rfl) da_nil))))) (d_or1 (d_neT (hu0 hr) (d_ixA (hu1 hr) (dv 0) dint) dstr)))))) (ds_one (ds_ret dbl)) ds_nil) (ds_one (ds_ret (d_andV (d_fn (fn := T.f_is_name) (ok_is_name T) (hr.mono (by first | decide | omega)) (da_cons (d_ixA (hu1 hr) (dv 0) dint) da_nil)) (d_oneV (d_fn (fn := T.f_is_body) G3 (hr.mono (by first | decide | omega)) (da_cons (d_ixA (hu1 hr) (dv 0) dint) (da_cons (dglI rfl T.c_DEEP.choose_spec) da_nil)))))))), ?_⟩
  rintro ds M Q ⟨v, e, hd, q⟩
  unfold fProc at e
  split at e
  · rename_i d
    cases e
    have hd := hd.1
    have no : isProc d = false → ∀ M1, Grow M M1 → dRet (dC (.bl false)) { nx := dRet (dAndV (dCall (spF fName) (dCons (dOp dIx (dVar 0) (dC (.int 1))) dNil)) (dCall (spF (fBody 3)) (dCons (dOp dIx (dVar 0) (dC (.int 2))) (dCons (dC (.int 3)) dNil)))) { nx := fun _ M' => Q .non M', rt := Q }, rt := Q } (dstart ["thing"].length [d]) M1 := fun e M1 g1 => by
      rw [e] at q
      exact s_ret gv_c fun M2 g2 => q M2 (g1.trans g2)
    cases hs : isTup d with
    | false =>
      have e : isProc d = false := by cases d <;> first | rfl | cases hs
      exact s_guard1 (gt_or1 (gt_not (b := false) (gt_isT (gv_var rfl) hd hs))) (no e)
    | true =>
      obtain ⟨xs, rfl⟩ := isTup_ex hs
      have t0 : Gt (dNot (dT (dCB dIsI (dCons (dVar 0) (dCons (dC (.ty "tuple")) dNil))))) (dstart ["thing"].length [D.tup xs]) M false := gt_not (b := true) (gt_isT (gv_var rfl) hd rfl)
      have t1 : Gt (dT (dOp (dEq true) (dCB dLenA (dCons (dVar 0) dNil)) (dC (.int 3)))) (dstart ["thing"].length [D.tup xs]) M (!decide ((xs.length : Int) = 3)) := gt_t (gv_op (gv_cb (ga_cons (gv_var rfl) ga_nil) rc_lenT) gv_c rv_neI)
      by_cases hl : (xs.length : Int) = 3
      · obtain ⟨a, b, c, rfl⟩ : ∃ a b c, xs = [a, b, c] := by
          match xs, hl with
          | [a, b, c], _ => exact ⟨a, b, c, rfl⟩
          | [], hl => cases hl
          | [a], hl => cases hl
          | [a, b], hl => cases hl
          | a :: b :: c :: d :: e, hl => (simp only [List.length_cons] at hl; omega)
        have ha : Ok M a := ok_tup.1 hd a (by simp)
        have hb : Ok M b := ok_tup.1 hd b (by simp)
        have hc : Ok M c := ok_tup.1 hd c (by simp)
        have i0 : Gv (dOp dIx (dVar 0) (dC (.int 0))) (dstart ["thing"].length [D.tup [a, b, c]]) M a := gv_op (gv_var rfl) gv_c (rv_ixT (atI_nat (n := 0) rfl))
        cases hs2 : isStr a with
        | false =>
          have e : isProc (.tup [a, b, c]) = false := by cases a <;> first | rfl | cases hs2
          exact s_guard1 (gt_or0 t0 (gt_or0 (gt_eq t1 (by simp)) (gt_or1 (gt_not (b := false) (gt_isS i0 ha hs2))))) (no e)
        | true =>
          obtain ⟨k, rfl⟩ := isStr_ex hs2
          refine s_guard (gt_or0 t0 (gt_or0 (gt_eq t1 (by simp)) (gt_or0 (gt_not (b := true) (gt_isS i0 ha rfl)) (gt_t (gv_op i0 gv_c rv_neS))))) (fun hbb => no ?_) fun hbb M1 g1 => ?_
          · show (decide (k = "proc") && _ && _) = false
            rw [show decide (k = "proc") = false by simpa using hbb]
            rfl
          · have ek : decide (k = "proc") = true := by simpa using hbb
            have e : isProc (.tup [.str k, b, c]) = (isName b && isBody 3 c) := by
              show (decide (k = "proc") && _ && _) = _
              rw [ek, Bool.true_and]
            rw [e] at q
            refine s_ret (gv_and (gv_call (ga_cons (gv_op (gv_var rfl) gv_c (rv_ixT (atI_nat (n := 1) rfl))) ga_nil) (rc_spF rfl (okL_one (Ok.grow g1 _ hb)))) fun _ => gv_call (ga_cons (gv_op (gv_var rfl) gv_c (rv_ixT (atI_nat (n := 2) rfl))) (ga_cons gv_c ga_nil)) (rc_spF rfl (by unfold OkL; exact ⟨Ok.grow g1 _ hc, okL_one ok_int⟩))) fun M2 g2 => q M2 (g1.trans g2)
      · have e : isProc (.tup xs) = false := by
          unfold isProc
          split
          · rename_i h
            cases h
            exact absurd rfl hl
          · rfl
        exact s_guard1 (gt_or0 t0 (gt_or1 (gt_eq t1 (by simpa using hl)))) (no e)
  · cases e
end
end DL

/-! J6: items_in. -/
namespace DL
open PySem PySem.Spec PyProof.Rows L2
theorem body_tup {n : Nat} {d : D} (h : isBody n d = true) : ∃ xs, d = .tup xs := by
  cases n <;> cases d <;> first | exact ⟨_, rfl⟩ | cases h
theorem room3 : roomB 3 = 4210 := rfl
theorem roomB_mono : ∀ n, roomB n ≤ roomB (n + 1)
  | 0 => Nat.zero_le _
  | n + 1 => by
    have := roomB_mono n
    show 10 * (1 + 2 * roomB n) ≤ 10 * (1 + 2 * roomB (n + 1))
    omega
theorem body_le : ∀ {n : Nat} {xs : List D}, isBody n (.tup xs) = true → xs.length ≤ 10
  | 0, [], _ => Nat.zero_le _
  | n + 1, xs, h => by
    rw [isBody_eq, Bool.and_eq_true] at h
    have := of_decide_eq_true h.1
    omega
theorem Grow.mset_ls {M M1 : DM} {a : Addr} {xs : List D} (_ : Grow M M1) : mset M1 a (.ls xs) a = some (.ls xs) := mset_same
section
variable {P : Program} {w : World} {K : PySem.W.Frag} {mg : Str → Option Value} {base : Heap}
theorem items_step (T : Tx K mg w) {n k : Nat} {sp : DSp} (hn : n ≤ 3) (hsp : ∀ m, n = m + 1 → sp = spL (preItems m) (fItems m)) (hk : 1 ≤ k) (G : FnOk P w K mg base CX0 k T.f_items_in.f T.f_items_in.fd ["body"] (LSp K sp)) :
    FnOk P w K mg base CX0 (k + 1) T.f_items_in.f T.f_items_in.fd ["body"] (LSp K (spL (preItems n) (fItems n))) := by
  refine dfun T.f_items_in.F sc_items_in (fun ds M Q ⟨⟨d, e, _⟩, _⟩ => by rw [e]; rfl) fun cdv A outer s H E hr => ⟨_, (ds_cons (ds_set (i := 1) sc_items_in.nd (d_lst da_nil)) (ds_cons (ds_for PassesOwn.never rfl (di_any (dv 0)) (dg_name (i := 2) sc_items_in.nd) (ds_cons (ds_expr (d_appendS (dv 1) (da_cons (dv 2) da_nil))) (ds_one (ds_for PassesOwn.never rfl (di_any (d_fn (fn := T.f_bodies_of) (ok_bodies_of T) (hr.mono (by first | decide | omega)) (da_cons (dv 2) da_nil))) (dg_name (i := 3) sc_items_in.nd) (ds_one (ds_expr (d_extendS (dv 1) (da_cons (d_fn (fn := T.f_items_in) G (hr.mono (by first | decide | omega)) (da_cons (dv 3) da_nil)) da_nil)))))))) (ds_one (ds_ret (dv 1))))), ?_⟩
  rintro ds M Q ⟨⟨d, rfl, hb, hd⟩, q⟩
  obtain ⟨xs, rfl⟩ := body_tup hb
  have few := items_few n _ hb
  have r3 : roomB n ≤ 4210 := by
    match n, hn with
    | 0, _ => decide
    | 1, _ => decide
    | 2, _ => decide
    | 3, _ => decide
    | n + 4, h => omega
  have sz : ∀ k : Nat, k ≤ 4210 → k ≤ sizeLine := fun k h => by rw [sizeLine_eq]; omega
  have szl : ∀ k : Nat, k < 4210 → k < sizeLine := fun k h => by rw [sizeLine_eq]; omega
  refine s_seq (s_setL (gl_lst ga_nil (Nat.zero_le _)) fun M1 p g1 np e1 => ?_)
  dsimp only
  refine s_seq (s_forT (all := xs) (gv_var rfl) fun M2 g2 => ?_)
  have e2 := g2 p _ e1
  let one : D → List D := fun it => it :: ((bodiesD it).getD []).flatMap (itemsD (n - 1))
  have eI : itemsD n (.tup xs) = xs.flatMap one := by
    cases n with
    | zero =>
      cases xs with
      | nil => rfl
      | cons a r => cases hb
    | succ n => rfl
  have q : ∀ M' p, Grow M M' → M p = none → M' p = some (.ls (xs.flatMap one)) → Q (.ob p) M' := by
    rw [← eI]
    exact q
  rw [eI] at few
  have good : ∀ it, it ∈ xs → (∃ m, n = m + 1) ∧ isItem it = true ∧ ((bodiesD it).getD []).all (isBody (n - 1)) = true := fun it hit => by
    cases n with
    | zero =>
      cases xs with
      | nil => cases hit
      | cons => cases hb
    | succ n =>
      rw [isBody_eq, Bool.and_eq_true] at hb
      have z := List.all_eq_true.mp hb.2 it hit
      rw [Bool.and_eq_true] at z
      exact ⟨⟨n, rfl⟩, z.1, z.2⟩
  have total : ∀ done rest, xs = done ++ rest → (done.flatMap one).length + (rest.flatMap one).length ≤ 4210 := fun done rest e => by
    rw [e, List.flatMap_append, List.length_append] at few
    omega
  refine loopI (fun r ρ M3 => Grow M M3 ∧ ∃ o2 o3 done, ρ = [some (.tup xs), some (.ob p), o2, o3] ∧ xs = done ++ r ∧ M3 p = some (.ls (done.flatMap one))) (fun ρ M3 ⟨g3, o2, o3, done, eρ, ex, ep⟩ => ?_) (fun it r ρ M3 ⟨g3, o2, o3, done, eρ, ex, ep⟩ N hN => ?_) _ _ _ ⟨g1.trans g2, none, none, [], rfl, rfl, e2⟩
  · subst eρ
    rw [show done = xs by rw [ex, List.append_nil]] at ep
    exact (s_ret (gv_var rfl) fun M4 g4 => q M4 p (g3.trans g4) np (g4 p _ ep) : dRet (dVar 1) { nx := fun _ M' => Q .non M', rt := Q } [some (.tup xs), some (.ob p), o2, o3] M3)
  · subst eρ
    have hit : it ∈ xs := by rw [ex]; simp
    obtain ⟨⟨m, rfl⟩, hI, hB⟩ := good it hit
    rw [hsp m rfl]
    have oki : Ok M3 it := ok_tup.1 (Ok.grow g3 _ hd) it hit
    obtain ⟨bs, eb, okb⟩ := item_bodies hI
    rw [eb, Option.getD_some] at hB
    have eO : one it = it :: bs.flatMap (itemsD m) := by
      show it :: ((bodiesD it).getD []).flatMap (itemsD m) = _
      rw [eb]
      rfl
    have tot := total done (it :: r) ex
    rw [List.flatMap_cons, List.length_append, eO, List.length_cons] at tot
    refine s_seq (s_append (ρ := [some (.tup xs), some (.ob p), some it, o3]) (gv_var rfl) (gv_var rfl) ep (szl _ (by show (done.flatMap one).length < 4210; omega)) fun M4 g4 => ?_)
    have g04 : Grow M (mset M4 p (.ls (done.flatMap one ++ [it]))) := (g3.trans g4).put np
    dsimp only
    refine s_forT (all := bs) (gv_call (ga_cons (gv_var rfl) ga_nil) (rc_spF (show (bodiesD it).map D.tup = some (.tup bs) by rw [eb]; rfl) (okL_one (Ok.grow g04 _ (ok_tup.1 hd it hit))))) fun M5 g5 => ?_
    have e5 := g5 p _ mset_same
    have g05 := g04.trans g5
    refine loopI (fun r2 ρ M6 => Grow M M6 ∧ ∃ o3 done2, ρ = [some (.tup xs), some (.ob p), some it, o3] ∧ bs = done2 ++ r2 ∧ M6 p = some (.ls (done.flatMap one ++ [it] ++ done2.flatMap (itemsD m)))) (fun ρ M6 ⟨g6, o3, done2, eρ, ex2, ep2⟩ => ?_) (fun b r2 ρ M6 ⟨g6, o3, done2, eρ, ex2, ep2⟩ N2 hN2 => ?_) _ _ _ ⟨g05, o3, [], rfl, rfl, by rw [List.flatMap_nil, List.append_nil]; exact e5⟩
    · rw [show done2 = bs by rw [ex2, List.append_nil]] at ep2
      refine hN _ M6 True.intro ⟨g6, some it, o3, done ++ [it], eρ, by rw [ex]; simp, ?_⟩
      rw [ep2, List.flatMap_append, List.flatMap_cons, List.flatMap_nil, eO]
      simp
    · subst eρ
      have hbm : b ∈ bs := by rw [ex2]; simp
      have okB := okb M6 (ok_tup.1 (Ok.grow g6 _ hd) it hit) b hbm
      have bB := List.all_eq_true.mp hB b hbm
      have tot2 : (done2.flatMap (itemsD m)).length + (itemsD m b).length ≤ (bs.flatMap (itemsD m)).length := by
        rw [ex2, List.flatMap_append, List.flatMap_cons, List.length_append, List.length_append]
        omega
      refine s_extend (ρ := [some (.tup xs), some (.ob p), some it, some b]) (gv_var rfl) (gx_call (ga_cons (gv_var rfl) ga_nil) fun M7 g7 => ⟨b, rfl, bB, Ok.grow g7 _ okB⟩) ep2 (sz _ ?_) fun M7 g7 => ?_
      · show _ + (itemsD m b).length ≤ _
        rw [List.length_append, List.length_append, List.length_singleton]
        omega
      · refine hN2 _ _ True.intro ⟨(g6.trans g7).put np, some b, done2 ++ [b], rfl, by rw [ex2]; simp, ?_⟩
        rw [mset_same, List.flatMap_append, List.flatMap_cons, List.flatMap_nil, List.append_nil, List.append_assoc, List.append_assoc, List.append_assoc]
        rfl
end
end DL

/-! J7: are_calls_right. -/
namespace DL
open PySem PySem.Spec PyProof.Rows L2
def nmP : D → Str
  | .tup [_, .str x, _] => x
  | _ => ""
def bdP : D → D
  | .tup [_, _, b] => b
  | _ => .non
def st0 : D → Str
  | .tup (.str k :: _) => k
  | _ => ""
def st1 : D → Str
  | .tup (_ :: .str k :: _) => k
  | _ => ""
def st2 : D → Str
  | .tup (_ :: _ :: .str k :: _) => k
  | _ => ""
def isCall (d : D) : Bool := decide (st0 d = "call")
def allIt (ps : List D) : List D := ps.flatMap fun p => itemsD 3 (bdP p)
def nm0 : List D → Str
  | p :: _ => nmP p
  | [] => ""
def callsRight (ps : List D) : Bool := decide ((seen (ps.map nmP)).length = ps.length) && (decide ((allIt ps).length ≤ 40) && (decide ((seen ((allIt ps).map st1)).length = (allIt ps).length) &&
  ((allIt ps).filter isCall).all fun it => decide (st2 it ∈ ps.map nmP) && !decide (st2 it = nm0 ps)))
def preProcs : List D → DM → Prop := fun ds M => ∃ ps, ds = [.tup ps] ∧ ps.all isProc = true ∧ 1 ≤ ps.length ∧ ps.length ≤ 8 ∧ OkL M ps
def spP (f : List D → D) : DSp := fun ds M Q => ∃ ps, ds = [.tup ps] ∧ ps.all isProc = true ∧ 1 ≤ ps.length ∧ ps.length ≤ 8 ∧ OkL M ps ∧ ∀ M', Grow M M' → Q (f ps) M'
theorem proc_shape {p : D} (h : isProc p = true) : ∃ x b, p = .tup [.str "proc", .str x, b] ∧ nameS x = true ∧ isBody 3 b = true := by
  unfold isProc at h
  split at h
  · rename_i k x b
    rw [Bool.and_eq_true, Bool.and_eq_true] at h
    obtain ⟨s, rfl, hs⟩ := name_str h.1.2
    exact ⟨s, b, by rw [of_decide_eq_true h.1.1], hs, h.2⟩
  · cases h
theorem shape_ix {it : D} (h : Shape it) : ∃ ds, it = .tup ds ∧ ds[0]? = some (.str (st0 it)) ∧ ds[1]? = some (.str (st1 it)) ∧ (st0 it = "call" → ds[2]? = some (.str (st2 it))) := by
  cases h with
  | stp s l as => exact ⟨_, rfl, rfl, rfl, fun e => nomatch (show ("do" : Str) = "call" from e)⟩
  | iff s as a b => exact ⟨_, rfl, rfl, rfl, fun e => nomatch (show ("if" : Str) = "call" from e)⟩
  | whl s as a => exact ⟨_, rfl, rfl, rfl, fun e => nomatch (show ("while" : Str) = "call" from e)⟩
  | cal s h => exact ⟨_, rfl, rfl, rfl, fun _ => rfl⟩
section
variable {ρ : DSt} {M : DM} {E : DEnds} {te : DTE}
theorem s_setD {kvs : List (Key × D)} {i : Nat} (h : Gd te ρ M kvs) (q : ∀ M1 p, Grow M M1 → M p = none → M1 p = some (.dc kvs) → E.nx (ρ.set i (some (.ob p))) M1) : dAsg te (dName i) E ρ M := h M (Grow.refl M) _ q
theorem gv_lenSet {ss : List Str} (h : Gx te ρ M (ss.map D.str)) (hl : ss.length + 1 < scanBound) : Gv (dLenSet te) ρ M (.int (seen ss).length) := fun M1 g1 Q q => h M1 g1 _ fun M2 p g2 np e => by
  dsimp only
  rw [msq_ls e]
  dsimp only [Option.bind_some]
  rw [strsOf_map]
  exact ⟨hl, q M2 g2⟩
end
section
variable {P : Program} {w : World} {K : PySem.W.Frag} {mg : Str → Option Value} {base : Heap}
theorem ok_items0 (T : Tx K mg w) : FnOk P w K mg base CX0 2 T.f_items_in.f T.f_items_in.fd ["body"] (LSp K (spL (preItems 0) (fItems 0))) :=
  items_step T (sp := fun _ _ _ => False) (by decide) (fun m h => nomatch h) (by decide) (dfun T.f_items_in.F sc_items_in (fun _ _ _ h => h.elim) fun _ _ _ _ _ _ _ => ⟨fun _ _ _ => False, PSs.none, fun _ _ _ h => h.elim⟩)
theorem ok_items (T : Tx K mg w) : ∀ n, n ≤ 3 → FnOk P w K mg base CX0 (n + 2) T.f_items_in.f T.f_items_in.fd ["body"] (LSp K (spL (preItems n) (fItems n)))
  | 0, _ => ok_items0 T
  | n + 1, h => items_step T (sp := spL (preItems n) (fItems n)) h (fun m e => by cases e; rfl) (by omega) (ok_items T n (by omega))
theorem all_procs {ps : List D} (h : ps.all isProc = true) {M : DM} (ok : OkL M ps) : ∀ it ∈ allIt ps, Ok M it ∧ isItem it = true := fun it hit => by
  obtain ⟨p, hp, hm⟩ := List.mem_flatMap.mp hit
  obtain ⟨x, b, rfl, _, hb⟩ := proc_shape (List.all_eq_true.mp h p hp)
  exact items_ok 3 b M hb (ok_tup.1 (okL_mem.mp ok _ hp) b (by simp)) it hm
theorem all_few {ps : List D} (h : ps.all isProc = true) (hl : ps.length ≤ 8) : (allIt ps).length ≤ 8 * 4210 := by
  have z := flat_few (fun p => itemsD 3 (bdP p)) 4210 ps fun p hp => by
    obtain ⟨x, b, rfl, _, hb⟩ := proc_shape (List.all_eq_true.mp h p hp)
    have := items_few 3 b hb
    rw [room3] at this
    exact this
  have : ps.length * 4210 ≤ 8 * 4210 := Nat.mul_le_mul_right _ hl
  exact Nat.le_trans z this
theorem ok_are_calls_right (T : Tx K mg w) : FnOk P w K mg base CX0 6 T.f_are_calls_right.f T.f_are_calls_right.fd ["procs"] (LSp K (spP fun ps => .bl (callsRight ps))) := by
  have G3 := ok_items (P := P) (base := base) T 3 (Nat.le_refl _)
  refine dfun T.f_are_calls_right.F sc_are_calls_right (fun ds M Q ⟨ps, e, _⟩ => by rw [e]; rfl) fun cdv A outer s H E hr => ⟨_, (ds_cons (ds_setLc2 (k := 1) (vs1 := [3]) rfl sc_are_calls_right.nd (di_any (dv 0)) (blkOk_by (own := [("proc", 2), ("item", 3)]) (N := ["procs", "items", "proc", "item", "names"]) (sc := defScope s_are_calls_right) (by decide +kernel)) (by decide) (by decide) (by decide) (fun _ _ _ _ _ => pg_name (i := 2) sc_are_calls_right.nd rfl (Or.inl rfl)) (fun _ _ _ _ _ => dts_nil) (fun _ _ _ _ _ => (di_any (d_fn (fn := T.f_items_in) G3 (hr.mono (by first | decide | omega)) (da_cons (d_ixA (hu1 hr) (dv 2) dint) da_nil)))) (fun _ _ _ _ _ => pg_name (i := 3) sc_are_calls_right.nd rfl (Or.inl rfl)) (fun _ _ _ _ _ => dts_nil) (fun _ _ _ _ _ => (dv 3)) (sw_true rfl rfl rfl (by decide +kernel))) (ds_cons (ds_set (i := 4) sc_are_calls_right.nd (d_dc rfl sc_are_calls_right.nd (di_any (dv 0)) (blkOk_by (own := [("proc", 2)]) (N := ["procs", "items", "proc", "item", "names"]) (sc := defScope s_are_calls_right) (by decide +kernel)) (by decide) (fun _ _ _ _ _ => pg_name (i := 2) sc_are_calls_right.nd rfl (Or.inl rfl)) (fun _ _ _ _ _ => dts_nil) (fun _ _ _ _ _ => (d_ixA (hu1 hr) (dv 2) dint)) (fun _ _ _ _ _ => dbl))) (ds_cons (ds_if (PW.pt (d_or (d_neT (hu0 hr) (d_len T.b_len (da_cons (dv 4) da_nil)) (d_len T.b_len (da_cons (dv 0) da_nil))) (d_or (d_gtT (d_len T.b_len (da_cons (dv 1) da_nil)) (dglI rfl T.c_SITES.choose_spec)) (d_or1 (d_neT (hu0 hr) (d_lenSet T.b_len T.b_set (d_lc rfl sc_are_calls_right.nd (di_any (dv 1)) (blkOk_by (own := [("item", 3)]) (N := ["procs", "items", "proc", "item", "names"]) (sc := defScope s_are_calls_right) (by decide +kernel)) (by decide) (fun _ _ _ _ _ => pg_name (i := 3) sc_are_calls_right.nd rfl (Or.inl rfl)) (fun _ _ _ _ _ => dts_nil) (fun _ _ _ _ _ => (d_ixA (hu1 hr) (dv 3) dint)))) (d_len T.b_len (da_cons (dv 1) da_nil))))))) (ds_one (ds_ret dbl)) ds_nil) (ds_one (ds_ret (d_all rfl T.b_all (da_cons (d_lc rfl sc_are_calls_right.nd (di_any (dv 1)) (blkOk_by (own := [("item", 3)]) (N := ["procs", "items", "proc", "item", "names"]) (sc := defScope s_are_calls_right) (by decide +kernel)) (by decide) (fun _ _ _ _ _ => pg_name (i := 3) sc_are_calls_right.nd rfl (Or.inl rfl)) (fun _ _ _ _ _ => (dts_one (d_eqT (hu0 hr) (d_ixA (hu1 hr) (dv 3) dint) dstr))) (fun _ _ _ _ _ => (d_andV (d_in' (hu1 hr) (d_ixA (hu1 hr) (dv 3) dint) (dv 4)) (d_oneV (d_ne (hu0 hr) (d_ixA (hu1 hr) (dv 3) dint) (d_ixA (hu1 hr) (d_ixA (hu1 hr) (dv 0) dint) dint)))))) da_nil))))))), ?_⟩
  rintro ds M Q ⟨ps, rfl, hp, h1, h8, hd, q⟩
  have q : ∀ M', Grow M M' → Q (.bl (callsRight ps)) M' := q
  have few := all_few hp h8
  have sz : ∀ k : Nat, k ≤ 8 * 4210 → k ≤ sizeLine := fun k h => by rw [sizeLine_eq]; omega
  have pr : ∀ p ∈ ps, ∃ x b, p = .tup [.str "proc", .str x, b] ∧ nameS x = true ∧ isBody 3 b = true := fun p hm => proc_shape (List.all_eq_true.mp hp p hm)
  refine s_seq (s_setL (xs := allIt ps) (gx_lc2 (fun p => itemsD 3 (bdP p)) (gi_tup (gv_var rfl)) (sz _ few) (fun p hm => ?_) fun p hm e he => gv_var rfl) fun M1 a g1 na e1 => ?_)
  · obtain ⟨x, b, rfl, _, hb⟩ := pr p hm
    exact gi_new (gx_call (f := fItems 3) (vs := [b]) (ga_cons (gv_op (gv_var rfl) gv_c (rv_ixT (atI_nat (n := 2) rfl))) ga_nil) fun M1 g => ⟨b, rfl, hb, Ok.grow g _ (ok_tup.1 (okL_mem.mp hd _ hm) b (by simp))⟩)
  dsimp only
  refine s_seq (s_setD (kvs := dictOf (fun d => .inr (nmP d)) (fun _ => .bl true) ps) (gd_dc (fun d => .str (nmP d)) (fun d => .inr (nmP d)) (fun _ => .bl true) (gi_tup (gv_var rfl)) (sz _ (by omega)) (fun p hm => ?_) (fun p hm => rfl) fun p hm => gv_c) fun M2 b g2 nb e2 => ?_)
  · obtain ⟨x, b, rfl, _, hb⟩ := pr p hm
    exact gv_op (gv_var rfl) gv_c (rv_ixT (atI_nat (n := 1) rfl))
  dsimp only
  have keys := dictOf_keys (nm := nmP) (g := fun _ => D.bl true) ps
  have lenN : (dictOf (fun d => Sum.inr (nmP d)) (fun _ => D.bl true) ps).length = (seen (ps.map nmP)).length := by
    have := congrArg List.length keys
    rw [List.length_map, List.length_map] at this
    exact this
  have eA : M2 a = some (.ls (allIt ps)) := g2 a _ e1
  have its := all_procs hp (OkL.grow (g1.trans g2) _ hd)
  have ρ2 : ∃ o2 o3, (dstart ["procs", "items", "proc", "item", "names"].length [D.tup ps]).set 1 (some (.ob a)) = [some (.tup ps), some (.ob a), o2, o3, none] := ⟨none, none, rfl⟩
  refine s_guard (b := !decide (((seen (ps.map nmP)).length : Int) = ps.length) || (decide ((40 : Int) < (allIt ps).length) || !decide (((seen ((allIt ps).map st1)).length : Int) = (allIt ps).length))) (gt_or (gt_t (gv_op (gv_cb (ga_cons (gv_var rfl) ga_nil) (rc_lenD e2)) (gv_cb (ga_cons (gv_var rfl) ga_nil) rc_lenT) (by rw [lenN]; exact rv_neI))) fun _ => gt_or (gt_t (gv_op (gv_cb (ga_cons (gv_var rfl) ga_nil) (rc_lenL eA)) gv_c rv_gt)) fun h40 => gt_t (gv_op (gv_lenSet ?_ ?_) (gv_cb (ga_cons (gv_var rfl) ga_nil) (rc_lenL eA)) rv_neI)) (fun hb M3 g3 => ?_) fun hb M3 g3 => ?_
  · rw [List.map_map]
    refine gl_lc (D.str ∘ st1) (gi_lst (gv_var rfl) eA) (sz _ few) fun it hit => ?_
    obtain ⟨ds, ei, _, i1, _⟩ := shape_ix (item_shape (its it hit).2)
    refine gv_op (gv_var rfl) gv_c ?_
    show Rv dIx it (.int 1) M2 (.str (st1 it))
    rw [show Rv dIx it (.int 1) M2 (.str (st1 it)) = Rv dIx (.tup ds) (.int 1) M2 (.str (st1 it)) by rw [← ei]]
    exact rv_ixT (atI_nat (n := 1) i1)
  · have := of_decide_eq_false h40
    rw [List.length_map]
    unfold scanBound
    omega
  · have e : callsRight ps = false := by
      unfold callsRight
      by_cases a1 : (seen (ps.map nmP)).length = ps.length
      · by_cases a2 : (allIt ps).length ≤ 40
        · by_cases a3 : (seen ((allIt ps).map st1)).length = (allIt ps).length
          · rw [decide_eq_true (show ((seen (ps.map nmP)).length : Int) = ps.length by omega), decide_eq_false (show ¬ (40 : Int) < (allIt ps).length by omega), decide_eq_true (show ((seen ((allIt ps).map st1)).length : Int) = (allIt ps).length by omega)] at hb
            cases hb
          · rw [decide_eq_false a3]
            simp
        · rw [decide_eq_false a2]
          simp
      · rw [decide_eq_false a1]
        rfl
    rw [e] at q
    exact s_ret gv_c fun M4 g4 => q M4 (((g1.trans g2).trans g3).trans g4)
  · have a1 : (seen (ps.map nmP)).length = ps.length := by
      by_cases z : (seen (ps.map nmP)).length = ps.length
      · exact z
      · rw [decide_eq_false (show ¬ ((seen (ps.map nmP)).length : Int) = ps.length by omega)] at hb
        cases hb
    rw [decide_eq_true (show ((seen (ps.map nmP)).length : Int) = ps.length by omega)] at hb
    have a2 : (allIt ps).length ≤ 40 := by
      by_cases z : (allIt ps).length ≤ 40
      · exact z
      · rw [decide_eq_true (show (40 : Int) < (allIt ps).length by omega)] at hb
        cases hb
    rw [decide_eq_false (show ¬ (40 : Int) < (allIt ps).length by omega)] at hb
    have a3 : (seen ((allIt ps).map st1)).length = (allIt ps).length := by
      by_cases z : (seen ((allIt ps).map st1)).length = (allIt ps).length
      · exact z
      · rw [decide_eq_false (show ¬ ((seen ((allIt ps).map st1)).length : Int) = (allIt ps).length by omega)] at hb
        cases hb
    let good : D → Bool := fun it => decide (st2 it ∈ ps.map nmP) && !decide (st2 it = nm0 ps)
    have e : callsRight ps = (((allIt ps).filter isCall).map good).all id := by
      unfold callsRight
      rw [decide_eq_true a1, decide_eq_true a2, decide_eq_true a3, List.all_map]
      rfl
    rw [e] at q
    have eB : M3 b = some (.dc (dictOf (fun d => .inr (nmP d)) (fun _ => .bl true) ps)) := g3 b _ e2
    refine s_ret (gv_all ?_) fun M4 g4 => q M4 (((g1.trans g2).trans g3).trans g4)
    rw [List.map_map]
    refine gl_lcF (D.bl ∘ good) isCall (gi_lst (gv_var rfl) (g3 a _ eA)) (sz _ few) (fun it hit => ?_) fun it hit hc => ?_
    · obtain ⟨ds, ei, i0, _⟩ := shape_ix (item_shape (its it hit).2)
      refine gt_t (gv_op (gv_op (gv_var rfl) gv_c (?_ : Rv dIx it (.int 0) M3 (.str (st0 it)))) gv_c rv_eqS)
      rw [show Rv dIx it (.int 0) M3 (.str (st0 it)) = Rv dIx (.tup ds) (.int 0) M3 (.str (st0 it)) by rw [← ei]]
      exact rv_ixT (atI_nat (n := 0) i0)
    · obtain ⟨ds, ei, _, _, i2⟩ := shape_ix (item_shape (its it hit).2)
      have i2 := i2 (of_decide_eq_true hc)
      have rv2 : Rv dIx it (.int 2) M3 (.str (st2 it)) := by
        rw [show Rv dIx it (.int 2) M3 (.str (st2 it)) = Rv dIx (.tup ds) (.int 2) M3 (.str (st2 it)) by rw [← ei]]
        exact rv_ixT (atI_nat (n := 2) i2)
      have inn : (valD (dictOf (fun d => .inr (nmP d)) (fun _ => .bl true) ps) (.inr (st2 it))).isSome = decide (st2 it ∈ ps.map nmP) := by
        rw [valD_some keys]
        congr 1
        exact propext (seen_mem _ _)
      refine gv_and (b := decide (st2 it ∈ ps.map nmP)) (gv_op (gv_op (gv_var rfl) gv_c rv2) (gv_var rfl) ?_) fun _ => ?_
      · rw [← inn]
        exact rv_inD rfl eB
      · cases ps with
        | nil => cases h1
        | cons p rest =>
          obtain ⟨x, bd, rfl, _, _⟩ := pr p List.mem_cons_self
          exact gv_op (gv_op (gv_var rfl) gv_c rv2) (gv_op (gv_op (gv_var rfl) gv_c (rv_ixT (atI_nat (n := 0) rfl))) gv_c (rv_ixT (atI_nat (n := 1) rfl))) rv_neS
end
end DL

/-! J8: rank_in. -/
namespace DL
open PySem PySem.Spec PyProof.Rows L2
def optD : Option Int → D
  | some i => .int i
  | none => .non
def minI (ns : List Int) : Int := ns.min?.getD 0
theorem minI_eq {ns : List Int} {k : Int} (h : k ∈ ns) (l : ∀ y, y ∈ ns → k ≤ y) : k = minI ns := by
  unfold minI
  rw [List.min?_eq_some_iff.mpr ⟨h, l⟩]
  rfl
def hereD (rk : Str → Option Int) (rec : D → Option Int) (it : D) : Option Int :=
  if st0 it = "call" then rk (st2 it) else if st0 it = "if" then (if ((((bodiesD it).getD []).filterMap rec).isEmpty) = true then none else some (minI (((bodiesD it).getD []).filterMap rec))) else some 0
def stepR (acc h : Option Int) : Option Int := match acc, h with
  | some f, some h => some (if h > f then h else f)
  | _, _ => none
def rankD : Nat → (Str → Option Int) → D → Option Int
  | n + 1, rk, .tup xs => xs.foldl (fun acc it => stepR acc (hereD rk (rankD n rk) it)) (some 0)
  | _, _, _ => some 0
def rkOf (kvs : List (Key × D)) (s : Str) : Option Int := match valD kvs (.inr s) with
  | some (.int i) => some i
  | _ => none
def IntVals (kvs : List (Key × D)) : Prop := ∀ kv ∈ kvs, ∃ i, kv.2 = D.int i
theorem rk_val {kvs : List (Key × D)} (h : IntVals kvs) (s : Str) : (valD kvs (.inr s)).getD .non = optD (rkOf kvs s) := by
  unfold rkOf
  cases e : valD kvs (.inr s) with
  | none => rfl
  | some d =>
    have : ∃ i, d = .int i := by
      unfold valD at e
      cases q : kvs.find? fun kv => decide (kv.1 = .inr s) with
      | none =>
        rw [q] at e
        cases e
      | some kv =>
        rw [q] at e
        cases e
        exact h kv (List.mem_of_find?_eq_some q)
    obtain ⟨i, rfl⟩ := this
    rfl
def spRank (n : Nat) : DSp := fun ds M Q => ∃ d r kvs, ds = [d, .ob r] ∧ isBody n d = true ∧ Ok M d ∧ M r = some (.dc kvs) ∧ IntVals kvs ∧ ∀ M', Grow M M' → Q (optD (rankD n (rkOf kvs) d)) M'
theorem fil_opt (r : D → Option Int) : ∀ bs : List D, ((bs.map fun b => optD (r b)).filter fun d => !isNon d).map (fun d => d) = (bs.filterMap r).map D.int
  | [] => rfl
  | b :: bs => by
    have ih := fil_opt r bs
    rw [List.map_id'] at ih ⊢
    rw [List.map_cons, List.filter_cons, List.filterMap_cons]
    cases e : r b with
    | none => exact ih
    | some i =>
      rw [show (!isNon (optD (some i))) = true from rfl, if_pos rfl]
      show _ = D.int i :: (bs.filterMap r).map D.int
      rw [ih]
      rfl
section
variable {ρ : DSt} {M : DM} {td ty tx te : DTE}
theorem gv_get2 {a : Addr} {kvs : List (Key × D)} {s : Str} {v : D} (hd : Gv td ρ M (.ob a)) (hy : Gv ty ρ M (.str s)) (hx : Gv tx ρ M v) (e : M a = some (.dc kvs)) : Gv (dDGet2 td ty tx) ρ M ((valD kvs (.inr s)).getD v) := fun M1 g1 Q q => by
  refine hd M1 g1 _ fun M2 g2 => ?_
  dsimp only
  rw [g2 a _ (g1 a _ e)]
  refine hy M2 (g1.trans g2) _ fun M3 g3 => hx M3 ((g1.trans g2).trans g3) _ fun M4 g4 => ?_
  have e4 := g4 a _ (g3 a _ (g2 a _ (g1 a _ e)))
  dsimp only [dkey]
  rw [e4]
  exact q M4 ((g2.trans g3).trans g4)
theorem gv_minL {a : Addr} {ns : List Int} (hd : Gv te ρ M (.ob a)) (e : M a = some (.ls (ns.map D.int))) (h0 : ns.isEmpty = false) : Gv (dCB dMinL (dCons te dNil)) ρ M (.int (minI ns)) := fun M1 g1 Q q => hd M1 g1 _ fun M2 g2 => by
  unfold dNil dMinL
  dsimp only
  rw [msq_ls (g2 a _ (g1 a _ e))]
  dsimp only [Option.bind_some]
  rw [intsOf_map]
  refine ⟨?_, fun k hk hl => ?_⟩
  · cases ns with
    | nil => cases h0
    | cons => simp
  · rw [minI_eq hk hl]
    exact q M2 g2
end
theorem rank_snoc {rk : Str → Option Int} {rec : D → Option Int} {done : List D} {it : D} : (done ++ [it]).foldl (fun acc it => stepR acc (hereD rk rec it)) (some 0) = stepR (done.foldl (fun acc it => stepR acc (hereD rk rec it)) (some 0)) (hereD rk rec it) := by
  rw [List.foldl_append]
  rfl
theorem rank_none {rk : Str → Option Int} {rec : D → Option Int} : ∀ r : List D, r.foldl (fun acc it => stepR acc (hereD rk rec it)) none = none
  | [] => rfl
  | x :: r => by
    rw [List.foldl_cons, show stepR none (hereD rk rec x) = none from rfl]
    exact rank_none r
section
variable {P : Program} {w : World} {K : PySem.W.Frag} {mg : Str → Option Value} {base : Heap}
theorem rank_step (T : Tx K mg w) {n k : Nat} {sp : DSp} (hsp : ∀ m, n = m + 1 → sp = spRank m) (G : FnOk P w K mg base CX0 k T.f_rank_in.f T.f_rank_in.fd ["body", "ranks"] (LSp K sp)) :
    FnOk P w K mg base CX0 (k + 1) T.f_rank_in.f T.f_rank_in.fd ["body", "ranks"] (LSp K (spRank n)) := by
  refine dfun T.f_rank_in.F sc_rank_in (fun ds M Q ⟨d, r, kvs, e, _⟩ => by rw [e]; rfl) fun cdv A outer s H E hr => ⟨_, (ds_cons (ds_set (i := 2) sc_rank_in.nd dint) (ds_cons (ds_for PassesOwn.never rfl (di_any (dv 0)) (dg_name (i := 3) sc_rank_in.nd) (ds_cons (ds_set (i := 4) sc_rank_in.nd dint) (ds_cons (ds_if (d_eqT (hu0 hr) (d_ixA (hu1 hr) (dv 3) dint) dstr) (ds_one (ds_set (i := 4) sc_rank_in.nd (d_dget2 (hu1 hr) (dv 1) (d_ixA (hu1 hr) (dv 3) dint) dnon ⟨rfl, rfl, rfl, rfl⟩))) (ds_one (ds_if (d_eqT (hu0 hr) (d_ixA (hu1 hr) (dv 3) dint) dstr) (ds_cons (ds_setLc (k := 5) rfl sc_rank_in.nd (di_any (d_lc rfl sc_rank_in.nd (di_any (d_sl (dv 3) (do_some dint) do_none)) (blkOk_by (own := [("inner", 7)]) (N := ["body", "ranks", "found", "item", "here", "some", "one", "inner"]) (sc := defScope s_rank_in) (by decide +kernel)) (by decide) (fun _ _ _ _ _ => pg_name (i := 7) sc_rank_in.nd rfl (Or.inl rfl)) (fun _ _ _ _ _ => dts_nil) (fun _ _ _ _ _ => (d_fn (fn := T.f_rank_in) G (hr.mono (by first | decide | omega)) (da_cons (dv 7) (da_cons (dv 1) da_nil)))))) (blkOk_by (own := [("one", 6)]) (N := ["body", "ranks", "found", "item", "here", "some", "one", "inner"]) (sc := defScope s_rank_in) (by decide +kernel)) (by decide) (fun _ _ _ _ _ => pg_name (i := 6) sc_rank_in.nd rfl (Or.inl rfl)) (fun _ _ _ _ _ => (dts_one (d_notNT (dv 6) dnon))) (fun _ _ _ _ _ => (dv 6)) (sw_true rfl rfl rfl (by decide +kernel))) (ds_one (ds_set (i := 4) sc_rank_in.nd (d_ifE (d_neT (hu0 hr) (dv 5) (d_lst da_nil)) (d_minL rfl T.b_min (da_cons (dv 5) da_nil)) dnon)))) ds_nil))) (ds_cons (ds_if (d_isNT (dv 4) dnon) (ds_one (ds_ret dnon)) ds_nil) (ds_one (ds_set (i := 2) sc_rank_in.nd (d_max2 rfl T.b_max (da_cons (dv 2) (da_cons (dv 4) da_nil))))))))) (ds_one (ds_ret (dv 2))))), ?_⟩
  rintro ds M Q ⟨d, rk, kvs, rfl, hb, hd, eM, iv, q⟩
  obtain ⟨xs, rfl⟩ := body_tup hb
  have le10 := body_le hb
  let rec' : D → Option Int := rankD (n - 1) (rkOf kvs)
  let H0 : D → Option Int := hereD (rkOf kvs) rec'
  have eR : rankD n (rkOf kvs) (.tup xs) = xs.foldl (fun acc it => stepR acc (H0 it)) (some 0) := by
    cases n with
    | zero =>
      cases xs with
      | nil => rfl
      | cons => cases hb
    | succ n => rfl
  rw [eR] at q
  have good : ∀ it, it ∈ xs → (∃ m, n = m + 1) ∧ isItem it = true ∧ ((bodiesD it).getD []).all (isBody (n - 1)) = true := fun it hit => by
    cases n with
    | zero =>
      cases xs with
      | nil => cases hit
      | cons => cases hb
    | succ n =>
      rw [isBody_eq, Bool.and_eq_true] at hb
      have z := List.all_eq_true.mp hb.2 it hit
      rw [Bool.and_eq_true] at z
      exact ⟨⟨n, rfl⟩, z.1, z.2⟩
  refine s_seq (s_set gv_c fun M1 g1 => ?_)
  dsimp only
  refine s_seq (s_forT (all := xs) (gv_var rfl) fun M2 g2 => ?_)
  refine loopI (fun r ρ M3 => Grow M M3 ∧ ∃ f o3 o4 o5 done, ρ = [some (.tup xs), some (.ob rk), some (.int f), o3, o4, o5, none, none] ∧ xs = done ++ r ∧ done.foldl (fun acc it => stepR acc (H0 it)) (some 0) = some f) (fun ρ M3 ⟨g3, f, o3, o4, o5, done, eρ, ex, ef⟩ => ?_) (fun it r ρ M3 ⟨g3, f, o3, o4, o5, done, eρ, ex, ef⟩ N hN => ?_) _ _ _ ⟨g1.trans g2, 0, none, none, none, [], rfl, rfl, rfl⟩
  · subst eρ
    rw [ex, List.append_nil, ef] at q
    exact (s_ret (gv_var rfl) fun M4 g4 => q M4 (g3.trans g4) : dRet (dVar 2) { nx := fun _ M' => Q .non M', rt := Q } [some (.tup xs), some (.ob rk), some (.int f), o3, o4, o5, none, none] M3)
  · subst eρ
    have hit : it ∈ xs := by rw [ex]; simp
    obtain ⟨⟨m, rfl⟩, hI, hB⟩ := good it hit
    rw [hsp m rfl]
    have oki : Ok M3 it := ok_tup.1 (Ok.grow g3 _ hd) it hit
    obtain ⟨bs, eb, okb⟩ := item_bodies hI
    have few := bodies_few hI eb
    rw [eb, Option.getD_some] at hB
    have eK : M3 rk = some (.dc kvs) := g3 rk _ eM
    obtain ⟨ds, ei, i0, _, i2⟩ := shape_ix (item_shape hI)
    -- behind the choice: here is H0 it
    have fin : ∀ (o5 : Option D) (M4 : DM), Grow M3 M4 → dSeq (dIfS (dT (dOp (dIsN false) (dVar 4) (dC .non))) (dRet (dC .non)) dNext) (dAsg (dCB dMax2 (dCons (dVar 2) (dCons (dVar 4) dNil))) (dName 2)) { nx := N, rt := Q, bk := dRet (dVar 2) { nx := fun _ M' => Q .non M', rt := Q }, ct := N } [some (.tup xs), some (.ob rk), some (.int f), some it, some (optD (H0 it)), o5, none, none] M4 := fun o5 M4 g4 => by
      cases eh : H0 it with
      | none =>
        refine s_guard1 (gt_t (gv_op (gv_var rfl) gv_c rv_isN)) fun M5 g5 => s_ret gv_c fun M6 g6 => ?_
        rw [ex, List.foldl_append, ef, List.foldl_cons, eh, show stepR (some f) none = none from rfl] at q
        rw [show List.foldl (fun acc it => stepR acc (H0 it)) none r = none from rank_none r] at q
        exact q M6 (((g3.trans g4).trans g5).trans g6)
      | some h =>
        refine s_guard0 (gt_t (gv_op (gv_var rfl) gv_c rv_isN)) fun M5 g5 => s_set (gv_cb (ga_cons (gv_var rfl) (ga_cons (gv_var rfl) ga_nil)) rc_max) fun M6 g6 => ?_
        refine hN _ M6 True.intro ⟨((g3.trans g4).trans g5).trans g6, _, some it, some (.int h), o5, done ++ [it], rfl, by rw [ex]; simp, ?_⟩
        rw [List.foldl_append, ef]
        show stepR (some f) (H0 it) = _
        rw [eh]
        rfl
    have x0 : ∀ (M4 : DM) (ρ : DSt), ρ[3]? = some (some it) → Gv (dOp dIx (dVar 3) (dC (.int 0))) ρ M4 (.str (st0 it)) := fun M4 ρ h => by
      refine gv_op (gv_var h) gv_c ?_
      rw [show Rv dIx it (.int 0) M4 (.str (st0 it)) = Rv dIx (.tup ds) (.int 0) M4 (.str (st0 it)) by rw [← ei]]
      exact rv_ixT (atI_nat (n := 0) i0)
    refine s_seq (s_set (ρ := [some (.tup xs), some (.ob rk), some (.int f), some it, o4, o5, none, none]) gv_c fun M4 g4 => ?_)
    dsimp only
    have eK4 := g4 rk _ eK
    refine s_seq (s_if (ρ := [some (.tup xs), some (.ob rk), some (.int f), some it, some (.int 0), o5, none, none]) (gt_t (gv_op (x0 _ _ rfl) gv_c rv_eqS)) (fun hc M5 g5 => ?_) fun hc M5 g5 => ?_)
    · have hc := of_decide_eq_true hc
      have e : H0 it = rkOf kvs (st2 it) := by
        show hereD _ _ it = _
        unfold hereD
        rw [if_pos hc]
      refine s_set (gv_get2 (a := rk) (kvs := kvs) (s := st2 it) (v := .non) (gv_var rfl) ?_ gv_c (g5 rk _ eK4)) fun M6 g6 => ?_
      · refine gv_op (gv_var rfl) gv_c ?_
        rw [show Rv dIx it (.int 2) M5 (.str (st2 it)) = Rv dIx (.tup ds) (.int 2) M5 (.str (st2 it)) by rw [← ei]]
        exact rv_ixT (atI_nat (n := 2) (i2 hc))
      · rw [rk_val iv, ← e]
        exact fin o5 M6 ((g4.trans g5).trans g6)
    · have hc := of_decide_eq_false hc
      refine s_if (gt_t (gv_op (x0 _ _ rfl) gv_c rv_eqS)) (fun hf M6 g6 => ?_) fun hf M6 g6 => ?_
      · have hf := of_decide_eq_true hf
        have eds : ds.drop 3 = bs := by
          subst ei
          cases ds with
          | nil => cases i0
          | cons a r =>
            obtain ⟨k, rfl⟩ : ∃ k, a = .str k := ⟨_, Option.some.inj i0⟩
            unfold bodiesD at eb
            dsimp only at eb
            split at eb
            · cases eb
              rfl
            · rename_i h
              exact absurd (.inl hf) h
        have e : H0 it = if ((bs.filterMap rec').isEmpty) = true then none else some (minI (bs.filterMap rec')) := by
          show hereD _ _ it = _
          unfold hereD
          rw [if_neg hc, if_pos hf, eb]
          rfl
        have g46 := (g4.trans g5).trans g6
        refine s_seq (s_setL (xs := (bs.filterMap rec').map D.int) ?_ fun M7 p g7 np ep => ?_)
        · rw [← fil_opt rec' bs]
          refine gl_lcF (fun d => d) (fun d => !isNon d) (gi_new (all := bs.map fun b => optD (rec' b)) ?_) (by rw [List.length_map, sizeLine_eq]; omega) (fun d hd => gt_t (gv_op (gv_var rfl) gv_c rv_notN)) fun d hd _ => gv_var rfl
          refine gl_lc (fun b => optD (rec' b)) (gi_tup (all := bs) ?_) (by rw [sizeLine_eq]; omega) fun b hbm => ?_
          · refine gv_eq (gv_sl (vs := ds) (by rw [ei]; exact gv_var rfl) (go_some gv_c) go_none) ?_
            rw [← eds]
            exact congrArg D.tup (dcut_from (n := 3))
          · refine gv_call (ga_cons (gv_var rfl) (ga_cons (gv_var rfl) ga_nil)) fun M7 g7 Q2 q2 => ⟨b, rk, kvs, rfl, List.all_eq_true.mp hB b hbm, okb M7 (Ok.grow (g46.trans g7) _ oki) b hbm, g7 rk _ (g46 rk _ eK), iv, q2⟩
        · dsimp only
          refine s_set (v := optD (H0 it)) (gv_eq (gv_if (v := .int (minI (bs.filterMap rec'))) (w := .non) (gt_t (gv_ne_at (gv_var rfl) ep)) (fun hne => gv_minL (gv_var rfl) ep ?_) fun _ => gv_c) ?_) fun M8 g8 => ?_
          · rw [List.isEmpty_map] at hne
            simpa using hne
          · rw [e, List.isEmpty_map]
            cases (bs.filterMap rec').isEmpty <;> rfl
          · exact fin (some (.ob p)) M8 ((g46.trans g7).trans g8)
      · have hf := of_decide_eq_false hf
        have e : H0 it = some 0 := by
          show hereD _ _ it = _
          unfold hereD
          rw [if_neg hc, if_neg hf]
        show dSeq _ _ _ _ M6
        have z := fin o5 M6 ((g4.trans g5).trans g6)
        rw [e] at z
        exact z
theorem ok_rank0 (T : Tx K mg w) : FnOk P w K mg base CX0 2 T.f_rank_in.f T.f_rank_in.fd ["body", "ranks"] (LSp K (spRank 0)) :=
  rank_step T (k := 1) (sp := fun _ _ _ => False) (fun m h => nomatch h) (dfun T.f_rank_in.F sc_rank_in (fun _ _ _ h => h.elim) fun _ _ _ _ _ _ _ => ⟨fun _ _ _ => False, PSs.none, fun _ _ _ h => h.elim⟩)
theorem ok_rank (T : Tx K mg w) : ∀ n, FnOk P w K mg base CX0 (n + 2) T.f_rank_in.f T.f_rank_in.fd ["body", "ranks"] (LSp K (spRank n))
  | 0 => ok_rank0 T
  | n + 1 => rank_step T (sp := spRank n) (fun m e => by cases e; rfl) (ok_rank T n)
end
end DL

/-! J9: ranks_in, is_library. -/
namespace DL
open PySem PySem.Spec PyProof.Rows L2
def canD : Nat → (Str → Bool) → D → Bool
  | n + 1, lot, .tup xs => xs.all fun it => if st0 it = "call" then lot (st2 it) else if st0 it = "if" then ((bodiesD it).getD []).any (canD n lot) else true
  | _, _, _ => true
theorem step_some {f : Int} {h : Option Int} : (stepR (some f) h).isSome = h.isSome := by
  cases h <;> rfl
theorem foldR_some {rk : Str → Option Int} {rec : D → Option Int} : ∀ (xs : List D) (f : Int), (xs.foldl (fun acc it => stepR acc (hereD rk rec it)) (some f)).isSome = xs.all fun it => (hereD rk rec it).isSome
  | [], f => rfl
  | x :: xs, f => by
    rw [List.foldl_cons, List.all_cons]
    cases e : hereD rk rec x with
    | none =>
      rw [show stepR (some f) none = none from rfl, rank_none]
      rfl
    | some h => exact foldR_some xs _
theorem filterMap_any {α β : Type} (f : α → Option β) : ∀ bs : List α, (!(bs.filterMap f).isEmpty) = bs.any fun b => (f b).isSome
  | [] => rfl
  | b :: bs => by
    rw [List.filterMap_cons, List.any_cons]
    cases e : f b with
    | none => exact filterMap_any f bs
    | some i => rfl
theorem rank_can (rk : Str → Option Int) : ∀ (n : Nat) (d : D), (rankD n rk d).isSome = canD n (fun s => (rk s).isSome) d
  | 0, .tup _ => rfl
  | 0, .non => rfl
  | 0, .bl _ => rfl
  | 0, .int _ => rfl
  | 0, .str _ => rfl
  | 0, .ob _ => rfl
  | 0, .ty _ => rfl
  | n + 1, .non => rfl
  | n + 1, .bl _ => rfl
  | n + 1, .int _ => rfl
  | n + 1, .str _ => rfl
  | n + 1, .ob _ => rfl
  | n + 1, .ty _ => rfl
  | n + 1, .tup xs => by
    show (xs.foldl (fun acc it => stepR acc (hereD rk (rankD n rk) it)) (some 0)).isSome = xs.all _
    rw [foldR_some]
    congr 1
    funext it
    unfold hereD
    by_cases hc : st0 it = "call"
    · rw [if_pos hc, if_pos hc]
    · rw [if_neg hc, if_neg hc]
      by_cases hf : st0 it = "if"
      · rw [if_pos hf, if_pos hf]
        rw [show (canD n fun s => (rk s).isSome) = (fun b => (rankD n rk b).isSome) from funext fun b => (rank_can rk n b).symm, ← filterMap_any]
        cases (List.filterMap (rankD n rk) ((bodiesD it).getD [])).isEmpty <;> rfl
      · rw [if_neg hf, if_neg hf]
        rfl
theorem int_val {kvs : List (Key × D)} (h : IntVals kvs) {k : Key} {d : D} (e : valD kvs k = some d) : ∃ i, d = .int i := by
  unfold valD at e
  cases q : kvs.find? fun kv => decide (kv.1 = k) with
  | none =>
    rw [q] at e
    cases e
  | some kv =>
    rw [q] at e
    cases e
    exact h kv (List.mem_of_find?_eq_some q)
theorem rk_some {kvs : List (Key × D)} {ss : List Str} (h : kvs.map (·.1) = ss.map Sum.inr) (iv : IntVals kvs) (s : Str) : (rkOf kvs s).isSome = decide (s ∈ ss) := by
  rw [← valD_some h]
  unfold rkOf
  cases q : valD kvs (.inr s) with
  | none => rfl
  | some d =>
    obtain ⟨i, rfl⟩ := int_val iv q
    rfl
def moreP (ps : List D) (lot : List Str) : List Str := (ps.filter fun p => !decide (nmP p ∈ lot) && canD 3 (fun s => decide (s ∈ lot)) (bdP p)).map nmP
def roundsP (ps : List D) : Nat → List Str
  | 0 => []
  | k + 1 => (moreP ps (roundsP ps k)).foldl seen1 (roundsP ps k)
theorem moreP_len (ps : List D) (lot : List Str) : (moreP ps lot).length ≤ ps.length := by
  unfold moreP
  rw [List.length_map]
  exact List.length_filter_le _ _
theorem roundsP_len (ps : List D) : ∀ k, (roundsP ps k).length ≤ ps.length * k
  | 0 => Nat.zero_le _
  | k + 1 => by
    have h := roundsP_len ps k
    have h2 := seen_foldl_le (moreP ps (roundsP ps k)) (roundsP ps k)
    have h3 := moreP_len ps (roundsP ps k)
    show ((moreP ps (roundsP ps k)).foldl seen1 (roundsP ps k)).length ≤ _
    rw [Nat.mul_succ]
    omega
def spRanks : DSp := fun ds M Q => ∃ ps, ds = [.tup ps] ∧ ps.all isProc = true ∧ ps.length ≤ 8 ∧ OkL M ps ∧ ∀ M' p kvs, Grow M M' → M p = none → M' p = some (.dc kvs) → kvs.length = (roundsP ps ps.length).length → Q (.ob p) M'
def isLib : D → Bool
  | .tup [.str k, .tup ps] => decide (k = "library") && (decide ((ps.length : Int) ≤ 8) && (!ps.isEmpty && (ps.all isProc && (callsRight ps && decide ((roundsP ps ps.length).length = ps.length)))))
  | _ => false
def fLib : List D → Option D
  | [d] => some (.bl (isLib d))
  | _ => none
theorem intVals_put {kvs : List (Key × D)} {k : Key} {i : Int} (h : IntVals kvs) : IntVals (putD kvs k (.int i)) := fun kv hkv => by
  unfold putD at hkv
  split at hkv
  · obtain ⟨kv0, h0, rfl⟩ := List.mem_map.mp hkv
    split
    · exact ⟨i, rfl⟩
    · exact h kv0 h0
  · rcases List.mem_append.mp hkv with h0 | h0
    · exact h kv h0
    · rw [List.mem_singleton.mp h0]
      exact ⟨i, rfl⟩
section
variable {ρ : DSt} {M : DM} {E : DEnds} {tv to ti : DTE}
theorem s_put {a : Addr} {kvs : List (Key × D)} {s : Str} {v : D} (hv : Gv tv ρ M v) (ho : Gv to ρ M (.ob a)) (hi : Gv ti ρ M (.str s)) (e : M a = some (.dc kvs)) (hl : kvs.length < sizeLine) (q : ∀ M1, Grow M M1 → E.nx ρ (mset M1 a (.dc (putD kvs (.inr s) v)))) :
    dAsg tv (dgSub to ti) E ρ M := hv M (Grow.refl M) _ fun M1 g1 => ho M1 g1 _ fun M2 g2 => hi M2 (g1.trans g2) _ fun M3 g3 => by
  unfold dSetIt
  dsimp only
  rw [g3 a _ (g2 a _ (g1 a _ e))]
  exact ⟨hl, q M3 ((g1.trans g2).trans g3)⟩
theorem s_new0 {i : Nat} (q : ∀ p, M p = none → E.nx (ρ.set i (some (.ob p))) (mset M p (.dc []))) : dAsg dDNew (dName i) E ρ M := q
end
section
variable {P : Program} {w : World} {K : PySem.W.Frag} {mg : Str → Option Value} {base : Heap}
theorem ok_ranks_in (T : Tx K mg w) : FnOk P w K mg base CX0 6 T.f_ranks_in.f T.f_ranks_in.fd ["procs"] (LSp K spRanks) := by
  have G3 := ok_rank (P := P) (base := base) T 3
  refine dfun T.f_ranks_in.F sc_ranks_in (fun ds M Q ⟨ps, e, _⟩ => by rw [e]; rfl) fun cdv A outer s H E hr => ⟨_, (ds_cons (ds_set (i := 1) sc_ranks_in.nd d_dnew) (ds_cons (ds_for PassesOwn.never rfl (di_rng rfl T.b_range (da_cons (d_len T.b_len (da_cons (dv 0) da_nil)) da_nil)) (dg_name (i := 2) sc_ranks_in.nd) (ds_cons (ds_setLc (k := 3) rfl sc_ranks_in.nd (di_any (dv 0)) (blkOk_by (own := [("proc", 4)]) (N := ["procs", "found", "lap", "more", "proc", "name"]) (sc := defScope s_ranks_in) (by decide +kernel)) (by decide) (fun _ _ _ _ _ => pg_name (i := 4) sc_ranks_in.nd rfl (Or.inl rfl)) (fun _ _ _ _ _ => (dts_one (PW.pt (d_and (d_ninT (hu1 hr) (d_ixA (hu1 hr) (dv 4) dint) (dv 1)) (d_and1 (d_notNT (d_fn (fn := T.f_rank_in) G3 (hr.mono (by first | decide | omega)) (da_cons (d_ixA (hu1 hr) (dv 4) dint) (da_cons (dv 1) da_nil))) dnon)))))) (fun _ _ _ _ _ => (d_ixA (hu1 hr) (dv 4) dint)) (sw_true rfl rfl rfl (by decide +kernel))) (ds_one (ds_for PassesOwn.never rfl (di_any (dv 3)) (dg_name (i := 5) sc_ranks_in.nd) (ds_one (ds_asg (d_add (dv 2) dint) (dg_sub (hu1 hr) (dv 1) (dv 5)))))))) (ds_one (ds_ret (dv 1))))), ?_⟩
  rintro ds M Q ⟨ps, rfl, hp, h8, hd, q⟩
  have sz : ∀ k : Nat, k ≤ 1000 → k ≤ sizeLine := fun k h => by rw [sizeLine_eq]; omega
  have pr : ∀ p ∈ ps, ∃ x b, p = .tup [.str "proc", .str x, b] ∧ nameS x = true ∧ isBody 3 b = true := fun p hm => proc_shape (List.all_eq_true.mp hp p hm)
  refine s_seq (s_new0 fun a na => ?_)
  dsimp only
  have g0 : Grow M (mset M a (.dc [])) := Grow.new na
  refine s_seq (s_forR (n := ps.length) (gv_cb (ga_cons (gv_var rfl) ga_nil) rc_lenT) (by omega) fun M2 g2 => ?_)
  have rg : ∀ d ∈ rgD 0 ps.length, ∃ i, d = D.int i := fun d hd => by
    unfold rgD at hd
    obtain ⟨j, _, rfl⟩ := List.mem_map.mp hd
    exact ⟨_, rfl⟩
  refine loopI (fun r ρ M3 => Grow M M3 ∧ ∃ o2 o3 o5 k kvs, ρ = [some (.tup ps), some (.ob a), o2, o3, none, o5] ∧ r.length = ps.length - k ∧ k ≤ ps.length ∧ (∀ d ∈ r, ∃ i, d = D.int i) ∧ M3 a = some (.dc kvs) ∧ kvs.map (·.1) = (roundsP ps k).map Sum.inr ∧ IntVals kvs)
    (fun ρ M3 ⟨g3, o2, o3, o5, k, kvs, eρ, el, hk, _, ea, ek, iv⟩ => ?_) (fun it r ρ M3 ⟨g3, o2, o3, o5, k, kvs, eρ, el, hk, hi, ea, ek, iv⟩ N hN => ?_) _ _ _ ⟨g0.trans g2, none, none, none, 0, [], rfl, by rw [rgD_length]; rfl, Nat.zero_le _, rg, g2 a _ mset_same, rfl, fun kv h => nomatch h⟩
  · subst eρ
    have e : k = ps.length := by
      rw [List.length_nil] at el
      omega
    subst e
    have len := congrArg List.length ek
    rw [List.length_map, List.length_map] at len
    exact (s_ret (gv_var rfl) fun M4 g4 => q M4 a kvs (g3.trans g4) na (g4 a _ ea) len : dRet (dVar 1) { nx := fun _ M' => Q .non M', rt := Q } [some (.tup ps), some (.ob a), o2, o3, none, o5] M3)
  · subst eρ
    obtain ⟨i, rfl⟩ := hi it List.mem_cons_self
    have lot := roundsP_len ps k
    have l64 : (roundsP ps k).length ≤ 64 := by
      have : ps.length * k ≤ 8 * 8 := Nat.mul_le_mul h8 (by omega)
      omega
    refine s_seq (s_setL (ρ := [some (.tup ps), some (.ob a), some (.int i), o3, none, o5]) (xs := (moreP ps (roundsP ps k)).map D.str) ?_ fun M4 b g4 nb eb => ?_)
    · unfold moreP
      rw [List.map_map]
      refine gl_lcF (D.str ∘ nmP) _ (gi_tup (gv_var rfl)) (sz _ (by omega)) (fun p hm => ?_) fun p hm _ => ?_
      · obtain ⟨x, bd, rfl, _, hbd⟩ := pr p hm
        have okb : Ok M3 bd := Ok.grow g3 _ (ok_tup.1 (okL_mem.mp hd _ hm) bd (by simp))
        have inn : (valD kvs (.inr x)).isSome = decide (x ∈ roundsP ps k) := valD_some ek x
        have can : (rankD 3 (rkOf kvs) bd).isSome = canD 3 (fun s => decide (s ∈ roundsP ps k)) bd := by
          rw [rank_can]
          congr 1
          exact funext fun s => rk_some ek iv s
        refine gt_and (b := !decide (x ∈ roundsP ps k)) (c := canD 3 (fun s => decide (s ∈ roundsP ps k)) bd) ?_ fun _ => ?_
        · rw [← inn]
          exact gt_t (gv_op (gv_op (gv_var rfl) gv_c (rv_ixT (atI_nat (n := 1) rfl))) (gv_var rfl) (rv_ninD rfl ea))
        · rw [← can]
          refine gt_t (gv_op (gv_call (ga_cons (gv_op (gv_var rfl) gv_c (rv_ixT (atI_nat (n := 2) rfl))) (ga_cons (gv_var rfl) ga_nil)) (v := optD (rankD 3 (rkOf kvs) bd)) fun M5 g5 Q2 q2 => ⟨bd, a, kvs, rfl, hbd, Ok.grow g5 _ okb, g5 a _ ea, iv, q2⟩) gv_c ?_)
          have z : (rankD 3 (rkOf kvs) bd).isSome = !isNon (optD (rankD 3 (rkOf kvs) bd)) := by cases rankD 3 (rkOf kvs) bd <;> rfl
          rw [z]
          exact rv_notN
      · obtain ⟨x, bd, rfl, _, hbd⟩ := pr p hm
        exact gv_op (gv_var rfl) gv_c (rv_ixT (atI_nat (n := 1) rfl))
    · dsimp only
      have ne : b ≠ a := fun z => by
        rw [z, ea] at nb
        cases nb
      refine s_forL (all := (moreP ps (roundsP ps k)).map D.str) (gv_var rfl) eb fun M5 g5 => ?_
      have ea5 := g5 a _ (g4 a _ ea)
      have ml := moreP_len ps (roundsP ps k)
      refine loopI (fun r2 ρ M6 => Grow M M6 ∧ M6 b = some (.ls ((moreP ps (roundsP ps k)).map D.str)) ∧ ∃ o5 done rest kvs, ρ = [some (.tup ps), some (.ob a), some (.int i), some (.ob b), none, o5] ∧ r2 = rest.map D.str ∧ moreP ps (roundsP ps k) = done ++ rest ∧ M6 a = some (.dc kvs) ∧ kvs.map (·.1) = (done.foldl seen1 (roundsP ps k)).map Sum.inr ∧ IntVals kvs)
        (fun ρ M6 ⟨g6, eb6, o5, done, rest, kvs, eρ, er, em, ea6, ek6, iv6⟩ => ?_) (fun y r2 ρ M6 ⟨g6, eb6, o5, done, rest, kvs, eρ, er, em, ea6, ek6, iv6⟩ N2 hN2 => ?_) _ _ _ ⟨(g3.trans g4).trans g5, g5 b _ eb, o5, [], _, kvs, rfl, rfl, rfl, ea5, ek, iv⟩
      · have er : rest = [] := by
          cases rest with
          | nil => rfl
          | cons => cases er
        rw [er, List.append_nil] at em
        rw [← em] at ek6
        exact hN ρ M6 True.intro ⟨g6, some (.int i), some (.ob b), o5, k + 1, kvs, eρ, by rw [List.length_cons] at el; omega, by rw [List.length_cons] at el; omega, fun d hd => hi d (List.mem_cons_of_mem _ hd), ea6, ek6, iv6⟩
      · subst eρ
        obtain ⟨z, rest, rfl⟩ : ∃ z rest', rest = z :: rest' := by
          cases rest with
          | nil => cases er
          | cons z r => exact ⟨z, r, rfl⟩
        rw [List.map_cons, List.cons.injEq] at er
        obtain ⟨rfl, rfl⟩ := er
        have kl : kvs.length < sizeLine := by
          have len := congrArg List.length ek6
          rw [List.length_map, List.length_map] at len
          have := seen_foldl_le done (roundsP ps k)
          have dl : done.length ≤ 8 := by
            rw [em, List.length_append] at ml
            omega
          rw [sizeLine_eq]
          omega
        refine s_put (ρ := [some (.tup ps), some (.ob a), some (.int i), some (.ob b), none, some (.str z)]) (gv_op (gv_var rfl) gv_c rv_add) (gv_var rfl) (gv_var rfl) ea6 kl fun M7 g7 => ?_
        refine hN2 _ _ ?_ ⟨(g6.trans g7).put na, ?_, some (.str z), done ++ [z], rest, _, rfl, rfl, by rw [em]; simp, mset_same, ?_, intVals_put iv6⟩
        · exact msq_ls (by rw [mset_ne ne]; exact g7 b _ eb6)
        · rw [mset_ne ne]
          exact g7 b _ eb6
        · rw [List.foldl_append]
          exact putD_keys ek6 z _
end
end DL

/-! J10: is_library. -/
namespace DL
open PySem PySem.Spec PyProof.Rows L2
theorem isLib_eq {k : Str} {ps : List D} : isLib (.tup [.str k, .tup ps]) = (decide (k = "library") && (decide ((ps.length : Int) ≤ 8) && (!ps.isEmpty && (ps.all isProc && (callsRight ps && decide ((roundsP ps ps.length).length = ps.length)))))) := rfl
section
variable {P : Program} {w : World} {K : PySem.W.Frag} {mg : Str → Option Value} {base : Heap}
theorem ok_is_library (T : Tx K mg w) : FnOk P w K mg base CX0 8 T.f_is_library.f T.f_is_library.fd ["thing"] (LSp K (spF fLib)) := by
  refine dfun T.f_is_library.F sc_is_library (spF_len fun ds v e => by unfold fLib at e; split at e <;> first | rfl | cases e) fun cdv A outer s H E hr => ⟨_, (ds_cons (ds_if (PW.pt (d_or (d_not (d_val (d_isi T.b_isinstance (da_cons (dv 0) (da_cons (dbt rfl T.b_tuple rfl) da_nil))))) (d_or (d_neT (hu0 hr) (d_len T.b_len (da_cons (dv 0) da_nil)) dint) (d_or (d_not (d_val (d_isi T.b_isinstance (da_cons (d_ixA (hu1 hr) (dv 0) dint) (da_cons (dbt rfl T.b_str rfl) da_nil))))) (d_or1 (d_neT (hu0 hr) (d_ixA (hu1 hr) (dv 0) dint) dstr)))))) (ds_one (ds_ret dbl)) ds_nil) (ds_cons (ds_set (i := 1) sc_is_library.nd (d_ixA (hu1 hr) (dv 0) dint)) (ds_cons (ds_if (PW.pt (d_or (d_not (d_val (d_fn (fn := T.f_is_row) (ok_is_row T) (hr.mono (by first | decide | omega)) (da_cons (dv 1) (da_cons (dglI rfl T.c_PROCS.choose_spec) da_nil))))) (d_or (d_eqT (hu0 hr) (dv 1) (d_tup da_nil)) (d_or1 (d_not (d_val (d_all rfl T.b_all (da_cons (d_lc rfl sc_is_library.nd (di_any (dv 1)) (blkOk_by (own := [("proc", 2)]) (N := ["thing", "procs", "proc"]) (sc := defScope s_is_library) (by decide +kernel)) (by decide) (fun _ _ _ _ _ => pg_name (i := 2) sc_is_library.nd rfl (Or.inl rfl)) (fun _ _ _ _ _ => dts_nil) (fun _ _ _ _ _ => (d_fn (fn := T.f_is_proc) (ok_is_proc T) (hr.mono (by first | decide | omega)) (da_cons (dv 2) da_nil)))) da_nil)))))))) (ds_one (ds_ret dbl)) ds_nil) (ds_one (ds_ret (d_andV (d_fn (fn := T.f_are_calls_right) (ok_are_calls_right T) (hr.mono (by first | decide | omega)) (da_cons (dv 1) da_nil)) (d_oneV (d_eq (hu0 hr) (d_len T.b_len (da_cons (d_fn (fn := T.f_ranks_in) (ok_ranks_in T) (hr.mono (by first | decide | omega)) (da_cons (dv 1) da_nil)) da_nil)) (d_len T.b_len (da_cons (dv 1) da_nil)))))))))), ?_⟩
  rintro ds M Q ⟨v, e, hd, q⟩
  unfold fLib at e
  split at e
  · rename_i d
    cases e
    have hd := hd.1
    have no : isLib d = false → ∀ M1, Grow M M1 → ∀ (E' : DEnds) (ρ : DSt), E'.rt = Q → dRet (dC (.bl false)) E' ρ M1 := fun e M1 g1 E' ρ eE => by
      rw [e] at q
      exact s_ret gv_c fun M2 g2 => by rw [eE]; exact q M2 (g1.trans g2)
    cases hs : isTup d with
    | false =>
      have e : isLib d = false := by cases d <;> first | rfl | cases hs
      exact s_guard1 (gt_or1 (gt_not (b := false) (gt_isT (gv_var rfl) hd hs))) fun M1 g1 => no e M1 g1 _ _ rfl
    | true =>
      obtain ⟨xs, rfl⟩ := isTup_ex hs
      have t0 : Gt (dNot (dT (dCB dIsI (dCons (dVar 0) (dCons (dC (.ty "tuple")) dNil))))) (dstart ["thing", "procs", "proc"].length [D.tup xs]) M false := gt_not (b := true) (gt_isT (gv_var rfl) hd rfl)
      have t1 : Gt (dT (dOp (dEq true) (dCB dLenA (dCons (dVar 0) dNil)) (dC (.int 2)))) (dstart ["thing", "procs", "proc"].length [D.tup xs]) M (!decide ((xs.length : Int) = 2)) := gt_t (gv_op (gv_cb (ga_cons (gv_var rfl) ga_nil) rc_lenT) gv_c rv_neI)
      by_cases hl : (xs.length : Int) = 2
      · obtain ⟨a, b, rfl⟩ : ∃ a b, xs = [a, b] := by
          match xs, hl with
          | [a, b], _ => exact ⟨a, b, rfl⟩
          | [], hl => cases hl
          | [a], hl => cases hl
          | a :: b :: c :: d, hl => (simp only [List.length_cons] at hl; omega)
        have ha : Ok M a := ok_tup.1 hd a (by simp)
        have hb : Ok M b := ok_tup.1 hd b (by simp)
        have i0 : Gv (dOp dIx (dVar 0) (dC (.int 0))) (dstart ["thing", "procs", "proc"].length [D.tup [a, b]]) M a := gv_op (gv_var rfl) gv_c (rv_ixT (atI_nat (n := 0) rfl))
        cases hs2 : isStr a with
        | false =>
          have e : isLib (.tup [a, b]) = false := by cases a <;> first | rfl | cases hs2
          exact s_guard1 (gt_or0 t0 (gt_or0 (gt_eq t1 (by simp)) (gt_or1 (gt_not (b := false) (gt_isS i0 ha hs2))))) fun M1 g1 => no e M1 g1 _ _ rfl
        | true =>
          obtain ⟨k, rfl⟩ := isStr_ex hs2
          refine s_guard (gt_or0 t0 (gt_or0 (gt_eq t1 (by simp)) (gt_or0 (gt_not (b := true) (gt_isS i0 ha rfl)) (gt_t (gv_op i0 gv_c rv_neS))))) (fun hbb M1 g1 => no ?_ M1 g1 _ _ rfl) fun hbb M1 g1 => ?_
          · have ek : decide (k = "library") = false := by simpa using hbb
            cases b with
            | tup ps =>
              rw [isLib_eq, ek]
              rfl
            | _ => rfl
          · have ek : decide (k = "library") = true := by simpa using hbb
            refine s_seq (s_set (gv_op (gv_var rfl) gv_c (rv_ixT (atI_nat (n := 1) rfl))) fun M2 g2 => ?_)
            dsimp only
            have g02 := g1.trans g2
            have hb2 := Ok.grow g02 _ hb
            have cr : Gt (dNot (dT (dCall (spF fRow) (dCons (dVar 1) (dCons (dC (.int 8)) dNil))))) ((dstart ["thing", "procs", "proc"].length [D.tup [.str k, b]]).set 1 (some b)) M2 (!isRow b 8) := gt_not (gt_t (gv_call (ga_cons (gv_var rfl) (ga_cons gv_c ga_nil)) (rc_spF rfl (by unfold OkL; exact ⟨hb2, okL_one ok_int⟩))))
            cases hr8 : isRow b 8 with
            | false =>
              have e : isLib (.tup [.str k, b]) = false := by
                cases b with
                | tup ps =>
                  rw [isLib_eq, show decide ((ps.length : Int) ≤ 8) = false from hr8]
                  simp
                | _ => rfl
              exact s_guard1 (gt_or1 (gt_eq cr (by rw [hr8]; rfl))) fun M3 g3 => no e M3 (g02.trans g3) _ _ rfl
            | true =>
              obtain ⟨ps, rfl⟩ : ∃ as, b = .tup as := by
                cases b <;> first | exact ⟨_, rfl⟩ | cases hr8
              have d8 : decide ((ps.length : Int) ≤ 8) = true := hr8
              have l8 : ps.length ≤ 8 := by
                have := of_decide_eq_true d8
                omega
              have eL : isLib (.tup [.str k, .tup ps]) = (!ps.isEmpty && (ps.all isProc && (callsRight ps && decide ((roundsP ps ps.length).length = ps.length)))) := by
                rw [isLib_eq, ek, d8, Bool.true_and, Bool.true_and]
              have okp : OkL M2 ps := okL_mem.mpr (ok_tup.1 hb2)
              refine s_guard (gt_or0 (gt_eq cr (by rw [hr8]; rfl)) (gt_or (gt_t (gv_op (gv_var rfl) (gv_tup ga_nil (Nat.zero_le _)) rv_eqT)) fun _ => gt_not (gt_t (gv_all (bs := ps.map isProc) ?_)))) (fun hb3 M3 g3 => no ?_ M3 (g02.trans g3) _ _ rfl) fun hb3 M3 g3 => ?_
              · rw [List.map_map]
                refine gl_lc (D.bl ∘ isProc) (gi_tup (gv_var rfl)) (by rw [sizeLine_eq]; omega) fun p hm => ?_
                exact gv_call (ga_cons (gv_var rfl) ga_nil) (rc_spF rfl (okL_one (okL_mem.mp okp p hm)))
              · rw [eL]
                cases h1 : ps.isEmpty with
                | true => rfl
                | false =>
                  rw [h1, List.all_map] at hb3
                  have z : ps.all isProc = false := by simpa using hb3
                  rw [z]
                  rfl
              · have h1 : ps.isEmpty = false := by
                  cases z : ps.isEmpty with
                  | false => rfl
                  | true =>
                    rw [z] at hb3
                    cases hb3
                have hp : ps.all isProc = true := by
                  rw [h1, List.all_map] at hb3
                  simpa using hb3
                have g03 := g02.trans g3
                have l1 : 1 ≤ ps.length := by
                  cases ps with
                  | nil => cases h1
                  | cons => simp
                rw [eL, h1, hp, Bool.not_false, Bool.true_and, Bool.true_and] at q
                have okp3 := OkL.grow g3 _ okp
                refine s_ret (gv_and (gv_call (ga_cons (gv_var rfl) ga_nil) (v := .bl (callsRight ps)) fun M4 g4 Q2 q2 => ⟨ps, rfl, hp, l1, l8, OkL.grow g4 _ okp3, q2⟩) fun _ => ?_) fun M4 g4 => q M4 (g03.trans g4)
                refine gv_op (x := .int ((roundsP ps ps.length).length : Nat)) (y := .int (ps.length : Nat)) ?_ (gv_cb (ga_cons (gv_var rfl) ga_nil) rc_lenT) ?_
                · intro M4 g4 Q2 q2
                  refine ⟨ps, rfl, hp, l8, OkL.grow g4 _ okp3, fun M5 p kvs g5 np e5 el => ?_⟩
                  show dLenA [.ob p] M5 Q2
                  unfold dLenA
                  dsimp only
                  rw [e5]
                  dsimp only
                  rw [el]
                  exact q2 M5 g5
                · intro M4 g4 Q2 q2
                  have e : decide (((roundsP ps ps.length).length : Int) = (ps.length : Nat)) = decide ((roundsP ps ps.length).length = ps.length) := by
                    congr 1
                    exact propext ⟨fun h => by omega, fun h => by omega⟩
                  show Q2 (.bl (decide _)) M4
                  rw [e]
                  exact q2
      · have e : isLib (.tup xs) = false := by
          unfold isLib
          split
          · rename_i h
            cases h
            exact absurd rfl hl
          · rfl
        exact s_guard1 (gt_or0 t0 (gt_or1 (gt_eq t1 (by simpa using hl)))) fun M1 g1 => no e M1 g1 _ _ rfl
  · cases e
end
end DL

/-! J11: the law's own looks at names and items. -/
namespace DL
open PySem PySem.Spec PyProof.Rows L2
def kept1 : Str := "alike args at back call calls cannot cut do done edit else end if in inline journal least library main may move must no none nothing"
def kept2 : Str := " open outer outline proc put redo sets slice store then to turn undo unproc version what while yes"
theorem kept_words : Txt.words (kept1 ++ kept2) = kept := by decide +kernel
theorem filter_all (z : Str) : (((signs z).filter fun d => !(match d with
    | .str ⟨#[c]⟩ => decide (c ∈ abc.cps.toList)
    | _ => false)).map fun d => d).isEmpty = z.cps.toList.all fun c => decide (c ∈ abc.cps.toList) := by
  unfold signs
  rw [List.map_id']
  induction z.cps.toList with
  | nil => rfl
  | cons c cs ih =>
    rw [List.map_cons, List.filter_cons, List.all_cons]
    cases e : decide (c ∈ abc.cps.toList) with
    | true =>
      rw [show (!(match (D.str ⟨#[c]⟩) with
        | .str ⟨#[c]⟩ => decide (c ∈ abc.cps.toList)
        | _ => false)) = false by show (!decide (c ∈ abc.cps.toList)) = false; rw [e]; rfl]
      rw [if_neg (by simp), Bool.true_and]
      exact ih
    | false =>
      rw [show (!(match (D.str ⟨#[c]⟩) with
        | .str ⟨#[c]⟩ => decide (c ∈ abc.cps.toList)
        | _ => false)) = true by show (!decide (c ∈ abc.cps.toList)) = true; rw [e]; rfl]
      rw [if_pos rfl]
      rfl
section
variable {P : Program} {w : World} {K : PySem.W.Frag} {mg : Str → Option Value} {base : Heap}
theorem ok__law_is_name (T : Tx K mg w) : FnOk P w K mg base CX0 1 T.f__law_is_name.f T.f__law_is_name.fd ["thing"] (LSp K (spF fName)) := by
  refine dfun T.f__law_is_name.F sc__law_is_name (spF_len fun ds v e => by unfold fName at e; split at e <;> first | rfl | cases e) fun cdv A outer s H E hr => ⟨_, (ds_cons (ds_set (i := 1) sc__law_is_name.nd dstr) (ds_cons (ds_set (i := 1) sc__law_is_name.nd (d_splitS (d_add (dv 1) dstr))) (ds_cons (ds_if (PW.pt (d_or (d_not (d_val (d_isi T.b_isinstance (da_cons (dv 0) (da_cons (dbt rfl T.b_str rfl) da_nil))))) (d_or (d_inT (hu1 hr) (dv 0) (dv 1)) (d_or1 (d_not (d_chainT op_lt op_lt lr_cmpI lr_cmpI dint (d_len T.b_len (da_cons (dv 0) da_nil)) dint)))))) (ds_one (ds_ret dbl)) ds_nil) (ds_one (ds_ret (d_eq (hu0 hr) (d_lc rfl sc__law_is_name.nd (di_str (dv 0)) (blkOk_by (own := [("sign", 2)]) (N := ["thing", "kept", "sign"]) (sc := defScope s__law_is_name) (by decide +kernel)) (by decide) (fun _ _ _ _ _ => pg_name (i := 2) sc__law_is_name.nd rfl (Or.inl rfl)) (fun _ _ _ _ _ => (dts_one (d_ninT (hu1 hr) (dv 2) dstr))) (fun _ _ _ _ _ => (dv 2))) (d_lst da_nil))))))), ?_⟩
  rintro ds M Q ⟨v, e, hd, q⟩
  unfold fName at e
  split at e
  · rename_i d
    cases e
    have hd := hd.1
    refine s_seq (s_set (v := .str kept1) gv_c fun M1 g1 => ?_)
    dsimp only
    refine s_seq (s_setL (xs := (Txt.words (kept1 ++ kept2)).map D.str) (gx_words (gv_op (y := .str kept2) (gv_var rfl) gv_c (rv_cat (by decide +kernel))) (by decide +kernel)) fun M2 p g2 np ep => ?_)
    dsimp only
    rw [kept_words] at ep
    have g02 := g1.trans g2
    have hd2 := Ok.grow g02 _ hd
    cases hs : isStr d with
    | false =>
      have e : isName d = false := by cases d <;> first | rfl | cases hs
      rw [e] at q
      exact s_guard1 (gt_or1 (gt_not (b := false) (gt_isS (gv_var rfl) hd2 hs))) fun M3 g3 => s_ret gv_c fun M4 g4 => q M4 ((g02.trans g3).trans g4)
    | true =>
      obtain ⟨z, rfl⟩ := isStr_ex hs
      have hz := ok_strE hd2
      refine s_guard (b := decide (z ∈ kept) || !(decide ((0 : Int) < z.length) && decide ((z.length : Int) < 9))) (gt_or0 (gt_not (b := true) (gt_isS (gv_var rfl) hd2 rfl)) (gt_or (gt_t (gv_op (gv_var rfl) (gv_var rfl) (rv_inL ep))) fun _ => gt_not (gt_t (gv_chain gv_c (gv_cb (ga_cons (gv_var rfl) ga_nil) (rc_lenS (sz64 hz))) rv_lt (fun _ => gv_c) (fun _ => rv_lt))))) (fun hb M3 g3 => ?_) fun hb M3 g3 => ?_
      · refine s_ret gv_c fun M4 g4 => ?_
        have e : isName (.str z) = false := by
          show nameS z = _
          unfold nameS
          by_cases hk : z ∈ kept
          · rw [decide_eq_true hk]
            simp
          · rw [decide_eq_false hk] at hb
            by_cases a1 : (0 : Int) < z.length
            · by_cases a2 : (z.length : Int) < 9
              · rw [decide_eq_true a1, decide_eq_true a2] at hb
                cases hb
              · rw [decide_eq_false (show ¬ (z.length : Int) ≤ 8 by omega)]
                simp
            · rw [decide_eq_false (show ¬ 1 ≤ (z.length : Int) by omega)]
              rfl
        rw [e] at q
        exact q M4 ((g02.trans g3).trans g4)
      · refine s_ret (gv_eqL (vs := ((signs z).filter fun d => !(match d with
          | .str ⟨#[c]⟩ => decide (c ∈ abc.cps.toList)
          | _ => false)).map fun d => d) ?_) fun M4 g4 => ?_
        · refine gl_lcF (fun d => d) _ (gi_str (gv_var rfl)) (by rw [signs_len]; exact sz64 hz) (fun d hm => ?_) fun d hm _ => gv_var rfl
          unfold signs at hm
          obtain ⟨c, _, rfl⟩ := List.mem_map.mp hm
          exact gt_t (gv_op (gv_var rfl) (gv_c (v := .str abc)) rv_ninS)
        · rw [filter_all]
          have e : isName (.str z) = z.cps.toList.all fun c => decide (c ∈ abc.cps.toList) := by
            show nameS z = _
            unfold nameS
            by_cases hk : z ∈ kept
            · rw [decide_eq_true hk] at hb
              cases hb
            · rw [decide_eq_false hk] at hb ⊢
              by_cases a1 : (0 : Int) < z.length
              · by_cases a2 : (z.length : Int) < 9
                · rw [decide_eq_true (show (1 : Int) ≤ z.length by omega), decide_eq_true (show (z.length : Int) ≤ 8 by omega)]
                  rfl
                · rw [decide_eq_true a1, decide_eq_false a2] at hb
                  cases hb
              · rw [decide_eq_false a1] at hb
                cases hb
          rw [e] at q
          exact q M4 ((g02.trans g3).trans g4)
  · cases e
theorem ok__law_args (T : Tx K mg w) : FnOk P w K mg base CX0 1 T.f__law_args.f T.f__law_args.fd ["item"] (LSp K (spF fArgs)) := by
  refine dfun T.f__law_args.F sc__law_args (spF_one (f := argsD) fun ds => rfl) fun cdv A outer s H E hr => ⟨_, (ds_one (ds_ret (d_ifE (d_eqT (hu0 hr) (d_ixA (hu1 hr) (dv 0) dint) dstr) (d_tup da_nil) (d_ifE (d_eqT (hu0 hr) (d_ixA (hu1 hr) (dv 0) dint) dstr) (d_ixA (hu1 hr) (dv 0) dint) (d_ixA (hu1 hr) (dv 0) dint))))), ?_⟩
  rintro ds M Q ⟨v, e, hd, q⟩
  unfold fArgs at e
  split at e
  · rename_i d
    unfold argsD at e
    split at e
    · rename_i k r
      have i0 : ∀ M1, Gv (dOp dIx (dVar 0) (dC (.int 0))) (dstart ["item"].length [D.tup (.str k :: r)]) M1 (.str k) := fun M1 => gv_op (gv_var rfl) gv_c (rv_ixT (atI_nat (n := 0) rfl))
      refine s_ret (v := v) (gv_eq (gv_if (v := v) (w := v) (gt_t (gv_op (i0 _) gv_c rv_eqS)) (fun hc => ?_) (fun hc => ?_)) (by split <;> rfl)) q
      · rw [if_pos (of_decide_eq_true hc)] at e
        cases e
        exact gv_tup ga_nil (Nat.zero_le _)
      · rw [if_neg (of_decide_eq_false hc)] at e
        refine gv_eq (gv_if (v := v) (w := v) (gt_t (gv_op (i0 _) gv_c rv_eqS)) (fun hd => ?_) (fun hd => ?_)) (by split <;> rfl)
        · rw [if_pos (of_decide_eq_true hd)] at e
          exact gv_op (gv_var rfl) gv_c (rv_ixT (atI_nat (n := 3) e))
        · rw [if_neg (of_decide_eq_false hd)] at e
          exact gv_op (gv_var rfl) gv_c (rv_ixT (atI_nat (n := 2) e))
    · cases e
  · cases e
def preItem : List D → DM → Prop := fun ds M => ∃ k r, ds = [.tup (.str k :: r)]
def fBodiesL : List D → List D
  | [d] => (bodiesD d).getD []
  | _ => []
theorem gx_if {ρ : DSt} {M : DM} {tt : DTT} {ta tb : DTE} {b : Bool} {xs : List D} (h : Gt tt ρ M b) (h1 : b = true → Gx ta ρ M xs) (h2 : b = false → Gx tb ρ M xs) : Gx (dIf tt ta tb) ρ M xs := fun M1 g1 Q q => h M1 g1 _ fun M2 g2 => by
  cases b with
  | true =>
    rw [if_pos rfl]
    exact h1 rfl M2 (g1.trans g2) _ fun M3 p g3 np e => q M3 p (g2.trans g3) (fresh_of g2 np) e
  | false =>
    rw [if_neg (by simp)]
    exact h2 rfl M2 (g1.trans g2) _ fun M3 p g3 np e => q M3 p (g2.trans g3) (fresh_of g2 np) e
theorem ok__law_bodies (T : Tx K mg w) : FnOk P w K mg base CX0 1 T.f__law_bodies.f T.f__law_bodies.fd ["item"] (LSp K (spL preItem fBodiesL)) := by
  refine dfun T.f__law_bodies.F sc__law_bodies (fun ds M Q ⟨⟨k, r, e⟩, _⟩ => by rw [e]; rfl) fun cdv A outer s H E hr => ⟨_, (ds_one (ds_ret (d_ifE (d_inT (hu1 hr) (d_ixA (hu1 hr) (dv 0) dint) (d_lst (da_cons dstr (da_cons dstr da_nil)))) (d_list T.b_list (da_cons (d_sl (dv 0) (do_some dint) do_none) da_nil)) (d_lst da_nil)))), ?_⟩
  rintro ds M Q ⟨⟨k, r, rfl⟩, q⟩
  have i0 : Gv (dOp dIx (dVar 0) (dC (.int 0))) (dstart ["item"].length [D.tup (.str k :: r)]) M (.str k) := gv_op (gv_var rfl) gv_c (rv_ixT (atI_nat (n := 0) rfl))
  have q : ∀ M' p, Grow M M' → M p = none → M' p = some (.ls ((bodiesD (.tup (.str k :: r))).getD [])) → Q (.ob p) M' := q
  refine s_retL (xs := (bodiesD (.tup (.str k :: r))).getD []) (gx_if (b := decide (k ∈ (["if", "while"] : List Str))) (gt_t (gv_inLst (ss := ["if", "while"]) i0 (ga_cons gv_c (ga_cons gv_c ga_nil)) (by decide))) (fun h => ?_) fun h => ?_) q
  · have ek : k = "if" ∨ k = "while" := by simpa using of_decide_eq_true h
    have e : (bodiesD (.tup (.str k :: r))).getD [] = r.drop 2 := by
      unfold bodiesD
      dsimp only
      rw [if_pos ek]
      rfl
    rw [e]
    refine gl_listT (gv_eq (gv_sl (gv_var rfl) (go_some gv_c) go_none) (congrArg D.tup (dcut_from (n := 3))))
  · have ek : ¬ (k = "if" ∨ k = "while") := by simpa using of_decide_eq_false h
    have e : (bodiesD (.tup (.str k :: r))).getD [] = [] := by
      unfold bodiesD
      dsimp only
      rw [if_neg ek]
      rfl
    rw [e]
    exact gl_lst ga_nil (Nat.zero_le _)
end
end DL

/-! J12: the law's items, procs, ends. -/
namespace DL
open PySem PySem.Spec PyProof.Rows L2
theorem item_pre {it : D} (h : isItem it = true) : ∃ k r, it = .tup (.str k :: r) := by
  cases item_shape h <;> exact ⟨_, _, rfl⟩
section
variable {P : Program} {w : World} {K : PySem.W.Frag} {mg : Str → Option Value} {base : Heap}
theorem litems_step (T : Tx K mg w) {n k : Nat} {sp : DSp} (hn : n ≤ 3) (hsp : ∀ m, n = m + 1 → sp = spL (preItems m) (fItems m)) (hk : 1 ≤ k) (G : FnOk P w K mg base CX0 k T.f__law_items.f T.f__law_items.fd ["body"] (LSp K sp)) :
    FnOk P w K mg base CX0 (k + 1) T.f__law_items.f T.f__law_items.fd ["body"] (LSp K (spL (preItems n) (fItems n))) := by
  refine dfun T.f__law_items.F sc__law_items (fun ds M Q ⟨⟨d, e, _⟩, _⟩ => by rw [e]; rfl) fun cdv A outer s H E hr => ⟨_, (ds_cons (ds_set (i := 1) sc__law_items.nd (d_lst da_nil)) (ds_cons (ds_for PassesOwn.never rfl (di_any (dv 0)) (dg_name (i := 2) sc__law_items.nd) (ds_cons (ds_expr (d_appendS (dv 1) (da_cons (dv 2) da_nil))) (ds_one (ds_for PassesOwn.never rfl (di_any (d_fn (fn := T.f__law_bodies) (ok__law_bodies T) (hr.mono (by first | decide | omega)) (da_cons (dv 2) da_nil))) (dg_name (i := 3) sc__law_items.nd) (ds_one (ds_set (i := 1) sc__law_items.nd (d_add (dv 1) (d_fn (fn := T.f__law_items) G (hr.mono (by first | decide | omega)) (da_cons (dv 3) da_nil))))))))) (ds_one (ds_ret (dv 1))))), ?_⟩
  rintro ds M Q ⟨⟨d, rfl, hb, hd⟩, q⟩
  obtain ⟨xs, rfl⟩ := body_tup hb
  have few := items_few n _ hb
  have r3 : roomB n ≤ 4210 := by
    match n, hn with
    | 0, _ => decide
    | 1, _ => decide
    | 2, _ => decide
    | 3, _ => decide
    | n + 4, h => omega
  have sz : ∀ k : Nat, k ≤ 4210 → k ≤ sizeLine := fun k h => by rw [sizeLine_eq]; omega
  have szl : ∀ k : Nat, k < 4210 → k < sizeLine := fun k h => by rw [sizeLine_eq]; omega
  refine s_seq (s_setL (gl_lst ga_nil (Nat.zero_le _)) fun M1 p g1 np e1 => ?_)
  dsimp only
  refine s_seq (s_forT (all := xs) (gv_var rfl) fun M2 g2 => ?_)
  have e2 := g2 p _ e1
  let one : D → List D := fun it => it :: ((bodiesD it).getD []).flatMap (itemsD (n - 1))
  have eI : itemsD n (.tup xs) = xs.flatMap one := by
    cases n with
    | zero =>
      cases xs with
      | nil => rfl
      | cons a r => cases hb
    | succ n => rfl
  have q : ∀ M' p, Grow M M' → M p = none → M' p = some (.ls (xs.flatMap one)) → Q (.ob p) M' := by
    rw [← eI]
    exact q
  rw [eI] at few
  have good : ∀ it, it ∈ xs → (∃ m, n = m + 1) ∧ isItem it = true ∧ ((bodiesD it).getD []).all (isBody (n - 1)) = true := fun it hit => by
    cases n with
    | zero =>
      cases xs with
      | nil => cases hit
      | cons => cases hb
    | succ n =>
      rw [isBody_eq, Bool.and_eq_true] at hb
      have z := List.all_eq_true.mp hb.2 it hit
      rw [Bool.and_eq_true] at z
      exact ⟨⟨n, rfl⟩, z.1, z.2⟩
  have total : ∀ done rest, xs = done ++ rest → (done.flatMap one).length + (rest.flatMap one).length ≤ 4210 := fun done rest e => by
    rw [e, List.flatMap_append, List.length_append] at few
    omega
  refine loopI (fun r ρ M3 => Grow M M3 ∧ ∃ p o2 o3 done, M p = none ∧ ρ = [some (.tup xs), some (.ob p), o2, o3] ∧ xs = done ++ r ∧ M3 p = some (.ls (done.flatMap one))) (fun ρ M3 ⟨g3, p, o2, o3, done, np, eρ, ex, ep⟩ => ?_) (fun it r ρ M3 ⟨g3, p, o2, o3, done, np, eρ, ex, ep⟩ N hN => ?_) _ _ _ ⟨g1.trans g2, p, none, none, [], np, rfl, rfl, e2⟩
  · subst eρ
    rw [show done = xs by rw [ex, List.append_nil]] at ep
    exact (s_ret (gv_var rfl) fun M4 g4 => q M4 p (g3.trans g4) np (g4 p _ ep) : dRet (dVar 1) { nx := fun _ M' => Q .non M', rt := Q } [some (.tup xs), some (.ob p), o2, o3] M3)
  · subst eρ
    have hit : it ∈ xs := by rw [ex]; simp
    obtain ⟨⟨m, rfl⟩, hI, hB⟩ := good it hit
    rw [hsp m rfl]
    obtain ⟨bs, eb, okb⟩ := item_bodies hI
    rw [eb, Option.getD_some] at hB
    have eO : one it = it :: bs.flatMap (itemsD m) := by
      show it :: ((bodiesD it).getD []).flatMap (itemsD m) = _
      rw [eb]
      rfl
    have tot := total done (it :: r) ex
    rw [List.flatMap_cons, List.length_append, eO, List.length_cons] at tot
    refine s_seq (s_append (ρ := [some (.tup xs), some (.ob p), some it, o3]) (gv_var rfl) (gv_var rfl) ep (szl _ (by show (done.flatMap one).length < 4210; omega)) fun M4 g4 => ?_)
    have g04 : Grow M (mset M4 p (.ls (done.flatMap one ++ [it]))) := (g3.trans g4).put np
    dsimp only
    refine s_forX (all := bs) (ρ := [some (.tup xs), some (.ob p), some it, o3]) (show Gx _ _ _ bs from ?_) fun M5 pb g5 npb epb => ?_
    · have z : fBodiesL [it] = bs := by
        show (bodiesD it).getD [] = bs
        rw [eb]
        rfl
      rw [← z]
      obtain ⟨k, r, ek⟩ := item_pre hI
      exact gx_call (ga_cons (gv_var rfl) ga_nil) fun M1 g => ⟨k, r, by rw [ek]⟩
    have g05 := g04.trans g5
    have e5 := g5 p _ mset_same
    refine loopI (fun r2 ρ M6 => Grow M5 M6 ∧ ∃ p o3 done2, M p = none ∧ ρ = [some (.tup xs), some (.ob p), some it, o3] ∧ bs = done2 ++ r2 ∧ M6 p = some (.ls (done.flatMap one ++ [it] ++ done2.flatMap (itemsD m)))) (fun ρ M6 ⟨g6, p, o3, done2, np, eρ, ex2, ep2⟩ => ?_) (fun b r2 ρ M6 ⟨g6, p, o3, done2, np, eρ, ex2, ep2⟩ N2 hN2 => ?_) _ _ _ ⟨Grow.refl _, p, o3, [], np, rfl, rfl, by rw [List.flatMap_nil, List.append_nil]; exact e5⟩
    · rw [show done2 = bs by rw [ex2, List.append_nil]] at ep2
      refine hN _ M6 True.intro ⟨g05.trans g6, p, some it, o3, done ++ [it], np, eρ, by rw [ex]; simp, ?_⟩
      rw [ep2, List.flatMap_append, List.flatMap_cons, List.flatMap_nil, eO]
      simp
    · subst eρ
      have hbm : b ∈ bs := by rw [ex2]; simp
      have g06 := g05.trans g6
      have okB := okb M6 (ok_tup.1 (Ok.grow g06 _ hd) it hit) b hbm
      have bB := List.all_eq_true.mp hB b hbm
      have tot2 : (done2.flatMap (itemsD m)).length + (itemsD m b).length ≤ (bs.flatMap (itemsD m)).length := by
        rw [ex2, List.flatMap_append, List.flatMap_cons, List.length_append, List.length_append]
        omega
      refine s_setL (ρ := [some (.tup xs), some (.ob p), some it, some b]) (xs := (done.flatMap one ++ [it] ++ done2.flatMap (itemsD m)) ++ fItems m [b]) (gl_at (gv_var rfl) ep2 (gx_call (ga_cons (gv_var rfl) ga_nil) fun M7 g7 => ⟨b, rfl, bB, Ok.grow g7 _ okB⟩) (sz _ ?_)) fun M7 p7 g7 np7 ep7 => ?_
      · show _ + (itemsD m b).length ≤ _
        rw [List.length_append, List.length_append, List.length_singleton]
        omega
      · refine hN2 _ _ (msq_ls (g7 pb _ (g6 pb _ epb))) ⟨g6.trans g7, p7, some b, done2 ++ [b], fresh_of g06 np7, rfl, by rw [ex2]; simp, ?_⟩
        rw [ep7, List.flatMap_append, List.flatMap_cons, List.flatMap_nil, List.append_nil, List.append_assoc, List.append_assoc, List.append_assoc]
        rfl
theorem ok_litems0 (T : Tx K mg w) : FnOk P w K mg base CX0 2 T.f__law_items.f T.f__law_items.fd ["body"] (LSp K (spL (preItems 0) (fItems 0))) :=
  litems_step T (sp := fun _ _ _ => False) (by decide) (fun m h => nomatch h) (by decide) (dfun T.f__law_items.F sc__law_items (fun _ _ _ h => h.elim) fun _ _ _ _ _ _ _ => ⟨fun _ _ _ => False, PSs.none, fun _ _ _ h => h.elim⟩)
theorem ok_litems (T : Tx K mg w) : ∀ n, n ≤ 3 → FnOk P w K mg base CX0 (n + 2) T.f__law_items.f T.f__law_items.fd ["body"] (LSp K (spL (preItems n) (fItems n)))
  | 0, _ => ok_litems0 T
  | n + 1, h => litems_step T (sp := spL (preItems n) (fItems n)) h (fun m e => by cases e; rfl) (by omega) (ok_litems T n (by omega))
/-- a promise of a new dict by the procs' names -/
def spProcsD : DSp := fun ds M Q => ∃ k ps, ds = [.tup [k, .tup ps]] ∧ ps.all isProc = true ∧ ps.length ≤ 1000 ∧ ∀ M' p, Grow M M' → M p = none → M' p = some (.dc (dictOf (fun d => .inr (nmP d)) (fun d => d) ps)) → Q (.ob p) M'
theorem sz2 (a b : D) : [a, b].length ≤ sizeLine := by
  rw [sizeLine_eq]
  show 2 ≤ _
  omega
theorem pairs_procs : ∀ {ps : List D}, ps.all isProc = true → pairsOf (ps.map fun p => .tup [.str (nmP p), p]) = some (ps.map fun p => (.inr (nmP p), p))
  | [], _ => rfl
  | p :: ps, h => by
    rw [List.all_cons, Bool.and_eq_true] at h
    rw [List.map_cons, List.map_cons]
    unfold pairsOf
    rw [pairs_procs h.2]
    rfl
theorem merge_dictOf (ps : List D) : mergeD [] (ps.map fun p => ((.inr (nmP p), p) : Key × D)) = dictOf (fun d => .inr (nmP d)) (fun d => d) ps := by
  unfold mergeD dictOf
  rw [List.foldl_map]
theorem ok__law_procs (T : Tx K mg w) : FnOk P w K mg base CX0 1 T.f__law_procs.f T.f__law_procs.fd ["library"] (LSp K spProcsD) := by
  refine dfun T.f__law_procs.F sc__law_procs (fun ds M Q ⟨k, ps, e, _⟩ => by rw [e]; rfl) fun cdv A outer s H E hr => ⟨_, (ds_one (ds_ret (d_dict rfl T.b_dict (da_cons (d_lc rfl sc__law_procs.nd (di_any (d_ixA (hu1 hr) (dv 0) dint)) (blkOk_by (own := [("proc", 1)]) (N := ["library", "proc"]) (sc := defScope s__law_procs) (by decide +kernel)) (by decide) (fun _ _ _ _ _ => pg_name (i := 1) sc__law_procs.nd rfl (Or.inl rfl)) (fun _ _ _ _ _ => dts_nil) (fun _ _ _ _ _ => (d_tup (da_cons (d_ixA (hu1 hr) (dv 1) dint) (da_cons (dv 1) da_nil))))) da_nil)))), ?_⟩
  rintro ds M Q ⟨k, ps, rfl, hp, hl, q⟩
  have g : Gd (dCB dDictP (dCons (dLc (dwA (dOp dIx (dVar 0) (dC (.int 1)))) 1 dYes (dTup (dCons (dOp dIx (dVar 1) (dC (.int 1))) (dCons (dVar 1) dNil))) (List.map (fun x => x.snd) [(Str.ofString "proc", 1)])) dNil)) (dstart ["library", "proc"].length [D.tup [k, .tup ps]]) M (mergeD [] (ps.map fun p => ((.inr (nmP p), p) : Key × D))) := by
    refine gv_dictP (gl_lc (fun p => .tup [.str (nmP p), p]) (gi_tup (gv_op (gv_var rfl) gv_c (rv_ixT (atI_nat (n := 1) rfl)))) (by rw [sizeLine_eq]; omega) fun p hm => ?_) (pairs_procs hp)
    obtain ⟨x, b, rfl, _, _⟩ := proc_shape (List.all_eq_true.mp hp p hm)
    exact gv_tup (ga_cons (gv_op (gv_var rfl) gv_c (rv_ixT (atI_nat (n := 1) rfl))) (ga_cons (gv_var rfl) ga_nil)) (sz2 _ _)
  rw [merge_dictOf] at g
  exact g M (Grow.refl M) _ q
/-- a promise: can the body end, calls within lot -/
def spCan (n : Nat) : DSp := fun ds M Q => ∃ (d : D) (a : Addr) (ss : List Str), ds = [d, .ob a] ∧ isBody n d = true ∧ Ok M d ∧ M a = some (.ls (ss.map D.str)) ∧ ∀ M', Grow M M' → Q (.bl (canD n (fun s => decide (s ∈ ss)) d)) M'
theorem if_bodies {it : D} (h : isItem it = true) (hf : st0 it = "if") : ∃ a b ds, it = .tup ds ∧ ds[3]? = some a ∧ ds[4]? = some b ∧ bodiesD it = some [a, b] := by
  cases item_shape h with
  | stp s l as => exact nomatch (show ("do" : Str) = "if" from hf)
  | iff s as a b => exact ⟨a, b, _, rfl, rfl, rfl, rfl⟩
  | whl s as a => exact nomatch (show ("while" : Str) = "if" from hf)
  | cal s h => exact nomatch (show ("call" : Str) = "if" from hf)
theorem can_step (T : Tx K mg w) {n k : Nat} {sp : DSp} (hsp : ∀ m, n = m + 1 → sp = spCan m) (G : FnOk P w K mg base CX0 k T.f__law_can.f T.f__law_can.fd ["body", "lot"] (LSp K sp)) :
    FnOk P w K mg base CX0 (k + 1) T.f__law_can.f T.f__law_can.fd ["body", "lot"] (LSp K (spCan n)) := by
  refine dfun T.f__law_can.F sc__law_can (fun ds M Q ⟨d, a, ss, e, _⟩ => by rw [e]; rfl) fun cdv A outer s H E hr => ⟨_, (ds_cons (ds_for PassesOwn.never rfl (di_any (dv 0)) (dg_name (i := 2) sc__law_can.nd) (ds_one (ds_if (PW.pt (d_or (PW.pt (d_and (d_eqT (hu0 hr) (d_ixA (hu1 hr) (dv 2) dint) dstr) (d_and1 (d_ninT (hu1 hr) (d_ixA (hu1 hr) (dv 2) dint) (dv 1))))) (d_or1 (PW.pt (d_and (d_eqT (hu0 hr) (d_ixA (hu1 hr) (dv 2) dint) dstr) (d_and1 (d_not (PW.pt (d_or (d_val (d_fn (fn := T.f__law_can) G (hr.mono (by first | decide | omega)) (da_cons (d_ixA (hu1 hr) (dv 2) dint) (da_cons (dv 1) da_nil)))) (d_or1 (d_val (d_fn (fn := T.f__law_can) G (hr.mono (by first | decide | omega)) (da_cons (d_ixA (hu1 hr) (dv 2) dint) (da_cons (dv 1) da_nil)))))))))))))) (ds_one (ds_ret dbl)) ds_nil))) (ds_one (ds_ret dbl))), ?_⟩
  rintro ds M Q ⟨d, lot, ss, rfl, hb, hd, eM, q⟩
  obtain ⟨xs, rfl⟩ := body_tup hb
  let inn : Str → Bool := fun s => decide (s ∈ ss)
  let ok1 : D → Bool := fun it => if st0 it = "call" then inn (st2 it) else if st0 it = "if" then ((bodiesD it).getD []).any (canD (n - 1) inn) else true
  have eC : canD n inn (.tup xs) = xs.all ok1 := by
    cases n with
    | zero =>
      cases xs with
      | nil => rfl
      | cons => cases hb
    | succ n => rfl
  have q : ∀ M', Grow M M' → Q (.bl (xs.all ok1)) M' := by
    rw [← eC]
    exact q
  have good : ∀ it, it ∈ xs → (∃ m, n = m + 1) ∧ isItem it = true ∧ ((bodiesD it).getD []).all (isBody (n - 1)) = true := fun it hit => by
    cases n with
    | zero =>
      cases xs with
      | nil => cases hit
      | cons => cases hb
    | succ n =>
      rw [isBody_eq, Bool.and_eq_true] at hb
      have z := List.all_eq_true.mp hb.2 it hit
      rw [Bool.and_eq_true] at z
      exact ⟨⟨n, rfl⟩, z.1, z.2⟩
  refine s_seq (s_forT (all := xs) (gv_var rfl) fun M2 g2 => ?_)
  refine loopI (fun r ρ M3 => Grow M M3 ∧ ∃ o2 done, ρ = [some (.tup xs), some (.ob lot), o2] ∧ xs = done ++ r ∧ done.all ok1 = true) (fun ρ M3 ⟨g3, o2, done, eρ, ex, ef⟩ => ?_) (fun it r ρ M3 ⟨g3, o2, done, eρ, ex, ef⟩ N hN => ?_) _ _ _ ⟨g2, none, [], rfl, rfl, rfl⟩
  · subst eρ
    rw [ex, List.append_nil, ef] at q
    exact (s_ret gv_c fun M4 g4 => q M4 (g3.trans g4) : dRet (dC (.bl true)) { nx := fun _ M' => Q .non M', rt := Q } [some (.tup xs), some (.ob lot), o2] M3)
  · subst eρ
    have hit : it ∈ xs := by rw [ex]; simp
    obtain ⟨⟨m, rfl⟩, hI, hB⟩ := good it hit
    rw [hsp m rfl]
    have oki : Ok M3 it := ok_tup.1 (Ok.grow g3 _ hd) it hit
    obtain ⟨bs, eb, okb⟩ := item_bodies hI
    rw [eb, Option.getD_some] at hB
    have eK : M3 lot = some (.ls (ss.map D.str)) := g3 lot _ eM
    obtain ⟨ds, ei, i0, _, i2⟩ := shape_ix (item_shape hI)
    have x0 : Gv (dOp dIx (dVar 2) (dC (.int 0))) [some (.tup xs), some (.ob lot), some it] M3 (.str (st0 it)) := by
      refine gv_op (gv_var rfl) gv_c ?_
      rw [show Rv dIx it (.int 0) M3 (.str (st0 it)) = Rv dIx (.tup ds) (.int 0) M3 (.str (st0 it)) by rw [← ei]]
      exact rv_ixT (atI_nat (n := 0) i0)
    have t1 : Gt (dAnd (dT (dOp (dEq false) (dOp dIx (dVar 2) (dC (.int 0))) (dC (.str "call")))) (dT (dOp (dInA true) (dOp dIx (dVar 2) (dC (.int 2))) (dVar 1)))) [some (.tup xs), some (.ob lot), some it] M3 (decide (st0 it = "call") && !inn (st2 it)) := gt_and (gt_t (gv_op x0 gv_c rv_eqS)) fun h => gt_t (gv_op (gv_op (gv_var rfl) gv_c (by
      rw [show Rv dIx it (.int 2) M3 (.str (st2 it)) = Rv dIx (.tup ds) (.int 2) M3 (.str (st2 it)) by rw [← ei]]
      exact rv_ixT (atI_nat (n := 2) (i2 (of_decide_eq_true h))))) (gv_var rfl) (rv_ninL eK))
    have t2 : Gt (dAnd (dT (dOp (dEq false) (dOp dIx (dVar 2) (dC (.int 0))) (dC (.str "if")))) (dNot (dOr (dT (dCall (spCan m) (dCons (dOp dIx (dVar 2) (dC (.int 3))) (dCons (dVar 1) dNil)))) (dT (dCall (spCan m) (dCons (dOp dIx (dVar 2) (dC (.int 4))) (dCons (dVar 1) dNil))))))) [some (.tup xs), some (.ob lot), some it] M3 (decide (st0 it = "if") && !bs.any (canD m inn)) := gt_and (gt_t (gv_op x0 gv_c rv_eqS)) fun h => gt_not (by
      obtain ⟨a, b, ds2, ei2, i3, i4, ebs⟩ := if_bodies hI (of_decide_eq_true h)
      rw [eb] at ebs
      cases ebs
      have z : [a, b].any (canD m inn) = (canD m inn a || canD m inn b) := by simp
      rw [z]
      have ha : isBody m a = true := List.all_eq_true.mp hB a (by simp)
      have hb2 : isBody m b = true := List.all_eq_true.mp hB b (by simp)
      have rx : ∀ (j : Nat) (v : D), ds2[j]? = some v → Rv dIx it (.int j) M3 v := fun j v h => by
        rw [show Rv dIx it (.int j) M3 v = Rv dIx (.tup ds2) (.int j) M3 v by rw [← ei2]]
        exact rv_ixT (atI_nat h)
      refine gt_or (gt_t (gv_call (ga_cons (gv_op (gv_var rfl) gv_c (rx 3 a i3)) (ga_cons (gv_var rfl) ga_nil)) fun M4 g4 Q2 q2 => ⟨a, lot, ss, rfl, ha, okb M4 (Ok.grow g4 _ oki) a (by simp), g4 lot _ eK, q2⟩)) fun _ => gt_t (gv_call (ga_cons (gv_op (gv_var rfl) gv_c (rx 4 b i4)) (ga_cons (gv_var rfl) ga_nil)) fun M4 g4 Q2 q2 => ⟨b, lot, ss, rfl, hb2, okb M4 (Ok.grow g4 _ oki) b (by simp), g4 lot _ eK, q2⟩))
    have eO : ok1 it = !((decide (st0 it = "call") && !inn (st2 it)) || (decide (st0 it = "if") && !bs.any (canD m inn))) := by
      show (if st0 it = "call" then inn (st2 it) else if st0 it = "if" then ((bodiesD it).getD []).any (canD m inn) else true) = _
      rw [eb, Option.getD_some]
      by_cases hc : st0 it = "call"
      · rw [if_pos hc, decide_eq_true hc, decide_eq_false (by rw [hc]; decide)]
        cases inn (st2 it) <;> rfl
      · rw [if_neg hc, decide_eq_false hc]
        by_cases hf : st0 it = "if"
        · rw [if_pos hf, decide_eq_true hf]
          cases bs.any (canD m inn) <;> rfl
        · rw [if_neg hf, decide_eq_false hf]
          rfl
    show dIfS _ _ _ _ [some (.tup xs), some (.ob lot), some it] M3
    refine s_if (gt_or t1 fun _ => t2) (fun hbad M4 g4 => ?_) fun hgood M4 g4 => ?_
    · rw [hbad] at eO
      have e : xs.all ok1 = false := by
        rw [ex, List.all_append, List.all_cons, eO]
        simp
      rw [e] at q
      exact s_ret gv_c fun M5 g5 => q M5 ((g3.trans g4).trans g5)
    · rw [hgood] at eO
      exact hN _ M4 True.intro ⟨g3.trans g4, some it, done ++ [it], rfl, by rw [ex]; simp, by rw [List.all_append, ef, List.all_cons, eO]; rfl⟩
theorem ok_can0 (T : Tx K mg w) : FnOk P w K mg base CX0 2 T.f__law_can.f T.f__law_can.fd ["body", "lot"] (LSp K (spCan 0)) :=
  can_step T (k := 1) (sp := fun _ _ _ => False) (fun m h => nomatch h) (dfun T.f__law_can.F sc__law_can (fun _ _ _ h => h.elim) fun _ _ _ _ _ _ _ => ⟨fun _ _ _ => False, PSs.none, fun _ _ _ h => h.elim⟩)
theorem ok_can (T : Tx K mg w) : ∀ n, FnOk P w K mg base CX0 (n + 2) T.f__law_can.f T.f__law_can.fd ["body", "lot"] (LSp K (spCan n))
  | 0 => ok_can0 T
  | n + 1 => can_step T (sp := spCan n) (fun m e => by cases e; rfl) (ok_can T n)
end
end DL

/-! J13: the law's look at bodies. -/
namespace DL
open PySem PySem.Spec PyProof.Rows L2
theorem lens_in {k : Str} : (lens.lookup k).isSome = decide (k ∈ (["do", "if", "while", "call"] : List Str)) := by
  cases hn : lens.lookup k with
  | some n =>
    have : k ∈ (["do", "if", "while", "call"] : List Str) := by
      rcases lens_cases hn with ⟨rfl, _⟩ | ⟨rfl, _⟩ | ⟨rfl, _⟩ | ⟨rfl, _⟩ <;> simp
    rw [decide_eq_true this]
    rfl
  | none =>
    have : ¬ k ∈ (["do", "if", "while", "call"] : List Str) := fun h => by
      simp only [List.mem_cons, List.not_mem_nil, or_false] at h
      rcases h with rfl | rfl | rfl | rfl <;> (revert hn; decide)
    rw [decide_eq_false this]
    rfl
theorem item_eq {k : Str} {n : Int} {s : D} {r : List D} {ar : D} (hn : lens.lookup k = some n) (hl : ((s :: r).length + 1 : Int) = n) (ea : argsD (.tup (.str k :: s :: r)) = some ar) : isItem (.tup (.str k :: s :: r)) = (isName s && (if k = "do" ∨ k = "call" then nmAt (s :: r) 1 else true) && isNames ar) := by
  rw [isItem_eq]
  rw [hn]
  dsimp only
  rw [ea, decide_eq_true hl, Bool.true_and]
  rfl
section
variable {P : Program} {w : World} {K : PySem.W.Frag} {mg : Str → Option Value} {base : Heap}
theorem lbody_step (T : Tx K mg w) {n k : Nat} {sp : DSp} (hsp : ∀ m, n = m + 1 → sp = spF (fBody m)) (hk : 2 ≤ k) (G : FnOk P w K mg base CX0 k T.f__law_is_body.f T.f__law_is_body.fd ["thing", "deep"] (LSp K sp)) :
    FnOk P w K mg base CX0 (k + 1) T.f__law_is_body.f T.f__law_is_body.fd ["thing", "deep"] (LSp K (spF (fBody n))) := by
  refine dfun T.f__law_is_body.F sc__law_is_body (spF_len fun ds v e => by unfold fBody at e; split at e <;> first | rfl | cases e) fun cdv A outer s H E hr => ⟨_, (ds_cons (ds_if (PW.pt (d_or (d_not (d_val (d_isi T.b_isinstance (da_cons (dv 0) (da_cons (dbt rfl T.b_tuple rfl) da_nil))))) (d_or (d_gtT (d_len T.b_len (da_cons (dv 0) da_nil)) dint) (d_or1 (PW.pt (d_and (d_eqT (hu0 hr) (dv 1) dint) (d_and1 (d_neT (hu0 hr) (dv 0) (d_tup da_nil))))))))) (ds_one (ds_ret dbl)) ds_nil) (ds_cons (ds_for PassesOwn.never rfl (di_any (dv 0)) (dg_name (i := 2) sc__law_is_body.nd) (ds_cons (ds_if (PW.pt (d_or (d_not (d_val (d_isi T.b_isinstance (da_cons (dv 2) (da_cons (dbt rfl T.b_tuple rfl) da_nil))))) (d_or (d_ltT (d_len T.b_len (da_cons (dv 2) da_nil)) dint) (d_or (d_not (d_val (d_isi T.b_isinstance (da_cons (d_ixA (hu1 hr) (dv 2) dint) (da_cons (dbt rfl T.b_str rfl) da_nil))))) (d_or1 (d_not (d_val (d_fn (fn := T.f__law_is_name) (ok__law_is_name T) (hr.mono (by first | decide | omega)) (da_cons (d_ixA (hu1 hr) (dv 2) dint) da_nil))))))))) (ds_one (ds_ret dbl)) ds_nil) (ds_cons (ds_if (PW.pt (d_or (d_ninT (hu1 hr) (d_ixA (hu1 hr) (dv 2) dint) (d_lst (da_cons dstr (da_cons dstr (da_cons dstr (da_cons dstr da_nil)))))) (d_or1 (d_neT (hu0 hr) (d_len T.b_len (da_cons (dv 2) da_nil)) (d_ifE (d_eqT (hu0 hr) (d_ixA (hu1 hr) (dv 2) dint) dstr) dint (d_ifE (d_eqT (hu0 hr) (d_ixA (hu1 hr) (dv 2) dint) dstr) dint dint)))))) (ds_one (ds_ret dbl)) ds_nil) (ds_cons (ds_if (PW.pt (d_and (d_inT (hu1 hr) (d_ixA (hu1 hr) (dv 2) dint) (d_lst (da_cons dstr (da_cons dstr da_nil)))) (d_and1 (d_not (d_val (d_fn (fn := T.f__law_is_name) (ok__law_is_name T) (hr.mono (by first | decide | omega)) (da_cons (d_ixA (hu1 hr) (dv 2) dint) da_nil))))))) (ds_one (ds_ret dbl)) ds_nil) (ds_cons (ds_set (i := 3) sc__law_is_body.nd (d_fn (fn := T.f__law_args) (ok__law_args T) (hr.mono (by first | decide | omega)) (da_cons (dv 2) da_nil))) (ds_cons (ds_if (PW.pt (d_or (d_not (d_val (d_isi T.b_isinstance (da_cons (dv 3) (da_cons (dbt rfl T.b_tuple rfl) da_nil))))) (d_or (d_gtT (d_len T.b_len (da_cons (dv 3) da_nil)) dint) (d_or1 (d_neT (hu0 hr) (d_lc rfl sc__law_is_body.nd (di_any (dv 3)) (blkOk_by (own := [("one", 4)]) (N := ["thing", "deep", "item", "args", "one", "inner"]) (sc := defScope s__law_is_body) (by decide +kernel)) (by decide) (fun _ _ _ _ _ => pg_name (i := 4) sc__law_is_body.nd rfl (Or.inl rfl)) (fun _ _ _ _ _ => (dts_one (d_not (d_val (d_fn (fn := T.f__law_is_name) (ok__law_is_name T) (hr.mono (by first | decide | omega)) (da_cons (dv 4) da_nil)))))) (fun _ _ _ _ _ => (dv 4))) (d_lst da_nil)))))) (ds_one (ds_ret dbl)) ds_nil) (ds_one (ds_if (d_neT (hu0 hr) (d_lc rfl sc__law_is_body.nd (di_any (d_fn (fn := T.f__law_bodies) (ok__law_bodies T) (hr.mono (by first | decide | omega)) (da_cons (dv 2) da_nil))) (blkOk_by (own := [("inner", 5)]) (N := ["thing", "deep", "item", "args", "one", "inner"]) (sc := defScope s__law_is_body) (by decide +kernel)) (by decide) (fun _ _ _ _ _ => pg_name (i := 5) sc__law_is_body.nd rfl (Or.inl rfl)) (fun _ _ _ _ _ => (dts_one (d_not (d_val (d_fn (fn := T.f__law_is_body) G (hr.mono (by first | decide | omega)) (da_cons (dv 5) (da_cons (d_sub (dv 1) dint) da_nil))))))) (fun _ _ _ _ _ => (dv 5))) (d_lst da_nil)) (ds_one (ds_ret dbl)) ds_nil)))))))) (ds_one (ds_ret dbl)))), ?_⟩
  rintro ds M Q ⟨v, e, hd, q⟩
  unfold fBody at e
  split at e
  · rename_i d m
    by_cases em : m = n
    · subst em
      rw [if_pos rfl] at e
      cases e
      have hd1 := hd.1
      have no : isBody n d = false → ∀ M1, Grow M M1 → ∀ (E' : DEnds) (ρ : DSt), E'.rt = Q → dRet (dC (.bl false)) E' ρ M1 := fun e M1 g1 E' ρ eE => by
        rw [e] at q
        exact s_ret gv_c fun M2 g2 => by rw [eE]; exact q M2 (g1.trans g2)
      cases hs : isTup d with
      | false =>
        have e : isBody n d = false := by
          cases d with
          | tup _ => cases hs
          | _ => cases n <;> rfl
        exact s_guard1 (gt_or1 (gt_not (b := false) (gt_isT (gv_var rfl) hd1 hs))) fun M1 g1 => no e M1 g1 _ _ rfl
      | true =>
        obtain ⟨xs, rfl⟩ := isTup_ex hs
        have t0 : Gt (dNot (dT (dCB dIsI (dCons (dVar 0) (dCons (dC (.ty "tuple")) dNil))))) (dstart ["thing", "deep", "item", "args", "one", "inner"].length [D.tup xs, .int n]) M false := gt_not (b := true) (gt_isT (gv_var rfl) hd1 rfl)
        refine s_guard (b := decide ((10 : Int) < xs.length) || (decide ((n : Int) = 0) && !xs.isEmpty)) (gt_or0 t0 (gt_or (gt_t (gv_op (gv_cb (ga_cons (gv_var rfl) ga_nil) rc_lenT) gv_c rv_gt)) fun _ => gt_and (gt_t (gv_op (gv_var rfl) gv_c rv_eqI)) fun _ => gt_t (gv_op (gv_var rfl) (gv_tup ga_nil (Nat.zero_le _)) rv_neT))) (fun hb M1 g1 => no ?_ M1 g1 _ _ rfl) fun hb M1 g1 => ?_
        · cases n with
          | zero =>
            cases xs with
            | nil => simp at hb
            | cons => rfl
          | succ n =>
            rw [decide_eq_false (show ¬ (((n + 1 : Nat) : Int) = 0) by omega)] at hb
            rw [isBody_eq]
            by_cases z : (10 : Int) < xs.length
            · rw [decide_eq_false (show ¬ (xs.length : Int) ≤ 10 by omega)]
              rfl
            · rw [decide_eq_false z] at hb
              cases hb
        · have l10 : (xs.length : Int) ≤ 10 := by
            by_cases z : (10 : Int) < xs.length
            · rw [decide_eq_true z] at hb
              cases hb
            · omega
          rw [decide_eq_false (show ¬ (10 : Int) < xs.length by omega), Bool.false_or] at hb
          have good : ∀ it, it ∈ xs → ∃ m, n = m + 1 := fun it hit => by
            cases n with
            | zero =>
              cases xs with
              | nil => cases hit
              | cons => simp at hb
            | succ n => exact ⟨n, rfl⟩
          let okI : D → Bool := fun it => isItem it && ((bodiesD it).getD []).all (isBody (n - 1))
          have eB : isBody n (.tup xs) = xs.all okI := by
            cases n with
            | zero =>
              cases xs with
              | nil => rfl
              | cons a r =>
                obtain ⟨m, z⟩ := good a List.mem_cons_self
                cases z
            | succ n => rw [isBody_eq, decide_eq_true l10, Bool.true_and]; rfl
          rw [eB] at q
          refine s_seq (s_forT (all := xs) (gv_var rfl) fun M2 g2 => ?_)
          refine loopI (fun r ρ M3 => Grow M2 M3 ∧ ∃ o2 o3 done, ρ = [some (.tup xs), some (.int n), o2, o3, none, none] ∧ xs = done ++ r ∧ done.all okI = true) (fun ρ M3 ⟨g3, o2, o3, done, eρ, ex, hallD⟩ => ?_) (fun it r ρ M3 ⟨g3, o2, o3, done, eρ, ex, hallD⟩ N hN => ?_) _ _ _ ⟨Grow.refl _, none, none, [], rfl, rfl, rfl⟩
          · have e : xs.all okI = true := by rw [ex, List.append_nil]; exact hallD
            rw [e] at q
            exact (s_ret gv_c fun M4 g4 => q M4 (((g1.trans g2).trans g3).trans g4) : dRet (dC (.bl true)) { nx := fun _ M' => Q .non M', rt := Q } ρ M3)
          · subst eρ
            have hit : it ∈ xs := by rw [ex]; simp
            obtain ⟨m, rfl⟩ := good it hit
            rw [hsp m rfl]
            have g03 := (g1.trans g2).trans g3
            have oki : Ok M3 it := ok_tup.1 (Ok.grow g03 _ hd1) it hit
            have bad : okI it = false → ∀ M4, Grow M3 M4 → ∀ (E' : DEnds) (ρ : DSt), E'.rt = Q → dRet (dC (.bl false)) E' ρ M4 := fun h M4 g4 E' ρ eE => by
              have e : xs.all okI = false := by
                rw [ex, List.all_append, List.all_cons, h]
                simp
              rw [e] at q
              exact s_ret gv_c fun M5 g5 => by rw [eE]; exact q M5 ((g03.trans g4).trans g5)
            have badI : isItem it = false → ∀ M4, Grow M3 M4 → ∀ (E' : DEnds) (ρ : DSt), E'.rt = Q → dRet (dC (.bl false)) E' ρ M4 := fun h => bad (by show (isItem it && _) = false; rw [h]; rfl)
            show dSeq _ _ _ [some (.tup xs), some (.int ((m + 1 : Nat) : Int)), some it, o3, none, none] M3
            cases hs2 : isTup it with
            | false =>
              have e : isItem it = false := by cases it <;> first | rfl | cases hs2
              exact s_guard1 (gt_or1 (gt_not (b := false) (gt_isT (gv_var rfl) oki hs2))) fun M4 g4 => badI e M4 g4 _ _ rfl
            | true =>
              obtain ⟨ys, rfl⟩ := isTup_ex hs2
              have t1 : Gt (dNot (dT (dCB dIsI (dCons (dVar 2) (dCons (dC (.ty "tuple")) dNil))))) [some (.tup xs), some (.int ((m + 1 : Nat) : Int)), some (.tup ys), o3, none, none] M3 false := gt_not (b := true) (gt_isT (gv_var rfl) oki rfl)
              have t2 : Gt (dT (dOp dLt (dCB dLenA (dCons (dVar 2) dNil)) (dC (.int 3)))) [some (.tup xs), some (.int ((m + 1 : Nat) : Int)), some (.tup ys), o3, none, none] M3 (decide ((ys.length : Int) < 3)) := gt_t (gv_op (gv_cb (ga_cons (gv_var rfl) ga_nil) rc_lenT) gv_c rv_lt)
              by_cases l3 : (ys.length : Int) < 3
              · have e : isItem (.tup ys) = false := by
                  match ys, l3 with
                  | [], _ => rfl
                  | a :: r, l3 =>
                    cases hs3 : isStr a with
                    | false => cases a <;> first | rfl | cases hs3
                    | true =>
                      obtain ⟨k, rfl⟩ := isStr_ex hs3
                      rw [isItem_eq]
                      cases hn : lens.lookup k with
                      | none => rfl
                      | some n =>
                        dsimp only
                        have ne : ¬ ((r.length + 1 : Int) = n) := fun h => by
                          rw [List.length_cons] at l3
                          rcases lens_cases hn with ⟨_, rfl⟩ | ⟨_, rfl⟩ | ⟨_, rfl⟩ | ⟨_, rfl⟩ <;> omega
                        rw [decide_eq_false ne]
                        rfl
                exact s_guard1 (gt_or0 t1 (gt_or1 (gt_eq t2 (decide_eq_true l3)))) fun M4 g4 => badI e M4 g4 _ _ rfl
              · obtain ⟨a, s, y2, ys3, rfl⟩ : ∃ a s y2 ys3, ys = a :: s :: y2 :: ys3 := by
                  match ys, l3 with
                  | a :: s :: y2 :: ys3, _ => exact ⟨a, s, y2, ys3, rfl⟩
                  | [], l => exact absurd (by decide) l
                  | [a], l => exact absurd (by simp) l
                  | [a, b], l => exact absurd (by simp) l
                have okA : Ok M3 a := ok_tup.1 oki a (by simp)
                have okS : Ok M3 s := ok_tup.1 oki s (by simp)
                have ok2 : Ok M3 y2 := ok_tup.1 oki y2 (by simp)
                have x0 : ∀ (M4 : DM) (ρ : DSt), ρ[2]? = some (some (D.tup (a :: s :: y2 :: ys3))) → Gv (dOp dIx (dVar 2) (dC (.int 0))) ρ M4 a := fun M4 ρ h => gv_op (gv_var h) gv_c (rv_ixT (atI_nat (n := 0) rfl))
                have t2f := gt_eq t2 (decide_eq_false l3)
                cases hs3 : isStr a with
                | false =>
                  have e : isItem (.tup (a :: s :: y2 :: ys3)) = false := by cases a <;> first | rfl | cases hs3
                  exact s_guard1 (gt_or0 t1 (gt_or0 t2f (gt_or1 (gt_not (b := false) (gt_isS (x0 _ _ rfl) okA hs3))))) fun M4 g4 => badI e M4 g4 _ _ rfl
                | true =>
                  obtain ⟨k, rfl⟩ := isStr_ex hs3
                  have t4 : Gt (dNot (dT (dCall (spF fName) (dCons (dOp dIx (dVar 2) (dC (.int 1))) dNil)))) [some (.tup xs), some (.int ((m + 1 : Nat) : Int)), some (.tup (.str k :: s :: y2 :: ys3)), o3, none, none] M3 (!isName s) := gt_not (gt_t (gv_call (ga_cons (gv_op (gv_var rfl) gv_c (rv_ixT (atI_nat (n := 1) rfl))) ga_nil) (rc_spF rfl (okL_one okS))))
                  have badN : isName s = false → isItem (.tup (.str k :: s :: y2 :: ys3)) = false := fun h => by
                    rw [isItem_eq]
                    cases lens.lookup k with
                    | none => rfl
                    | some n =>
                      dsimp only
                      rw [show nmAt (s :: y2 :: ys3) 0 = isName s from rfl, h]
                      simp
                  refine s_guard (gt_or0 t1 (gt_or0 t2f (gt_or0 (gt_not (b := true) (gt_isS (x0 _ _ rfl) okA rfl)) t4))) (fun hb1 M4 g4 => badI (badN (by simpa using hb1)) M4 g4 _ _ rfl) fun hb1 M4 g4 => ?_
                  have hS : isName s = true := by simpa using hb1
                  have t5 : Gt (dT (dOp (dInA true) (dOp dIx (dVar 2) (dC (.int 0))) (dLst (dCons (dC (.str "do")) (dCons (dC (.str "if")) (dCons (dC (.str "while")) (dCons (dC (.str "call")) dNil))))))) [some (.tup xs), some (.int ((m + 1 : Nat) : Int)), some (.tup (.str k :: s :: y2 :: ys3)), o3, none, none] M4 (!(lens.lookup k).isSome) := by
                    rw [lens_in]
                    exact gt_t (gv_ninLst (ss := ["do", "if", "while", "call"]) (x0 _ _ rfl) (ga_cons gv_c (ga_cons gv_c (ga_cons gv_c (ga_cons gv_c ga_nil)))) (by decide))
                  cases hn : lens.lookup k with
                  | none =>
                    have e : isItem (.tup (.str k :: s :: y2 :: ys3)) = false := by rw [isItem_eq, hn]
                    rw [hn] at t5
                    exact s_guard1 (gt_or1 t5) fun M5 g5 => badI e M5 (g4.trans g5) _ _ rfl
                  | some n =>
                    rw [hn] at t5
                    have tn : Gv (dIf (dT (dOp (dEq false) (dOp dIx (dVar 2) (dC (.int 0))) (dC (.str "if")))) (dC (.int 5)) (dIf (dT (dOp (dEq false) (dOp dIx (dVar 2) (dC (.int 0))) (dC (.str "call")))) (dC (.int 3)) (dC (.int 4)))) [some (.tup xs), some (.int ((m + 1 : Nat) : Int)), some (.tup (.str k :: s :: y2 :: ys3)), o3, none, none] M4 (.int n) := by
                      refine gv_eq (gv_if (v := .int 5) (w := if decide (k = "call") = true then .int 3 else .int 4) (gt_t (gv_op (x0 _ _ rfl) gv_c rv_eqS)) (fun _ => gv_c) fun _ => gv_if (gt_t (gv_op (x0 _ _ rfl) gv_c rv_eqS)) (fun _ => gv_c) fun _ => gv_c) ?_
                      rcases lens_cases hn with ⟨rfl, rfl⟩ | ⟨rfl, rfl⟩ | ⟨rfl, rfl⟩ | ⟨rfl, rfl⟩ <;> rfl
                    refine s_guard (gt_or0 t5 (gt_t (gv_op (gv_cb (ga_cons (gv_var rfl) ga_nil) rc_lenT) tn rv_neI))) (fun hb2 M5 g5 => badI ?_ M5 (g4.trans g5) _ _ rfl) fun hb2 M5 g5 => ?_
                    · rw [isItem_eq, hn]
                      dsimp only
                      have ne : ¬ (((s :: y2 :: ys3).length + 1 : Int) = n) := by simpa using hb2
                      rw [decide_eq_false ne]
                      rfl
                    · have hl : ((s :: y2 :: ys3).length + 1 : Int) = n := by
                        have : (((D.str k :: s :: y2 :: ys3).length : Nat) : Int) = n := by simpa using hb2
                        rw [List.length_cons] at this
                        omega
                      obtain ⟨ar, ea, oka⟩ := args_some hn hl
                      have eI := item_eq hn hl ea
                      rw [hS, Bool.true_and] at eI
                      have g35 := g4.trans g5
                      -- behind the third guard
                      have rest : ∀ M6, Grow M5 M6 → isItem (.tup (.str k :: s :: y2 :: ys3)) = isNames ar → dSeq (dAsg (dCall (spF fArgs) (dCons (dVar 2) dNil)) (dName 3)) (dSeq (dIfS (dOr (dNot (dT (dCB dIsI (dCons (dVar 3) (dCons (dC (.ty "tuple")) dNil))))) (dOr (dT (dOp dGt (dCB dLenA (dCons (dVar 3) dNil)) (dC (.int 3)))) (dT (dOp (dEq true) (dLc (dwA (dVar 3)) 4 (dNot (dT (dCall (spF fName) (dCons (dVar 4) dNil)))) (dVar 4) (List.map (fun x => x.snd) [(Str.ofString "one", 4)])) (dLst dNil))))) (dRet (dC (.bl false))) dNext) (dIfS (dT (dOp (dEq true) (dLc (dwA (dCall (spL preItem fBodiesL) (dCons (dVar 2) dNil))) 5 (dNot (dT (dCall (spF (fBody m)) (dCons (dVar 5) (dCons (dOp (dArith fun i j => i - j) (dVar 1) (dC (.int 1))) dNil))))) (dVar 5) (List.map (fun x => x.snd) [(Str.ofString "inner", 5)])) (dLst dNil))) (dRet (dC (.bl false))) dNext)) { nx := N, rt := Q, bk := dRet (dC (.bl true)) { nx := fun _ M' => Q .non M', rt := Q }, ct := N } [some (.tup xs), some (.int ((m + 1 : Nat) : Int)), some (.tup (.str k :: s :: y2 :: ys3)), o3, none, none] M6 := fun M6 g6 eN => by
                        have ok6 := Ok.grow (g35.trans g6) _ oki
                        refine s_seq (s_set (gv_call (ga_cons (gv_var rfl) ga_nil) (rc_spF ea (okL_one ok6))) fun M7 g7 => ?_)
                        dsimp only
                        have okr := oka M7 (Ok.grow g7 _ ok6)
                        have g37 := (g35.trans g6).trans g7
                        cases hsa : isTup ar with
                        | false =>
                          have e : isNames ar = false := by cases ar <;> first | rfl | cases hsa
                          exact s_guard1 (ρ := [some (.tup xs), some (.int ((m + 1 : Nat) : Int)), some (.tup (.str k :: s :: y2 :: ys3)), some ar, none, none]) (gt_or1 (gt_not (b := false) (gt_isT (gv_var rfl) okr hsa))) fun M8 g8 => badI (by rw [eN, e]) M8 (g37.trans g8) _ _ rfl
                        | true =>
                          obtain ⟨as, rfl⟩ := isTup_ex hsa
                          have asz : as.length ≤ sizeLine ∨ (3 : Int) < as.length := by
                            by_cases z : (3 : Int) < as.length
                            · exact .inr z
                            · exact .inl (by rw [sizeLine_eq]; omega)
                          refine s_guard (ρ := [some (.tup xs), some (.int ((m + 1 : Nat) : Int)), some (.tup (.str k :: s :: y2 :: ys3)), some (.tup as), none, none]) (b := decide ((3 : Int) < as.length) || !((as.filter fun d => !isName d).map fun d => d).isEmpty) (gt_or0 (gt_not (b := true) (gt_isT (gv_var rfl) okr rfl)) (gt_or (gt_t (gv_op (gv_cb (ga_cons (gv_var rfl) ga_nil) rc_lenT) gv_c rv_gt)) fun h3 => gt_t (gv_neL (gl_lcF (fun d => d) (fun d => !isName d) (gi_tup (gv_var rfl)) (by have := of_decide_eq_false h3; rw [sizeLine_eq]; omega) (fun d hd => gt_not (gt_t (gv_call (ga_cons (gv_var rfl) ga_nil) (rc_spF rfl (okL_one (ok_tup.1 okr d hd)))))) fun d hd _ => gv_var rfl)))) (fun hb3 M8 g8 => badI ?_ M8 (g37.trans g8) _ _ rfl) fun hb3 M8 g8 => ?_
                          · rw [eN, isNames_eq]
                            by_cases z : (3 : Int) < as.length
                            · rw [decide_eq_false (show ¬ (as.length : Int) ≤ 3 by omega)]
                              rfl
                            · rw [decide_eq_false z, Bool.false_or, List.map_id', Bool.not_eq_true'] at hb3
                              cases hall : as.all isName with
                              | false => simp
                              | true =>
                                rw [List.filter_eq_nil_iff.mpr (fun d hd => by rw [List.all_eq_true.mp hall d hd]; simp)] at hb3
                                cases hb3
                          · have eIt : isItem (.tup (.str k :: s :: y2 :: ys3)) = true := by
                              rw [eN, isNames_eq]
                              by_cases z : (3 : Int) < as.length
                              · rw [decide_eq_true z] at hb3
                                cases hb3
                              · rw [decide_eq_false z, Bool.false_or, List.map_id', Bool.not_eq_false', List.isEmpty_iff, List.filter_eq_nil_iff] at hb3
                                rw [decide_eq_true (show (as.length : Int) ≤ 3 by omega), Bool.true_and, List.all_eq_true]
                                intro d hd
                                have := hb3 d hd
                                simpa using this
                            obtain ⟨bs, eb, okb⟩ := item_bodies eIt
                            have few := bodies_few eIt eb
                            have eO : okI (.tup (.str k :: s :: y2 :: ys3)) = bs.all (isBody m) := by
                              show (isItem _ && ((bodiesD _).getD []).all (isBody m)) = _
                              rw [eIt, eb]
                              rfl
                            have g38 := g37.trans g8
                            refine s_if (gt_t (gv_neL (vs := ((bs.filter fun d => !isBody m d).map fun d => d)) (gl_lcF (fun d => d) (fun d => !isBody m d) (gi_new (all := bs) ?_) (by rw [sizeLine_eq]; omega) (fun b hbm => ?_) fun d hd _ => gv_var rfl))) (fun hb4 M9 g9 => bad ?_ M9 (g38.trans g9) _ _ rfl) fun hb4 M9 g9 => ?_
                            · have z : fBodiesL [.tup (.str k :: s :: y2 :: ys3)] = bs := by
                                show (bodiesD _).getD [] = bs
                                rw [eb]
                                rfl
                              rw [← z]
                              exact gx_call (ga_cons (gv_var rfl) ga_nil) fun M1 g => ⟨k, _, rfl⟩
                            · refine gt_not (gt_t (gv_call (ga_cons (gv_var rfl) (ga_cons (gv_op (gv_var rfl) gv_c rv_sub) ga_nil)) (rc_spF ?_ (by unfold OkL; exact ⟨okb M8 (Ok.grow g38 _ oki) b hbm, okL_one ok_int⟩))))
                              unfold fBody
                              dsimp only
                              rw [if_pos (by omega)]
                            · rw [eO]
                              rw [List.map_id', Bool.not_eq_true'] at hb4
                              cases hall : bs.all (isBody m) with
                              | false => rfl
                              | true =>
                                rw [List.filter_eq_nil_iff.mpr (fun d hd => by rw [List.all_eq_true.mp hall d hd]; simp)] at hb4
                                cases hb4
                            · refine hN _ M9 True.intro ⟨g3.trans (g38.trans g9), some _, some _, done ++ [.tup (.str k :: s :: y2 :: ys3)], rfl, by rw [ex]; simp, ?_⟩
                              rw [List.map_id', Bool.not_eq_false', List.isEmpty_iff, List.filter_eq_nil_iff] at hb4
                              have hall : bs.all (isBody m) = true := by
                                rw [List.all_eq_true]
                                intro d hd
                                simpa using hb4 d hd
                              rw [List.all_append, hallD, List.all_cons, eO, hall]
                              rfl
                      have t6 : Gt (dT (dOp (dInA false) (dOp dIx (dVar 2) (dC (.int 0))) (dLst (dCons (dC (.str "do")) (dCons (dC (.str "call")) dNil))))) [some (.tup xs), some (.int ((m + 1 : Nat) : Int)), some (.tup (.str k :: s :: y2 :: ys3)), o3, none, none] M5 (decide (k ∈ (["do", "call"] : List Str))) := gt_t (gv_inLst (ss := ["do", "call"]) (x0 _ _ rfl) (ga_cons gv_c (ga_cons gv_c ga_nil)) (by decide))
                      by_cases hk2 : k = "do" ∨ k = "call"
                      · have dk : decide (k ∈ (["do", "call"] : List Str)) = true := by simpa using hk2
                        rw [if_pos hk2] at eI
                        have eI : isItem (.tup (.str k :: s :: y2 :: ys3)) = (isName y2 && isNames ar) := eI
                        refine s_guard (gt_and1 (gt_eq t6 dk) (gt_not (gt_t (gv_call (ga_cons (gv_op (gv_var rfl) gv_c (rv_ixT (atI_nat (n := 2) rfl))) ga_nil) (rc_spF rfl (okL_one (Ok.grow g35 _ ok2))))))) (fun hb3 M6 g6 => badI ?_ M6 (g35.trans g6) _ _ rfl) fun hb3 M6 g6 => ?_
                        · rw [eI, show isName y2 = false by simpa using hb3]
                          rfl
                        · rw [show isName y2 = true by simpa using hb3, Bool.true_and] at eI
                          exact rest M6 g6 eI
                      · have dk : decide (k ∈ (["do", "call"] : List Str)) = false := by simpa using hk2
                        rw [if_neg hk2, Bool.true_and] at eI
                        exact s_guard0 (gt_and0 (gt_eq t6 dk)) fun M6 g6 => rest M6 g6 eI
    · rw [if_neg em] at e
      cases e
  · cases e
theorem ok_lbody0 (T : Tx K mg w) : FnOk P w K mg base CX0 3 T.f__law_is_body.f T.f__law_is_body.fd ["thing", "deep"] (LSp K (spF (fBody 0))) :=
  lbody_step T (sp := fun _ _ _ => False) (fun m h => nomatch h) (by decide) (dfun T.f__law_is_body.F sc__law_is_body (fun _ _ _ h => h.elim) fun _ _ _ _ _ _ _ => ⟨fun _ _ _ => False, PSs.none, fun _ _ _ h => h.elim⟩)
theorem ok_lbody (T : Tx K mg w) : ∀ n, FnOk P w K mg base CX0 (n + 3) T.f__law_is_body.f T.f__law_is_body.fd ["thing", "deep"] (LSp K (spF (fBody n)))
  | 0 => ok_lbody0 T
  | n + 1 => lbody_step T (sp := spF (fBody n)) (fun m h => by cases h; rfl) (by omega) (ok_lbody T n)
end
end DL

/-! J14: the law's look at libraries. -/
namespace DL
open PySem PySem.Spec PyProof.Rows L2
def lawRounds (ps : List D) : Nat → List Str
  | 0 => []
  | k + 1 => lawRounds ps k ++ moreP ps (lawRounds ps k)
theorem len_sub : ∀ (l names : List Str), l.Nodup → (∀ s ∈ l, s ∈ names) → l.length ≤ names.length
  | [], _, _, _ => Nat.zero_le _
  | x :: l, names, hn, hs => by
    rw [List.nodup_cons] at hn
    have hx := hs x List.mem_cons_self
    have h := len_sub l (names.erase x) hn.2 fun s hm => (List.mem_erase_of_ne (fun e : s = x => hn.1 (e ▸ hm))).mpr (hs s (List.mem_cons_of_mem _ hm))
    rw [List.length_erase_of_mem hx] at h
    have : 0 < names.length := List.length_pos_of_mem hx
    rw [List.length_cons]
    omega
theorem seen_fresh : ∀ (xs acc : List Str), xs.Nodup → (∀ x ∈ xs, x ∉ acc) → xs.foldl seen1 acc = acc ++ xs
  | [], acc, _, _ => by simp
  | x :: xs, acc, hn, hf => by
    rw [List.nodup_cons] at hn
    rw [List.foldl_cons]
    unfold seen1
    rw [if_neg (hf x List.mem_cons_self)]
    have h := seen_fresh xs (acc ++ [x]) hn.2 fun y hy ha => by
      rcases List.mem_append.mp ha with ha | ha
      · exact hf y (List.mem_cons_of_mem _ hy) ha
      · rw [List.mem_singleton.mp ha] at hy
        exact hn.1 hy
    have h2 : xs.foldl seen1 (acc ++ [x]) = acc ++ x :: xs := by rw [h, List.append_assoc]; rfl
    exact h2
theorem more_sub (ps : List D) (lot : List Str) : (moreP ps lot).Sublist (ps.map nmP) := by
  unfold moreP
  exact List.Sublist.map _ (List.filter_sublist)
theorem more_out (ps : List D) (lot : List Str) : ∀ s ∈ moreP ps lot, s ∉ lot := fun s hs => by
  unfold moreP at hs
  obtain ⟨p, hp, rfl⟩ := List.mem_map.mp hs
  have z := (List.mem_filter.mp hp).2
  rw [Bool.and_eq_true] at z
  simpa using z.1
theorem rounds_eq {ps : List D} (h : (ps.map nmP).Nodup) : ∀ k, lawRounds ps k = roundsP ps k ∧ (roundsP ps k).Nodup ∧ ∀ s ∈ roundsP ps k, s ∈ ps.map nmP
  | 0 => ⟨rfl, List.nodup_nil, fun s hs => nomatch hs⟩
  | k + 1 => by
    obtain ⟨h1, h2, h3⟩ := rounds_eq h k
    have mn : (moreP ps (roundsP ps k)).Nodup := (more_sub ps _).nodup h
    have e : roundsP ps (k + 1) = roundsP ps k ++ moreP ps (roundsP ps k) := seen_fresh _ _ mn (more_out ps _)
    refine ⟨?_, ?_, ?_⟩
    · rw [e]
      show lawRounds ps k ++ moreP ps (lawRounds ps k) = _
      rw [h1]
    · rw [e, List.nodup_append]
      exact ⟨h2, mn, fun a ha b hb e => more_out ps _ b hb (e ▸ ha)⟩
    · intro s hs
      rw [e] at hs
      rcases List.mem_append.mp hs with hs | hs
      · exact h3 s hs
      · exact (more_sub ps _).subset hs
theorem rounds_succ {ps : List D} (h : (ps.map nmP).Nodup) (k : Nat) : roundsP ps (k + 1) = roundsP ps k ++ moreP ps (roundsP ps k) := by
  rw [← (rounds_eq h (k + 1)).1, ← (rounds_eq h k).1]
  rfl
theorem rounds_stay {ps : List D} (h : (ps.map nmP).Nodup) {k : Nat} (e : moreP ps (roundsP ps k) = []) : ∀ j, roundsP ps (k + j) = roundsP ps k
  | 0 => rfl
  | j + 1 => by
    have ih := rounds_stay h e j
    show roundsP ps (k + j + 1) = _
    rw [rounds_succ h, ih, e, List.append_nil]
theorem rounds_go {ps : List D} (h : (ps.map nmP).Nodup) : ∀ k, k ≤ (roundsP ps k).length ∨ moreP ps (roundsP ps k) = []
  | 0 => .inl (Nat.zero_le _)
  | k + 1 => by
    rcases rounds_go h k with g | g
    · cases e : moreP ps (roundsP ps k) with
      | nil =>
        refine .inr ?_
        rw [rounds_succ h, e, List.append_nil]
        exact e
      | cons a r =>
        refine .inl ?_
        rw [rounds_succ h, List.length_append, e, List.length_cons]
        omega
    · refine .inr ?_
      rw [rounds_succ h, g, List.append_nil]
      exact g
theorem rounds_eight {ps : List D} (h : (ps.map nmP).Nodup) (h8 : ps.length ≤ 8) : ((lawRounds ps 8).length = ps.length) ↔ ((roundsP ps ps.length).length = ps.length) := by
  rw [(rounds_eq h 8).1]
  have stay : moreP ps (roundsP ps ps.length) = [] := by
    rcases rounds_go h ps.length with g | g
    · have l1 := len_sub _ _ (rounds_eq h (ps.length + 1)).2.1 (rounds_eq h (ps.length + 1)).2.2
      rw [rounds_succ h, List.length_append, List.length_map] at l1
      exact List.eq_nil_of_length_eq_zero (by omega)
    · exact g
  have e := rounds_stay h stay (8 - ps.length)
  rw [show ps.length + (8 - ps.length) = 8 by omega] at e
  rw [e]
section
variable {ρ : DSt} {M : DM} {E : DEnds} {ti : DTI}
/-- three names at once: a new dict, two new lists -/
theorem s_three {te : DTE} {kvs : List (Key × D)} {i j k : Nat} (h : Gd te ρ M kvs) (q : ∀ M1 a b c, Grow M M1 → M a = none → M b = none → M c = none → a ≠ b → a ≠ c → b ≠ c → M1 a = some (.dc kvs) → M1 b = some (.ls []) → M1 c = some (.ls []) → E.nx (((ρ.set i (some (.ob a))).set j (some (.ob b))).set k (some (.ob c))) M1) :
    dAsg (dTup (dCons te (dCons (dLst dNil) (dCons (dLst dNil) dNil)))) (dgTup 3 (dgCons (dName i) (dgCons (dName j) (dgCons (dName k) dgNil)))) E ρ M := h M (Grow.refl M) _ fun M1 a g1 na ea => ⟨Nat.zero_le _, fun b nb => ⟨Nat.zero_le _, fun c nc => by
  have nab : a ≠ b := fun z => by
    rw [← z, ea] at nb
    cases nb
  have nbc : b ≠ c := fun z => by
    rw [← z, mset_same] at nc
    cases nc
  have nac : a ≠ c := fun z => by
    rw [← z, mset_ne nab, ea] at nc
    cases nc
  refine ⟨by show 3 ≤ _; rw [sizeLine_eq]; omega, rfl, ?_⟩
  refine q _ a b c ((g1.trans (Grow.new nb)).trans (Grow.new nc)) na (fresh_of g1 nb) (fresh_of (g1.trans (Grow.new nb)) nc) nab nac nbc ?_ ?_ mset_same
  · rw [mset_ne nac, mset_ne nab]
    exact ea
  · rw [mset_ne nbc]
    exact mset_same⟩⟩
end
section
variable {P : Program} {w : World} {K : PySem.W.Frag} {mg : Str → Option Value} {base : Heap}
theorem ok__law_is_library (T : Tx K mg w) : FnOk P w K mg base CX0 8 T.f__law_is_library.f T.f__law_is_library.fd ["thing"] (LSp K (spF fLib)) := by
  have G3 := ok_litems (P := P) (base := base) T 3 (Nat.le_refl _)
  have G4 := ok_lbody (P := P) (base := base) T 3
  have G5 := ok_can (P := P) (base := base) T 3
  refine dfun T.f__law_is_library.F sc__law_is_library (spF_len fun ds v e => by unfold fLib at e; split at e <;> first | rfl | cases e) fun cdv A outer s H E hr => ⟨_, (ds_cons (ds_if (PW.pt (d_or (d_not (d_val (d_isi T.b_isinstance (da_cons (dv 0) (da_cons (dbt rfl T.b_tuple rfl) da_nil))))) (d_or (d_neT (hu0 hr) (d_len T.b_len (da_cons (dv 0) da_nil)) dint) (d_or (d_not (d_val (d_isi T.b_isinstance (da_cons (d_ixA (hu1 hr) (dv 0) dint) (da_cons (dbt rfl T.b_str rfl) da_nil))))) (d_or (d_neT (hu0 hr) (d_ixA (hu1 hr) (dv 0) dint) dstr) (d_or (d_not (d_val (d_isi T.b_isinstance (da_cons (d_ixA (hu1 hr) (dv 0) dint) (da_cons (dbt rfl T.b_tuple rfl) da_nil))))) (d_or1 (d_not (d_chainT op_lt op_lt lr_cmpI lr_cmpI dint (d_len T.b_len (da_cons (d_ixA (hu1 hr) (dv 0) dint) da_nil)) dint))))))))) (ds_one (ds_ret dbl)) ds_nil) (ds_cons (ds_for PassesOwn.never rfl (di_any (d_ixA (hu1 hr) (dv 0) dint)) (dg_name (i := 1) sc__law_is_library.nd) (ds_one (ds_if (PW.pt (d_or (d_not (d_val (d_isi T.b_isinstance (da_cons (dv 1) (da_cons (dbt rfl T.b_tuple rfl) da_nil))))) (d_or (d_neT (hu0 hr) (d_len T.b_len (da_cons (dv 1) da_nil)) dint) (d_or (d_not (d_val (d_isi T.b_isinstance (da_cons (d_ixA (hu1 hr) (dv 1) dint) (da_cons (dbt rfl T.b_str rfl) da_nil))))) (d_or (d_neT (hu0 hr) (d_ixA (hu1 hr) (dv 1) dint) dstr) (d_or (d_not (d_val (d_fn (fn := T.f__law_is_name) (ok__law_is_name T) (hr.mono (by first | decide | omega)) (da_cons (d_ixA (hu1 hr) (dv 1) dint) da_nil)))) (d_or1 (d_not (d_val (d_fn (fn := T.f__law_is_body) G4 (hr.mono (by first | decide | omega)) (da_cons (d_ixA (hu1 hr) (dv 1) dint) (da_cons dint da_nil)))))))))))) (ds_one (ds_ret dbl)) ds_nil))) (ds_cons (ds_asg (d_tup (da_cons (d_fn (fn := T.f__law_procs) (ok__law_procs T) (hr.mono (by first | decide | omega)) (da_cons (dv 0) da_nil)) (da_cons (d_lst da_nil) (da_cons (d_lst da_nil) da_nil)))) (dg_tup (n := 3) rfl (dgs_cons (dg_name (i := 2) sc__law_is_library.nd) (dgs_cons (dg_name (i := 3) sc__law_is_library.nd) (dgs_cons (dg_name (i := 4) sc__law_is_library.nd) dgs_nil))))) (ds_cons (ds_for PassesOwn.never rfl (di_any (d_ixA (hu1 hr) (dv 0) dint)) (dg_name (i := 1) sc__law_is_library.nd) (ds_one (ds_set (i := 3) sc__law_is_library.nd (d_add (dv 3) (d_fn (fn := T.f__law_items) G3 (hr.mono (by first | decide | omega)) (da_cons (d_ixA (hu1 hr) (dv 1) dint) da_nil)))))) (ds_cons (ds_if (PW.pt (d_or (d_neT (hu0 hr) (d_len T.b_len (da_cons (dv 2) da_nil)) (d_len T.b_len (da_cons (d_ixA (hu1 hr) (dv 0) dint) da_nil))) (d_or (d_gtT (d_len T.b_len (da_cons (dv 3) da_nil)) dint) (d_or1 (d_neT (hu0 hr) (d_lenSet T.b_len T.b_set (d_lc rfl sc__law_is_library.nd (di_any (dv 3)) (blkOk_by (own := [("item", 5)]) (N := ["thing", "proc", "procs", "every", "lot", "item", "lap"]) (sc := defScope s__law_is_library) (by decide +kernel)) (by decide) (fun _ _ _ _ _ => pg_name (i := 5) sc__law_is_library.nd rfl (Or.inl rfl)) (fun _ _ _ _ _ => dts_nil) (fun _ _ _ _ _ => (d_ixA (hu1 hr) (dv 5) dint)))) (d_len T.b_len (da_cons (dv 3) da_nil))))))) (ds_one (ds_ret dbl)) ds_nil) (ds_cons (ds_if (d_neT (hu0 hr) (d_lc rfl sc__law_is_library.nd (di_any (dv 3)) (blkOk_by (own := [("item", 5)]) (N := ["thing", "proc", "procs", "every", "lot", "item", "lap"]) (sc := defScope s__law_is_library) (by decide +kernel)) (by decide) (fun _ _ _ _ _ => pg_name (i := 5) sc__law_is_library.nd rfl (Or.inl rfl)) (fun _ _ _ _ _ => (dts_one (PW.pt (d_and (d_eqT (hu0 hr) (d_ixA (hu1 hr) (dv 5) dint) dstr) (d_and1 (PW.pt (d_or (d_ninT (hu1 hr) (d_ixA (hu1 hr) (dv 5) dint) (dv 2)) (d_or1 (d_eqT (hu0 hr) (d_ixA (hu1 hr) (dv 5) dint) (d_ixA (hu1 hr) (d_ixA (hu1 hr) (d_ixA (hu1 hr) (dv 0) dint) dint) dint)))))))))) (fun _ _ _ _ _ => (dv 5))) (d_lst da_nil)) (ds_one (ds_ret dbl)) ds_nil) (ds_cons (ds_for PassesOwn.never rfl (di_rng rfl T.b_range (da_cons dint da_nil)) (dg_name (i := 6) sc__law_is_library.nd) (ds_one (ds_set (i := 4) sc__law_is_library.nd (d_add (dv 4) (d_lc rfl sc__law_is_library.nd (di_any (d_ixA (hu1 hr) (dv 0) dint)) (blkOk_by (own := [("proc", 1)]) (N := ["thing", "proc", "procs", "every", "lot", "item", "lap"]) (sc := defScope s__law_is_library) (by decide +kernel)) (by decide) (fun _ _ _ _ _ => pg_name (i := 1) sc__law_is_library.nd rfl (Or.inl rfl)) (fun _ _ _ _ _ => (dts_one (PW.pt (d_and (d_ninT (hu1 hr) (d_ixA (hu1 hr) (dv 1) dint) (dv 4)) (d_and1 (d_val (d_fn (fn := T.f__law_can) G5 (hr.mono (by first | decide | omega)) (da_cons (d_ixA (hu1 hr) (dv 1) dint) (da_cons (dv 4) da_nil))))))))) (fun _ _ _ _ _ => (d_ixA (hu1 hr) (dv 1) dint))))))) (ds_one (ds_ret (d_eq (hu0 hr) (d_len T.b_len (da_cons (dv 4) da_nil)) (d_len T.b_len (da_cons (d_ixA (hu1 hr) (dv 0) dint) da_nil)))))))))))), ?_⟩
  rintro ds M Q ⟨v, e, hd, q⟩
  unfold fLib at e
  split at e
  · rename_i d
    cases e
    have hd := hd.1
    have no : isLib d = false → ∀ M1, Grow M M1 → ∀ (E' : DEnds) (ρ : DSt), E'.rt = Q → dRet (dC (.bl false)) E' ρ M1 := fun e M1 g1 E' ρ eE => by
      rw [e] at q
      exact s_ret gv_c fun M2 g2 => by rw [eE]; exact q M2 (g1.trans g2)
    cases hs : isTup d with
    | false =>
      have e : isLib d = false := by cases d <;> first | rfl | cases hs
      exact s_guard1 (gt_or1 (gt_not (b := false) (gt_isT (gv_var rfl) hd hs))) fun M1 g1 => no e M1 g1 _ _ rfl
    | true =>
      obtain ⟨xs, rfl⟩ := isTup_ex hs
      have t0 : Gt (dNot (dT (dCB dIsI (dCons (dVar 0) (dCons (dC (.ty "tuple")) dNil))))) (dstart ["thing", "proc", "procs", "every", "lot", "item", "lap"].length [D.tup xs]) M false := gt_not (b := true) (gt_isT (gv_var rfl) hd rfl)
      have t1 : Gt (dT (dOp (dEq true) (dCB dLenA (dCons (dVar 0) dNil)) (dC (.int 2)))) (dstart ["thing", "proc", "procs", "every", "lot", "item", "lap"].length [D.tup xs]) M (!decide ((xs.length : Int) = 2)) := gt_t (gv_op (gv_cb (ga_cons (gv_var rfl) ga_nil) rc_lenT) gv_c rv_neI)
      by_cases hl : (xs.length : Int) = 2
      · obtain ⟨a, b, rfl⟩ : ∃ a b, xs = [a, b] := by
          match xs, hl with
          | [a, b], _ => exact ⟨a, b, rfl⟩
          | [], hl => cases hl
          | [a], hl => cases hl
          | a :: b :: c :: d, hl => (simp only [List.length_cons] at hl; omega)
        have ha : Ok M a := ok_tup.1 hd a (by simp)
        have hb : Ok M b := ok_tup.1 hd b (by simp)
        have i0 : Gv (dOp dIx (dVar 0) (dC (.int 0))) (dstart ["thing", "proc", "procs", "every", "lot", "item", "lap"].length [D.tup [a, b]]) M a := gv_op (gv_var rfl) gv_c (rv_ixT (atI_nat (n := 0) rfl))
        have x1 : ∀ (M1 : DM) (ρ : DSt), ρ[0]? = some (some (D.tup [a, b])) → Gv (dOp dIx (dVar 0) (dC (.int 1))) ρ M1 b := fun M1 ρ h => gv_op (gv_var h) gv_c (rv_ixT (atI_nat (n := 1) rfl))
        cases hs2 : isStr a with
        | false =>
          have e : isLib (.tup [a, b]) = false := by cases a <;> first | rfl | cases hs2
          exact s_guard1 (gt_or0 t0 (gt_or0 (gt_eq t1 (by simp)) (gt_or1 (gt_not (b := false) (gt_isS i0 ha hs2))))) fun M1 g1 => no e M1 g1 _ _ rfl
        | true =>
          obtain ⟨k, rfl⟩ := isStr_ex hs2
          have t2 : Gt (dT (dOp (dEq true) (dOp dIx (dVar 0) (dC (.int 0))) (dC (.str "library")))) (dstart ["thing", "proc", "procs", "every", "lot", "item", "lap"].length [D.tup [.str k, b]]) M (!decide (k = "library")) := gt_t (gv_op i0 gv_c rv_neS)
          have t12 : ∀ {u : DTT} {c : Bool}, Gt u (dstart ["thing", "proc", "procs", "every", "lot", "item", "lap"].length [D.tup [.str k, b]]) M c → Gt _ _ M c := fun {u c} h => gt_or0 t0 (gt_or0 (gt_eq t1 (by simp)) (gt_or0 (gt_not (b := true) (gt_isS i0 ha rfl)) h))
          by_cases ek : k = "library"
          · have dk : decide (k = "library") = true := decide_eq_true ek
            have t2f := gt_eq t2 (show (!decide (k = "library")) = false by rw [dk]; rfl)
            cases hs3 : isTup b with
            | false =>
              have e : isLib (.tup [.str k, b]) = false := by cases b <;> first | rfl | cases hs3
              exact s_guard1 (t12 (gt_or0 t2f (gt_or1 (gt_not (b := false) (gt_isT (x1 _ _ rfl) hb hs3))))) fun M1 g1 => no e M1 g1 _ _ rfl
            | true =>
              obtain ⟨ps, rfl⟩ := isTup_ex hs3
              refine s_guard (t12 (gt_or0 t2f (gt_or0 (gt_not (b := true) (gt_isT (x1 _ _ rfl) hb rfl)) (gt_not (gt_t (gv_chain gv_c (gv_cb (ga_cons (x1 _ _ rfl) ga_nil) rc_lenT) rv_lt (fun _ => gv_c) (fun _ => rv_lt))))))) (fun hb1 M1 g1 => no ?_ M1 g1 _ _ rfl) fun hb1 M1 g1 => ?_
              · rw [isLib_eq, dk, Bool.true_and]
                by_cases a1 : (0 : Int) < ps.length
                · by_cases a2 : (ps.length : Int) < 9
                  · rw [decide_eq_true a1, decide_eq_true a2] at hb1
                    cases hb1
                  · rw [decide_eq_false (show ¬ (ps.length : Int) ≤ 8 by omega)]
                    rfl
                · cases ps with
                  | nil => simp
                  | cons => exact absurd (by rw [List.length_cons]; omega) a1
              · have l1 : 1 ≤ ps.length := by
                  by_cases a1 : (0 : Int) < ps.length
                  · omega
                  · rw [decide_eq_false a1] at hb1
                    cases hb1
                have l8 : ps.length ≤ 8 := by
                  by_cases a2 : (ps.length : Int) < 9
                  · omega
                  · rw [decide_eq_false a2, Bool.and_false] at hb1
                    cases hb1
                have eL : isLib (.tup [.str k, .tup ps]) = (ps.all isProc && (callsRight ps && decide ((roundsP ps ps.length).length = ps.length))) := by
                  rw [isLib_eq, dk, decide_eq_true (show (ps.length : Int) ≤ 8 by omega), Bool.true_and, Bool.true_and, show ps.isEmpty = false by cases ps <;> first | rfl | cases l1]
                  rfl
                have okp : OkL M ps := okL_mem.mpr (ok_tup.1 hb)
                refine s_seq (s_forT (all := ps) (x1 _ _ rfl) fun M2 g2 => ?_)
                refine loopI (fun r ρ M3 => Grow M M3 ∧ ∃ o1 done, ρ = [some (.tup [.str k, .tup ps]), o1, none, none, none, none, none] ∧ ps = done ++ r ∧ done.all isProc = true) (fun ρ M3 ⟨g3, o1, done, eρ, ex, hall⟩ => ?_) (fun p r ρ M3 ⟨g3, o1, done, eρ, ex, hall⟩ N hN => ?_) _ _ _ ⟨g1.trans g2, none, [], rfl, rfl, rfl⟩
                · subst eρ
                  rw [List.append_nil] at ex
                  rw [← ex] at hall
                  have pa : ps.all isProc = true := hall
                  rw [pa, Bool.true_and] at eL
                  have few := all_few pa l8
                  have sz : ∀ k : Nat, k ≤ 8 * 4210 → k ≤ sizeLine := fun k h => by rw [sizeLine_eq]; omega
                  have pr : ∀ p ∈ ps, ∃ x b, p = .tup [.str "proc", .str x, b] ∧ nameS x = true ∧ isBody 3 b = true := fun p hm => proc_shape (List.all_eq_true.mp pa p hm)
                  have keys := dictOf_keys (nm := nmP) (g := fun d => d) ps
                  have lenN : (dictOf (fun d => Sum.inr (nmP d)) (fun d => d) ps).length = (seen (ps.map nmP)).length := by
                    have := congrArg List.length keys
                    rw [List.length_map, List.length_map] at this
                    exact this
                  dsimp only
                  refine s_seq (s_three (kvs := dictOf (fun d => .inr (nmP d)) (fun d => d) ps) (fun M1 _ Q q => ⟨.str k, ps, rfl, pa, by omega, q⟩) fun M4 a b c g4 na nb nc nab nac nbc ea eb ec => ?_)
                  dsimp only
                  have g04 := g3.trans g4
                  refine s_seq (s_forT (all := ps) (x1 _ _ rfl) fun M5 g5 => ?_)
                  refine loopI (fun r ρ M6 => Grow M4 M6 ∧ ∃ o1 b done, ρ = [some (.tup [.str k, .tup ps]), o1, some (.ob a), some (.ob b), some (.ob c), none, none] ∧ ps = done ++ r ∧ M6 b = some (.ls (allIt done))) (fun ρ M6 ⟨g6, o1, b, done, eρ, ex2, eb6⟩ => ?_) (fun p r ρ M6 ⟨g6, o1, b, done, eρ, ex2, eb6⟩ N hN => ?_) _ _ _ ⟨g5, o1, b, [], rfl, rfl, g5 b _ eb⟩
                  · subst eρ
                    rw [show done = ps by rw [ex2, List.append_nil]] at eb6
                    have ea6 := g6 a _ ea
                    have g06 := g04.trans g6
                    have its := all_procs pa (OkL.grow g06 _ okp)
                    dsimp only
                    refine s_guard (b := !decide (((seen (ps.map nmP)).length : Int) = ps.length) || (decide ((40 : Int) < (allIt ps).length) || !decide (((seen ((allIt ps).map st1)).length : Int) = (allIt ps).length))) (gt_or (gt_t (gv_op (gv_cb (ga_cons (gv_var rfl) ga_nil) (rc_lenD ea6)) (gv_cb (ga_cons (x1 _ _ rfl) ga_nil) rc_lenT) (by rw [lenN]; exact rv_neI))) fun _ => gt_or (gt_t (gv_op (gv_cb (ga_cons (gv_var rfl) ga_nil) (rc_lenL eb6)) gv_c rv_gt)) fun h40 => gt_t (gv_op (gv_lenSet ?_ ?_) (gv_cb (ga_cons (gv_var rfl) ga_nil) (rc_lenL eb6)) rv_neI)) (fun hb2 M7 g7 => no ?_ M7 (g06.trans g7) _ _ rfl) fun hb2 M7 g7 => ?_
                    · rw [List.map_map]
                      refine gl_lc (D.str ∘ st1) (gi_lst (gv_var rfl) eb6) (sz _ few) fun it hit => ?_
                      obtain ⟨ds, ei, _, i1, _⟩ := shape_ix (item_shape (its it hit).2)
                      refine gv_op (gv_var rfl) gv_c (?_ : Rv dIx it (.int 1) M6 (.str (st1 it)))
                      rw [show Rv dIx it (.int 1) M6 (.str (st1 it)) = Rv dIx (.tup ds) (.int 1) M6 (.str (st1 it)) by rw [← ei]]
                      exact rv_ixT (atI_nat (n := 1) i1)
                    · have := of_decide_eq_false h40
                      rw [List.length_map]
                      unfold scanBound
                      omega
                    · rw [eL]
                      unfold callsRight
                      by_cases a1 : (seen (ps.map nmP)).length = ps.length
                      · by_cases a2 : (allIt ps).length ≤ 40
                        · by_cases a3 : (seen ((allIt ps).map st1)).length = (allIt ps).length
                          · rw [decide_eq_true (show ((seen (ps.map nmP)).length : Int) = ps.length by omega), decide_eq_false (show ¬ (40 : Int) < (allIt ps).length by omega), decide_eq_true (show ((seen ((allIt ps).map st1)).length : Int) = (allIt ps).length by omega)] at hb2
                            cases hb2
                          · rw [decide_eq_false a3]
                            simp
                        · rw [decide_eq_false a2]
                          simp
                      · rw [decide_eq_false a1]
                        rfl
                    · have a1 : (seen (ps.map nmP)).length = ps.length := by
                        by_cases z : (seen (ps.map nmP)).length = ps.length
                        · exact z
                        · rw [decide_eq_false (show ¬ ((seen (ps.map nmP)).length : Int) = ps.length by omega)] at hb2
                          cases hb2
                      rw [decide_eq_true (show ((seen (ps.map nmP)).length : Int) = ps.length by omega)] at hb2
                      have a2 : (allIt ps).length ≤ 40 := by
                        by_cases z : (allIt ps).length ≤ 40
                        · exact z
                        · rw [decide_eq_true (show (40 : Int) < (allIt ps).length by omega)] at hb2
                          cases hb2
                      rw [decide_eq_false (show ¬ (40 : Int) < (allIt ps).length by omega)] at hb2
                      have a3 : (seen ((allIt ps).map st1)).length = (allIt ps).length := by
                        by_cases z : (seen ((allIt ps).map st1)).length = (allIt ps).length
                        · exact z
                        · rw [decide_eq_false (show ¬ ((seen ((allIt ps).map st1)).length : Int) = (allIt ps).length by omega)] at hb2
                          cases hb2
                      have nd : (ps.map nmP).Nodup := (seen_nodup _).mp (by rw [a1, List.length_map])
                      let good : D → Bool := fun it => decide (st2 it ∈ ps.map nmP) && !decide (st2 it = nm0 ps)
                      have eC : callsRight ps = ((allIt ps).filter isCall).all good := by
                        unfold callsRight
                        rw [decide_eq_true a1, decide_eq_true a2, decide_eq_true a3]
                        rfl
                      rw [eC] at eL
                      have ea7 := g7 a _ ea6
                      have eb7 := g7 b _ eb6
                      have g07 := g06.trans g7
                      have t3 : Gt (dT (dOp (dEq true) (dLc (dwA (dVar 3)) 5 (dAnd (dT (dOp (dEq false) (dOp dIx (dVar 5) (dC (.int 0))) (dC (.str "call")))) (dOr (dT (dOp (dInA true) (dOp dIx (dVar 5) (dC (.int 2))) (dVar 2))) (dT (dOp (dEq false) (dOp dIx (dVar 5) (dC (.int 2))) (dOp dIx (dOp dIx (dOp dIx (dVar 0) (dC (.int 1))) (dC (.int 0))) (dC (.int 1))))))) (dVar 5) (List.map (fun x => x.snd) [(Str.ofString "item", 5)])) (dLst dNil))) [some (.tup [.str k, .tup ps]), o1, some (.ob a), some (.ob b), some (.ob c), none, none] M7 (!(((allIt ps).filter fun it => isCall it && !good it).map fun d => d).isEmpty) := by
                        refine gt_t (gv_neL (gl_lcF (fun d => d) (fun it => isCall it && !good it) (gi_lst (gv_var rfl) eb7) (sz _ few) (fun it hit => ?_) fun it hit _ => gv_var rfl))
                        obtain ⟨ds, ei, i0, _, i2⟩ := shape_ix (item_shape (its it hit).2)
                        refine gt_and (gt_t (gv_op (gv_op (gv_var rfl) gv_c (?_ : Rv dIx it (.int 0) M7 (.str (st0 it)))) gv_c rv_eqS)) fun hc => ?_
                        · rw [show Rv dIx it (.int 0) M7 (.str (st0 it)) = Rv dIx (.tup ds) (.int 0) M7 (.str (st0 it)) by rw [← ei]]
                          exact rv_ixT (atI_nat (n := 0) i0)
                        · have i2 := i2 (of_decide_eq_true hc)
                          have rv2 : Rv dIx it (.int 2) M7 (.str (st2 it)) := by
                            rw [show Rv dIx it (.int 2) M7 (.str (st2 it)) = Rv dIx (.tup ds) (.int 2) M7 (.str (st2 it)) by rw [← ei]]
                            exact rv_ixT (atI_nat (n := 2) i2)
                          have inn : (valD (dictOf (fun d => .inr (nmP d)) (fun d => d) ps) (.inr (st2 it))).isSome = decide (st2 it ∈ ps.map nmP) := by
                            rw [valD_some keys]
                            congr 1
                            exact propext (seen_mem _ _)
                          refine gt_eq (gt_or (b := !decide (st2 it ∈ ps.map nmP)) (c := decide (st2 it = nm0 ps)) (gt_t (gv_op (gv_op (gv_var rfl) gv_c rv2) (gv_var rfl) ?_)) fun _ => ?_) ?_
                          · rw [← inn]
                            exact rv_ninD rfl ea7
                          · cases ps with
                            | nil => cases l1
                            | cons p rest =>
                              obtain ⟨x, bd, rfl, _, _⟩ := pr p List.mem_cons_self
                              exact gt_t (gv_op (gv_op (gv_var rfl) gv_c rv2) (gv_op (gv_op (x1 _ _ rfl) gv_c (rv_ixT (atI_nat (n := 0) rfl))) gv_c (rv_ixT (atI_nat (n := 1) rfl))) rv_eqS)
                          · show _ = !(decide (st2 it ∈ ps.map nmP) && !decide (st2 it = nm0 ps))
                            cases decide (st2 it ∈ ps.map nmP) <;> cases decide (st2 it = nm0 ps) <;> rfl
                      refine s_guard t3 (fun hb3 M8 g8 => no ?_ M8 (g07.trans g8) _ _ rfl) fun hb3 M8 g8 => ?_
                      · rw [List.map_id', Bool.not_eq_true'] at hb3
                        rw [eL]
                        cases hall : ((allIt ps).filter isCall).all good with
                        | false => rfl
                        | true =>
                          rw [List.filter_eq_nil_iff.mpr (fun it hit => ?_)] at hb3
                          · cases hb3
                          · rw [List.all_eq_true] at hall
                            cases hc : isCall it with
                            | false => simp
                            | true =>
                              rw [hall it (List.mem_filter.mpr ⟨hit, hc⟩)]
                              simp
                      · have hg : ((allIt ps).filter isCall).all good = true := by
                          rw [List.map_id', Bool.not_eq_false', List.isEmpty_iff, List.filter_eq_nil_iff] at hb3
                          rw [List.all_eq_true]
                          intro it hit
                          obtain ⟨h1, h2⟩ := List.mem_filter.mp hit
                          have z := hb3 it h1
                          rw [h2, Bool.true_and] at z
                          simpa using z
                        rw [hg, Bool.true_and] at eL
                        rw [eL] at q
                        have g08 := g07.trans g8
                        refine s_seq (s_forR (n := 8) gv_c (by decide) fun M9 g9 => ?_)
                        refine loopI (fun r ρ M10 => Grow M8 M10 ∧ ∃ o6 c j, ρ = [some (.tup [.str k, .tup ps]), o1, some (.ob a), some (.ob b), some (.ob c), none, o6] ∧ r.length + j = 8 ∧ M10 c = some (.ls ((lawRounds ps j).map D.str))) (fun ρ M10 ⟨g10, o6, c, j, eρ, ej, ec10⟩ => ?_) (fun lap r ρ M10 ⟨g10, o6, c, j, eρ, ej, ec10⟩ N hN => ?_) _ _ _ ⟨g9, none, c, 0, rfl, rfl, g9 c _ (g8 c _ (g7 c _ (g6 c _ ec)))⟩
                        · subst eρ
                          rw [List.length_nil, Nat.zero_add] at ej
                          subst ej
                          refine (s_ret (gv_op (gv_cb (ga_cons (gv_var rfl) ga_nil) (rc_lenL ec10)) (gv_cb (ga_cons (x1 _ _ rfl) ga_nil) rc_lenT) rv_eqI) fun M11 g11 => ?_ : dRet (dOp (dEq false) (dCB dLenA (dCons (dVar 4) dNil)) (dCB dLenA (dCons (dOp dIx (dVar 0) (dC (.int 1))) dNil))) { nx := fun _ M' => Q .non M', rt := Q } [some (.tup [.str k, .tup ps]), o1, some (.ob a), some (.ob b), some (.ob c), none, o6] M10)
                          have e : decide ((((lawRounds ps 8).map D.str).length : Int) = ps.length) = decide ((roundsP ps ps.length).length = ps.length) := by
                            congr 1
                            rw [List.length_map]
                            have z := rounds_eight nd l8
                            exact propext ⟨fun h => z.mp (by omega), fun h => by have := z.mpr h; omega⟩
                          rw [e]
                          exact q M11 ((g08.trans g10).trans g11)
                        · subst eρ
                          show dAsg _ _ _ [some (.tup [.str k, .tup ps]), o1, some (.ob a), some (.ob b), some (.ob c), none, some lap] M10
                          have rl := roundsP_len ps j
                          rw [← (rounds_eq nd j).1] at rl
                          have ml := moreP_len ps (lawRounds ps j)
                          have r64 : ps.length * j ≤ 8 * 8 := Nat.mul_le_mul l8 (by rw [List.length_cons] at ej; omega)
                          refine s_setL (xs := (lawRounds ps j).map D.str ++ (moreP ps (lawRounds ps j)).map D.str) (gl_at (gv_var rfl) ec10 ?_ (sz _ (by rw [List.length_map, List.length_map]; omega))) fun M11 c2 g11 nc2 ec11 => ?_
                          · unfold moreP
                            rw [List.map_map]
                            refine gl_lcF (D.str ∘ nmP) _ (gi_tup (x1 _ _ rfl)) (sz _ (by omega)) (fun p hm => ?_) fun p hm _ => ?_
                            · obtain ⟨x, bd, rfl, _, hbd⟩ := pr p hm
                              have okb : Ok M10 bd := Ok.grow (g08.trans g10) _ (ok_tup.1 (okL_mem.mp okp _ hm) bd (by simp))
                              refine gt_and (b := !decide (x ∈ lawRounds ps j)) (c := canD 3 (fun s => decide (s ∈ lawRounds ps j)) bd) (gt_t (gv_op (gv_op (gv_var rfl) gv_c (rv_ixT (atI_nat (n := 1) rfl))) (gv_var rfl) (rv_ninL ec10))) fun _ => ?_
                              exact gt_t (gv_call (ga_cons (gv_op (gv_var rfl) gv_c (rv_ixT (atI_nat (n := 2) rfl))) (ga_cons (gv_var rfl) ga_nil)) fun M12 g12 Q2 q2 => ⟨bd, c, lawRounds ps j, rfl, hbd, Ok.grow g12 _ okb, g12 c _ ec10, q2⟩)
                            · obtain ⟨x, bd, rfl, _, hbd⟩ := pr p hm
                              exact gv_op (gv_var rfl) gv_c (rv_ixT (atI_nat (n := 1) rfl))
                          · refine hN _ M11 True.intro ⟨g10.trans g11, some lap, c2, j + 1, rfl, by rw [List.length_cons] at ej; omega, ?_⟩
                            rw [ec11]
                            show _ = some (MO.ls ((lawRounds ps j ++ moreP ps (lawRounds ps j)).map D.str))
                            rw [List.map_append]
                  · subst eρ
                    have hit : p ∈ ps := by rw [ex2]; simp
                    obtain ⟨x, bd, rfl, _, hbd⟩ := pr p hit
                    have okb : Ok M6 bd := Ok.grow (g04.trans g6) _ (ok_tup.1 (okL_mem.mp okp _ hit) bd (by simp))
                    show dAsg _ _ _ [some (.tup [.str k, .tup ps]), some (.tup [.str "proc", .str x, bd]), some (.ob a), some (.ob b), some (.ob c), none, none] M6
                    have tot : (allIt done).length + (itemsD 3 bd).length ≤ (allIt ps).length := by
                      rw [ex2]
                      unfold allIt
                      rw [List.flatMap_append, List.flatMap_cons, List.length_append, List.length_append]
                      show _ + (itemsD 3 bd).length ≤ _ + ((itemsD 3 bd).length + _)
                      omega
                    refine s_setL (xs := allIt done ++ fItems 3 [bd]) (gl_at (gv_var rfl) eb6 (gx_call (ga_cons (gv_op (gv_var rfl) gv_c (rv_ixT (atI_nat (n := 2) rfl))) ga_nil) fun M7 g7 => ⟨bd, rfl, hbd, Ok.grow g7 _ okb⟩) (sz _ (Nat.le_trans tot few))) fun M7 b2 g7 nb2 eb7 => ?_
                    refine hN _ M7 True.intro ⟨g6.trans g7, some _, b2, done ++ [.tup [.str "proc", .str x, bd]], rfl, by rw [ex2]; simp, ?_⟩
                    rw [eb7]
                    unfold allIt
                    rw [List.flatMap_append, List.flatMap_cons, List.flatMap_nil, List.append_nil]
                    rfl
                · subst eρ
                  have hit : p ∈ ps := by rw [ex]; simp
                  have okP : Ok M3 p := Ok.grow g3 _ (okL_mem.mp okp p hit)
                  show dIfS _ _ _ _ [some (.tup [.str k, .tup ps]), some p, none, none, none, none, none] M3
                  have bad : isProc p = false → ∀ M4, Grow M3 M4 → ∀ (E' : DEnds) (ρ : DSt), E'.rt = Q → dRet (dC (.bl false)) E' ρ M4 := fun h M4 g4 => no (by
                    rw [eL, show ps.all isProc = false by rw [ex, List.all_append, List.all_cons, h]; simp]
                    rfl) M4 (g3.trans g4)
                  cases hs4 : isTup p with
                  | false =>
                    have e : isProc p = false := by cases p <;> first | rfl | cases hs4
                    exact s_if1 (gt_or1 (gt_not (b := false) (gt_isT (gv_var rfl) okP hs4))) fun M4 g4 => bad e M4 g4 _ _ rfl
                  | true =>
                    obtain ⟨ys, rfl⟩ := isTup_ex hs4
                    have u0 : Gt (dNot (dT (dCB dIsI (dCons (dVar 1) (dCons (dC (.ty "tuple")) dNil))))) [some (.tup [.str k, .tup ps]), some (.tup ys), none, none, none, none, none] M3 false := gt_not (b := true) (gt_isT (gv_var rfl) okP rfl)
                    have u1 : Gt (dT (dOp (dEq true) (dCB dLenA (dCons (dVar 1) dNil)) (dC (.int 3)))) [some (.tup [.str k, .tup ps]), some (.tup ys), none, none, none, none, none] M3 (!decide ((ys.length : Int) = 3)) := gt_t (gv_op (gv_cb (ga_cons (gv_var rfl) ga_nil) rc_lenT) gv_c rv_neI)
                    by_cases hl3 : (ys.length : Int) = 3
                    · obtain ⟨a, x, c, rfl⟩ : ∃ a b c, ys = [a, b, c] := by
                        match ys, hl3 with
                        | [a, b, c], _ => exact ⟨a, b, c, rfl⟩
                        | [], hl => cases hl
                        | [a], hl => cases hl
                        | [a, b], hl => cases hl
                        | a :: b :: c :: d :: e, hl => (simp only [List.length_cons] at hl; omega)
                      have oka : Ok M3 a := ok_tup.1 okP a (by simp)
                      have okx : Ok M3 x := ok_tup.1 okP x (by simp)
                      have okc : Ok M3 c := ok_tup.1 okP c (by simp)
                      have y0 : Gv (dOp dIx (dVar 1) (dC (.int 0))) [some (.tup [.str k, .tup ps]), some (.tup [a, x, c]), none, none, none, none, none] M3 a := gv_op (gv_var rfl) gv_c (rv_ixT (atI_nat (n := 0) rfl))
                      cases hs5 : isStr a with
                      | false =>
                        have e : isProc (.tup [a, x, c]) = false := by cases a <;> first | rfl | cases hs5
                        exact s_if1 (gt_or0 u0 (gt_or0 (gt_eq u1 (by simp)) (gt_or1 (gt_not (b := false) (gt_isS y0 oka hs5))))) fun M4 g4 => bad e M4 g4 _ _ rfl
                      | true =>
                        obtain ⟨kp, rfl⟩ := isStr_ex hs5
                        have eP : isProc (.tup [.str kp, x, c]) = !(!decide (kp = "proc") || (!isName x || !isBody 3 c)) := by
                          show (decide (kp = "proc") && isName x && isBody 3 c) = _
                          cases decide (kp = "proc") <;> cases isName x <;> cases isBody 3 c <;> rfl
                        refine s_if (gt_or0 u0 (gt_or0 (gt_eq u1 (by simp)) (gt_or0 (gt_not (b := true) (gt_isS y0 oka rfl)) (gt_or (gt_t (gv_op y0 gv_c rv_neS)) fun _ => gt_or (gt_not (gt_t (gv_call (ga_cons (gv_op (gv_var rfl) gv_c (rv_ixT (atI_nat (n := 1) rfl))) ga_nil) (rc_spF rfl (okL_one okx))))) fun _ => gt_not (gt_t (gv_call (ga_cons (gv_op (gv_var rfl) gv_c (rv_ixT (atI_nat (n := 2) rfl))) (ga_cons gv_c ga_nil)) (rc_spF rfl (by unfold OkL; exact ⟨okc, okL_one ok_int⟩)))))))) (fun hbad M4 g4 => bad ?_ M4 g4 _ _ rfl) fun hgood M4 g4 => ?_
                        · rw [eP, hbad]
                          rfl
                        · exact hN _ M4 True.intro ⟨g3.trans g4, some _, done ++ [.tup [.str kp, x, c]], rfl, by rw [ex]; simp, by rw [List.all_append, hall, List.all_cons, eP, hgood]; rfl⟩
                    · have e : isProc (.tup ys) = false := by
                        unfold isProc
                        split
                        · rename_i h
                          cases h
                          exact absurd rfl hl3
                        · rfl
                      exact s_if1 (gt_or0 u0 (gt_or1 (gt_eq u1 (by simpa using hl3)))) fun M4 g4 => bad e M4 g4 _ _ rfl
          · have dk : decide (k = "library") = false := decide_eq_false ek
            have e : isLib (.tup [.str k, b]) = false := by
              cases b with
              | tup ps =>
                rw [isLib_eq, dk]
                rfl
              | _ => rfl
            exact s_guard1 (t12 (gt_or1 (gt_eq t2 (by rw [dk]; rfl)))) fun M1 g1 => no e M1 g1 _ _ rfl
      · have e : isLib (.tup xs) = false := by
          unfold isLib
          split
          · rename_i h
            cases h
            exact absurd rfl hl
          · rfl
        exact s_guard1 (gt_or0 t0 (gt_or1 (gt_eq t1 (by simpa using hl)))) fun M1 g1 => no e M1 g1 _ _ rfl
  · cases e
end
end DL

/-! D1: numbers are drawn. -/
namespace DL
open PySem PySem.Spec PyProof.Rows L2
def spMixed : DSp := fun ds M Q => ∃ (a l c : Addr), ds = [.ob a] ∧ Drw a l c M ∧ ∀ M' i, GrowH a l M M' → Drw a l c M' → Q (.int i) M'
def spTake : DSp := fun ds M Q => ∃ (a l c : Addr) (n : Nat), ds = [.ob a, .int n] ∧ 1 ≤ n ∧ n < 1000000 ∧ Drw a l c M ∧ ∀ M' (i : Nat), GrowH a l M M' → Drw a l c M' → i < n → Q (.int i) M'
def spPick : DSp := fun ds M Q => ∃ (a l c s : Addr) (xs : List D), ds = [.ob a, .ob s] ∧ Drw a l c M ∧ M s = some (.ls xs) ∧ s ≠ a ∧ s ≠ l ∧ xs ≠ [] ∧ xs.length < 1000000 ∧ ∀ M' d, GrowH a l M M' → Drw a l c M' → d ∈ xs → Q d M'
section
variable {ρ : DSt} {M : DM} {E : DEnds} {to ti te : DTE}
theorem s_par {i j : Nat} {ta : DTA} {v w : D} (h : Ga ta ρ M [v, w]) (q : ∀ M1, Grow M M1 → E.nx ((ρ.set i (some v)).set j (some w)) M1) : dPar i j ta E ρ M := h M (Grow.refl M) _ q
theorem g_put {a : Addr} {kvs : List (Key × D)} {s : Str} {v : D} {Q : DSt → DM → Prop} (ho : Gv to ρ M (.ob a)) (hi : Gv ti ρ M (.str s)) (e : M a = some (.dc kvs)) (hl : kvs.length < sizeLine) (q : ∀ M1, Grow M M1 → Q ρ (mset M1 a (.dc (putD kvs (.inr s) v)))) : dgSub to ti v ρ M Q := ho M (Grow.refl M) _ fun M2 g2 => hi M2 g2 _ fun M3 g3 => by
  unfold dSetIt
  dsimp only
  rw [g3 a _ (g2 a _ e)]
  exact ⟨hl, q M3 (g2.trans g3)⟩
theorem c_popAt {l : Addr} {xs : List D} {d : D} {n : Nat} {Q : DK} (ho : Gv to ρ M (.ob l)) (hi : Gv ti ρ M (.int n)) (e : M l = some (.ls xs)) (hn : (n : Int) < 2 ^ 63) (hx : xs[n]? = some d) (q : ∀ M1, Grow M M1 → Q d (mset M1 l (.ls (xs.eraseIdx n)))) : dBM dPopAt to (dCons ti dNil) ρ M Q := ho M (Grow.refl M) _ fun M2 g2 => by
  dsimp only
  refine ⟨by rw [msq_ls (g2 l _ e)]; rfl, hi M2 g2 _ fun M3 g3 => ?_⟩
  unfold dNil dPopAt
  dsimp only
  rw [g3 l _ (g2 l _ e)]
  refine ⟨by omega, hn, ?_⟩
  rw [Int.toNat_natCast, hx]
  exact q M3 (g2.trans g3)
end
theorem c_take {ρ : DSt} {M : DM} {t : DTA} {a l c : Addr} {n : Nat} {Q : DK} (ht : Ga t ρ M [.ob a, .int n]) (h1 : 1 ≤ n) (h2 : n < 1000000) (dr : Drw a l c M) (q : ∀ M' (i : Nat), GrowH a l M M' → Drw a l c M' → i < n → Q (.int i) M') : dCall spTake t ρ M Q :=
  ht M (Grow.refl M) _ fun M1 g1 => ⟨a, l, c, n, rfl, h1, h2, dr.grow g1, fun M' i g d hi => q M' i (g1.h.trans g) d hi⟩
theorem c_pick {ρ : DSt} {M : DM} {t : DTA} {a l c s : Addr} {xs : List D} {Q : DK} (ht : Ga t ρ M [.ob a, .ob s]) (dr : Drw a l c M) (e : M s = some (.ls xs)) (n1 : s ≠ a) (n2 : s ≠ l) (h0 : xs ≠ []) (h2 : xs.length < 1000000) (q : ∀ M' d, GrowH a l M M' → Drw a l c M' → d ∈ xs → Q d M') : dCall spPick t ρ M Q :=
  ht M (Grow.refl M) _ fun M1 g1 => ⟨a, l, c, s, xs, rfl, dr.grow g1, g1 s _ e, n1, n2, h0, h2, fun M' d g dr' hd => q M' d (g1.h.trans g) dr' hd⟩
theorem sl4 : (4 : Nat) < sizeLine := by rw [sizeLine_eq]; omega
section
variable {P : Program} {w : World} {K : PySem.W.Frag} {mg : Str → Option Value} {base : Heap}
theorem ok__law_mixed (T : Tx K mg w) : FnOk P w K mg base CX0 1 T.f__law_mixed.f T.f__law_mixed.fd ["draw"] (LSp K spMixed) := by
  refine dfun T.f__law_mixed.F sc__law_mixed (fun ds M Q ⟨a, l, c, e, _⟩ => by rw [e]; rfl) fun cdv A outer s H E hr => ⟨_, (ds_cons (ds_par (i := 1) (j := 2) rfl sc__law_mixed.nd (by decide) (da_cons (d_add (d_ixA (hu1 hr) (dv 0) dstr) dint) (da_cons dint da_nil))) (ds_cons (ds_asg (dv 1) (dg_sub (hu1 hr) (dv 0) dstr)) (ds_cons (ds_for PassesOwn.never rfl (di_any (d_lst (da_cons dint (da_cons dint (da_cons dint (da_cons dint da_nil)))))) (dg_name (i := 3) sc__law_mixed.nd) (ds_cons (ds_set (i := 4) sc__law_mixed.nd (d_add (d_mulA dint (dv 1)) (d_fdiv (dv 3) dint))) (ds_cons (ds_for PassesOwn.never rfl (di_any (d_ixA (hu1 hr) (dv 0) dstr)) (dg_name (i := 5) sc__law_mixed.nd) (ds_one (ds_set (i := 4) sc__law_mixed.nd (d_mod (d_int T.b_int (da_cons (d_add (d_add (d_mulA (dv 4) dint) (dv 5)) (dv 1)) da_nil)) (dv 3))))) (ds_one (ds_set (i := 2) sc__law_mixed.nd (d_add (d_mulA (dv 2) dint) (dv 4))))))) (ds_one (ds_ret (dv 2)))))), ?_⟩
  rintro ds M Q ⟨a, l, c, rfl, ⟨q1, q2, q3, L, C, r, t, e1, e2, e3⟩, q⟩
  refine s_seq (s_par (v := .int (t + 1)) (w := .int 0) (ga_cons (gv_op (gv_op (gv_var rfl) gv_c (rv_ixD rfl e1 drw_turn)) gv_c rv_add) (ga_cons gv_c ga_nil)) fun M1 g1 => ?_)
  dsimp only
  refine s_seq (s_put (a := a) (s := "turn") (gv_var rfl) (gv_var rfl) gv_c (g1 a _ e1) sl4 fun M2 g2 => ?_)
  dsimp only
  rw [drw_putT]
  have f1 : mset M2 a (.dc (drw l c r (t + 1))) a = some (.dc (drw l c r (t + 1))) := mset_same
  have f2 : mset M2 a (.dc (drw l c r (t + 1))) l = some (.ls (L.map D.int)) := by rw [mset_ne q1.symm]; exact g2 l _ (g1 l _ e2)
  have f3 : mset M2 a (.dc (drw l c r (t + 1))) c = some (.ls (C.map D.int)) := by rw [mset_ne q2.symm]; exact g2 c _ (g1 c _ e3)
  have gh : GrowH a l M (mset M2 a (.dc (drw l c r (t + 1)))) := ((g1.trans g2).h).trans GrowH.putA
  have dr : Drw a l c (mset M2 a (.dc (drw l c r (t + 1)))) := ⟨q1, q2, q3, L, C, r, _, f1, f2, f3⟩
  generalize mset M2 a (.dc (drw l c r (t + 1))) = N0 at f1 f2 f3 gh dr ⊢
  refine s_seq (s_forX (all := [.int 2147483647, .int 2147483629, .int 2147483587, .int 2147483579]) (gl_lst (ga_cons gv_c (ga_cons gv_c (ga_cons gv_c (ga_cons gv_c ga_nil)))) (Nat.le_of_lt sl4)) fun M3 p g3 np ep => ?_)
  have pr0 : ∀ d ∈ ([.int 2147483647, .int 2147483629, .int 2147483587, .int 2147483579] : List D), ∃ i : Int, d = .int i ∧ i ≠ 0 := fun d hd => by
    simp only [List.mem_cons, List.not_mem_nil, or_false] at hd
    rcases hd with rfl | rfl | rfl | rfl <;> exact ⟨_, rfl, by decide⟩
  have pr1 : ∀ d ∈ C.map D.int, ∃ i : Int, d = .int i := fun d hd => by
    obtain ⟨j, _, rfl⟩ := List.mem_map.mp hd
    exact ⟨j, rfl⟩
  refine loopI (fun rest ρ M4 => Grow M3 M4 ∧ (∀ d ∈ rest, ∃ i : Int, d = .int i ∧ i ≠ 0) ∧ ∃ f o3 o4 o5, ρ = [some (.ob a), some (.int (t + 1)), some (.int f), o3, o4, o5]) (fun ρ M4 ⟨g4, _, f, o3, o4, o5, eρ⟩ => ?_) (fun d rest ρ M4 ⟨g4, hi, f, o3, o4, o5, eρ⟩ N hN => ?_) _ _ _ ⟨Grow.refl _, pr0, 0, none, none, none, rfl⟩
  · subst eρ
    exact (s_ret (gv_var rfl) fun M5 g5 => q M5 f (gh.trans ((g3.trans g4).trans g5).h) (dr.grow ((g3.trans g4).trans g5)) : dRet (dVar 2) { nx := fun _ M' => Q .non M', rt := Q } [some (.ob a), some (.int (t + 1)), some (.int f), o3, o4, o5] M4)
  · subst eρ
    obtain ⟨i, rfl, hne⟩ := hi d List.mem_cons_self
    refine s_seq (s_set (ρ := [some (.ob a), some (.int (t + 1)), some (.int f), some (.int i), o4, o5]) (gv_op (gv_op gv_c (gv_var rfl) (rv_mul (.inl (by decide)))) (gv_op (gv_var rfl) gv_c (rv_fdiv ⟨by decide, by decide⟩)) rv_add) fun M5 g5 => ?_)
    dsimp only
    have g35 := (g3.trans g4).trans g5
    refine s_seq (s_forL (all := C.map D.int) (a := c) (gv_op (gv_var rfl) gv_c (rv_ixD rfl (g35 a _ f1) drw_cells)) (g35 c _ f3) fun M6 g6 => ?_)
    refine loopI (fun rest2 ρ M7 => Grow M6 M7 ∧ (∀ d ∈ rest2, ∃ i : Int, d = .int i) ∧ ∃ b o5, ρ = [some (.ob a), some (.int (t + 1)), some (.int f), some (.int i), some (.int b), o5]) (fun ρ M7 ⟨g7, _, b, o5, eρ⟩ => ?_) (fun d2 rest2 ρ M7 ⟨g7, hi2, b, o5, eρ⟩ N2 hN2 => ?_) _ _ _ ⟨Grow.refl _, pr1, _, o5, rfl⟩
    · subst eρ
      refine (s_set (gv_op (gv_op (gv_var rfl) gv_c (rv_mul (.inr (by decide)))) (gv_var rfl) rv_add) fun M8 g8 => ?_ : dAsg (dOp dAdd (dOp dMul (dVar 2) (dC (.int 2147483648))) (dVar 4)) (dName 2) { nx := N, rt := Q, bk := _, ct := N } [some (.ob a), some (.int (t + 1)), some (.int f), some (.int i), some (.int b), o5] M7)
      have g48 : Grow M4 M8 := ((g5.trans g6).trans g7).trans g8
      exact hN _ M8 (msq_ls (g48 p _ (g4 p _ ep))) ⟨g4.trans g48, fun d hd => hi d (List.mem_cons_of_mem _ hd), _, some (.int i), some (.int b), o5, rfl⟩
    · subst eρ
      obtain ⟨j, rfl⟩ := hi2 d2 List.mem_cons_self
      refine s_set (ρ := [some (.ob a), some (.int (t + 1)), some (.int f), some (.int i), some (.int b), some (.int j)]) (gv_op (gv_cb (ga_cons (gv_op (gv_op (gv_op (gv_var rfl) gv_c (rv_mul (.inr (by decide)))) (gv_var rfl) rv_add) (gv_var rfl) rv_add) ga_nil) rc_int) (gv_var rfl) (rv_mod hne)) fun M8 g8 => ?_
      exact hN2 _ M8 (msq_ls ((((g35.trans g6).trans g7).trans g8) c _ f3)) ⟨g7.trans g8, fun d hd => hi2 d (List.mem_cons_of_mem _ hd), _, some (.int j), rfl⟩
theorem ok__law_take (T : Tx K mg w) : FnOk P w K mg base CX0 2 T.f__law_take.f T.f__law_take.fd ["draw", "many"] (LSp K spTake) := by
  refine dfun T.f__law_take.F sc__law_take (fun ds M Q ⟨a, l, c, n, e, _⟩ => by rw [e]; rfl) fun cdv A outer s H E hr => ⟨_, (ds_cons (ds_if (d_eqT (hu0 hr) (d_ixA (hu1 hr) (dv 0) dstr) dint) (ds_one (ds_asg (d_ifE (d_neT (hu0 hr) (d_ixA (hu1 hr) (dv 0) dstr) (d_lst da_nil)) (d_popAtS (d_ixA (hu1 hr) (dv 0) dstr) (da_cons dint da_nil)) (d_fn (fn := T.f__law_mixed) (ok__law_mixed T) (hr.mono (by first | decide | omega)) (da_cons (dv 0) da_nil))) (dg_sub (hu1 hr) (dv 0) dstr))) ds_nil) (ds_cons (ds_set (i := 2) sc__law_take.nd (d_mod (d_int T.b_int (da_cons (d_ixA (hu1 hr) (dv 0) dstr) da_nil)) (dv 1))) (ds_cons (ds_asg (d_fdiv (d_int T.b_int (da_cons (d_ixA (hu1 hr) (dv 0) dstr) da_nil)) (dv 1)) (dg_sub (hu1 hr) (dv 0) dstr)) (ds_one (ds_ret (dv 2)))))), ?_⟩
  rintro ds M Q ⟨a, l, c, n, rfl, n1, n2, dr, q⟩
  -- behind the first statement
  have rest : ∀ M1, GrowH a l M M1 → Drw a l c M1 → dSeq (dAsg (dOp (dArithC (fun _ j => j ≠ 0) fun i j => i.fmod j) (dCB dIntC (dCons (dOp dIx (dVar 0) (dC (.str "rest"))) dNil)) (dVar 1)) (dName 2)) (dSeq (dAsg (dOp (dArithC CDivN fun i j => i.fdiv j) (dCB dIntC (dCons (dOp dIx (dVar 0) (dC (.str "rest"))) dNil)) (dVar 1)) (dgSub (dVar 0) (dC (.str "rest")))) (dRet (dVar 2))) { nx := fun _ M' => Q .non M', rt := Q } [some (.ob a), some (.int n), none] M1 := fun M1 g1 ⟨q1, q2, q3, L, C, r, t, e1, e2, e3⟩ => by
    refine s_seq (s_set (gv_op (gv_cb (ga_cons (gv_op (gv_var rfl) gv_c (rv_ixD rfl e1 drw_rest)) ga_nil) rc_int) (gv_var rfl) (rv_mod (by omega))) fun M2 g2 => ?_)
    dsimp only
    refine s_seq (s_put (a := a) (s := "rest") (ρ := [some (.ob a), some (.int n), some (.int (r.fmod n))]) (gv_op (gv_cb (ga_cons (gv_op (gv_var rfl) gv_c (rv_ixD rfl (g2 a _ e1) drw_rest)) ga_nil) rc_int) (gv_var rfl) (rv_fdiv ⟨by omega, by omega⟩)) (gv_var rfl) gv_c (g2 a _ e1) sl4 fun M3 g3 => ?_)
    dsimp only
    rw [drw_putR]
    have g23 := g2.trans g3
    have gh := (g1.trans g23.h).trans (GrowH.putA (a := a) (l := l) (M := M3) (o := .dc (drw l c (r.fdiv n) t)))
    have nn : 0 ≤ r.fmod n := Int.fmod_nonneg_of_pos _ (by omega)
    have lt : r.fmod n < n := Int.fmod_lt_of_pos _ (by omega)
    obtain ⟨i, ei⟩ := Int.eq_ofNat_of_zero_le nn
    rw [ei] at lt ⊢
    refine s_ret (gv_var rfl) fun M4 g4 => q M4 i (gh.trans g4.h) ⟨q1, q2, q3, L, C, r.fdiv n, t, g4 a _ mset_same, g4 l _ (by rw [mset_ne q1.symm]; exact g23 l _ e2), g4 c _ (by rw [mset_ne q2.symm]; exact g23 c _ e3)⟩ (by omega)
  obtain ⟨q1, q2, q3, L, C, r, t, e1, e2, e3⟩ := dr
  refine s_seq (s_if (gt_t (gv_op (gv_op (gv_var rfl) gv_c (rv_ixD rfl e1 drw_rest)) gv_c rv_eqI)) (fun _ M1 g1 => ?_) fun _ M1 g1 => rest M1 g1.h ⟨q1, q2, q3, L, C, r, t, g1 a _ e1, g1 l _ e2, g1 c _ e3⟩)
  have f1 := g1 a _ e1
  have f2 := g1 l _ e2
  have f3 := g1 c _ e3
  have put : ∀ M2 v (L2 : List Int) r2 t2, GrowH a l M M2 → M2 a = some (.dc (drw l c r2 t2)) → M2 l = some (.ls (L2.map D.int)) → M2 c = some (.ls (C.map D.int)) → dgSub (dVar 0) (dC (.str "rest")) (.int v) [some (.ob a), some (.int n), none] M2 (fun ρ' M' => dSeq (dAsg (dOp (dArithC (fun _ j => j ≠ 0) fun i j => i.fmod j) (dCB dIntC (dCons (dOp dIx (dVar 0) (dC (.str "rest"))) dNil)) (dVar 1)) (dName 2)) (dSeq (dAsg (dOp (dArithC CDivN fun i j => i.fdiv j) (dCB dIntC (dCons (dOp dIx (dVar 0) (dC (.str "rest"))) dNil)) (dVar 1)) (dgSub (dVar 0) (dC (.str "rest")))) (dRet (dVar 2))) { nx := fun _ M' => Q .non M', rt := Q } ρ' M') := fun M2 v L2 r2 t2 g2 h1 h2 h3 => by
    refine g_put (a := a) (s := "rest") (gv_var rfl) gv_c h1 sl4 fun M3 g3 => ?_
    rw [drw_putR]
    exact rest _ ((g2.trans g3.h).trans GrowH.putA) ⟨q1, q2, q3, L2, C, v, t2, mset_same, by rw [mset_ne q1.symm]; exact g3 l _ h2, by rw [mset_ne q2.symm]; exact g3 c _ h3⟩
  have tst : Gt (dT (dOp (dEq true) (dOp dIx (dVar 0) (dC (.str "large"))) (dLst dNil))) [some (.ob a), some (.int n), none] M1 (!(L.map D.int).isEmpty) := gt_t (gv_ne_at (gv_op (gv_var rfl) gv_c (rv_ixD rfl f1 drw_large)) f2)
  refine tst M1 (Grow.refl _) _ fun M2 g2 => ?_
  cases L with
  | nil =>
    show dCall spMixed (dCons (dVar 0) dNil) [some (.ob a), some (.int n), none] M2 _
    refine ⟨a, l, c, rfl, ⟨q1, q2, q3, [], C, r, t, g2 a _ f1, g2 l _ f2, g2 c _ f3⟩, fun M3 i g3 ⟨_, _, _, L3, C3, r3, t3, h1, h2, h3⟩ => ?_⟩
    refine g_put (a := a) (s := "rest") (gv_var rfl) gv_c h1 sl4 fun M4 g4 => ?_
    rw [drw_putR]
    exact rest _ ((((g1.trans g2).h.trans g3).trans g4.h).trans GrowH.putA) ⟨q1, q2, q3, L3, C3, i, t3, mset_same, by rw [mset_ne q1.symm]; exact g4 l _ h2, by rw [mset_ne q2.symm]; exact g4 c _ h3⟩
  | cons v L =>
    show dBM dPopAt (dOp dIx (dVar 0) (dC (.str "large"))) (dCons (dC (.int 0)) dNil) [some (.ob a), some (.int n), none] M2 _
    refine c_popAt (l := l) (n := 0) (gv_op (gv_var rfl) gv_c (rv_ixD rfl (g2 a _ f1) drw_large)) gv_c (g2 l _ f2) (by decide) rfl fun M3 g3 => ?_
    refine put _ v L r t (((g1.trans g2).trans g3).h.trans GrowH.putL) ?_ mset_same ?_
    · rw [mset_ne q1]
      exact g3 a _ (g2 a _ f1)
    · rw [mset_ne q3.symm]
      exact g3 c _ (g2 c _ f3)
theorem ok__law_pick (T : Tx K mg w) : FnOk P w K mg base CX0 3 T.f__law_pick.f T.f__law_pick.fd ["draw", "some"] (LSp K spPick) := by
  refine dfun T.f__law_pick.F sc__law_pick (fun ds M Q ⟨a, l, c, s, xs, e, _⟩ => by rw [e]; rfl) fun cdv A outer s H E hr => ⟨_, (ds_one (ds_ret (d_ixA (hu1 hr) (dv 1) (d_fn (fn := T.f__law_take) (ok__law_take T) (hr.mono (by first | decide | omega)) (da_cons (dv 0) (da_cons (d_len T.b_len (da_cons (dv 1) da_nil)) da_nil)))))), ?_⟩
  rintro ds M Q ⟨a, l, c, s, xs, rfl, dr, e, n1, n2, h0, h2, q⟩
  have l1 : 1 ≤ xs.length := by
    cases xs with
    | nil => exact absurd rfl h0
    | cons => simp
  show dCall spTake (dCons (dVar 0) (dCons (dCB dLenA (dCons (dVar 1) dNil)) dNil)) [some (.ob a), some (.ob s)] M (fun y M2 => dIx (.ob s) y M2 Q)
  refine c_take (a := a) (n := xs.length) (ga_cons (gv_var rfl) (ga_cons (gv_cb (ga_cons (gv_var rfl) ga_nil) (rc_lenL e)) ga_nil)) l1 h2 dr fun M1 i g1 dr1 hi => ?_
  have e1 := g1.get n1 n2 e
  exact rv_ixL e1 (atI_nat (List.getElem?_eq_getElem hi)) M1 (Grow.refl _) Q (q M1 _ g1 dr1 (List.getElem_mem hi))
end
end DL

/-! D2: a box begun; lists shuffled; words; drawn args. -/
namespace DL
open PySem PySem.Spec PyProof.Rows L2
def spBegun : DSp := fun ds M Q => ∃ (s : Addr) (o : MO) (ns : List Int), ds = [.ob s] ∧ M s = some o ∧ (∀ M', M' s = some o → Msq M' s = some (ns.map D.int)) ∧ ns.length ≤ 1000 ∧ ∀ M' a l c, Grow M M' → M a = none → M l = none → M c = none → Drw a l c M' → Q (.ob a) M'
def spShuf : DSp := fun ds M Q => ∃ (a l c s : Addr) (xs : List D), ds = [.ob a, .ob s] ∧ Drw a l c M ∧ M s = some (.ls xs) ∧ s ≠ a ∧ s ≠ l ∧ xs.length < 1000000 ∧ ∀ M' p ys, GrowH a l M M' → Drw a l c M' → hide a l M p = none → p ≠ a → p ≠ l → M' p = some (.ls ys) → ys.Perm xs → Q (.ob p) M'
def wordsL (ss : List Str) : List Str := ss.flatMap fun h => abc.cps.toList.map fun c => h ++ ⟨#[c]⟩
def spWords : DSp := fun ds M Q => ∃ (h : Addr) (ss : List Str), ds = [.ob h] ∧ M h = some (.ls (ss.map D.str)) ∧ ss.length ≤ 10 ∧ (∀ s ∈ ss, s.length ≤ 10) ∧ ∀ M' p, Grow M M' → M p = none → M' p = some (.ls ((wordsL ss).map D.str)) → Q (.ob p) M'
def spSomeArgs : DSp := fun ds M Q => ∃ (a l c b : Addr) (L : List Str) (n : Nat), ds = [.ob a, .ob b, .int n] ∧ Drw a l c M ∧ M b = some (.ls (L.map D.str)) ∧ b ≠ a ∧ b ≠ l ∧ L ≠ [] ∧ L.length < 1000000 ∧ n ≤ 1000 ∧ ∀ M' (as : List Str), GrowH a l M M' → Drw a l c M' → as.length ≤ n → (∀ x ∈ as, x ∈ L) → Q (.tup (as.map D.str)) M'
theorem putD_miss {kvs : List (Key × D)} {k : Key} {v : D} (h : (kvs.any fun kv => decide (kv.1 = k)) = false) : putD kvs k v = kvs ++ [(k, v)] := by
  unfold putD
  rw [h, if_neg (by simp)]
theorem merge4 {x y z u : D} : mergeD [] [(.inr "large", x), (.inr "cells", y), (.inr "rest", z), (.inr "turn", u)] = [(.inr "large", x), (.inr "cells", y), (.inr "rest", z), (.inr "turn", u)] := by
  show putD (putD (putD (putD [] (.inr "large") x) (.inr "cells") y) (.inr "rest") z) (.inr "turn") u = _
  rw [putD_miss (kvs := []) rfl, List.nil_append]
  rw [putD_miss (kvs := [((.inr "large" : Key), x)]) (by rw [List.any_cons, List.any_nil, decide_eq_false ne_lc]; rfl)]
  rw [List.cons_append, List.nil_append]
  rw [putD_miss (kvs := [((.inr "large" : Key), x), (.inr "cells", y)]) (by rw [List.any_cons, List.any_cons, List.any_nil, decide_eq_false ne_lr, decide_eq_false ne_cr]; rfl)]
  rw [List.cons_append, List.cons_append, List.nil_append]
  rw [putD_miss (kvs := [((.inr "large" : Key), x), (.inr "cells", y), (.inr "rest", z)]) (by rw [List.any_cons, List.any_cons, List.any_cons, List.any_nil, decide_eq_false ne_lt, decide_eq_false ne_ct, decide_eq_false ne_rt]; rfl)]
  rw [List.cons_append, List.cons_append, List.cons_append, List.nil_append]
theorem s_parL {ρ : DSt} {M : DM} {E : DEnds} {i j : Nat} {ta tb : DTE} {xs ys : List D} (h : Gx ta ρ M xs) (h' : Gx tb ρ M ys) (q : ∀ M2 p1 p2, Grow M M2 → M p1 = none → M p2 = none → p1 ≠ p2 → M2 p1 = some (.ls xs) → M2 p2 = some (.ls ys) → E.nx ((ρ.set i (some (.ob p1))).set j (some (.ob p2))) M2) :
    dPar i j (dCons ta (dCons tb dNil)) E ρ M := h M (Grow.refl M) _ fun M1 p1 g1 n1 e1 => h' M1 g1 _ fun M2 p2 g2 n2 e2 => by
  refine q M2 p1 p2 (g1.trans g2) n1 (fresh_of g1 n2) (fun z => ?_) (g2 _ _ e1) e2
  rw [← z, e1] at n2
  cases n2
theorem Drw.box {a l c p : Addr} {M : DM} (d : Drw a l c M) {o : MO} (n : hide a l M p = none) (h1 : p ≠ a) (h2 : p ≠ l) : p ≠ c := by
  obtain ⟨q1, q2, q3, L, C, r, t, e1, e2, e3⟩ := d
  intro z
  rw [hide_ne h1 h2, z, e3] at n
  cases n
theorem gl_sl0 {ρ : DSt} {M : DM} {te : DTE} {a : Addr} {xs : List D} (h : Gv te ρ M (.ob a)) (e : M a = some (.ls xs)) : Gx (dCB dListOf (dCons te dNil)) ρ M xs := fun M1 g1 Q q => h M1 g1 _ fun M2 g2 => by
  unfold dNil dListOf
  dsimp only
  rw [msq_ls (g2 a _ (g1 a _ e))]
  exact fun p np => q _ p (g2.trans (Grow.new np)) (fresh_of g2 np) mset_same
theorem abc_len : (signs abc).length = 26 := by decide +kernel
section
variable {P : Program} {w : World} {K : PySem.W.Frag} {mg : Str → Option Value} {base : Heap}
theorem ok__law_begun (T : Tx K mg w) : FnOk P w K mg base CX0 1 T.f__law_begun.f T.f__law_begun.fd ["script"] (LSp K spBegun) := by
  refine dfun T.f__law_begun.F sc__law_begun (fun ds M Q ⟨s, o, ns, e, _⟩ => by rw [e]; rfl) fun cdv A outer s H E hr => ⟨_, (ds_cons (ds_setLc (k := 1) rfl sc__law_begun.nd (di_any (dv 0)) (blkOk_by (own := [("grain", 2)]) (N := ["script", "large", "grain"]) (sc := defScope s__law_begun) (by decide +kernel)) (by decide) (fun _ _ _ _ _ => pg_name (i := 2) sc__law_begun.nd rfl (Or.inl rfl)) (fun _ _ _ _ _ => (dts_one (d_geT (d_abs T.b_abs (da_cons (dv 2) da_nil)) (d_pow dint dint)))) (fun _ _ _ _ _ => (d_sub (d_abs T.b_abs (da_cons (dv 2) da_nil)) (d_pow dint dint))) (sw_true rfl rfl rfl (by decide +kernel))) (ds_one (ds_ret (d_disp (dpp_cons dstr (dv 1) (dpp_cons dstr (d_lc rfl sc__law_begun.nd (di_any (dv 0)) (blkOk_by (own := [("grain", 2)]) (N := ["script", "large", "grain"]) (sc := defScope s__law_begun) (by decide +kernel)) (by decide) (fun _ _ _ _ _ => pg_name (i := 2) sc__law_begun.nd rfl (Or.inl rfl)) (fun _ _ _ _ _ => dts_nil) (fun _ _ _ _ _ => (d_mod (d_int T.b_int (da_cons (d_abs T.b_abs (da_cons (dv 2) da_nil)) da_nil)) dint))) (dpp_cons dstr dint (dpp_cons dstr dint dpp_nil)))))))), ?_⟩
  rintro ds M Q ⟨s, o, ns, rfl, eo, es, hl, q⟩
  have hint : ∀ d ∈ ns.map D.int, ∃ i : Int, d = .int i := fun d hd => by
    obtain ⟨j, _, rfl⟩ := List.mem_map.mp hd
    exact ⟨j, rfl⟩
  have len : (ns.map D.int).length ≤ sizeLine := by rw [List.length_map, sizeLine_eq]; omega
  let absI : Int → Int := fun i => if i < 0 then -i else i
  let t1 : D → Bool := fun d => match d with
    | .int i => decide ((10 : Int) ^ (18 : Int).toNat ≤ absI i)
    | _ => false
  let f1 : D → D := fun d => match d with
    | .int i => .int (absI i - (10 : Int) ^ (18 : Int).toNat)
    | _ => .non
  let f2 : D → D := fun d => match d with
    | .int i => .int ((absI i).fmod 2147483629)
    | _ => .non
  have pw : ∀ (ρ : DSt) (M1 : DM), Gv (dOp (dArithC CPow fun i j => i ^ j.toNat) (dC (.int 10)) (dC (.int 18))) ρ M1 (.int ((10 : Int) ^ (18 : Int).toNat)) := fun ρ M1 => gv_op gv_c gv_c (rv_pow ⟨by decide, by decide, by decide⟩)
  refine s_seq (s_setL (xs := ((ns.map D.int).filter t1).map f1) (gl_lcF f1 t1 (gi_msq (gv_var rfl) fun M1 g => es M1 (g s _ eo)) len (fun d hd => ?_) fun d hd _ => ?_) fun M1 l g1 nl el => ?_)
  · obtain ⟨i, rfl⟩ := hint d hd
    exact gt_t (gv_op (gv_cb (ga_cons (gv_var rfl) ga_nil) rc_abs) (pw _ _) rv_ge)
  · obtain ⟨i, rfl⟩ := hint d hd
    exact gv_op (gv_cb (ga_cons (gv_var rfl) ga_nil) rc_abs) (pw _ _) rv_sub
  · let te2 : DTE := dLc (dwA (dVar 0)) 2 dYes (dOp (dArithC (fun _ j => j ≠ 0) fun i j => i.fmod j) (dCB dIntC (dCons (dCB dAbs (dCons (dVar 2) dNil)) dNil)) (dC (.int 2147483629))) (List.map (fun x => x.snd) [(Str.ofString "grain", 2)])
    have gx2 : Gx te2 [some (.ob s), some (.ob l), none] M1 ((ns.map D.int).map f2) := by
      refine gl_lc f2 (gi_msq (gv_var rfl) fun M2 g => es M2 (g s _ (g1 s _ eo))) len fun d hd => ?_
      obtain ⟨i, rfl⟩ := hint d hd
      exact gv_op (gv_cb (ga_cons (gv_cb (ga_cons (gv_var rfl) ga_nil) rc_abs) ga_nil) rc_int) gv_c (rv_mod (by decide))
    show te2 [some (.ob s), some (.ob l), none] M1 (fun y M2 => match keyed [(.str "large", .ob l), (.str "cells", y), (.str "rest", .int 0), (.str "turn", .int 0)] with
      | some kvs => kvs.length ≤ 15 ∧ ∀ p, M2 p = none → Q (.ob p) (mset M2 p (.dc (mergeD [] kvs)))
      | none => False)
    refine gx2 M1 (Grow.refl _) _ fun M2 c g2 nc ec => ?_
    show (4 ≤ 15 ∧ ∀ p, M2 p = none → Q (.ob p) (mset M2 p (.dc (mergeD [] [(.inr "large", .ob l), (.inr "cells", .ob c), (.inr "rest", .int 0), (.inr "turn", .int 0)]))))
    refine ⟨by decide, fun p np => ?_⟩
    rw [merge4]
    have el2 := g2 l _ el
    have npl : p ≠ l := fun z => by
      rw [z, el2] at np
      cases np
    have npc : p ≠ c := fun z => by
      rw [z, ec] at np
      cases np
    have nlc : l ≠ c := fun z => by
      rw [← z, el] at nc
      cases nc
    have g02 := g1.trans g2
    refine q _ p l c (g02.trans (Grow.new np)) (fresh_of g02 np) nl (fresh_of g1 nc) ⟨npl, npc, nlc, ns.filterMap fun i => if t1 (.int i) then some (absI i - (10 : Int) ^ (18 : Int).toNat) else none, ns.map fun i => (absI i).fmod 2147483629, 0, 0, mset_same, ?_, ?_⟩
    · rw [mset_ne npl.symm, el2]
      congr 2
      have aux : ∀ ns : List Int, ((ns.map D.int).filter t1).map f1 = (ns.filterMap fun i => if t1 (.int i) then some (absI i - (10 : Int) ^ (18 : Int).toNat) else none).map D.int := by
        intro ns
        induction ns with
        | nil => rfl
        | cons i ns ih =>
          rw [List.map_cons, List.filter_cons, List.filterMap_cons]
          cases e : t1 (.int i) with
          | true =>
            rw [if_pos rfl, List.map_cons, ih]
            rfl
          | false =>
            rw [if_neg (by simp), ih]
            rfl
      exact aux ns
    · rw [mset_ne npc.symm, ec, List.map_map, List.map_map]
      rfl
theorem perm_pop {F L xs : List D} {d : D} {i : Nat} (h : (F ++ L).Perm xs) (e : L[i]? = some d) : ((F ++ [d]) ++ L.eraseIdx i).Perm xs := by
  refine List.Perm.trans ?_ h
  rw [List.append_assoc]
  refine List.Perm.append_left F ?_
  obtain ⟨hi, e⟩ := List.getElem?_eq_some_iff.mp e
  rw [← e]
  show (L[i] :: L.eraseIdx i).Perm L
  have : L = L.take i ++ L[i] :: L.drop (i + 1) := by
    conv => lhs; rw [← List.take_append_drop i L]
    congr 1
    exact List.drop_eq_getElem_cons hi
  rw [List.eraseIdx_eq_take_drop_succ]
  conv => rhs; rw [this]
  exact List.perm_middle.symm
theorem ok__law_shuffled (T : Tx K mg w) : FnOk P w K mg base CX0 3 T.f__law_shuffled.f T.f__law_shuffled.fd ["draw", "some"] (LSp K spShuf) := by
  refine dfun T.f__law_shuffled.F sc__law_shuffled (fun ds M Q ⟨a, l, c, s, xs, e, _⟩ => by rw [e]; rfl) fun cdv A outer s H E hr => ⟨_, (ds_cons (ds_par (i := 2) (j := 3) rfl sc__law_shuffled.nd (by decide) (da_cons (d_list T.b_list (da_cons (dv 1) da_nil)) (da_cons (d_lst da_nil) da_nil))) (ds_cons (ds_while PassesOwn.never (d_neT (hu0 hr) (dv 2) (d_lst da_nil)) (ds_one (ds_expr (d_appendS (dv 3) (da_cons (d_popAtS (dv 2) (da_cons (d_fn (fn := T.f__law_take) (ok__law_take T) (hr.mono (by first | decide | omega)) (da_cons (dv 0) (da_cons (d_len T.b_len (da_cons (dv 2) da_nil)) da_nil))) da_nil)) da_nil))))) (ds_one (ds_ret (dv 3))))), ?_⟩
  rintro ds M Q ⟨a, l, c, s, xs, rfl, dr, e, n1, n2, h2, q⟩
  refine s_seq (s_parL (xs := xs) (ys := []) (gl_sl0 (gv_var rfl) e) (gl_lst ga_nil (Nat.zero_le _)) fun M1 pl pf g1 npl npf nlf el ef => ?_)
  dsimp only
  have a1 := dr.new npl
  have a2 := dr.new npf
  have hpl : hide a l M pl = none := by rw [hide_ne a1.1 a1.2.1]; exact npl
  have hpf : hide a l M pf = none := by rw [hide_ne a2.1 a2.2.1]; exact npf
  have sz : ∀ k : Nat, k < 1000000 → k < sizeLine := fun k h => by rw [sizeLine_eq]; omega
  refine s_seq ⟨fun n ρ M2 => GrowH a l M M2 ∧ Drw a l c M2 ∧ ρ = [some (.ob a), some (.ob s), some (.ob pl), some (.ob pf)] ∧ ∃ L F, M2 pl = some (.ls L) ∧ M2 pf = some (.ls F) ∧ (F ++ L).Perm xs ∧ L.length = n, ⟨xs.length, g1.h, dr.grow g1, rfl, xs, [], el, ef, List.Perm.refl _, rfl⟩, ?_⟩
  rintro n ρ M2 ⟨g2, dr2, rfl, L, F, eL, eF, hp, rfl⟩
  have tst : Gt (dT (dOp (dEq true) (dVar 2) (dLst dNil))) [some (.ob a), some (.ob s), some (.ob pl), some (.ob pf)] M2 (!L.isEmpty) := gt_t (gv_ne_at (gv_var rfl) eL)
  refine tst M2 (Grow.refl _) _ fun M3 g3 => ?_
  have eL3 := g3 _ _ eL
  have eF3 := g3 _ _ eF
  cases L with
  | nil =>
    rw [if_neg (by simp)]
    rw [List.append_nil] at hp
    exact (s_ret (gv_var rfl) fun M4 g4 => q M4 pf F ((g2.trans g3.h).trans g4.h) ((dr2.grow g3).grow g4) hpf a2.1 a2.2.1 (g4 _ _ eF3) hp : dRet (dVar 3) { nx := fun _ M' => Q .non M', rt := Q } [some (.ob a), some (.ob s), some (.ob pl), some (.ob pf)] M3)
  | cons d L =>
    rw [if_pos (show (!(d :: L).isEmpty) = true from rfl)]
    have len : (F ++ d :: L).length = xs.length := hp.length_eq
    rw [List.length_append, List.length_cons] at len
    refine ⟨by rw [msq_ls eF3]; rfl, ?_⟩
    refine (⟨by rw [msq_ls eL3]; rfl, ?_⟩ : dBM dPopAt (dVar 2) (dCons (dCall spTake (dCons (dVar 0) (dCons (dCB dLenA (dCons (dVar 2) dNil)) dNil))) dNil) [some (.ob a), some (.ob s), some (.ob pl), some (.ob pf)] M3 (fun y M4 => dAppend (.ob pf) [y] M4 (fun _ M5 => ∃ n', n' < (d :: L).length ∧ (GrowH a l M M5 ∧ Drw a l c M5 ∧ ([some (.ob a), some (.ob s), some (.ob pl), some (.ob pf)] : DSt) = [some (.ob a), some (.ob s), some (.ob pl), some (.ob pf)] ∧ ∃ L F, M5 pl = some (.ls L) ∧ M5 pf = some (.ls F) ∧ (F ++ L).Perm xs ∧ L.length = n'))))
    refine c_take (a := a) (l := l) (c := c) (n := (d :: L).length) (ga_cons (gv_var rfl) (ga_cons (gv_cb (ga_cons (gv_var rfl) ga_nil) (rc_lenL eL3)) ga_nil)) (by simp) (by rw [List.length_cons]; omega) (dr2.grow g3) fun M4 i g4 dr4 hi => ?_
    have eL4 := g4.get a1.1 a1.2.1 eL3
    have eF4 := g4.get a2.1 a2.2.1 eF3
    have g04 : GrowH a l M M4 := (g2.trans g3.h).trans g4
    unfold dNil dPopAt
    dsimp only
    rw [eL4]
    refine ⟨by omega, by rw [List.length_cons] at hi; omega, ?_⟩
    rw [Int.toNat_natCast, List.getElem?_eq_getElem hi]
    show dAppend (.ob pf) [(d :: L)[i]] (mset M4 pl (.ls ((d :: L).eraseIdx i))) _
    unfold dAppend
    dsimp only
    rw [mset_ne nlf.symm, eF4]
    refine ⟨sz _ (by omega), L.length, by simp, ?_, ?_, rfl, (d :: L).eraseIdx i, F ++ [(d :: L)[i]], by rw [mset_ne nlf]; exact mset_same, mset_same, perm_pop hp (List.getElem?_eq_getElem hi), by rw [List.length_eraseIdx_of_lt hi]; rfl⟩
    · exact (g04.put hpl).put hpf
    · exact (dr4.putOther a1.1 a1.2.1 a1.2.2).putOther a2.1 a2.2.1 a2.2.2
end
end DL

/-! D3: words, drawn args, labels. -/
namespace DL
open PySem PySem.Spec PyProof.Rows L2
def strD : D → Str
  | .str s => s
  | _ => ""
def labs (it : D) : List Str := (match argsD it with
  | some (.tup as) => as.map strD
  | _ => []) ++ (if st0 it = "do" then [st2 it] else [])
def spLabels : DSp := fun ds M Q => ∃ (k : D) (ps : List D) (B : List Str), ds = [.tup [k, .tup ps]] ∧ ps.all isProc = true ∧ ps.length ≤ 1000 ∧ OkL M ps ∧ B.length < 64 ∧ (∀ it ∈ allIt ps, ∀ x ∈ labs it, x ∈ B) ∧ ∀ M' p (ys : List Str), Grow M M' → M p = none → M' p = some (.ls (ys.map D.str)) → (∀ y ∈ ys, y ∈ B) → ys.length < 64 → Q (.ob p) M'
theorem textKeys_of : ∀ {kvs : List (Key × D)} {ss : List Str}, kvs.map (·.1) = ss.map Sum.inr → textKeys kvs = some ss
  | [], [], _ => rfl
  | [], _ :: _, h => by cases h
  | _ :: _, [], h => by cases h
  | (k, d) :: kvs, s :: ss, h => by
    rw [List.map_cons, List.map_cons, List.cons.injEq] at h
    have e : k = .inr s := h.1
    subst e
    unfold textKeys
    rw [textKeys_of h.2]
    rfl
theorem seen1_nodup {acc : List Str} {x : Str} (h : acc.Nodup) : (seen1 acc x).Nodup := by
  unfold seen1
  split
  · exact h
  · rename_i n
    rw [List.nodup_append]
    refine ⟨h, by simp, fun a ha b hb e => ?_⟩
    rw [List.mem_singleton.mp hb] at e
    exact n (e ▸ ha)
theorem seen1_sub {acc B : List Str} {x : Str} (h : ∀ y ∈ acc, y ∈ B) (hx : x ∈ B) : ∀ y ∈ seen1 acc x, y ∈ B := by
  unfold seen1
  split
  · exact h
  · intro y hy
    rcases List.mem_append.mp hy with hy | hy
    · exact h y hy
    · rw [List.mem_singleton.mp hy]
      exact hx
section
variable {P : Program} {w : World} {K : PySem.W.Frag} {mg : Str → Option Value} {base : Heap}
theorem ok__law_words (T : Tx K mg w) : FnOk P w K mg base CX0 1 T.f__law_words.f T.f__law_words.fd ["heads"] (LSp K spWords) := by
  refine dfun T.f__law_words.F sc__law_words (fun ds M Q ⟨h, ss, e, _⟩ => by rw [e]; rfl) fun cdv A outer s H E hr => ⟨_, (ds_cons (ds_set (i := 1) sc__law_words.nd (d_lst da_nil)) (ds_cons (ds_for PassesOwn.never rfl (di_any (dv 0)) (dg_name (i := 2) sc__law_words.nd) (ds_one (ds_set (i := 1) sc__law_words.nd (d_add (dv 1) (d_lc rfl sc__law_words.nd (di_str dstr) (blkOk_by (own := [("sign", 3)]) (N := ["heads", "found", "head", "sign"]) (sc := defScope s__law_words) (by decide +kernel)) (by decide) (fun _ _ _ _ _ => pg_name (i := 3) sc__law_words.nd rfl (Or.inl rfl)) (fun _ _ _ _ _ => dts_nil) (fun _ _ _ _ _ => (d_add (dv 2) (dv 3)))))))) (ds_one (ds_ret (dv 1))))), ?_⟩
  rintro ds M Q ⟨h, ss, rfl, e, l10, each, q⟩
  refine s_seq (s_setL (xs := []) (gl_lst ga_nil (Nat.zero_le _)) fun M1 p g1 np e1 => ?_)
  dsimp only
  refine s_seq (s_forL (all := ss.map D.str) (a := h) (gv_var rfl) (g1 _ _ e) fun M2 g2 => ?_)
  have abcl : abc.cps.toList.length = 26 := by
    have := abc_len
    unfold signs at this
    rw [List.length_map] at this
    exact this
  have lw : ∀ ts : List Str, (wordsL ts).length = ts.length * 26 := by
    intro ts
    induction ts with
    | nil => rfl
    | cons t ts ih =>
      show ((abc.cps.toList.map fun c => t ++ ⟨#[c]⟩) ++ wordsL ts).length = _
      rw [List.length_append, List.length_map, abcl, ih, List.length_cons, Nat.succ_mul]
      omega
  refine loopI (fun r ρ M3 => Grow M M3 ∧ ∃ p o2 done rest, ρ = [some (.ob h), some (.ob p), o2, none] ∧ M p = none ∧ r = rest.map D.str ∧ ss = done ++ rest ∧ M3 p = some (.ls ((wordsL done).map D.str))) (fun ρ M3 ⟨g3, p, o2, done, rest, eρ, np, er, es, ep⟩ => ?_) (fun d r ρ M3 ⟨g3, p, o2, done, rest, eρ, np, er, es, ep⟩ N hN => ?_) _ _ _ ⟨g1.trans g2, p, none, [], ss, rfl, np, rfl, rfl, g2 _ _ e1⟩
  · subst eρ
    have er : rest = [] := by
      cases rest with
      | nil => rfl
      | cons => cases er
    rw [show done = ss by rw [es, er, List.append_nil]] at ep
    exact (s_ret (gv_var rfl) fun M4 g4 => q M4 p (g3.trans g4) np (g4 _ _ ep) : dRet (dVar 1) { nx := fun _ M' => Q .non M', rt := Q } [some (.ob h), some (.ob p), o2, none] M3)
  · subst eρ
    obtain ⟨z, rest, rfl⟩ : ∃ z rest', rest = z :: rest' := by
      cases rest with
      | nil => cases er
      | cons z r => exact ⟨z, r, rfl⟩
    rw [List.map_cons, List.cons.injEq] at er
    obtain ⟨rfl, rfl⟩ := er
    have hz : z.length ≤ 10 := each z (by rw [es]; simp)
    refine s_setL (ρ := [some (.ob h), some (.ob p), some (.str z), none]) (xs := (wordsL done).map D.str ++ (signs abc).map fun d => .str (z ++ strD d)) (gl_at (gv_var rfl) ep (gl_lc (fun d => .str (z ++ strD d)) (gi_str gv_c) (by rw [abc_len, sizeLine_eq]; omega) fun d hd => ?_) ?_) fun M4 p4 g4 np4 ep4 => ?_
    · unfold signs at hd
      obtain ⟨c, _, rfl⟩ := List.mem_map.mp hd
      exact gv_op (gv_var rfl) (gv_var rfl) (rv_cat (by show z.length + 1 ≤ _; rw [sizeLine_eq]; omega))
    · have dl : done.length ≤ 10 := by
        have := congrArg List.length es
        rw [List.length_append] at this
        omega
      rw [List.length_map, List.length_map, abc_len, lw, sizeLine_eq]
      omega
    · refine hN _ M4 (msq_ls (g4 _ _ (g3 _ _ e))) ⟨g3.trans g4, p4, some (.str z), done ++ [z], rest, rfl, fresh_of g3 np4, rfl, by rw [es]; simp, ?_⟩
      rw [ep4]
      congr 2
      show _ = ((done ++ [z]).flatMap fun h => abc.cps.toList.map fun c => h ++ ⟨#[c]⟩).map D.str
      rw [List.flatMap_append, List.flatMap_cons, List.flatMap_nil, List.append_nil, List.map_append]
      congr 1
theorem ok__law_some_args (T : Tx K mg w) : FnOk P w K mg base CX0 4 T.f__law_some_args.f T.f__law_some_args.fd ["draw", "labels", "most"] (LSp K spSomeArgs) := by
  refine dfun T.f__law_some_args.F sc__law_some_args (fun ds M Q ⟨a, l, c, b, L, n, e, _⟩ => by rw [e]; rfl) fun cdv A outer s H E hr => ⟨_, (ds_one (ds_ret (d_tuple T.b_tuple (da_cons (d_lc rfl sc__law_some_args.nd (di_rng rfl T.b_range (da_cons (d_fn (fn := T.f__law_take) (ok__law_take T) (hr.mono (by first | decide | omega)) (da_cons (dv 0) (da_cons (d_add (dv 2) dint) da_nil))) da_nil)) (blkOk_by (own := [("lap", 3)]) (N := ["draw", "labels", "most", "lap"]) (sc := defScope s__law_some_args) (by decide +kernel)) (by decide) (fun _ _ _ _ _ => pg_name (i := 3) sc__law_some_args.nd rfl (Or.inl rfl)) (fun _ _ _ _ _ => dts_nil) (fun _ _ _ _ _ => (d_fn (fn := T.f__law_pick) (ok__law_pick T) (hr.mono (by first | decide | omega)) (da_cons (dv 0) (da_cons (dv 1) da_nil))))) da_nil)))), ?_⟩
  rintro ds M Q ⟨a, l, c, b, L, n, rfl, dr, eb, n1, n2, h0, hl, hn, q⟩
  show dCall spTake (dCons (dVar 0) (dCons (dOp dAdd (dVar 2) (dC (.int 1))) dNil)) [some (.ob a), some (.ob b), some (.int n), none] M (fun d M1 => match [d] with
    | [.int j] => j < 2 ^ 62 ∧ -(2 ^ 62) ≤ j ∧ dComp always dYes (dCall spPick (dCons (dVar 0) (dCons (dVar 1) dNil))) [some (.ob a), some (.ob b), some (.int n), none] 3 (fun acc M2 => ∀ p, M2 p = none → dTupOf [.ob p] (mset M2 p (.ls acc)) Q) (rgD 0 j.toNat) [] M1
    | _ => False)
  refine c_take (a := a) (n := n + 1) (ga_cons (gv_var rfl) (ga_cons (gv_eq (gv_op (gv_var rfl) gv_c rv_add) (by rw [Int.natCast_add]; rfl)) ga_nil)) (by omega) (by omega) dr fun M1 i g1 dr1 hi => ?_
  dsimp only
  refine ⟨by omega, by omega, ?_⟩
  rw [Int.toNat_natCast]
  refine compI (fun r acc M2 => GrowH a l M M2 ∧ Drw a l c M2 ∧ ∃ as : List Str, acc = as.map D.str ∧ as.length + r.length = i ∧ ∀ x ∈ as, x ∈ L) (fun acc M2 ⟨g2, dr2, as, ea, el, hx⟩ => ?_) (fun d r acc M2 ⟨g2, dr2, as, ea, el, hx⟩ N hN => ?_) _ _ _ ⟨g1, dr1, [], rfl, by rw [rgD_length]; simp, fun x h => nomatch h⟩
  · intro p np
    unfold dTupOf
    dsimp only
    rw [msq_ls (mset_same), ea]
    have nn := dr2.new np
    rw [List.length_nil] at el
    exact q _ as (g2.trans (Grow.new np).h) (dr2.grow (Grow.new np)) (by omega) hx
  · unfold dYes
    dsimp only
    rw [if_pos rfl]
    refine c_pick (a := a) (l := l) (c := c) (s := b) (xs := L.map D.str) (ga_cons (gv_var rfl) (ga_cons (gv_var rfl) ga_nil)) dr2 (g2.get n1 n2 eb) n1 n2 (by simpa using h0) (by rw [List.length_map]; exact hl) fun M3 d3 g3 dr3 hd3 => ?_
    obtain ⟨x, hxm, rfl⟩ := List.mem_map.mp hd3
    rw [List.length_cons] at el
    refine ⟨by rw [ea, List.length_map, sizeLine_eq]; omega, True.intro, hN _ M3 ⟨g2.trans g3, dr3, as ++ [x], by rw [ea]; simp, by rw [List.length_append, List.length_singleton]; omega, fun y hy => ?_⟩⟩
    rcases List.mem_append.mp hy with hy | hy
    · exact hx y hy
    · rw [List.mem_singleton.mp hy]
      exact hxm
theorem all_procsM {ps : List D} (h : ps.all isProc = true) : ∀ it ∈ allIt ps, isItem it = true := fun it hit => by
  obtain ⟨p, hp, hm⟩ := List.mem_flatMap.mp hit
  obtain ⟨x, b, rfl, _, hb⟩ := proc_shape (List.all_eq_true.mp h p hp)
  have aux : ∀ (n : Nat) (d : D), isBody n d = true → ∀ it ∈ itemsD n d, isItem it = true := by
    intro n
    induction n with
    | zero => intro d _ it hit; unfold itemsD at hit; cases hit
    | succ n ih =>
      intro d hb it hit
      obtain ⟨xs, rfl⟩ := body_tup hb
      rw [isBody_eq, Bool.and_eq_true] at hb
      have hit : it ∈ xs.flatMap fun it => it :: ((bodiesD it).getD []).flatMap (itemsD n) := hit
      obtain ⟨x, hx, hm⟩ := List.mem_flatMap.mp hit
      have q := List.all_eq_true.mp hb.2 x hx
      rw [Bool.and_eq_true] at q
      rcases List.mem_cons.mp hm with rfl | hm
      · exact q.1
      · obtain ⟨bs, eb, _⟩ := item_bodies q.1
        rw [eb, Option.getD_some] at hm q
        obtain ⟨b, hb, hm⟩ := List.mem_flatMap.mp hm
        exact ih b (List.all_eq_true.mp q.2 b hb) it hm
  exact aux 3 b hb it hm
/-- the labels of an item as one row -/
theorem labs_row {it : D} (h : isItem it = true) : ∃ as : List Str, argsD it = some (.tup (as.map D.str)) ∧ as.length ≤ 3 ∧ labs it = as ++ (if st0 it = "do" then [st2 it] else []) ∧ (st0 it = "do" → ∃ ds, it = .tup ds ∧ ds[2]? = some (.str (st2 it))) := by
  have strsE : ∀ as : List Str, (as.map D.str).map strD = as := fun as => by
    rw [List.map_map]
    exact List.map_id'' (fun _ => rfl) as
  cases item_shape h with
  | stp s l as hs hl ha => exact ⟨as, rfl, ha.1, by unfold labs; rw [show argsD (.tup [.str "do", .str s, .str l, .tup (as.map D.str)]) = some (.tup (as.map D.str)) from rfl]; dsimp only; rw [strsE], fun _ => ⟨_, rfl, rfl⟩⟩
  | iff s as a b hs ha => exact ⟨as, rfl, ha.1, by unfold labs; rw [show argsD (.tup [.str "if", .str s, .tup (as.map D.str), a, b]) = some (.tup (as.map D.str)) from rfl]; dsimp only; rw [strsE], fun e => nomatch (show ("if" : Str) = "do" from e)⟩
  | whl s as a hs ha => exact ⟨as, rfl, ha.1, by unfold labs; rw [show argsD (.tup [.str "while", .str s, .tup (as.map D.str), a]) = some (.tup (as.map D.str)) from rfl]; dsimp only; rw [strsE], fun e => nomatch (show ("while" : Str) = "do" from e)⟩
  | cal s hh hs hh2 => exact ⟨[], rfl, Nat.zero_le _, rfl, fun e => nomatch (show ("call" : Str) = "do" from e)⟩
theorem ok__law_labels (T : Tx K mg w) : FnOk P w K mg base CX0 6 T.f__law_labels.f T.f__law_labels.fd ["library"] (LSp K spLabels) := by
  have G3 := ok_litems (P := P) (base := base) T 3 (Nat.le_refl _)
  refine dfun T.f__law_labels.F sc__law_labels (fun ds M Q ⟨k, ps, B, e, _⟩ => by rw [e]; rfl) fun cdv A outer s H E hr => ⟨_, (ds_cons (ds_set (i := 1) sc__law_labels.nd d_dnew) (ds_cons (ds_for PassesOwn.never rfl (di_any (d_ixA (hu1 hr) (dv 0) dint)) (dg_name (i := 2) sc__law_labels.nd) (ds_one (ds_for PassesOwn.never rfl (di_any (d_fn (fn := T.f__law_items) G3 (hr.mono (by first | decide | omega)) (da_cons (d_ixA (hu1 hr) (dv 2) dint) da_nil))) (dg_name (i := 3) sc__law_labels.nd) (ds_one (ds_for PassesOwn.never rfl (di_any (d_add (d_fn (fn := T.f__law_args) (ok__law_args T) (hr.mono (by first | decide | omega)) (da_cons (dv 3) da_nil)) (d_ifE (d_eqT (hu0 hr) (d_ixA (hu1 hr) (dv 3) dint) dstr) (d_tup (da_cons (d_ixA (hu1 hr) (dv 3) dint) da_nil)) (d_tup da_nil)))) (dg_name (i := 4) sc__law_labels.nd) (ds_one (ds_asg dbl (dg_sub (hu1 hr) (dv 1) (dv 4))))))))) (ds_one (ds_ret (d_sorted rfl T.b_sorted (da_cons (dv 1) da_nil)))))), ?_⟩
  rintro ds M Q ⟨k, ps, B, rfl, hp, hl, okp, b64, hB, q⟩
  have its := all_procsM hp
  have pr : ∀ p ∈ ps, ∃ x b, p = .tup [.str "proc", .str x, b] ∧ nameS x = true ∧ isBody 3 b = true := fun p hm => proc_shape (List.all_eq_true.mp hp p hm)
  refine s_seq (s_new0 fun f nf => ?_)
  dsimp only
  have g0 : Grow M (mset M f (.dc [])) := Grow.new nf
  let Inv : DM → Prop := fun M3 => Grow M M3 ∧ ∃ (kvs : List (Key × D)) (ss : List Str), M3 f = some (.dc kvs) ∧ kvs.map (·.1) = ss.map Sum.inr ∧ ss.Nodup ∧ ∀ y ∈ ss, y ∈ B
  refine s_seq (s_forT (all := ps) (gv_op (gv_var rfl) gv_c (rv_ixT (atI_nat (n := 1) rfl))) fun M2 g2 => ?_)
  refine loopI (fun r ρ M3 => Inv M3 ∧ (∀ p ∈ r, p ∈ ps) ∧ ∃ o2 o3 o4, ρ = [some (.tup [k, .tup ps]), some (.ob f), o2, o3, o4]) (fun ρ M3 ⟨⟨g3, kvs, ss, ef, ek, nd, sub⟩, _, o2, o3, o4, eρ⟩ => ?_) (fun p r ρ M3 ⟨iv3, hr3, o2, o3, o4, eρ⟩ N hN => ?_) _ _ _ ⟨⟨g0.trans g2, [], [], g2 _ _ mset_same, rfl, List.nodup_nil, fun y h => nomatch h⟩, fun p h => h, none, none, none, rfl⟩
  · subst eρ
    show dSortedD [.ob f] M3 Q
    unfold dSortedD
    dsimp only
    rw [ef]
    dsimp only
    rw [textKeys_of ek]
    have sl := len_sub ss B nd sub
    refine ⟨by omega, fun ys p hperm np => ?_⟩
    exact q _ p ys (g3.trans (Grow.new np)) (fresh_of g3 np) mset_same (fun y hy => sub y (hperm.mem_iff.mp hy)) (by rw [hperm.length_eq]; omega)
  · subst eρ
    have hpm := hr3 p List.mem_cons_self
    obtain ⟨x, bd, rfl, _, hbd⟩ := pr p hpm
    have okb : Ok M bd := ok_tup.1 (okL_mem.mp okp _ hpm) bd (by simp)
    refine s_forX (ρ := [some (.tup [k, .tup ps]), some (.ob f), some (.tup [.str "proc", .str x, bd]), o3, o4]) (all := fItems 3 [bd]) (gx_call (ga_cons (gv_op (gv_var rfl) gv_c (rv_ixT (atI_nat (n := 2) rfl))) ga_nil) fun M4 g4 => ⟨bd, rfl, hbd, Ok.grow (iv3.1.trans g4) _ okb⟩) fun M4 b g4 nb eb => ?_
    have nbf : b ≠ f := fun z => by
      obtain ⟨_, kvs, ss, ef, _⟩ := iv3
      rw [z, ef] at nb
      cases nb
    have iv4 : Inv M4 := by
      obtain ⟨g, kvs, ss, ef, r⟩ := iv3
      exact ⟨g.trans g4, kvs, ss, g4 _ _ ef, r⟩
    refine loopI (fun r2 ρ M5 => Inv M5 ∧ M5 b = some (.ls (fItems 3 [bd])) ∧ (∀ it ∈ r2, it ∈ itemsD 3 bd) ∧ ∃ o3 o4, ρ = [some (.tup [k, .tup ps]), some (.ob f), some (.tup [.str "proc", .str x, bd]), o3, o4]) (fun ρ M5 ⟨iv5, eb5, _, o3, o4, eρ⟩ => ?_) (fun it r2 ρ M5 ⟨iv5, eb5, hr5, o3, o4, eρ⟩ N2 hN2 => ?_) _ _ _ ⟨iv4, eb, fun it h => h, o3, o4, rfl⟩
    · exact hN ρ M5 True.intro ⟨iv5, fun p h => hr3 p (List.mem_cons_of_mem _ h), _, o3, o4, eρ⟩
    · subst eρ
      have hit := hr5 it List.mem_cons_self
      have hitA : it ∈ allIt ps := List.mem_flatMap.mpr ⟨_, hpm, hit⟩
      obtain ⟨as, ea, l3, el, e2⟩ := labs_row (its it hitA)
      obtain ⟨dz, ei, i0, _⟩ := shape_ix (item_shape (its it hitA))
      have oki : Ok M5 it := (items_ok 3 bd M5 hbd (Ok.grow iv5.1 _ okb) it hit).1
      have row : Gv (dOp dAdd (dCall (spF fArgs) (dCons (dVar 3) dNil)) (dIf (dT (dOp (dEq false) (dOp dIx (dVar 3) (dC (.int 0))) (dC (.str "do")))) (dTup (dCons (dOp dIx (dVar 3) (dC (.int 2))) dNil)) (dTup dNil))) [some (.tup [k, .tup ps]), some (.ob f), some (.tup [.str "proc", .str x, bd]), some it, o4] M5 (.tup ((labs it).map D.str)) := by
        rw [el, List.map_append]
        refine gv_op (y := .tup ((if st0 it = "do" then [st2 it] else []).map D.str)) (gv_call (ga_cons (gv_var rfl) ga_nil) (rc_spF ea (okL_one oki))) (gv_eq (gv_if (v := .tup [.str (st2 it)]) (w := .tup []) (b := decide (st0 it = "do")) (gt_t (gv_op (gv_op (gv_var rfl) gv_c (?_ : Rv dIx it (.int 0) M5 (.str (st0 it)))) gv_c rv_eqS)) (fun hd => ?_) fun _ => gv_tup ga_nil (Nat.zero_le _)) ?_) (rv_catT ?_)
        · rw [show Rv dIx it (.int 0) M5 (.str (st0 it)) = Rv dIx (.tup dz) (.int 0) M5 (.str (st0 it)) by rw [← ei]]
          exact rv_ixT (atI_nat (n := 0) i0)
        · obtain ⟨d2, ei2, i2⟩ := e2 (of_decide_eq_true hd)
          refine gv_tup (ga_cons (gv_op (gv_var rfl) gv_c (?_ : Rv dIx it (.int 2) M5 (.str (st2 it)))) ga_nil) (by show 1 ≤ _; rw [sizeLine_eq]; omega)
          rw [show Rv dIx it (.int 2) M5 (.str (st2 it)) = Rv dIx (.tup d2) (.int 2) M5 (.str (st2 it)) by rw [← ei2]]
          exact rv_ixT (atI_nat (n := 2) i2)
        · by_cases z : st0 it = "do"
          · rw [decide_eq_true z, if_pos rfl, if_pos z]
            rfl
          · rw [decide_eq_false z, if_neg (by simp), if_neg z]
            rfl
        · rw [List.length_map, List.length_map, sizeLine_eq]
          split <;> simp <;> omega
      refine s_forT (ρ := [some (.tup [k, .tup ps]), some (.ob f), some (.tup [.str "proc", .str x, bd]), some it, o4]) row fun M6 g6 => ?_
      have keep : ∀ {M7 M8 : DM}, Inv M7 → Grow M7 M8 → Inv M8 := fun ⟨g, kvs, ss, ef, r⟩ g' => ⟨g.trans g', kvs, ss, g' _ _ ef, r⟩
      refine loopI (fun r3 ρ M7 => Inv M7 ∧ M7 b = some (.ls (fItems 3 [bd])) ∧ ∃ o4 rest, ρ = [some (.tup [k, .tup ps]), some (.ob f), some (.tup [.str "proc", .str x, bd]), some it, o4] ∧ r3 = rest.map D.str ∧ ∀ z ∈ rest, z ∈ B) (fun ρ M7 ⟨iv7, eb7, o4, rest, eρ, _⟩ => ?_) (fun y r3 ρ M7 ⟨⟨g7, kvs, ss, ef, ek, nd, sub⟩, eb7, o4, rest, eρ, er, hz⟩ N3 hN3 => ?_) _ _ _ ⟨keep iv5 g6, g6 _ _ eb5, o4, labs it, rfl, rfl, fun z hz => hB it hitA z hz⟩
      · exact hN2 ρ M7 (msq_ls eb7) ⟨iv7, eb7, fun it h => hr5 it (List.mem_cons_of_mem _ h), _, o4, eρ⟩
      · subst eρ
        obtain ⟨z, rest, rfl⟩ : ∃ z rest', rest = z :: rest' := by
          cases rest with
          | nil => cases er
          | cons z r => exact ⟨z, r, rfl⟩
        rw [List.map_cons, List.cons.injEq] at er
        obtain ⟨rfl, rfl⟩ := er
        have kl : kvs.length < sizeLine := by
          have len := congrArg List.length ek
          rw [List.length_map, List.length_map] at len
          have := len_sub ss B nd sub
          rw [sizeLine_eq]
          omega
        refine s_put (ρ := [some (.tup [k, .tup ps]), some (.ob f), some (.tup [.str "proc", .str x, bd]), some it, some (.str z)]) gv_c (gv_var rfl) (gv_var rfl) ef kl fun M8 g8 => ?_
        refine hN3 _ _ True.intro ⟨⟨(g7.trans g8).put nf, _, seen1 ss z, mset_same, putD_keys ek z _, seen1_nodup nd, seen1_sub sub (hz z List.mem_cons_self)⟩, ?_, some (.str z), rest, rfl, rfl, fun y hy => hz y (List.mem_cons_of_mem _ hy)⟩
        rw [mset_ne nbf]
        exact g8 _ _ eb7
end
end DL

/-! P1: what a drawn body is, in plain words. -/
namespace DL
open PySem PySem.Spec PyProof.Rows L2
/-- a drawn body of depth d: sites of Z are used, Z' are left; n items were let, n' are left -/
structure BodyOk (H L : List Str) (k : Nat) (safe : Bool) (d : Nat) (Z Z' : List Str) (n n' : Nat) (x : D) : Prop where
  body : isBody d x = true
  perm : ((itemsD d x).map st1 ++ Z').Perm Z
  cnt : (itemsD d x).length + n' = n
  calls : ∀ it ∈ itemsD d x, isCall it = true → st2 it ∈ H.drop 1
  labs : ∀ it ∈ itemsD d x, ∀ y ∈ labs it, y ∈ L
  can : safe = true → canD d (fun s => decide (s ∈ H.drop (k + 1))) x = true
structure ItemOk (H L : List Str) (k : Nat) (safe : Bool) (m : Nat) (Z Z' : List Str) (n n' : Nat) (it : D) (bs : List D) : Prop where
  item : isItem it = true
  bods : bodiesD it = some bs
  all : bs.all (isBody m) = true
  perm : ((it :: bs.flatMap (itemsD m)).map st1 ++ Z').Perm Z
  cnt : (bs.flatMap (itemsD m)).length + 1 + n' = n
  calls : ∀ x ∈ it :: bs.flatMap (itemsD m), isCall x = true → st2 x ∈ H.drop 1
  labs : ∀ x ∈ it :: bs.flatMap (itemsD m), ∀ y ∈ labs x, y ∈ L
  can : safe = true → (if st0 it = "call" then decide (st2 it ∈ H.drop (k + 1)) else if st0 it = "if" then bs.any (canD m (fun s => decide (s ∈ H.drop (k + 1)))) else true) = true
section
variable {H L Z Z1 Z2 : List Str} {k m n n1 n2 : Nat} {safe : Bool}
theorem BodyOk.nil (d : Nat) : BodyOk H L k safe d Z Z n n (.tup []) := by
  have e : itemsD d (.tup []) = [] := by cases d <;> rfl
  refine ⟨?_, by rw [e]; exact List.Perm.refl _, by rw [e]; simp, (by rw [e]; intro it h; cases h), (by rw [e]; intro it h; cases h), fun _ => ?_⟩
  · cases d <;> rfl
  · cases d <;> rfl
theorem items_app {xs : List D} {it : D} {bs : List D} (e : bodiesD it = some bs) : itemsD (m + 1) (.tup (xs ++ [it])) = itemsD (m + 1) (.tup xs) ++ (it :: bs.flatMap (itemsD m)) := by
  show ((xs ++ [it]).flatMap fun it => it :: ((bodiesD it).getD []).flatMap (itemsD m)) = _
  rw [List.flatMap_append, List.flatMap_cons, List.flatMap_nil, List.append_nil, e]
  rfl
theorem BodyOk.app {xs : List D} {it : D} {bs : List D} (b : BodyOk H L k safe (m + 1) Z Z1 n n1 (.tup xs)) (i : ItemOk H L k safe m Z1 Z2 n1 n2 it bs) (hl : xs.length < 10) : BodyOk H L k safe (m + 1) Z Z2 n n2 (.tup (xs ++ [it])) := by
  have e := items_app (m := m) (xs := xs) i.bods
  refine ⟨?_, ?_, ?_, ?_, ?_, fun hs => ?_⟩
  · have h := b.body
    rw [isBody_eq, Bool.and_eq_true] at h ⊢
    refine ⟨decide_eq_true (by rw [List.length_append, List.length_singleton]; omega), ?_⟩
    rw [List.all_append, h.2, List.all_cons, i.item, i.bods, Option.getD_some, i.all]
    rfl
  · rw [e, List.map_append, List.append_assoc]
    exact (List.Perm.append_left _ i.perm).trans b.perm
  · rw [e, List.length_append, List.length_cons]
    have h1 := b.cnt
    have h2 := i.cnt
    omega
  · intro x hx
    rw [e] at hx
    rcases List.mem_append.mp hx with hx | hx
    · exact b.calls x hx
    · exact i.calls x hx
  · intro x hx
    rw [e] at hx
    rcases List.mem_append.mp hx with hx | hx
    · exact b.labs x hx
    · exact i.labs x hx
  · have h1 := b.can hs
    have h2 := i.can hs
    show (xs ++ [it]).all _ = true
    rw [List.all_append, show xs.all _ = true from h1, List.all_cons, i.bods, Option.getD_some, h2]
    rfl
theorem all_get {p : Str → Bool} {xs : List Str} (h : xs.all p = true) {x : Str} (hx : x ∈ xs) : p x = true := List.all_eq_true.mp h x hx
theorem args_good {as : List Str} (hL : L.all nameS = true) (hl : as.length ≤ 3) (ha : ∀ x ∈ as, x ∈ L) : isNames (.tup (as.map D.str)) = true := by
  rw [isNames_eq, List.length_map, decide_eq_true (by omega), Bool.true_and, List.all_map, List.all_eq_true]
  intro x hx
  exact all_get hL (ha x hx)
theorem ItemOk.stp {s l : Str} {as : List Str} (hs : nameS s = true) (hL : L.all nameS = true) (hl : l ∈ L) (h3 : as.length ≤ 3) (ha : ∀ x ∈ as, x ∈ L) (hp : (s :: Z1).Perm Z) (hn : 1 + n1 = n) : ItemOk H L k safe m Z Z1 n n1 (.tup [.str "do", .str s, .str l, .tup (as.map D.str)]) [] := by
  have it : isItem (.tup [.str "do", .str s, .str l, .tup (as.map D.str)]) = true := by
    show (decide _ && nameS s && nameS l && isNames (.tup (as.map D.str))) = true
    rw [hs, all_get hL hl, args_good hL h3 ha]
    rfl
  refine ⟨it, rfl, rfl, hp, by simpa using hn, ?_, ?_, fun _ => rfl⟩
  · intro x hx hc
    rw [List.flatMap_nil, List.mem_singleton] at hx
    rw [hx] at hc
    cases hc
  · intro x hx y hy
    rw [List.flatMap_nil, List.mem_singleton] at hx
    rw [hx] at hy
    obtain ⟨as2, ea, _, el, _⟩ := labs_row it
    rw [el] at hy
    have e2 : as.map D.str = as2.map D.str := by
      have : some (D.tup (as.map D.str)) = some (.tup (as2.map D.str)) := ea
      exact D.tup.inj (Option.some.inj this)
    have e3 : as = as2 := by
      have := congrArg (List.map strD) e2
      rw [List.map_map, List.map_map] at this
      simpa [Function.comp_def, strD] using this
    rw [← e3] at hy
    rcases List.mem_append.mp hy with hy | hy
    · exact ha y hy
    · have : y = l := by simpa [st0, st2] using hy
      rw [this]
      exact hl
theorem labs_if {s : Str} {as : List Str} {a b : D} : labs (.tup [.str "if", .str s, .tup (as.map D.str), a, b]) = as := by
  show (as.map D.str).map strD ++ [] = as
  rw [List.append_nil, List.map_map]
  exact List.map_id'' (fun _ => rfl) as
theorem labs_whl {s : Str} {as : List Str} {a : D} : labs (.tup [.str "while", .str s, .tup (as.map D.str), a]) = as := by
  show (as.map D.str).map strD ++ [] = as
  rw [List.append_nil, List.map_map]
  exact List.map_id'' (fun _ => rfl) as
theorem ItemOk.iff {s : Str} {as : List Str} {x y : D} {Z3 : List Str} {n3 : Nat} {f1 f2 : Bool} (hs : nameS s = true) (hL : L.all nameS = true) (h3 : as.length ≤ 3) (ha : ∀ x ∈ as, x ∈ L) (hp : (s :: Z1).Perm Z) (hn : 1 + n1 = n)
    (bx : BodyOk H L k (safe && f1) m Z1 Z2 n1 n2 x) (by' : BodyOk H L k (safe && f2) m Z2 Z3 n2 n3 y) (hf : f1 = true ∨ f2 = true) : ItemOk H L k safe m Z Z3 n n3 (.tup [.str "if", .str s, .tup (as.map D.str), x, y]) [x, y] := by
  have ef : [x, y].flatMap (itemsD m) = itemsD m x ++ itemsD m y := by simp
  have it : isItem (.tup [.str "if", .str s, .tup (as.map D.str), x, y]) = true := by
    show (decide _ && nameS s && true && isNames (.tup (as.map D.str))) = true
    rw [hs, args_good hL h3 ha]
    rfl
  refine ⟨it, rfl, by rw [List.all_cons, List.all_cons, bx.body, by'.body]; rfl, ?_, ?_, ?_, ?_, fun hsafe => ?_⟩
  · rw [ef, List.map_cons, List.map_append, List.cons_append, List.append_assoc]
    refine List.Perm.trans ?_ hp
    refine List.Perm.cons _ ?_
    exact (List.Perm.append_left _ by'.perm).trans bx.perm
  · rw [ef, List.length_append]
    have h1 := bx.cnt
    have h2 := by'.cnt
    omega
  · intro z hz hc
    rcases List.mem_cons.mp hz with rfl | hz
    · cases hc
    · rw [ef] at hz
      rcases List.mem_append.mp hz with hz | hz
      · exact bx.calls z hz hc
      · exact by'.calls z hz hc
  · intro z hz
    rcases List.mem_cons.mp hz with rfl | hz
    · rw [labs_if]
      exact ha
    · rw [ef] at hz
      rcases List.mem_append.mp hz with hz | hz
      · exact bx.labs z hz
      · exact by'.labs z hz
  · show [x, y].any _ = true
    rw [List.any_cons, List.any_cons]
    rcases hf with hf | hf
    · rw [bx.can (by rw [hsafe, hf]; rfl)]
      rfl
    · rw [by'.can (by rw [hsafe, hf]; rfl)]
      simp
theorem ItemOk.whl {s : Str} {as : List Str} {x : D} (hs : nameS s = true) (hL : L.all nameS = true) (h3 : as.length ≤ 3) (ha : ∀ x ∈ as, x ∈ L) (hp : (s :: Z1).Perm Z) (hn : 1 + n1 = n)
    (bx : BodyOk H L k false m Z1 Z2 n1 n2 x) : ItemOk H L k safe m Z Z2 n n2 (.tup [.str "while", .str s, .tup (as.map D.str), x]) [x] := by
  have ef : [x].flatMap (itemsD m) = itemsD m x := by simp
  have it : isItem (.tup [.str "while", .str s, .tup (as.map D.str), x]) = true := by
    show (decide _ && nameS s && true && isNames (.tup (as.map D.str))) = true
    rw [hs, args_good hL h3 ha]
    rfl
  refine ⟨it, rfl, by rw [List.all_cons, bx.body]; rfl, ?_, ?_, ?_, ?_, fun _ => rfl⟩
  · rw [ef, List.map_cons, List.cons_append]
    exact (List.Perm.cons _ bx.perm).trans hp
  · rw [ef]
    have h1 := bx.cnt
    omega
  · intro z hz hc
    rcases List.mem_cons.mp hz with rfl | hz
    · cases hc
    · rw [ef] at hz
      exact bx.calls z hz hc
  · intro z hz
    rcases List.mem_cons.mp hz with rfl | hz
    · rw [labs_whl]
      exact ha
    · rw [ef] at hz
      exact bx.labs z hz
theorem ItemOk.cal {s h : Str} (hs : nameS s = true) (hH : H.all nameS = true) (h1 : h ∈ H.drop 1) (hk : safe = true → h ∈ H.drop (k + 1)) (hp : (s :: Z1).Perm Z) (hn : 1 + n1 = n) : ItemOk H L k safe m Z Z1 n n1 (.tup [.str "call", .str s, .str h]) [] := by
  have it : isItem (.tup [.str "call", .str s, .str h]) = true := by
    show (decide _ && nameS s && nameS h && isNames (.tup [])) = true
    rw [hs, all_get hH (List.mem_of_mem_drop h1)]
    rfl
  refine ⟨it, rfl, rfl, hp, by simpa using hn, ?_, ?_, fun hsafe => decide_eq_true (hk hsafe)⟩
  · intro x hx hc
    rw [List.flatMap_nil, List.mem_singleton] at hx
    rw [hx]
    exact h1
  · intro x hx y hy
    rw [List.flatMap_nil, List.mem_singleton] at hx
    rw [hx] at hy
    cases hy
end
end DL

/-! D4: a body is drawn. -/
namespace DL
open PySem PySem.Spec PyProof.Rows L2
theorem name_len {z : Str} (h : nameS z = true) : z.length ≤ 64 := by
  unfold nameS at h
  rw [Bool.and_eq_true, Bool.and_eq_true, Bool.and_eq_true] at h
  have := of_decide_eq_true h.1.1.2
  omega
theorem strs_ok {as : List Str} (h : as.all nameS = true) (M : DM) : Ok M (.tup (as.map D.str)) := ok_tup.2 fun d hd => by
  obtain ⟨x, hx, rfl⟩ := List.mem_map.mp hd
  exact ok_str (name_len (List.all_eq_true.mp h x hx))
theorem ok_k {x : Str} {M : DM} (h : x.length ≤ 64 := by decide +kernel) : Ok M (.str x) := ok_str h
/-- what is valid holds no list -/
theorem body_ok (M : DM) : ∀ (n : Nat) (d : D), isBody n d = true → Ok M d
  | 0, d, h => by
    obtain ⟨xs, rfl⟩ := body_tup h
    cases xs with
    | nil => exact ok_tup.2 fun d hd => nomatch hd
    | cons => cases h
  | n + 1, d, h => by
    obtain ⟨xs, rfl⟩ := body_tup h
    rw [isBody_eq, Bool.and_eq_true] at h
    refine ok_tup.2 fun it hit => ?_
    have q := List.all_eq_true.mp h.2 it hit
    rw [Bool.and_eq_true] at q
    have each : ∀ b, b ∈ (bodiesD it).getD [] → Ok M b := fun b hb => body_ok M n b (List.all_eq_true.mp q.2 b hb)
    cases item_shape q.1 with
    | stp s l as hs hl ha =>
      refine ok_tup.2 fun d hd => ?_
      simp only [List.mem_cons, List.not_mem_nil, or_false] at hd
      rcases hd with rfl | rfl | rfl | rfl
      · exact ok_k
      · exact ok_str (name_len hs)
      · exact ok_str (name_len hl)
      · exact strs_ok ha.2 M
    | iff s as a b hs ha =>
      refine ok_tup.2 fun d hd => ?_
      simp only [List.mem_cons, List.not_mem_nil, or_false] at hd
      rcases hd with rfl | rfl | rfl | rfl | rfl
      · exact ok_k
      · exact ok_str (name_len hs)
      · exact strs_ok ha.2 M
      · exact each _ (show _ ∈ [_, _] by simp)
      · exact each _ (show _ ∈ [_, _] by simp)
    | whl s as a hs ha =>
      refine ok_tup.2 fun d hd => ?_
      simp only [List.mem_cons, List.not_mem_nil, or_false] at hd
      rcases hd with rfl | rfl | rfl | rfl
      · exact ok_k
      · exact ok_str (name_len hs)
      · exact strs_ok ha.2 M
      · exact each _ (show _ ∈ [_] by simp)
    | cal s h hs hh =>
      refine ok_tup.2 fun d hd => ?_
      simp only [List.mem_cons, List.not_mem_nil, or_false] at hd
      rcases hd with rfl | rfl | rfl
      · exact ok_k
      · exact ok_str (name_len hs)
      · exact ok_str (name_len hh)
def spBody (d : Nat) : DSp := fun ds M Q => ∃ (a l c b h lb s : Addr) (H L Z : List Str) (n k deep many : Nat) (safe : Bool), ds = [.ob a, .ob b, .int k, .int deep, .int many, .bl safe] ∧ deep + d = 4 ∧ many ≤ 6 ∧ (d = 0 → many = 0) ∧ Apart a l c b h lb s ∧ Drw a l c M ∧ StM b h lb s H L Z n M ∧
  H.all nameS = true ∧ H.length ≤ 100 ∧ L.all nameS = true ∧ L ≠ [] ∧ L.length ≤ 100 ∧ Z.all nameS = true ∧ n ≤ Z.length ∧ ∀ M' x Z' n', GS [a, l, b, s] M M' → Drw a l c M' → StM b h lb s H L Z' n' M' → BodyOk H L k safe d Z Z' n n' x → (∃ acc, x = .tup acc ∧ acc.length ≤ many) → Q x M'
section
variable {ρ : DSt} {M : DM} {to : DTE}
theorem c_popLast {l : Addr} {xs : List D} {d : D} {Q : DK} (ho : Gv to ρ M (.ob l)) (e : M l = some (.ls xs)) (hx : xs.getLast? = some d) (q : ∀ M1, Grow M M1 → Q d (mset M1 l (.ls xs.dropLast))) : dBM0 dPop to ρ M Q := ho M (Grow.refl M) _ fun M2 g2 => by
  dsimp only
  refine ⟨by rw [msq_ls (g2 l _ e)]; rfl, ?_⟩
  unfold dPop
  dsimp only
  rw [g2 l _ e]
  dsimp only
  rw [hx]
  exact q M2 g2
theorem c_call6 {sp : DSp} {e0 e1 e2 e3 e4 e5 : DTE} {v0 v1 v2 v3 : D} {Q : DK} (h0 : Gv e0 ρ M v0) (h1 : Gv e1 ρ M v1) (h2 : Gv e2 ρ M v2) (h3 : Gv e3 ρ M v3) (q : ∀ M1, Grow M M1 → e4 ρ M1 fun x M2 => e5 ρ M2 fun y M3 => sp [v0, v1, v2, v3, x, y] M3 Q) : dCall sp (dCons e0 (dCons e1 (dCons e2 (dCons e3 (dCons e4 (dCons e5 dNil)))))) ρ M Q :=
  h0 M (Grow.refl M) _ fun M1 g1 => h1 M1 g1 _ fun M2 g2 => h2 M2 (g1.trans g2) _ fun M3 g3 => h3 M3 ((g1.trans g2).trans g3) _ fun M4 g4 => q M4 (((g1.trans g2).trans g3).trans g4)
end
/-- where the drawing of a body stands -/
structure Cur (a l c b h lb s : Addr) (H L Z : List Str) (n : Nat) (p : Addr) (acc : List D) (M0 M : DM) : Prop where
  g : GS [a, l, b, s] M0 M
  dr : Drw a l c M
  st : StM b h lb s H L Z n M
  ep : M p = some (.ls acc)
section
variable {a l c b h lb s p : Addr} {H L Z Z' : List Str} {n n' : Nat} {acc : List D} {M0 M M' : DM}
theorem Cur.grow (q : Cur a l c b h lb s H L Z n p acc M0 M) (g : Grow M M') : Cur a l c b h lb s H L Z n p acc M0 M' := ⟨q.g.trans (GS.of g), q.dr.grow g, q.st.grow g, g _ _ q.ep⟩
theorem Cur.growH (q : Cur a l c b h lb s H L Z n p acc M0 M) (ap : Apart a l c b h lb s) (hp : p ∉ [a, l, b, s]) (g : GrowH a l M M') (d : Drw a l c M') : Cur a l c b h lb s H L Z n p acc M0 M' :=
  ⟨q.g.trans (GS.ofH g (by simp) (by simp)), d, q.st.growH ap g, g.get (fun z => hp (by simp [z])) (fun z => hp (by simp [z])) q.ep⟩
theorem Cur.gs (q : Cur a l c b h lb s H L Z n p acc M0 M) (hp : p ∉ [a, l, b, s]) (g : GS [a, l, b, s] M M') (d : Drw a l c M') (t : StM b h lb s H L Z' n' M') : Cur a l c b h lb s H L Z' n' p acc M0 M' := ⟨q.g.trans g, d, t, g.get hp q.ep⟩
/-- the state's numbers are changed -/
theorem Cur.putB (q : Cur a l c b h lb s H L Z n p acc M0 M) (ap : Apart a l c b h lb s) (hp : p ∉ [a, l, b, s]) {k : Int} : Cur a l c b h lb s H L Z n' p acc M0 (mset M b (.dc (stD h lb s k n'))) := by
  have nd := ap.nd
  simp only [List.nodup_cons, List.mem_cons, List.not_mem_nil, or_false, not_or] at nd
  obtain ⟨⟨_, _, ab, _⟩, ⟨_, lb', _⟩, ⟨cb, _⟩, ⟨bh, blb, bs⟩, _⟩ := nd
  obtain ⟨k0, e1, e2, e3, e4⟩ := q.st
  refine ⟨q.g.put (hid_in (by simp)), q.dr.putOther (Ne.symm ab) (Ne.symm lb') (Ne.symm cb), ⟨k, mset_same, by rw [mset_ne (Ne.symm bh)]; exact e2, by rw [mset_ne (Ne.symm blb)]; exact e3, by rw [mset_ne (Ne.symm bs)]; exact e4⟩, ?_⟩
  rw [mset_ne (fun z => hp (by simp [z]))]
  exact q.ep
/-- a site is taken -/
theorem Cur.putS (q : Cur a l c b h lb s H L Z n p acc M0 M) (ap : Apart a l c b h lb s) (hp : p ∉ [a, l, b, s]) : Cur a l c b h lb s H L Z' n p acc M0 (mset M s (.ls (Z'.map D.str))) := by
  have nd := ap.nd
  simp only [List.nodup_cons, List.mem_cons, List.not_mem_nil, or_false, not_or] at nd
  obtain ⟨⟨_, _, _, _, _, as⟩, ⟨_, _, _, _, ls⟩, ⟨_, _, _, cs⟩, ⟨bh, blb, bs⟩, ⟨hlb, hs⟩, lbs, _⟩ := nd
  obtain ⟨k0, e1, e2, e3, e4⟩ := q.st
  refine ⟨q.g.put (hid_in (by simp)), q.dr.putOther (Ne.symm as) (Ne.symm ls) (Ne.symm cs), ⟨k0, by rw [mset_ne bs]; exact e1, by rw [mset_ne hs]; exact e2, by rw [mset_ne lbs]; exact e3, mset_same⟩, ?_⟩
  rw [mset_ne (fun z => hp (by simp [z]))]
  exact q.ep
end
theorem last_perm {Z : List Str} {x : Str} (h : Z.getLast? = some x) : (x :: Z.dropLast).Perm Z := by
  have e : Z = Z.dropLast ++ [x] := by
    obtain ⟨hn, e⟩ := List.getLast?_eq_some_iff.mp h |> fun ⟨ys, e⟩ => (⟨by rw [e]; simp, by rw [e]; simp⟩ : Z ≠ [] ∧ Z = Z.dropLast ++ [x])
    exact e
  conv => rhs; rw [e]
  exact (List.perm_append_singleton x Z.dropLast).symm
end DL

/-! D5: a body is drawn, the walk. -/
namespace DL
open PySem PySem.Spec PyProof.Rows L2
section
variable {ρ : DSt} {M : DM} {E : DEnds} {A B C te : DTE} {Q : DK}
theorem peel_par {i j : Nat} (h : A ρ M fun x M1 => B ρ M1 fun y M2 => E.nx ((ρ.set i (some x)).set j (some y)) M2) : dPar i j (dCons A (dCons B dNil)) E ρ M := h
theorem peel_par3 {i j l : Nat} (h : A ρ M fun x M1 => B ρ M1 fun y M2 => C ρ M2 fun z M3 => E.nx (((ρ.set i (some x)).set j (some y)).set l (some z)) M3) : dPar3 i j l (dCons A (dCons B (dCons C dNil))) E ρ M := h
theorem peel_asg {i : Nat} (h : te ρ M fun d M1 => E.nx (ρ.set i (some d)) M1) : dAsg te (dName i) E ρ M := h
theorem peel_op {r : DR2} (h : A ρ M fun x M1 => B ρ M1 fun y M2 => r x y M2 Q) : dOp r A B ρ M Q := h
theorem peel_tup {t : DTA} (h : t ρ M fun xs M1 => xs.length ≤ sizeLine ∧ Q (.tup xs) M1) : dTup t ρ M Q := h
theorem peel_cons {t : DTA} {QL : List D → DM → Prop} (h : te ρ M fun x M1 => t ρ M1 fun xs M2 => QL (x :: xs) M2) : dCons te t ρ M QL := h
theorem peel_nil {QL : List D → DM → Prop} (h : QL [] M) : dNil ρ M QL := h
theorem s_cont (h : E.ct ρ M) : dCont E ρ M := h
end
section
variable {ρ : DSt} {M : DM} {A B C F te : DTE} {Q : DK} {v x w : D}
theorem peel_tup4 (hA : Gv A ρ M v) (hB : Gv B ρ M x) (h : ∀ M1, Grow M M1 → C ρ M1 fun y M2 => F ρ M2 fun z M3 => 4 ≤ sizeLine ∧ Q (.tup [v, x, y, z]) M3) : dTup (dCons A (dCons B (dCons C (dCons F dNil)))) ρ M Q := hA M (Grow.refl M) _ fun M1 g1 => hB M1 g1 _ fun M2 g2 => h M2 (g1.trans g2)
theorem peel_tup4d (hA : Gv A ρ M v) (hB : Gv B ρ M x) (hC : Gv C ρ M w) (h : ∀ M1, Grow M M1 → F ρ M1 fun z M3 => 4 ≤ sizeLine ∧ Q (.tup [v, x, w, z]) M3) : dTup (dCons A (dCons B (dCons C (dCons F dNil)))) ρ M Q := hA M (Grow.refl M) _ fun M1 g1 => hB M1 g1 _ fun M2 g2 => hC M2 (g1.trans g2) _ fun M3 g3 => h M3 ((g1.trans g2).trans g3)
theorem peel_tup3 (hA : Gv A ρ M v) (hB : Gv B ρ M x) (h : ∀ M1, Grow M M1 → C ρ M1 fun z M3 => 3 ≤ sizeLine ∧ Q (.tup [v, x, z]) M3) : dTup (dCons A (dCons B (dCons C dNil))) ρ M Q := hA M (Grow.refl M) _ fun M1 g1 => hB M1 g1 _ fun M2 g2 => h M2 (g1.trans g2)
theorem c_sargs {t : DTA} {a l c b : Addr} {L : List Str} {n : Nat} (ht : Ga t ρ M [.ob a, .ob b, .int n]) (dr : Drw a l c M) (e : M b = some (.ls (L.map D.str))) (n1 : b ≠ a) (n2 : b ≠ l) (h0 : L ≠ []) (hl : L.length < 1000000) (hn : n ≤ 1000)
    (q : ∀ M' (as : List Str), GrowH a l M M' → Drw a l c M' → as.length ≤ n → (∀ x ∈ as, x ∈ L) → Q (.tup (as.map D.str)) M') : dCall spSomeArgs t ρ M Q := ht M (Grow.refl M) _ fun M1 g1 => ⟨a, l, c, b, L, n, rfl, dr.grow g1, g1 _ _ e, n1, n2, h0, hl, hn, fun M' as g d h1 h2 => q M' as (g1.h.trans g) d h1 h2⟩
end
theorem Cur.app {a l c b h lb s p : Addr} {H L Z : List Str} {n : Nat} {acc : List D} {M0 M : DM} (q : Cur a l c b h lb s H L Z n p acc M0 M) (hpN : hid [a, l, b, s] M0 p = none) (hp : p ∉ [a, l, c, b, h, lb, s]) {acc' : List D} : Cur a l c b h lb s H L Z n p acc' M0 (mset M p (.ls acc')) := by
  simp only [List.mem_cons, List.not_mem_nil, or_false, not_or] at hp
  obtain ⟨h1, h2, h3, h4, h5, h6, h7⟩ := hp
  obtain ⟨k, e1, e2, e3, e4⟩ := q.st
  exact ⟨q.g.put hpN, q.dr.putOther h1 h2 h3, ⟨k, by rw [mset_ne (Ne.symm h4)]; exact e1, by rw [mset_ne (Ne.symm h5)]; exact e2, by rw [mset_ne (Ne.symm h6)]; exact e3, by rw [mset_ne (Ne.symm h7)]; exact e4⟩, mset_same⟩
theorem small5 {n : Nat} (h : n ≤ 10 := by decide) : n ≤ sizeLine := by rw [sizeLine_eq]; omega
section
variable {P : Program} {w : World} {K : PySem.W.Frag} {mg : Str → Option Value} {base : Heap}
theorem drawn_step (T : Tx K mg w) {d k0 : Nat} {sp : DSp} (hsp : ∀ m, d = m + 1 → sp = spBody m) (hk : 4 ≤ k0) (G : FnOk P w K mg base CX0 k0 T.f__law_body.f T.f__law_body.fd ["draw", "state", "k", "deep", "many", "is_safe"] (LSp K sp)) :
    FnOk P w K mg base CX0 (k0 + 1) T.f__law_body.f T.f__law_body.fd ["draw", "state", "k", "deep", "many", "is_safe"] (LSp K (spBody d)) := by
  refine dfun T.f__law_body.F sc__law_body (fun ds M Q ⟨a, l, c, b, h, lb, s, H, L, Z, n, k, deep, many, safe, e, _⟩ => by rw [e]; rfl) fun cdv A outer s H E hr => ⟨_, (ds_cons (ds_set (i := 6) sc__law_body.nd (d_lst da_nil)) (ds_cons (ds_for PassesOwn.never rfl (di_rng rfl T.b_range (da_cons (dv 4) da_nil)) (dg_name (i := 7) sc__law_body.nd) (ds_cons (ds_par (i := 8) (j := 9) rfl sc__law_body.nd (by decide) (da_cons (d_fn (fn := T.f__law_take) (ok__law_take T) (hr.mono (by first | decide | omega)) (da_cons (dv 0) (da_cons dint da_nil))) (da_cons (d_ifE (d_ltT (dv 3) dint) dint dint) da_nil))) (ds_cons (ds_if (d_eqT (hu0 hr) (d_ixA (hu1 hr) (dv 1) dstr) dint) (ds_one ds_cont) ds_nil) (ds_cons (ds_asg (d_sub (d_ixA (hu1 hr) (dv 1) dstr) dint) (dg_sub (hu1 hr) (dv 1) dstr)) (ds_cons (ds_par3 (i := 10) (j := 11) (l := 12) rfl sc__law_body.nd (by decide) (by decide) (by decide) (da_cons (d_popS (d_ixA (hu1 hr) (dv 1) dstr)) (da_cons (d_fn (fn := T.f__law_some_args) (ok__law_some_args T) (hr.mono (by first | decide | omega)) (da_cons (dv 0) (da_cons (d_ixA (hu1 hr) (dv 1) dstr) (da_cons dint da_nil)))) (da_cons dnon da_nil)))) (ds_cons (ds_if (d_inT (hu1 hr) (dv 8) (d_lst (da_cons dint (da_cons dint (da_cons dint da_nil))))) (ds_cons (ds_set (i := 13) sc__law_body.nd (d_fn (fn := T.f__law_take) (ok__law_take T) (hr.mono (by first | decide | omega)) (da_cons (dv 0) (da_cons dint da_nil)))) (ds_cons (ds_set (i := 14) sc__law_body.nd (d_fn (fn := T.f__law_body) G (hr.mono (by first | decide | omega)) (da_cons (dv 0) (da_cons (dv 1) (da_cons (dv 2) (da_cons (d_add (dv 3) dint) (da_cons (d_fn (fn := T.f__law_take) (ok__law_take T) (hr.mono (by first | decide | omega)) (da_cons (dv 0) (da_cons (d_add (dv 9) dint) da_nil))) (da_cons (d_andV (dv 5) (d_oneV (d_ne (hu0 hr) (dv 13) dint))) da_nil)))))))) (ds_cons (ds_set (i := 15) sc__law_body.nd (d_fn (fn := T.f__law_body) G (hr.mono (by first | decide | omega)) (da_cons (dv 0) (da_cons (dv 1) (da_cons (dv 2) (da_cons (d_add (dv 3) dint) (da_cons (d_fn (fn := T.f__law_take) (ok__law_take T) (hr.mono (by first | decide | omega)) (da_cons (dv 0) (da_cons (d_add (dv 9) dint) da_nil))) (da_cons (d_andV (dv 5) (d_oneV (d_ne (hu0 hr) (dv 13) dint))) da_nil)))))))) (ds_one (ds_set (i := 12) sc__law_body.nd (d_tup (da_cons dstr (da_cons (dv 10) (da_cons (dv 11) (da_cons (dv 14) (da_cons (dv 15) da_nil))))))))))) (ds_one (ds_if (d_inT (hu1 hr) (dv 8) (d_lst (da_cons dint (da_cons dint da_nil)))) (ds_one (ds_set (i := 12) sc__law_body.nd (d_tup (da_cons dstr (da_cons (dv 10) (da_cons (dv 11) (da_cons (d_fn (fn := T.f__law_body) G (hr.mono (by first | decide | omega)) (da_cons (dv 0) (da_cons (dv 1) (da_cons (dv 2) (da_cons (d_add (dv 3) dint) (da_cons (d_fn (fn := T.f__law_take) (ok__law_take T) (hr.mono (by first | decide | omega)) (da_cons (dv 0) (da_cons (d_add (dv 9) dint) da_nil))) (da_cons dbl da_nil))))))) da_nil))))))) (ds_one (ds_if (d_gtT (dv 8) dint) (ds_cons (ds_set (i := 16) sc__law_body.nd (d_sl (d_ixA (hu1 hr) (dv 1) dstr) (do_some (d_ifE (d_val (dv 5)) (d_add (dv 2) dint) dint)) do_none)) (ds_one (ds_if (PW.pt (d_and (d_neT (hu0 hr) (dv 16) (d_lst da_nil)) (d_and1 (d_gtT (d_ixA (hu1 hr) (dv 1) dstr) dint)))) (ds_cons (ds_asg (d_sub (d_ixA (hu1 hr) (dv 1) dstr) dint) (dg_sub (hu1 hr) (dv 1) dstr)) (ds_one (ds_set (i := 12) sc__law_body.nd (d_tup (da_cons dstr (da_cons (dv 10) (da_cons (d_fn (fn := T.f__law_pick) (ok__law_pick T) (hr.mono (by first | decide | omega)) (da_cons (dv 0) (da_cons (dv 16) da_nil))) da_nil))))))) ds_nil))) ds_nil))))) (ds_cons (ds_if (d_isNT (dv 12) dnon) (ds_one (ds_set (i := 12) sc__law_body.nd (d_tup (da_cons dstr (da_cons (dv 10) (da_cons (d_fn (fn := T.f__law_pick) (ok__law_pick T) (hr.mono (by first | decide | omega)) (da_cons (dv 0) (da_cons (d_ixA (hu1 hr) (dv 1) dstr) da_nil))) (da_cons (dv 11) da_nil))))))) ds_nil) (ds_one (ds_expr (d_appendS (dv 6) (da_cons (dv 12) da_nil))))))))))) (ds_one (ds_ret (d_tuple T.b_tuple (da_cons (dv 6) da_nil)))))), ?_⟩
  rintro ds M Q ⟨a, l, c, b, h, lb, s, H, L, Z, n, k, deep, many, safe, rfl, ed, hm, h0, ap, dr, st, hH, hH2, hL, hL0, hL2, hZ, hn, q⟩
  refine s_seq (s_setL (xs := []) (gl_lst ga_nil (Nat.zero_le _)) fun M1 p g1 np e1 => ?_)
  dsimp only
  have hpS : p ∉ [a, l, b, s] := by
    have z := dr.new np
    obtain ⟨k1, x1, x2, x3, x4⟩ := st
    have zb : p ≠ b := fun e => by rw [e, x1] at np; cases np
    have zs : p ≠ s := fun e => by rw [e, x4] at np; cases np
    simp [z.1, z.2.1, zb, zs]
  have hpN : hid [a, l, b, s] M p = none := by rw [hid_ne hpS]; exact np
  have hpA : p ∉ [a, l, c, b, h, lb, s] := by
    have z := dr.new np
    obtain ⟨k1, x1, x2, x3, x4⟩ := st
    have zb : p ≠ b := fun e => by rw [e, x1] at np; cases np
    have zs : p ≠ s := fun e => by rw [e, x4] at np; cases np
    have zh : p ≠ h := fun e => by rw [e, x2] at np; cases np
    have zl : p ≠ lb := fun e => by rw [e, x3] at np; cases np
    simp [z.1, z.2.1, z.2.2, zb, zs, zh, zl]
  have nd := ap.nd
  simp only [List.nodup_cons, List.mem_cons, List.not_mem_nil, or_false, not_or] at nd
  have lba : lb ≠ a := fun e => nd.1.2.2.2.2.1 e.symm
  have lbl : lb ≠ l := fun e => nd.2.1.2.2.2.1 e.symm
  refine s_seq (s_forR (n := many) (gv_var rfl) (by omega) fun M2 g2 => ?_)
  refine loopI (fun r ρ M3 => ∃ (o7 o8 o9 o10 o11 o12 o13 o14 o15 o16 : Option D) (acc : List D) (Z1 : List Str) (n1 : Nat), ρ = [some (.ob a), some (.ob b), some (.int k), some (.int deep), some (.int many), some (.bl safe), some (.ob p), o7, o8, o9, o10, o11, o12, o13, o14, o15, o16] ∧
      Cur a l c b h lb s H L Z1 n1 p acc M M3 ∧ BodyOk H L k safe d Z Z1 n n1 (.tup acc) ∧ acc.length + r.length ≤ many) (fun ρ M3 ⟨o7, o8, o9, o10, o11, o12, o13, o14, o15, o16, acc, Z1, n1, eρ, cur, ok, el⟩ => ?_)
    (fun lap r ρ M3 ⟨o7, o8, o9, o10, o11, o12, o13, o14, o15, o16, acc, Z1, n1, eρ, cur, ok, el⟩ N hN => ?_) _ _ _ ⟨none, none, none, none, none, none, none, none, none, none, [], Z, n, rfl, ⟨GS.of (g1.trans g2), dr.grow (g1.trans g2), st.grow (g1.trans g2), g2 _ _ e1⟩, BodyOk.nil d, by rw [rgD_length]; simp⟩
  · subst eρ
    exact (s_ret (gv_cb (ga_cons (gv_var rfl) ga_nil) (rc_tupL cur.ep)) fun M4 g4 => q M4 (.tup acc) Z1 n1 (cur.g.trans (GS.of g4)) (cur.dr.grow g4) (cur.st.grow g4) ok ⟨acc, rfl, by omega⟩ : dRet (dCB dTupOf (dCons (dVar 6) dNil)) { nx := fun _ M' => Q .non M', rt := Q } [some (.ob a), some (.ob b), some (.int k), some (.int deep), some (.int many), some (.bl safe), some (.ob p), o7, o8, o9, o10, o11, o12, o13, o14, o15, o16] M3)
  · subst eρ
    rw [List.length_cons] at el
    obtain ⟨m, rfl⟩ : ∃ m, d = m + 1 := by
      cases d with
      | zero =>
        have := h0 rfl
        omega
      | succ m => exact ⟨m, rfl⟩
    rw [hsp m rfl]
    have nZ : n1 ≤ Z1.length := by
      have h1 := ok.cnt
      have h2 := ok.perm.length_eq
      rw [List.length_append, List.length_map] at h2
      omega
    have hZ1 : Z1.all nameS = true := List.all_eq_true.mpr fun x hx => List.all_eq_true.mp hZ x (ok.perm.mem_iff.mp (List.mem_append_right _ hx))
    refine s_seq (peel_par (c_take (ρ := [some (.ob a), some (.ob b), some (.int k), some (.int deep), some (.int many), some (.bl safe), some (.ob p), some lap, o8, o9, o10, o11, o12, o13, o14, o15, o16]) (a := a) (n := 13) (ga_cons (gv_var rfl) (ga_cons gv_c ga_nil)) (by decide) (by decide) cur.dr fun M4 way g4 dr4 hway => ?_))
    have cur4 := cur.growH ap hpS g4 dr4
    let most : Nat := if m = 0 then 0 else 3
    have eMost : (if decide ((deep : Int) < 3) = true then D.int 3 else D.int 0) = .int (most : Nat) := by
      by_cases z : m = 0
      · rw [decide_eq_false (by omega), if_neg (by simp), show most = 0 from if_pos z]
        rfl
      · rw [decide_eq_true (by omega), if_pos rfl, show most = 3 from if_neg z]
        rfl
    refine (gv_eq (gv_if (v := .int 3) (w := .int 0) (gt_t (gv_op (gv_var rfl) gv_c rv_lt)) (fun _ => gv_c) fun _ => gv_c) eMost) M4 (Grow.refl _) _ fun M5 g5 => ?_
    have cur5 := cur4.grow g5
    clear cur4
    obtain ⟨k1, x1, x2, x3, x4⟩ := id cur5.st
    dsimp only
    refine s_guard (ρ := [some (.ob a), some (.ob b), some (.int k), some (.int deep), some (.int many), some (.bl safe), some (.ob p), some lap, some (.int way), some (.int (most : Nat)), o10, o11, o12, o13, o14, o15, o16]) (gt_t (gv_op (gv_op (gv_var rfl) gv_c (rv_ixD rfl x1 st_left)) gv_c rv_eqI)) (fun hz M6 g6 => ?_) fun hz M6 g6 => ?_
    · exact hN _ M6 True.intro ⟨_, _, _, _, _, _, _, _, _, _, acc, Z1, n1, rfl, cur5.grow g6, ok, by omega⟩
    · have n1pos : n1 ≠ 0 := fun z => by
        rw [decide_eq_true (by omega)] at hz
        cases hz
      have cur6 := cur5.grow g6
      clear cur5
      have y1 := g6 _ _ x1
      refine s_seq (s_put (a := b) (s := "left") (gv_op (gv_op (gv_var rfl) gv_c (rv_ixD rfl y1 st_left)) gv_c rv_sub) (gv_var rfl) gv_c y1 (by show 5 < _; rw [sizeLine_eq]; omega) fun M7 g7 => ?_)
      dsimp only
      rw [st_putN, show ((n1 : Int) - 1) = ((n1 - 1 : Nat) : Int) by omega]
      have cur7 := ((cur6.grow g7).putB (n' := n1 - 1) (k := k1) ap hpS)
      clear cur6
      generalize mset M7 b (.dc (stD h lb s k1 ((n1 - 1 : Nat) : Int))) = N7 at cur7 ⊢
      have site0 : ∃ site, Z1.getLast? = some site := by
        cases Z1 with
        | nil =>
          simp at nZ
          omega
        | cons x r => exact ⟨_, List.getLast?_eq_some_getLast (by simp)⟩
      obtain ⟨site, hlast⟩ := site0
      have hsite : nameS site = true := all_get hZ1 (List.mem_of_getLast? hlast)
      have hperm := last_perm hlast
      obtain ⟨k2, y1, y2, y3, y4⟩ := id cur7.st
      refine s_seq (peel_par3 (c_popLast (ρ := [some (.ob a), some (.ob b), some (.int k), some (.int deep), some (.int many), some (.bl safe), some (.ob p), some lap, some (.int way), some (.int (most : Nat)), o10, o11, o12, o13, o14, o15, o16]) (l := s) (d := .str site) (gv_op (gv_var rfl) gv_c (rv_ixD rfl y1 st_sites)) y4 (by rw [List.getLast?_map, hlast]; rfl) fun M8 g8 => ?_))
      rw [← List.map_dropLast]
      have cur8 := (cur7.grow g8).putS (Z' := Z1.dropLast) ap hpS
      clear cur7
      generalize mset M8 s (.ls (Z1.dropLast.map D.str)) = N8 at cur8 ⊢
      obtain ⟨k3, z1, z2, z3, z4⟩ := id cur8.st
      refine c_sargs (ρ := [some (.ob a), some (.ob b), some (.int k), some (.int deep), some (.int many), some (.bl safe), some (.ob p), some lap, some (.int way), some (.int (most : Nat)), o10, o11, o12, o13, o14, o15, o16]) (a := a) (l := l) (c := c) (b := lb) (L := L) (n := 3) (ga_cons (gv_var rfl) (ga_cons (gv_op (gv_var rfl) gv_c (rv_ixD rfl z1 st_labels)) (ga_cons gv_c ga_nil))) cur8.dr z3 lba lbl hL0 (by omega) (by decide) fun M9 as g9 dr9 l3 has => ?_
      have cur9 := cur8.growH ap hpS g9 dr9
      clear cur8
      have n1e : 1 + (n1 - 1) = n1 := by omega
      -- the end of a turn, the item made
      have fin : ∀ (o13 o14 o15 o16 : Option D) (it : D) (bs : List D) (Z2 : List Str) (n2 : Nat) (M10 : DM), Cur a l c b h lb s H L Z2 n2 p acc M M10 → ItemOk H L k safe m Z1 Z2 n1 n2 it bs → isNon it = false → dSeq (dIfS (dT (dOp (dIsN false) (dVar 12) (dC .non))) (dAsg (dTup (dCons (dC (.str "do")) (dCons (dVar 10) (dCons (dCall spPick (dCons (dVar 0) (dCons (dOp dIx (dVar 1) (dC (.str "labels"))) dNil))) (dCons (dVar 11) dNil))))) (dName 12)) dNext) (dDrop (dBM dAppend (dVar 6) (dCons (dVar 12) dNil))) { nx := N, rt := Q, bk := dRet (dCB dTupOf (dCons (dVar 6) dNil)) { nx := fun _ M' => Q .non M', rt := Q }, ct := N } [some (.ob a), some (.ob b), some (.int k), some (.int deep), some (.int many), some (.bl safe), some (.ob p), some lap, some (.int way), some (.int (most : Nat)), some (.str site), some (.tup (as.map D.str)), some it, o13, o14, o15, o16] M10 := fun o13 o14 o15 o16 it bs Z2 n2 M10 cur10 iok hni => by
        refine s_guard0 (ρ := [some (.ob a), some (.ob b), some (.int k), some (.int deep), some (.int many), some (.bl safe), some (.ob p), some lap, some (.int way), some (.int (most : Nat)), some (.str site), some (.tup (as.map D.str)), some it, o13, o14, o15, o16]) (gt_eq (gt_t (gv_op (gv_var rfl) gv_c rv_isN)) hni) fun M11 g11 => ?_
        have cur11 := cur10.grow g11
        refine s_append (ρ := [some (.ob a), some (.ob b), some (.int k), some (.int deep), some (.int many), some (.bl safe), some (.ob p), some lap, some (.int way), some (.int (most : Nat)), some (.str site), some (.tup (as.map D.str)), some it, o13, o14, o15, o16]) (gv_var rfl) (gv_var rfl) cur11.ep (by rw [sizeLine_eq]; omega) fun M12 g12 => ?_
        exact hN _ _ True.intro ⟨_, _, _, _, _, _, _, _, _, _, acc ++ [it], Z2, n2, rfl, (cur11.grow g12).app hpN hpA, ok.app iok (by omega), by rw [List.length_append, List.length_singleton]; omega⟩
      -- .. a step is made
      have finN : ∀ (o13 o14 o15 o16 : Option D) (M10 : DM), Cur a l c b h lb s H L Z1.dropLast (n1 - 1) p acc M M10 → dSeq (dIfS (dT (dOp (dIsN false) (dVar 12) (dC .non))) (dAsg (dTup (dCons (dC (.str "do")) (dCons (dVar 10) (dCons (dCall spPick (dCons (dVar 0) (dCons (dOp dIx (dVar 1) (dC (.str "labels"))) dNil))) (dCons (dVar 11) dNil))))) (dName 12)) dNext) (dDrop (dBM dAppend (dVar 6) (dCons (dVar 12) dNil))) { nx := N, rt := Q, bk := dRet (dCB dTupOf (dCons (dVar 6) dNil)) { nx := fun _ M' => Q .non M', rt := Q }, ct := N } [some (.ob a), some (.ob b), some (.int k), some (.int deep), some (.int many), some (.bl safe), some (.ob p), some lap, some (.int way), some (.int (most : Nat)), some (.str site), some (.tup (as.map D.str)), some .non, o13, o14, o15, o16] M10 := fun o13 o14 o15 o16 M10 cur10 => by
        obtain ⟨k4, w1, w2, w3, w4⟩ := id cur10.st
        refine s_guard1 (ρ := [some (.ob a), some (.ob b), some (.int k), some (.int deep), some (.int many), some (.bl safe), some (.ob p), some lap, some (.int way), some (.int (most : Nat)), some (.str site), some (.tup (as.map D.str)), some .non, o13, o14, o15, o16]) (gt_t (gv_op (gv_var rfl) gv_c rv_isN)) fun M11 g11 => ?_
        have cur11 := cur10.grow g11
        refine peel_asg (peel_tup4 (ρ := [some (.ob a), some (.ob b), some (.int k), some (.int deep), some (.int many), some (.bl safe), some (.ob p), some lap, some (.int way), some (.int (most : Nat)), some (.str site), some (.tup (as.map D.str)), some .non, o13, o14, o15, o16]) gv_c (gv_var rfl) fun M12 g12 => ?_)
        have cur12 := cur11.grow g12
        obtain ⟨k5, v1, v2, v3, v4⟩ := id cur12.st
        refine c_pick (ρ := [some (.ob a), some (.ob b), some (.int k), some (.int deep), some (.int many), some (.bl safe), some (.ob p), some lap, some (.int way), some (.int (most : Nat)), some (.str site), some (.tup (as.map D.str)), some .non, o13, o14, o15, o16]) (a := a) (l := l) (c := c) (s := lb) (xs := L.map D.str) (ga_cons (gv_var rfl) (ga_cons (gv_op (gv_var rfl) gv_c (rv_ixD rfl v1 st_labels)) ga_nil)) cur12.dr v3 lba lbl (by simpa using hL0) (by rw [List.length_map]; omega) fun M13 y g13 dr13 hy => ?_
        obtain ⟨lab, hlab, rfl⟩ := List.mem_map.mp hy
        have cur13 := cur12.growH ap hpS g13 dr13
        refine ⟨by rw [sizeLine_eq]; omega, ?_⟩
        have iok : ItemOk H L k safe m Z1 Z1.dropLast n1 (n1 - 1) (.tup [.str "do", .str site, .str lab, .tup (as.map D.str)]) [] := ItemOk.stp hsite hL hlab l3 has hperm n1e
        show dDrop (dBM dAppend (dVar 6) (dCons (dVar 12) dNil)) { nx := N, rt := Q, bk := dRet (dCB dTupOf (dCons (dVar 6) dNil)) { nx := fun _ M' => Q .non M', rt := Q }, ct := N } [some (.ob a), some (.ob b), some (.int k), some (.int deep), some (.int many), some (.bl safe), some (.ob p), some lap, some (.int way), some (.int (most : Nat)), some (.str site), some (.tup (as.map D.str)), some (.tup [.str "do", .str site, .str lab, .tup (as.map D.str)]), o13, o14, o15, o16] M13
        refine s_append (ρ := [some (.ob a), some (.ob b), some (.int k), some (.int deep), some (.int many), some (.bl safe), some (.ob p), some lap, some (.int way), some (.int (most : Nat)), some (.str site), some (.tup (as.map D.str)), some (.tup [.str "do", .str site, .str lab, .tup (as.map D.str)]), o13, o14, o15, o16]) (gv_var rfl) (gv_var rfl) cur13.ep (by rw [sizeLine_eq]; omega) fun M14 g14 => ?_
        exact hN _ _ True.intro ⟨_, _, _, _, _, _, _, _, _, _, _, Z1.dropLast, n1 - 1, rfl, (cur13.grow g14).app hpN hpA, ok.app iok (by omega), by rw [List.length_append, List.length_singleton]; omega⟩
      -- a body within
      have inner : ∀ (ρ : DSt) (te : DTE) (sf : Bool) (Z2 : List Str) (n2 : Nat) (M10 : DM) (K2 : DK), ρ[0]? = some (some (.ob a)) → ρ[1]? = some (some (.ob b)) → ρ[2]? = some (some (.int k)) → ρ[3]? = some (some (.int deep)) → ρ[9]? = some (some (.int (most : Nat))) → (∀ M', Gv te ρ M' (.bl sf)) → Cur a l c b h lb s H L Z2 n2 p acc M M10 → Z2.all nameS = true → n2 ≤ Z2.length →
          (∀ M' x Z3 n3, Cur a l c b h lb s H L Z3 n3 p acc M M' → BodyOk H L k sf m Z2 Z3 n2 n3 x → K2 x M') → dCall (spBody m) (dCons (dVar 0) (dCons (dVar 1) (dCons (dVar 2) (dCons (dOp dAdd (dVar 3) (dC (.int 1))) (dCons (dCall spTake (dCons (dVar 0) (dCons (dOp dAdd (dVar 9) (dC (.int 1))) dNil))) (dCons te dNil)))))) ρ M10 K2 := fun ρ te sf Z2 n2 M10 K2 r0 r1 r2 r3 r9 hte cur10 hZ2 hn2 kk => by
        refine c_call6 (gv_var r0) (gv_var r1) (gv_var r2) (gv_eq (gv_op (gv_var r3) gv_c rv_add) (show D.int ((deep : Int) + 1) = .int ((deep + 1 : Nat) : Int) by rw [Int.natCast_add]; rfl)) fun M11 g11 => ?_
        have cur11 := cur10.grow g11
        refine c_take (a := a) (n := most + 1) (ga_cons (gv_var r0) (ga_cons (gv_eq (gv_op (gv_var r9) gv_c rv_add) (show D.int ((most : Int) + 1) = .int ((most + 1 : Nat) : Int) by rw [Int.natCast_add]; rfl)) ga_nil)) (by omega) (by show (if m = 0 then 0 else 3) + 1 < 1000000; split <;> omega) cur11.dr fun M12 i g12 dr12 hi => ?_
        have cur12 := cur11.growH ap hpS g12 dr12
        refine hte M12 M12 (Grow.refl _) _ fun M13 g13 => ?_
        have cur13 := cur12.grow g13
        have hmost : i < (if m = 0 then 0 else 3) + 1 := hi
        refine ⟨a, l, c, b, h, lb, s, H, L, Z2, n2, k, deep + 1, i, sf, rfl, by omega, ?_, ?_, ap, cur13.dr, cur13.st, hH, hH2, hL, hL0, hL2, hZ2, hn2, fun M14 x Z3 n3 g14 dr14 st14 bok _ => kk M14 x Z3 n3 (cur13.gs hpS g14 dr14 st14) bok⟩
        · split at hmost <;> omega
        · intro z
          rw [if_pos z] at hmost
          omega
      have hZd : Z1.dropLast.all nameS = true := List.all_eq_true.mpr fun x hx => List.all_eq_true.mp hZ1 x (List.dropLast_subset _ hx)
      have nZd : n1 - 1 ≤ Z1.dropLast.length := by rw [List.length_dropLast]; omega
      have small : ∀ ss : List Int, ss.length ≤ 10 → ss.length ≤ sizeLine := fun ss h => by rw [sizeLine_eq]; omega
      dsimp only
      refine s_seq (s_if (ρ := [some (.ob a), some (.ob b), some (.int k), some (.int deep), some (.int many), some (.bl safe), some (.ob p), some lap, some (.int way), some (.int (most : Nat)), some (.str site), some (.tup (as.map D.str)), some .non, o13, o14, o15, o16]) (gt_t (gv_inLstI (ss := [4, 5, 6]) (gv_var rfl) (ga_cons gv_c (ga_cons gv_c (ga_cons gv_c ga_nil))) (small _ (by decide)))) (fun hb M10 g10 => ?_) fun hb M10 g10 => ?_)
      · have cur10 := cur9.grow g10
        refine s_seq (peel_asg (c_take (ρ := [some (.ob a), some (.ob b), some (.int k), some (.int deep), some (.int many), some (.bl safe), some (.ob p), some lap, some (.int way), some (.int (most : Nat)), some (.str site), some (.tup (as.map D.str)), some .non, o13, o14, o15, o16]) (a := a) (n := 3) (ga_cons (gv_var rfl) (ga_cons gv_c ga_nil)) (by decide) (by decide) cur10.dr fun M11 free g11 dr11 hfree => ?_))
        have cur11 := cur10.growH ap hpS g11 dr11
        dsimp only
        refine s_seq (peel_asg (inner [some (.ob a), some (.ob b), some (.int k), some (.int deep), some (.int many), some (.bl safe), some (.ob p), some lap, some (.int way), some (.int (most : Nat)), some (.str site), some (.tup (as.map D.str)), some .non, some (.int free), o14, o15, o16] _ (safe && !decide ((free : Int) = 0)) Z1.dropLast (n1 - 1) M11 _ rfl rfl rfl rfl rfl (fun M' => gv_and (gv_var rfl) fun _ => gv_op (gv_var rfl) gv_c rv_neI) cur11 hZd nZd fun M12 x Z3 n3 cur12 bx => ?_))
        have hZ3 : Z3.all nameS = true := List.all_eq_true.mpr fun x hx => List.all_eq_true.mp hZd x (bx.perm.mem_iff.mp (List.mem_append_right _ hx))
        have nZ3 : n3 ≤ Z3.length := by
          have h1 := bx.cnt
          have h2 := bx.perm.length_eq
          rw [List.length_append, List.length_map] at h2
          omega
        dsimp only
        refine s_seq (peel_asg (inner [some (.ob a), some (.ob b), some (.int k), some (.int deep), some (.int many), some (.bl safe), some (.ob p), some lap, some (.int way), some (.int (most : Nat)), some (.str site), some (.tup (as.map D.str)), some .non, some (.int free), some x, o15, o16] _ (safe && !decide ((free : Int) = 1)) Z3 n3 M12 _ rfl rfl rfl rfl rfl (fun M' => gv_and (gv_var rfl) fun _ => gv_op (gv_var rfl) gv_c rv_neI) cur12 hZ3 nZ3 fun M13 y Z4 n4 cur13 bY => ?_))
        dsimp only
        refine s_set (ρ := [some (.ob a), some (.ob b), some (.int k), some (.int deep), some (.int many), some (.bl safe), some (.ob p), some lap, some (.int way), some (.int (most : Nat)), some (.str site), some (.tup (as.map D.str)), some .non, some (.int free), some x, some y, o16]) (gv_tup (ga_cons gv_c (ga_cons (gv_var rfl) (ga_cons (gv_var rfl) (ga_cons (gv_var rfl) (ga_cons (gv_var rfl) ga_nil))))) (by show 5 ≤ _; rw [sizeLine_eq]; omega)) fun M14 g14 => ?_
        refine fin _ _ _ _ (.tup [.str "if", .str site, .tup (as.map D.str), x, y]) [x, y] Z4 n4 M14 (cur13.grow g14) (ItemOk.iff hsite hL l3 has hperm n1e bx bY ?_) rfl
        by_cases z : (free : Int) = 0
        · exact .inr (by rw [decide_eq_false (by omega)]; rfl)
        · exact .inl (by rw [decide_eq_false z]; rfl)
      · have cur10 := cur9.grow g10
        refine s_if (ρ := [some (.ob a), some (.ob b), some (.int k), some (.int deep), some (.int many), some (.bl safe), some (.ob p), some lap, some (.int way), some (.int (most : Nat)), some (.str site), some (.tup (as.map D.str)), some .non, o13, o14, o15, o16]) (gt_t (gv_inLstI (ss := [7, 8]) (gv_var rfl) (ga_cons gv_c (ga_cons gv_c ga_nil)) (small _ (by decide)))) (fun hb M11 g11 => ?_) fun hb M11 g11 => ?_
        · have cur11 := cur10.grow g11
          refine peel_asg (peel_tup4d (ρ := [some (.ob a), some (.ob b), some (.int k), some (.int deep), some (.int many), some (.bl safe), some (.ob p), some lap, some (.int way), some (.int (most : Nat)), some (.str site), some (.tup (as.map D.str)), some .non, o13, o14, o15, o16]) gv_c (gv_var rfl) (gv_var rfl) fun M12 g12 => ?_)
          refine inner [some (.ob a), some (.ob b), some (.int k), some (.int deep), some (.int many), some (.bl safe), some (.ob p), some lap, some (.int way), some (.int (most : Nat)), some (.str site), some (.tup (as.map D.str)), some .non, o13, o14, o15, o16] _ false Z1.dropLast (n1 - 1) M12 _ rfl rfl rfl rfl rfl (fun M' => gv_c) (cur11.grow g12) hZd nZd fun M13 x Z3 n3 cur13 bx => ?_
          exact ⟨by rw [sizeLine_eq]; omega, fin _ _ _ _ (.tup [.str "while", .str site, .tup (as.map D.str), x]) [x] Z3 n3 M13 cur13 (ItemOk.whl hsite hL l3 has hperm n1e bx) rfl⟩
        · have cur11 := cur10.grow g11
          refine s_if (ρ := [some (.ob a), some (.ob b), some (.int k), some (.int deep), some (.int many), some (.bl safe), some (.ob p), some lap, some (.int way), some (.int (most : Nat)), some (.str site), some (.tup (as.map D.str)), some .non, o13, o14, o15, o16]) (gt_t (gv_op (gv_var rfl) gv_c rv_gt)) (fun hb M12 g12 => ?_) fun hb M12 g12 => finN _ _ _ _ M12 (cur11.grow g12)
          have cur12 := cur11.grow g12
          obtain ⟨k4, w1, w2, w3, w4⟩ := id cur12.st
          let j : Nat := if safe = true then k + 1 else 1
          have ej : (if safe = true then D.int ((k : Int) + 1) else D.int 1) = .int (j : Nat) := by
            cases safe
            · rfl
            · show D.int ((k : Int) + 1) = .int ((k + 1 : Nat) : Int)
              rw [Int.natCast_add]
              rfl
          have ecut : dcut (H.map D.str) (some (j : Int)) none = (H.drop j).map D.str := by rw [dcut_from, List.map_drop]
          refine s_seq (s_setL (ρ := [some (.ob a), some (.ob b), some (.int k), some (.int deep), some (.int many), some (.bl safe), some (.ob p), some lap, some (.int way), some (.int (most : Nat)), some (.str site), some (.tup (as.map D.str)), some .non, o13, o14, o15, o16]) (xs := (H.drop j).map D.str) (by rw [← ecut]; exact gl_sl (a := h) (gv_op (gv_var rfl) gv_c (rv_ixD rfl w1 st_heads)) w2 (go_some (gv_eq (gv_if (v := .int ((k : Int) + 1)) (w := .int 1) (gt_t (gv_var rfl)) (fun _ => gv_op (gv_var rfl) gv_c rv_add) fun _ => gv_c) ej)) go_none) fun M13 pb g13 npb epb => ?_)
          have cur13 := cur12.grow g13
          have pbn := cur12.dr.new npb
          have pbb : pb ≠ b := fun e => by rw [e, w1] at npb; cases npb
          obtain ⟨k5, v1, v2, v3, v4⟩ := id cur13.st
          dsimp only
          refine s_if (ρ := [some (.ob a), some (.ob b), some (.int k), some (.int deep), some (.int many), some (.bl safe), some (.ob p), some lap, some (.int way), some (.int (most : Nat)), some (.str site), some (.tup (as.map D.str)), some .non, o13, o14, o15, some (.ob pb)]) (gt_and (gt_t (gv_ne_at (gv_var rfl) epb)) fun _ => gt_t (gv_op (gv_op (gv_var rfl) gv_c (rv_ixD rfl v1 st_calls)) gv_c rv_gt)) (fun hb2 M14 g14 => ?_) fun hb2 M14 g14 => finN _ _ _ _ M14 (cur13.grow g14)
          have cur14 := cur13.grow g14
          have u1 := g14 _ _ v1
          refine s_seq (s_put (ρ := [some (.ob a), some (.ob b), some (.int k), some (.int deep), some (.int many), some (.bl safe), some (.ob p), some lap, some (.int way), some (.int (most : Nat)), some (.str site), some (.tup (as.map D.str)), some .non, o13, o14, o15, some (.ob pb)]) (a := b) (s := "calls") (gv_op (gv_op (gv_var rfl) gv_c (rv_ixD rfl u1 st_calls)) gv_c rv_sub) (gv_var rfl) gv_c u1 (by show 5 < _; rw [sizeLine_eq]; omega) fun M15 g15 => ?_)
          dsimp only
          rw [st_putC]
          have cur15 := ((cur14.grow g15).putB (n' := n1 - 1) (k := k5 - 1) ap hpS)
          have epb15 : mset M15 b (.dc (stD h lb s (k5 - 1) ((n1 - 1 : Nat) : Int))) pb = some (.ls ((H.drop j).map D.str)) := by rw [mset_ne pbb]; exact g15 _ _ (g14 _ _ epb)
          generalize mset M15 b (.dc (stD h lb s (k5 - 1) ((n1 - 1 : Nat) : Int))) = N15 at cur15 epb15 ⊢
          have hne : (H.drop j).map D.str ≠ [] := fun z => by
            rw [z] at hb2
            cases hb2
          refine peel_asg (peel_tup3 (ρ := [some (.ob a), some (.ob b), some (.int k), some (.int deep), some (.int many), some (.bl safe), some (.ob p), some lap, some (.int way), some (.int (most : Nat)), some (.str site), some (.tup (as.map D.str)), some .non, o13, o14, o15, some (.ob pb)]) gv_c (gv_var rfl) fun M16 g16 => ?_)
          have cur16 := cur15.grow g16
          refine c_pick (ρ := [some (.ob a), some (.ob b), some (.int k), some (.int deep), some (.int many), some (.bl safe), some (.ob p), some lap, some (.int way), some (.int (most : Nat)), some (.str site), some (.tup (as.map D.str)), some .non, o13, o14, o15, some (.ob pb)]) (a := a) (l := l) (c := c) (s := pb) (xs := (H.drop j).map D.str) (ga_cons (gv_var rfl) (ga_cons (gv_var rfl) ga_nil)) cur16.dr (g16 _ _ epb15) pbn.1 pbn.2.1 hne (by rw [List.length_map, List.length_drop]; omega) fun M17 y g17 dr17 hy => ?_
          obtain ⟨hd, hhd, rfl⟩ := List.mem_map.mp hy
          have cur17 := cur16.growH ap hpS g17 dr17
          have sub : H.drop (k + 1) = (H.drop 1).drop k := by rw [List.drop_drop, Nat.add_comm]
          have hd1 : hd ∈ H.drop 1 := by
            cases safe
            · exact hhd
            · have z : hd ∈ H.drop (k + 1) := hhd
              rw [sub] at z
              exact List.mem_of_mem_drop z
          refine ⟨by rw [sizeLine_eq]; omega, fin _ _ _ _ (.tup [.str "call", .str site, .str hd]) [] Z1.dropLast (n1 - 1) M17 cur17 (ItemOk.cal hsite hH hd1 (fun hs => ?_) hperm n1e) rfl⟩
          have z : hd ∈ H.drop (if safe = true then k + 1 else 1) := hhd
          rw [if_pos hs] at z
          exact z
theorem ok_drawn0 (T : Tx K mg w) : FnOk P w K mg base CX0 5 T.f__law_body.f T.f__law_body.fd ["draw", "state", "k", "deep", "many", "is_safe"] (LSp K (spBody 0)) :=
  drawn_step T (k0 := 4) (sp := fun _ _ _ => False) (fun m h => nomatch h) (by decide) (dfun T.f__law_body.F sc__law_body (fun _ _ _ h => h.elim) fun _ _ _ _ _ _ _ => ⟨fun _ _ _ => False, PSs.none, fun _ _ _ h => h.elim⟩)
theorem ok_drawn (T : Tx K mg w) : ∀ d, FnOk P w K mg base CX0 (d + 5) T.f__law_body.f T.f__law_body.fd ["draw", "state", "k", "deep", "many", "is_safe"] (LSp K (spBody d))
  | 0 => ok_drawn0 T
  | d + 1 => drawn_step T (sp := spBody d) (fun m h => by cases h; rfl) (by omega) (ok_drawn T d)
end
end DL

/-! P2: a drawn library is one. -/
namespace DL
open PySem PySem.Spec PyProof.Rows L2
def mkP (h : Str) (x : D) : D := .tup [.str "proc", .str h, x]
structure Each (H L : List Str) (i : Nat) (x : D) : Prop where
  body : isBody 3 x = true
  calls : ∀ it ∈ itemsD 3 x, isCall it = true → st2 it ∈ H.drop 1
  labs : ∀ it ∈ itemsD 3 x, ∀ y ∈ labs it, y ∈ L
  can : canD 3 (fun s => decide (s ∈ H.drop (i + 1))) x = true
structure Plan (H L : List Str) (xs : List D) : Prop where
  len : xs.length = H.length
  each : ∀ i x, xs[i]? = some x → Each H L i x
  sites : ((xs.flatMap (itemsD 3)).map st1).Nodup
  cnt : (xs.flatMap (itemsD 3)).length ≤ 40
theorem can_mono {lot lot' : Str → Bool} (h : ∀ s, lot s = true → lot' s = true) : ∀ (n : Nat) (d : D), canD n lot d = true → canD n lot' d = true
  | 0, _, _ => rfl
  | n + 1, .tup xs, hc => by
    show xs.all _ = true
    have hc : xs.all _ = true := hc
    rw [List.all_eq_true] at hc ⊢
    intro it hit
    have z := hc it hit
    by_cases h1 : st0 it = "call"
    · rw [if_pos h1] at z ⊢
      exact h _ z
    · rw [if_neg h1] at z ⊢
      by_cases h2 : st0 it = "if"
      · rw [if_pos h2] at z ⊢
        rw [List.any_eq_true] at z ⊢
        obtain ⟨b, hb, hb2⟩ := z
        exact ⟨b, hb, can_mono h n b hb2⟩
      · rw [if_neg h2]
  | n + 1, .non, _ => rfl
  | n + 1, .bl _, _ => rfl
  | n + 1, .int _, _ => rfl
  | n + 1, .str _, _ => rfl
  | n + 1, .ob _, _ => rfl
  | n + 1, .ty _, _ => rfl
section
variable {H L : List Str} {xs : List D}
theorem zip_items : ∀ {H : List Str} {xs : List D}, xs.length = H.length → allIt (List.zipWith mkP H xs) = xs.flatMap (itemsD 3)
  | [], [], _ => rfl
  | h :: H, x :: xs, e => by
    show itemsD 3 (bdP (mkP h x)) ++ allIt (List.zipWith mkP H xs) = itemsD 3 x ++ _
    rw [zip_items (by simpa using e)]
    rfl
  | [], _ :: _, e => by simp at e
  | _ :: _, [], e => by simp at e
theorem zip_names : ∀ {H : List Str} {xs : List D}, xs.length = H.length → (List.zipWith mkP H xs).map nmP = H
  | [], [], _ => rfl
  | h :: H, x :: xs, e => by
    show nmP (mkP h x) :: (List.zipWith mkP H xs).map nmP = _
    rw [zip_names (by simpa using e)]
    rfl
  | [], _ :: _, e => by simp at e
  | _ :: _, [], e => by simp at e
theorem round_mono {ps : List D} {k : Nat} {s : Str} (h : s ∈ roundsP ps k) : s ∈ roundsP ps (k + 1) := by
  show s ∈ (moreP ps (roundsP ps k)).foldl seen1 (roundsP ps k)
  have aux : ∀ (ys acc : List Str), s ∈ acc → s ∈ ys.foldl seen1 acc := by
    intro ys
    induction ys with
    | nil => intro acc h; exact h
    | cons y ys ih =>
      intro acc h
      rw [List.foldl_cons]
      refine ih _ ?_
      unfold seen1
      split
      · exact h
      · exact List.mem_append_left _ h
  exact aux _ _ h
theorem round_more {ps : List D} {k : Nat} {s : Str} (h : s ∈ moreP ps (roundsP ps k)) : s ∈ roundsP ps (k + 1) := by
  show s ∈ (moreP ps (roundsP ps k)).foldl seen1 (roundsP ps k)
  have aux : ∀ (ys acc : List Str), s ∈ ys → s ∈ ys.foldl seen1 acc := by
    intro ys
    induction ys with
    | nil => intro acc h; cases h
    | cons y ys ih =>
      intro acc h
      rw [List.foldl_cons]
      rcases List.mem_cons.mp h with rfl | h
      · have : s ∈ seen1 acc s := by
          unfold seen1
          split
          · assumption
          · simp
        have mono : ∀ (ys acc : List Str), s ∈ acc → s ∈ ys.foldl seen1 acc := by
          intro ys
          induction ys with
          | nil => intro acc h; exact h
          | cons y ys ih =>
            intro acc h
            rw [List.foldl_cons]
            refine ih _ ?_
            unfold seen1
            split
            · exact h
            · exact List.mem_append_left _ h
        exact mono _ _ this
      · exact ih _ h
  exact aux _ _ h
/-- the lib of a plan: the first proc stays the first, the others in any sequence -/
theorem plan_lib (pl : Plan H L xs) (nd : H.Nodup) (hH : H.all nameS = true) (h1 : 1 ≤ H.length) (h8 : H.length ≤ 8) {p : D} {rest qs : List D} (e : List.zipWith mkP H xs = p :: rest) (hq : qs.Perm rest) : isLib (.tup [.str "library", .tup (p :: qs)]) = true ∧ ∀ it ∈ allIt (p :: qs), ∀ y ∈ labs it, y ∈ L := by
  have perm : (p :: qs).Perm (List.zipWith mkP H xs) := by
    rw [e]
    exact List.Perm.cons _ hq
  have names : ((p :: qs).map nmP).Perm H := by
    have := perm.map nmP
    rwa [zip_names pl.len] at this
  have items : (allIt (p :: qs)).Perm (xs.flatMap (itemsD 3)) := by
    have := List.Perm.flatMap_right (fun p => itemsD 3 (bdP p)) perm
    have z : allIt (List.zipWith mkP H xs) = _ := zip_items pl.len
    rw [← z]
    exact this
  have lenZ : (List.zipWith mkP H xs).length = H.length := by rw [List.length_zipWith, pl.len, Nat.min_self]
  have len : (p :: qs).length = H.length := by rw [perm.length_eq, lenZ]
  -- who stands where
  have who : ∀ q ∈ p :: qs, ∃ i h x, H[i]? = some h ∧ xs[i]? = some x ∧ q = mkP h x := fun q hq => by
    have hm := perm.mem_iff.mp hq
    obtain ⟨i, hi, eq⟩ := List.getElem_of_mem hm
    rw [List.getElem_zipWith] at eq
    rw [lenZ] at hi
    exact ⟨i, H[i], xs[i]'(by rw [pl.len]; exact hi), List.getElem?_eq_getElem hi, List.getElem?_eq_getElem _, eq.symm⟩
  have nm0e : nm0 (p :: qs) = H[0]'h1 := by
    have z := congrArg (fun l => (l.map nmP)) e
    rw [zip_names pl.len] at z
    have z2 : H = nmP p :: rest.map nmP := z
    show nmP p = _
    have : H[0]? = some (nmP p) := by rw [z2]; rfl
    rw [List.getElem?_eq_getElem h1] at this
    exact (Option.some.inj this).symm
  have allP : (p :: qs).all isProc = true := List.all_eq_true.mpr fun q hq => by
    obtain ⟨i, h, x, eh, ex, rfl⟩ := who q hq
    show (decide (("proc" : Str) = "proc") && nameS h && isBody 3 x) = true
    rw [decide_eq_true rfl, all_get hH (List.mem_of_getElem? eh), (pl.each i x ex).body]
    rfl
  have itm : ∀ it ∈ allIt (p :: qs), ∃ i x, Each H L i x ∧ it ∈ itemsD 3 x := fun it hit => by
    obtain ⟨q, hq, hm⟩ := List.mem_flatMap.mp hit
    obtain ⟨i, h, x, eh, ex, rfl⟩ := who q hq
    exact ⟨i, x, pl.each i x ex, hm⟩
  refine ⟨?_, fun it hit y hy => ?_⟩
  · rw [isLib_eq, decide_eq_true rfl, decide_eq_true (show ((p :: qs).length : Int) ≤ 8 by omega), allP]
    have ndn : ((p :: qs).map nmP).Nodup := (names.nodup_iff).mpr nd
    have cr : callsRight (p :: qs) = true := by
      unfold callsRight
      rw [decide_eq_true (show (seen ((p :: qs).map nmP)).length = (p :: qs).length by rw [(seen_nodup _).mpr ndn, List.length_map])]
      rw [decide_eq_true (show (allIt (p :: qs)).length ≤ 40 by rw [items.length_eq]; exact pl.cnt)]
      rw [decide_eq_true (show (seen ((allIt (p :: qs)).map st1)).length = (allIt (p :: qs)).length by rw [(seen_nodup _).mpr ((items.map st1).nodup_iff.mpr pl.sites), List.length_map])]
      rw [Bool.true_and, Bool.true_and, Bool.true_and, List.all_eq_true]
      intro it hit
      obtain ⟨hm, hc⟩ := List.mem_filter.mp hit
      obtain ⟨i, x, ex, hx⟩ := itm it hm
      have hd := ex.calls it hx hc
      have z1 : st2 it ∈ (p :: qs).map nmP := names.mem_iff.mpr (List.mem_of_mem_drop hd)
      have z2 : ¬ st2 it = nm0 (p :: qs) := fun z => by
        rw [nm0e] at z
        have : H = H[0]'h1 :: H.drop 1 := by
          have := List.drop_eq_getElem_cons (l := H) (i := 0) h1
          rwa [List.drop_zero] at this
        rw [this, List.nodup_cons] at nd
        exact nd.1 (z ▸ hd)
      rw [decide_eq_true z1, decide_eq_false z2]
      rfl
    have rd : (roundsP (p :: qs) (p :: qs).length).length = (p :: qs).length := by
      have reach : ∀ j i (hi : i < H.length), H.length ≤ i + j → H[i] ∈ roundsP (p :: qs) j := by
        intro j
        induction j with
        | zero => intro i hi hj; omega
        | succ j ih =>
          intro i hi hj
          by_cases c : H.length ≤ i + j
          · exact round_mono (ih i hi c)
          · by_cases inn : H[i] ∈ roundsP (p :: qs) j
            · exact round_mono inn
            · have hx : i < xs.length := by rw [pl.len]; exact hi
              have ex := pl.each i xs[i] (List.getElem?_eq_getElem hx)
              have hmem : mkP H[i] xs[i] ∈ p :: qs := by
                refine perm.mem_iff.mpr ?_
                have hz : i < (List.zipWith mkP H xs).length := by rw [lenZ]; exact hi
                have := List.getElem_mem hz
                rwa [List.getElem_zipWith] at this
              refine round_more ?_
              unfold moreP
              refine List.mem_map.mpr ⟨mkP H[i] xs[i], List.mem_filter.mpr ⟨hmem, ?_⟩, rfl⟩
              rw [Bool.and_eq_true]
              refine ⟨by rw [show nmP (mkP H[i] xs[i]) = H[i] from rfl, decide_eq_false inn]; rfl, ?_⟩
              refine can_mono (fun s hs => ?_) 3 _ ex.can
              have hs := of_decide_eq_true hs
              refine decide_eq_true ?_
              obtain ⟨t, ht, et⟩ := List.getElem_of_mem hs
              rw [List.getElem_drop] at et
              rw [← et]
              rw [List.length_drop] at ht
              exact ih _ (by omega) (by omega)
      have sub : ∀ s ∈ H, s ∈ roundsP (p :: qs) (p :: qs).length := fun s hs => by
        obtain ⟨i, hi, ei⟩ := List.getElem_of_mem hs
        rw [← ei]
        exact reach _ i hi (by omega)
      have a1 := len_sub H _ nd sub
      have a2 := len_sub _ _ (rounds_eq ndn (p :: qs).length).2.1 (rounds_eq ndn (p :: qs).length).2.2
      rw [List.length_map] at a2
      omega
    rw [cr, decide_eq_true rd]
    rfl
  · obtain ⟨i, x, ex, hx⟩ := itm it hit
    exact ex.labs it hx y hy
end
end DL

/-! D6: a library is drawn: parts. -/
namespace DL
open PySem PySem.Spec PyProof.Rows L2
def WH : List Str := wordsL ["p", "q"]
def WL : List Str := wordsL ["", "v"]
def WS : List Str := wordsL ["s", "u", ""]
def goodW (W : List Str) : Bool := decide W.Nodup && W.all nameS
theorem gWH : WH.Nodup ∧ WH.all nameS = true ∧ WH.length = 52 := by decide +kernel
theorem gWL : WL.Nodup ∧ WL.all nameS = true ∧ WL.length = 52 := by decide +kernel
theorem gWS : WS.Nodup ∧ WS.all nameS = true ∧ WS.length = 78 := by decide +kernel
theorem words_len (ts : List Str) : (wordsL ts).length = ts.length * 26 := by
  have abcl : abc.cps.toList.length = 26 := by
    have := abc_len
    unfold signs at this
    rw [List.length_map] at this
    exact this
  induction ts with
  | nil => rfl
  | cons t ts ih =>
    show ((abc.cps.toList.map fun c => t ++ ⟨#[c]⟩) ++ wordsL ts).length = _
    rw [List.length_append, List.length_map, abcl, ih, List.length_cons, Nat.succ_mul]
    omega
theorem strD_map (xs : List Str) : (xs.map D.str).map strD = xs := by
  rw [List.map_map]
  exact List.map_id'' (fun _ => rfl) xs
theorem perm_strs {ys : List D} {ss : List Str} (h : ys.Perm (ss.map D.str)) : ∃ zs : List Str, ys = zs.map D.str ∧ zs.Perm ss := by
  refine ⟨ys.map strD, ?_, ?_⟩
  · rw [List.map_map]
    conv => lhs; rw [← List.map_id ys]
    refine List.map_congr_left fun y hy => ?_
    obtain ⟨s, _, rfl⟩ := List.mem_map.mp (h.mem_iff.mp hy)
    rfl
  · have := h.map strD
    rwa [strD_map] at this
section
variable {ρ : DSt} {M : DM} {E : DEnds} {A B C F te tu : DTE} {Q : DK}
theorem c_shufwords {t : DTA} {ss : List Str} {a l c : Addr} {ed : DTE} (h0 : Gv ed ρ M (.ob a)) (ht : Ga t ρ M (ss.map D.str)) (l10 : ss.length ≤ 10) (each : ∀ s ∈ ss, s.length ≤ 10) (dr : Drw a l c M)
    (q : ∀ (M' : DM) (p : Addr) (zs : List Str), GrowH a l M M' → Drw a l c M' → M p = none → M' p = some (.ls (zs.map D.str)) → zs.Perm (wordsL ss) → Q (.ob p) M') : dCall spShuf (dCons ed (dCons (dCall spWords (dCons (dLst t) dNil)) dNil)) ρ M Q :=
  h0 M (Grow.refl M) _ fun M1 g1 => ht M1 g1 _ fun M2 g2 => ⟨by rw [List.length_map, sizeLine_eq]; omega, fun ph nph => ⟨ph, ss, rfl, mset_same, l10, each, fun M3 pw g3 npw epw => by
    have g02 : Grow M (mset M2 ph (.ls (ss.map D.str))) := (g1.trans g2).trans (Grow.new nph)
    have g03 : Grow M M3 := g02.trans g3
    have nn := (dr.grow g02).new npw
    dsimp only [dNil]
    refine ⟨a, l, c, pw, (wordsL ss).map D.str, rfl, dr.grow g03, epw, nn.1, nn.2.1, by rw [List.length_map, words_len]; omega, fun M4 p ys g4 dr4 np n1 n2 ep perm => ?_⟩
    obtain ⟨zs, rfl, hz⟩ := perm_strs perm
    exact q M4 p zs (g03.h.trans g4) dr4 (fresh_of g03 (by rw [hide_ne n1 n2] at np; exact np)) ep hz⟩⟩
theorem peel_two {i j : Nat} (h : A ρ M fun x M1 => B ρ M1 fun y M2 => 2 ≤ sizeLine ∧ 2 = 2 ∧ E.nx ((ρ.set i (some x)).set j (some y)) M2) : dAsg (dTup (dCons A (dCons B dNil))) (dgTup 2 (dgCons (dName i) (dgCons (dName j) dgNil))) E ρ M := h
def slTo (x u : D) (M : DM) (Q : DK) : Prop := match u with
  | .int i => (match x with
    | .tup ds => Q (.tup (dcut ds none (some i))) M
    | .ob a => (match Msq M a with
      | some ds => ∀ p, M p = none → Q (.ob p) (mset M p (.ls (dcut ds none (some i))))
      | none => False)
    | _ => False)
  | _ => False
theorem peel_slTo (h : te ρ M fun x M1 => tu ρ M1 fun u M2 => slTo x u M2 Q) : dSl te dNoPart (dPart tu) ρ M Q := by
  exact h
theorem slTo_ls {a : Addr} {xs : List D} {n : Nat} (e : M a = some (.ls xs)) (q : ∀ p, M p = none → Q (.ob p) (mset M p (.ls (xs.take n)))) : slTo (.ob a) (.int n) M Q := by
  unfold slTo
  dsimp only
  rw [msq_ls e]
  dsimp only
  rw [dcut_to]
  exact q
theorem peel_disp4 {i : Nat} {k1 k2 k3 k4 : Str} (h : A ρ M fun x1 M1 => B ρ M1 fun x2 M2 => C ρ M2 fun x3 M3 => F ρ M3 fun x4 M4 => 4 ≤ 15 ∧ ∀ p, M4 p = none → E.nx (ρ.set i (some (.ob p))) (mset M4 p (.dc (mergeD [] [(.inr k1, x1), (.inr k2, x2), (.inr k3, x3), (.inr k4, x4)])))) : dAsg (dDisp [(dC (.str k1), A), (dC (.str k2), B), (dC (.str k3), C), (dC (.str k4), F)]) (dName i) E ρ M := h
theorem peel_min {g : DTG} {v : D} (h : A ρ M fun x M1 => B ρ M1 fun y M2 => dAdd x y M2 fun z M3 => dMin2 [v, z] M3 fun d M4 => g d ρ M4 E.nx) : dAsg (dCB dMin2 (dCons (dC v) (dCons (dOp dAdd A B) dNil))) g E ρ M := h
theorem st_new {h lb s : Addr} {c n : Int} : putD (mergeD [] [(.inr "heads", .ob h), (.inr "labels", .ob lb), (.inr "sites", .ob s), (.inr "calls", .int c)]) (.inr "left") (.int n) = stD h lb s c n := by
  have e : mergeD [] [((.inr "heads" : Key), D.ob h), (.inr "labels", .ob lb), (.inr "sites", .ob s), (.inr "calls", .int c)] = [(.inr "heads", .ob h), (.inr "labels", .ob lb), (.inr "sites", .ob s), (.inr "calls", .int c)] := by
    show putD (putD (putD (putD [] (.inr "heads") _) (.inr "labels") _) (.inr "sites") _) (.inr "calls") _ = _
    rw [putD_miss (kvs := []) rfl, List.nil_append]
    rw [putD_miss (kvs := [((.inr "heads" : Key), D.ob h)]) (by rw [List.any_cons, List.any_nil, decide_eq_false k_hl]; rfl)]
    rw [List.cons_append, List.nil_append]
    rw [putD_miss (kvs := [((.inr "heads" : Key), D.ob h), (.inr "labels", .ob lb)]) (by rw [List.any_cons, List.any_cons, List.any_nil, decide_eq_false k_hs, decide_eq_false k_ls]; rfl)]
    rw [List.cons_append, List.cons_append, List.nil_append]
    rw [putD_miss (kvs := [((.inr "heads" : Key), D.ob h), (.inr "labels", .ob lb), (.inr "sites", .ob s)]) (by rw [List.any_cons, List.any_cons, List.any_cons, List.any_nil, decide_eq_false k_hc, decide_eq_false k_lc, decide_eq_false k_sc]; rfl)]
    rw [List.cons_append, List.cons_append, List.cons_append, List.nil_append]
  rw [e, putD_miss (kvs := [((.inr "heads" : Key), D.ob h), (.inr "labels", .ob lb), (.inr "sites", .ob s), (.inr "calls", .int c)]) (by rw [List.any_cons, List.any_cons, List.any_cons, List.any_cons, List.any_nil, decide_eq_false k_hn, decide_eq_false k_ln, decide_eq_false k_sn, decide_eq_false k_cn]; rfl)]
  rfl
theorem merge_len4 {x y z u : Key × D} : (mergeD [] [x, y, z, u]).length ≤ 4 := by
  show (putD (putD (putD (putD [] x.1 x.2) y.1 y.2) z.1 z.2) u.1 u.2).length ≤ 4
  have h1 := putD_len [] x.1 x.2
  have h2 := putD_len (putD [] x.1 x.2) y.1 y.2
  have h3 := putD_len (putD (putD [] x.1 x.2) y.1 y.2) z.1 z.2
  have h4 := putD_len (putD (putD (putD [] x.1 x.2) y.1 y.2) z.1 z.2) u.1 u.2
  rw [List.length_nil] at h1
  omega
/-- a list against a new empty one -/
theorem c_eqNil {p : Addr} {zs : List D} (e : M p = some (.ls zs)) (q : ∀ M2, Grow M M2 → Q (.bl zs.isEmpty) M2) : dLst dNil ρ M fun y M2 => dEq false (.ob p) y M2 Q := ⟨Nat.zero_le _, fun p2 np2 => by
  have ne : p ≠ p2 := fun z => by
    rw [← z, e] at np2
    cases np2
  unfold dEq
  dsimp only
  rw [msq_ls (show mset M p2 (.ls []) p = some (.ls zs) by rw [mset_ne ne]; exact e), msq_ls (show mset M p2 (.ls []) p2 = some (.ls []) from mset_same)]
  exact q _ (Grow.new np2)⟩
end
end DL

/-! D7: a library is drawn: the walk. -/
namespace DL
open PySem PySem.Spec PyProof.Rows L2
def spLibrary : DSp := fun ds M Q => ∃ (a l c : Addr) (n : Nat), ds = [.ob a, .int n] ∧ 1 ≤ n ∧ n ≤ 8 ∧ Drw a l c M ∧ ∀ (M' : DM) (ps : List D) (L : List Str), GrowH a l M M' → Drw a l c M' → isLib (.tup [.str "library", .tup ps]) = true → L.length ≤ 4 → L.all nameS = true → (∀ it ∈ allIt ps, ∀ y ∈ labs it, y ∈ L) → (∀ p ∈ ps, nmP p ≠ "zz") → Q (.tup [.str "library", .tup ps]) M'
theorem zip_name_in : ∀ {H : List Str} {xs : List D} {p : D}, p ∈ List.zipWith mkP H xs → nmP p ∈ H
  | [], _, _, h => by simp at h
  | _ :: _, [], _, h => by simp at h
  | h0 :: H, x :: xs, p, h => by
    rcases List.mem_cons.mp (show p ∈ mkP h0 x :: List.zipWith mkP H xs from h) with rfl | h
    · exact List.mem_cons_self
    · exact List.mem_cons_of_mem _ (zip_name_in h)
theorem GrowH.gs {a l b s : Addr} {M0 M M' : DM} (g : GrowH a l M0 M) (nb : M0 b = none) (ns : M0 s = none) (g' : GS [a, l, b, s] M M') : GrowH a l M0 M' := fun x o e => by
  obtain ⟨h1, h2, h3⟩ := hide_some e
  rw [hide_ne h1 h2]
  have xb : x ≠ b := fun z => by rw [z, nb] at h3; cases h3
  have xs : x ≠ s := fun z => by rw [z, ns] at h3; cases h3
  exact g'.get (by simp [h1, h2, xb, xs]) (g.get h1 h2 h3)
theorem zip_snoc {x : D} : ∀ {H : List Str} {xs : List D} {h : Str}, H[xs.length]? = some h → List.zipWith mkP H (xs ++ [x]) = List.zipWith mkP H xs ++ [mkP h x]
  | [], _, _, e => by simp at e
  | h0 :: H, [], h, e => by
    have : h0 = h := by simpa using e
    subst this
    simp
  | h0 :: H, y :: xs, h, e => by
    have e2 : H[xs.length]? = some h := by simpa using e
    show mkP h0 y :: List.zipWith mkP H (xs ++ [x]) = mkP h0 y :: (List.zipWith mkP H xs ++ [mkP h x])
    rw [zip_snoc e2]
section
variable {ρ : DSt} {M : DM} {E : DEnds} {A B C F te tu : DTE} {Q : DK}
theorem peel_opc {r : DR2} {v : D} (h : B ρ M fun y M2 => r v y M2 Q) : dOp r (dC v) B ρ M Q := h
end
/-- where the drawing of a library stands -/
structure Lib (a l c b h lb s : Addr) (H L Z : List Str) (n : Nat) (M0 M : DM) : Prop where
  g : GrowH a l M0 M
  dr : Drw a l c M
  st : StM b h lb s H L Z n M
section
variable {a l c b h lb s : Addr} {H L Z Z' : List Str} {n n' : Nat} {M0 M M' : DM}
theorem Lib.grow (q : Lib a l c b h lb s H L Z n M0 M) (g : Grow M M') : Lib a l c b h lb s H L Z n M0 M' := ⟨q.g.trans g.h, q.dr.grow g, q.st.grow g⟩
theorem Lib.growH (q : Lib a l c b h lb s H L Z n M0 M) (ap : Apart a l c b h lb s) (g : GrowH a l M M') (d : Drw a l c M') : Lib a l c b h lb s H L Z n M0 M' := ⟨q.g.trans g, d, q.st.growH ap g⟩
end
/-- the drawn bodies so far -/
structure Part (H L Z0 Z : List Str) (n0 n : Nat) (xs : List D) : Prop where
  le : xs.length ≤ H.length
  each : ∀ i x, xs[i]? = some x → Each H L i x ∧ ∃ ac, x = .tup ac ∧ ac.length ≤ 6
  perm : ((xs.flatMap (itemsD 3)).map st1 ++ Z).Perm Z0
  cnt : (xs.flatMap (itemsD 3)).length + n = n0
theorem Part.app {H L Z0 Z Z' : List Str} {n0 n n' : Nat} {xs : List D} {x : D} (p : Part H L Z0 Z n0 n xs) (hl : xs.length < H.length) (b : BodyOk H L xs.length true 3 Z Z' n n' x) (hx : ∃ ac, x = .tup ac ∧ ac.length ≤ 6) : Part H L Z0 Z' n0 n' (xs ++ [x]) := by
  refine ⟨by rw [List.length_append, List.length_singleton]; omega, fun i y hy => ?_, ?_, ?_⟩
  · by_cases hi : i < xs.length
    · rw [List.getElem?_append_left hi] at hy
      exact p.each i y hy
    · have hi2 : i = xs.length := by
        have := (List.getElem?_eq_some_iff.mp hy).1
        rw [List.length_append, List.length_singleton] at this
        omega
      subst hi2
      rw [List.getElem?_append_right (Nat.le_refl _), Nat.sub_self] at hy
      have : x = y := by simpa using hy
      subst this
      exact ⟨⟨b.body, b.calls, b.labs, b.can rfl⟩, hx⟩
  · rw [List.flatMap_append, List.flatMap_cons, List.flatMap_nil, List.append_nil, List.map_append, List.append_assoc]
    exact (List.Perm.append_left _ b.perm).trans p.perm
  · rw [List.flatMap_append, List.flatMap_cons, List.flatMap_nil, List.append_nil, List.length_append]
    have h1 := p.cnt
    have h2 := b.cnt
    omega
theorem Part.plan {H L Z0 Z : List Str} {n0 n : Nat} {xs : List D} (p : Part H L Z0 Z n0 n xs) (e : xs.length = H.length) (nd : Z0.Nodup) (h : n0 ≤ 40) : Plan H L xs := by
  refine ⟨e, fun i x hx => (p.each i x hx).1, ?_, by have := p.cnt; omega⟩
  have := (p.perm.nodup_iff).mpr nd
  exact (List.nodup_append.mp this).1
/-- one more step in main -/
theorem Part.more {H L Z0 Z Z' : List Str} {n0 n : Nat} {ac rest : List D} {z y : Str} (p : Part H L Z0 Z n0 n (.tup ac :: rest)) (e : (.tup ac :: rest : List D).length = H.length) (nd : Z0.Nodup) (h : n0 ≤ 39) (hac : ac.length ≤ 6) (hp : (z :: Z').Perm Z) (hz : nameS z = true) (hL : L.all nameS = true) (hy : y ∈ L) :
    Plan H L (.tup (ac ++ [.tup [.str "do", .str z, .str y, .tup []]]) :: rest) := by
  have i : ItemOk H L 0 true 2 Z Z' 1 0 (.tup [.str "do", .str z, .str y, .tup []]) [] := ItemOk.stp (H := H) (L := L) (k := 0) (safe := true) (m := 2) (Z := Z) (Z1 := Z') (n := 1) (n1 := 0) (as := []) hz hL hy (Nat.zero_le _) (fun x h => nomatch h) hp rfl
  have b0 := (p.each 0 _ rfl).1
  have eI := items_app (m := 2) (xs := ac) i.bods
  have eF : ((D.tup (ac ++ [.tup [.str "do", .str z, .str y, .tup []]]) :: rest).flatMap (itemsD 3)).Perm (.tup [.str "do", .str z, .str y, .tup []] :: ((D.tup ac :: rest).flatMap (itemsD 3))) := by
    rw [List.flatMap_cons, List.flatMap_cons]
    have e2 : itemsD 3 (.tup (ac ++ [.tup [.str "do", .str z, .str y, .tup []]])) = itemsD 3 (.tup ac) ++ [.tup [.str "do", .str z, .str y, .tup []]] := eI
    rw [e2, List.append_assoc]
    exact List.perm_middle
  refine ⟨e, fun j x hx => ?_, ?_, ?_⟩
  · cases j with
    | zero =>
      have : D.tup (ac ++ [.tup [.str "do", .str z, .str y, .tup []]]) = x := by simpa using hx
      subst this
      refine ⟨?_, ?_, ?_, ?_⟩
      · have hb := b0.body
        rw [isBody_eq, Bool.and_eq_true] at hb ⊢
        refine ⟨decide_eq_true (by rw [List.length_append, List.length_singleton]; omega), ?_⟩
        rw [List.all_append, hb.2, List.all_cons, i.item, i.bods, Option.getD_some, i.all]
        rfl
      · intro it hit
        rw [show itemsD 3 _ = _ from eI] at hit
        rcases List.mem_append.mp hit with hit | hit
        · exact b0.calls it hit
        · exact i.calls it hit
      · intro it hit
        rw [show itemsD 3 _ = _ from eI] at hit
        rcases List.mem_append.mp hit with hit | hit
        · exact b0.labs it hit
        · exact i.labs it hit
      · show (ac ++ [_]).all _ = true
        rw [List.all_append, show ac.all _ = true from b0.can]
        rfl
    | succ j => exact (p.each (j + 1) x (by simpa using hx)).1
  · refine (eF.map st1).nodup_iff.mpr ?_
    rw [List.map_cons]
    have n1 := (p.perm.nodup_iff).mpr nd
    have z1 := List.nodup_append.mp n1
    rw [List.nodup_cons]
    refine ⟨fun hm => ?_, z1.1⟩
    exact z1.2.2 _ hm _ (hp.mem_iff.mp List.mem_cons_self) rfl
  · rw [eF.length_eq, List.length_cons]
    have := p.cnt
    omega
end DL

/-! D8: a library is drawn: the walk. -/
namespace DL
open PySem PySem.Spec PyProof.Rows L2
section
variable {ρ : DSt} {M : DM} {E : DEnds} {A B C te el LAB POP EM SH : DTE} {Q : DK} {tt : DTT}
theorem peel_lcR {i n : Nat} {vs : List Nat} (h : Gv te ρ M (.int n)) (hn : n < 2 ^ 62) (q : ∀ M1, Grow M M1 → dComp always tt el (dwipe ρ vs) i (fun acc M2 => ∀ p, M2 p = none → Q (.ob p) (mset M2 p (.ls acc))) (rgD 0 n) [] M1) : dLc (dwR1 (dCons te dNil)) i tt el vs ρ M Q := h M (Grow.refl M) _ fun M1 g1 => ⟨by omega, by omega, q M1 g1⟩
theorem peel_big {g : DTG} (h : A ρ M fun x M1 => C ρ M1 fun c M2 => POP ρ M2 fun z M3 => LAB ρ M3 fun y M4 => EM ρ M4 fun e M5 => 4 ≤ sizeLine ∧ (1 ≤ sizeLine ∧ dAdd c (.tup [.tup [.str "do", z, y, e]]) M5 fun c2 M6 => (1 ≤ sizeLine ∧ dAdd x (.tup [c2]) M6 fun v M7 => g v ρ M7 E.nx))) :
    dAsg (dOp dAdd A (dTup (dCons (dOp dAdd C (dTup (dCons (dTup (dCons (dC (.str "do")) (dCons POP (dCons LAB (dCons EM dNil))))) dNil))) dNil))) g E ρ M := h
theorem peel_last (h : A ρ M fun x M1 => SH ρ M1 fun y M2 => dAdd x y M2 fun w M3 => dTupOf [w] M3 fun t M4 => 2 ≤ sizeLine ∧ E.rt (.tup [.str "library", t]) M4) : dRet (dTup (dCons (dC (.str "library")) (dCons (dCB dTupOf (dCons (dOp dAdd A SH) dNil)) dNil))) E ρ M := h
theorem peel_eqT (h : A ρ M fun x M1 => B ρ M1 fun y M2 => dEq false x y M2 fun d M3 => match d with
    | .bl b => if b = true then te ρ M3 Q else el ρ M3 Q
    | _ => False) : (dT (dOp (dEq false) A B)) ρ M (fun b M1 => if b = true then te ρ M1 Q else el ρ M1 Q) := h
theorem peel_ifEq {t u : DTS} (h : A ρ M fun x M1 => B ρ M1 fun y M2 => dEq false x y M2 fun d M3 => match d with
    | .bl b => if b = true then t E ρ M3 else u E ρ M3
    | _ => False) : dIfS (dT (dOp (dEq false) A B)) t u E ρ M := h
theorem peel_callA {sp : DSp} {t : DTA} (h : A ρ M fun x M1 => t ρ M1 fun xs M2 => sp (x :: xs) M2 Q) : dCall sp (dCons A t) ρ M Q := h
theorem peel_consA {t : DTA} {QL : List D → DM → Prop} (h : te ρ M fun x M1 => t ρ M1 fun xs M2 => QL (x :: xs) M2) : dCons te t ρ M QL := h
theorem fin_lib {a l c p : Addr} {x : D} {rest : List D} (r0 : ρ[0]? = some (some (.ob a))) (r6 : ρ[6]? = some (some (.ob p))) (dr : Drw a l c M) (n1 : p ≠ a) (n2 : p ≠ l) (ep : M p = some (.ls (x :: rest))) (hl : rest.length ≤ 100)
    (q : ∀ M' qs, GrowH a l M M' → Drw a l c M' → qs.Perm rest → E.rt (.tup [.str "library", .tup (x :: qs)]) M') : dRet (dTup (dCons (dC (.str "library")) (dCons (dCB dTupOf (dCons (dOp dAdd (dSl (dVar 6) dNoPart (dPart (dC (.int 1)))) (dCall spShuf (dCons (dVar 0) (dCons (dSl (dVar 6) (dPart (dC (.int 1))) dNoPart) dNil)))) dNil)) dNil))) E ρ M := by
  refine peel_last ?_
  refine gl_sl (gv_var r6) ep go_none (go_some gv_c) M (Grow.refl M) _ fun M1 p1 g1 np1 e1 => ?_
  rw [show dcut (x :: rest) none (some 1) = [x] by
    have := dcut_to (ds := x :: rest) (n := 1)
    exact this] at e1
  refine peel_callA (gv_var r0 M1 (Grow.refl M1) _ fun M2 g2 => peel_consA ?_)
  refine gl_sl (gv_var r6) (g2 _ _ (g1 _ _ ep)) (go_some gv_c) go_none M2 (Grow.refl M2) _ fun M3 p3 g3 np3 e3 => ?_
  rw [show dcut (x :: rest) (some 1) none = rest by
    have := dcut_from (ds := x :: rest) (n := 1)
    exact this] at e3
  have dr3 := (((dr.grow g1).grow g2).grow g3)
  have nn3 := ((dr.grow g1).grow g2).new np3
  have nn1 := dr.new np1
  dsimp only [dNil]
  refine ⟨a, l, c, p3, rest, rfl, dr3, e3, nn3.1, nn3.2.1, by omega, fun M4 p4 ys g4 dr4 np4 n41 n42 e4 perm => ?_⟩
  have e14 : M4 p1 = some (.ls [x]) := g4.get nn1.1 nn1.2.1 (g3 _ _ (g2 _ _ e1))
  unfold dAdd
  dsimp only
  rw [e14, e4]
  dsimp only
  refine ⟨by rw [perm.length_eq, sizeLine_eq, List.length_singleton]; omega, fun p5 np5 => ?_⟩
  unfold dTupOf
  dsimp only
  rw [msq_ls mset_same]
  exact ⟨by rw [sizeLine_eq]; omega, q _ ys (((g1.trans (g2.trans g3)).h.trans g4).trans (Grow.new np5).h) (dr4.grow (Grow.new np5)) perm⟩
end
theorem noZZ : ("zz" : Str) ∉ WH := by decide +kernel
theorem Part.sites {H L Z0 Z : List Str} {n0 n : Nat} {xs : List D} (p : Part H L Z0 Z n0 n xs) : ∀ z ∈ Z, z ∈ Z0 := fun z hz => p.perm.mem_iff.mp (List.mem_append_right _ hz)
theorem Part.nZ {H L Z0 Z : List Str} {n0 n : Nat} {xs : List D} (p : Part H L Z0 Z n0 n xs) (h : n0 ≤ Z0.length) : n ≤ Z.length := by
  have h1 := p.cnt
  have h2 := p.perm.length_eq
  rw [List.length_append, List.length_map] at h2
  omega
section
variable {P : Program} {w : World} {K : PySem.W.Frag} {mg : Str → Option Value} {base : Heap}
theorem ok__law_library (T : Tx K mg w) : FnOk P w K mg base CX0 10 T.f__law_library.f T.f__law_library.fd ["draw", "most"] (LSp K spLibrary) := by
  have G3 := ok_drawn (P := P) (base := base) T 3
  refine dfun T.f__law_library.F sc__law_library (fun ds M Q ⟨a, l, c, n, e, _⟩ => by rw [e]; rfl) fun cdv A outer s H E hr => ⟨_, (ds_cons (ds_set (i := 2) sc__law_library.nd (d_add dint (d_fn (fn := T.f__law_take) (ok__law_take T) (hr.mono (by first | decide | omega)) (da_cons (dv 0) (da_cons (dv 1) da_nil))))) (ds_cons (ds_asg (d_tup (da_cons (d_sl (d_fn (fn := T.f__law_shuffled) (ok__law_shuffled T) (hr.mono (by first | decide | omega)) (da_cons (dv 0) (da_cons (d_fn (fn := T.f__law_words) (ok__law_words T) (hr.mono (by first | decide | omega)) (da_cons (d_lst (da_cons dstr (da_cons dstr da_nil))) da_nil)) da_nil))) do_none (do_some (dv 2))) (da_cons (d_sl (d_fn (fn := T.f__law_shuffled) (ok__law_shuffled T) (hr.mono (by first | decide | omega)) (da_cons (dv 0) (da_cons (d_fn (fn := T.f__law_words) (ok__law_words T) (hr.mono (by first | decide | omega)) (da_cons (d_lst (da_cons dstr (da_cons dstr da_nil))) da_nil)) da_nil))) do_none (do_some (d_add dint (d_fn (fn := T.f__law_take) (ok__law_take T) (hr.mono (by first | decide | omega)) (da_cons (dv 0) (da_cons dint da_nil)))))) da_nil))) (dg_tup (n := 2) rfl (dgs_cons (dg_name (i := 3) sc__law_library.nd) (dgs_cons (dg_name (i := 4) sc__law_library.nd) dgs_nil)))) (ds_cons (ds_set (i := 5) sc__law_library.nd (d_disp (dpp_cons dstr (dv 3) (dpp_cons dstr (dv 4) (dpp_cons dstr (d_fn (fn := T.f__law_shuffled) (ok__law_shuffled T) (hr.mono (by first | decide | omega)) (da_cons (dv 0) (da_cons (d_fn (fn := T.f__law_words) (ok__law_words T) (hr.mono (by first | decide | omega)) (da_cons (d_lst (da_cons dstr (da_cons dstr (da_cons dstr da_nil)))) da_nil)) da_nil))) (dpp_cons dstr dint dpp_nil)))))) (ds_cons (ds_asg (d_min2 rfl T.b_min (da_cons dint (da_cons (d_add (d_add dint (d_mulA dint (dv 2))) (d_fn (fn := T.f__law_take) (ok__law_take T) (hr.mono (by first | decide | omega)) (da_cons (dv 0) (da_cons dint da_nil)))) da_nil))) (dg_sub (hu1 hr) (dv 5) dstr)) (ds_cons (ds_setLc (k := 6) rfl sc__law_library.nd (di_rng rfl T.b_range (da_cons (dv 2) da_nil)) (blkOk_by (own := [("k", 7)]) (N := ["draw", "most", "count", "heads", "labels", "state", "procs", "k"]) (sc := defScope s__law_library) (by decide +kernel)) (by decide) (fun _ _ _ _ _ => pg_name (i := 7) sc__law_library.nd rfl (Or.inl rfl)) (fun _ _ _ _ _ => dts_nil) (fun _ _ _ _ _ => (d_tup (da_cons dstr (da_cons (d_ixA (hu1 hr) (dv 3) (dv 7)) (da_cons (d_fn (fn := T.f__law_body) G3 (hr.mono (by first | decide | omega)) (da_cons (dv 0) (da_cons (dv 5) (da_cons (dv 7) (da_cons dint (da_cons (d_add dint (d_fn (fn := T.f__law_take) (ok__law_take T) (hr.mono (by first | decide | omega)) (da_cons (dv 0) (da_cons dint da_nil)))) (da_cons dbl da_nil))))))) da_nil))))) (sw_true rfl rfl rfl (by decide +kernel))) (ds_cons (ds_if (d_eqT (hu0 hr) (d_fn (fn := T.f__law_labels) (ok__law_labels T) (hr.mono (by first | decide | omega)) (da_cons (d_tup (da_cons dstr (da_cons (d_tuple T.b_tuple (da_cons (dv 6) da_nil)) da_nil))) da_nil)) (d_lst da_nil)) (ds_one (ds_asg (d_add (d_sl (d_ixA (hu1 hr) (dv 6) dint) do_none (do_some dint)) (d_tup (da_cons (d_add (d_ixA (hu1 hr) (d_ixA (hu1 hr) (dv 6) dint) dint) (d_tup (da_cons (d_tup (da_cons dstr (da_cons (d_popS (d_ixA (hu1 hr) (dv 5) dstr)) (da_cons (d_ixA (hu1 hr) (dv 4) dint) (da_cons (d_tup da_nil) da_nil))))) da_nil))) da_nil))) (dg_sub (hu1 hr) (dv 6) dint))) ds_nil) (ds_one (ds_ret (d_tup (da_cons dstr (da_cons (d_tuple T.b_tuple (da_cons (d_add (d_sl (dv 6) do_none (do_some dint)) (d_fn (fn := T.f__law_shuffled) (ok__law_shuffled T) (hr.mono (by first | decide | omega)) (da_cons (dv 0) (da_cons (d_sl (dv 6) (do_some dint) do_none) da_nil)))) da_nil)) da_nil))))))))))), ?_⟩
  rintro ds M Q ⟨a, l, c, n, rfl, h1, h8, dr, q⟩
  have szS : ∀ k : Nat, k ≤ 1000 → k ≤ sizeLine := fun k h => by rw [sizeLine_eq]; omega
  refine s_seq (peel_asg (peel_opc (c_take (ρ := [some (.ob a), some (.int n), none, none, none, none, none, none]) (a := a) (n := n) (ga_cons (gv_var rfl) (ga_cons (gv_var rfl) ga_nil)) h1 (by omega) dr fun M1 i g1 dr1 hi => rv_add M1 (Grow.refl _) _ ?_)))
  rw [show (1 : Int) + (i : Int) = ((i + 1 : Nat) : Int) by omega]
  dsimp only
  refine s_seq (peel_two (peel_slTo (c_shufwords (ρ := [some (.ob a), some (.int n), some (.int ((i + 1 : Nat) : Int)), none, none, none, none, none]) (ss := ["p", "q"]) (gv_var rfl) (ga_cons gv_c (ga_cons gv_c ga_nil)) (by decide) (by decide) dr1 fun M2 p2 zs g2 dr2 np2 ep2 hz => ?_)))
  refine (gv_var (v := .int ((i + 1 : Nat) : Int)) rfl) M2 (Grow.refl _) _ fun M3 g3 => slTo_ls (g3 _ _ ep2) fun h nh => ?_
  have dr3 := dr2.grow g3
  have ah := dr3.new nh
  have g03 : GrowH a l M M3 := (g1.trans g2).trans g3.h
  have nhM : M h = none := by
    have := hide_none g03 nh
    rwa [hide_ne ah.1 ah.2.1] at this
  rw [← List.map_take]
  have eh0 : mset M3 h (.ls ((zs.take (i + 1)).map D.str)) h = some (.ls ((zs.take (i + 1)).map D.str)) := mset_same
  have g04 : GrowH a l M (mset M3 h (.ls ((zs.take (i + 1)).map D.str))) := g03.trans (Grow.new nh).h
  have dr4 : Drw a l c (mset M3 h (.ls ((zs.take (i + 1)).map D.str))) := dr3.grow (Grow.new nh)
  generalize mset M3 h (.ls ((zs.take (i + 1)).map D.str)) = M4 at eh0 g04 dr4 ⊢
  refine peel_slTo (c_shufwords (ρ := [some (.ob a), some (.int n), some (.int ((i + 1 : Nat) : Int)), none, none, none, none, none]) (ss := ["", "v"]) (gv_var rfl) (ga_cons gv_c (ga_cons gv_c ga_nil)) (by decide) (by decide) dr4 fun M5 p5 ws g5 dr5 np5 ep5 hw => ?_)
  refine peel_opc (c_take (ρ := [some (.ob a), some (.int n), some (.int ((i + 1 : Nat) : Int)), none, none, none, none, none]) (a := a) (n := 3) (ga_cons (gv_var rfl) (ga_cons gv_c ga_nil)) (by decide) (by decide) dr5 fun M6 j g6 dr6 hj => rv_add M6 (Grow.refl _) _ ?_)
  rw [show (2 : Int) + (j : Int) = ((j + 2 : Nat) : Int) by omega]
  have a5 : p5 ≠ a ∧ p5 ≠ l ∧ p5 ≠ c := dr4.new np5
  have eh5 := g5.get ah.1 ah.2.1 eh0
  have eh6 := g6.get ah.1 ah.2.1 eh5
  have ep6 := g6.get a5.1 a5.2.1 ep5
  refine slTo_ls ep6 fun lb nlb => ⟨szS 2 (by decide), rfl, ?_⟩
  have alb := dr6.new nlb
  have g06 : GrowH a l M M6 := (g04.trans g5).trans g6
  have nlbM : M lb = none := by
    have := hide_none g06 nlb
    rwa [hide_ne alb.1 alb.2.1] at this
  have lbh : lb ≠ h := fun z => by rw [z, eh6] at nlb; cases nlb
  rw [← List.map_take]
  have eh7 : mset M6 lb (.ls ((ws.take (j + 2)).map D.str)) h = some (.ls ((zs.take (i + 1)).map D.str)) := by rw [mset_ne lbh.symm]; exact eh6
  have elb7 : mset M6 lb (.ls ((ws.take (j + 2)).map D.str)) lb = some (.ls ((ws.take (j + 2)).map D.str)) := mset_same
  have g07 : GrowH a l M (mset M6 lb (.ls ((ws.take (j + 2)).map D.str))) := g06.trans (Grow.new nlb).h
  have dr7 : Drw a l c (mset M6 lb (.ls ((ws.take (j + 2)).map D.str))) := dr6.grow (Grow.new nlb)
  generalize mset M6 lb (.ls ((ws.take (j + 2)).map D.str)) = M7 at eh7 elb7 g07 dr7 ⊢
  dsimp only
  -- what is drawn
  obtain ⟨H, eH⟩ : ∃ H, H = zs.take (i + 1) := ⟨_, rfl⟩
  obtain ⟨L, eL⟩ : ∃ L, L = ws.take (j + 2) := ⟨_, rfl⟩
  rw [← eH] at eh7
  rw [← eL] at elb7
  have zl : zs.length = 52 := by rw [hz.length_eq]; exact gWH.2.2
  have wl : ws.length = 52 := by rw [hw.length_eq]; exact gWL.2.2
  have Hl : H.length = i + 1 := by rw [eH, List.length_take, zl]; omega
  have Ll : L.length = j + 2 := by rw [eL, List.length_take, wl]; omega
  have Hnd : H.Nodup := by rw [eH]; exact ((hz.nodup_iff).mpr gWH.1).sublist (List.take_sublist _ _)
  have Hgood : H.all nameS = true := List.all_eq_true.mpr fun x hx => List.all_eq_true.mp gWH.2.1 x (hz.mem_iff.mp (List.mem_of_mem_take (eH ▸ hx)))
  have Lgood : L.all nameS = true := List.all_eq_true.mpr fun x hx => List.all_eq_true.mp gWL.2.1 x (hw.mem_iff.mp (List.mem_of_mem_take (eL ▸ hx)))
  have nzz : ∀ {p : D} {qs rest ys : List D}, qs.Perm rest → List.zipWith mkP H ys = p :: rest → ∀ x ∈ p :: qs, nmP x ≠ "zz" := fun {p qs rest ys} hp e x hx z => by
    have hx2 : x ∈ List.zipWith mkP H ys := by
      rw [e]
      rcases List.mem_cons.mp hx with rfl | hx
      · exact List.mem_cons_self
      · exact List.mem_cons_of_mem _ (hp.mem_iff.mp hx)
    have := hz.mem_iff.mp (List.mem_of_mem_take (eH ▸ zip_name_in hx2))
    rw [z] at this
    exact noZZ this
  have L0 : L ≠ [] := fun z => by rw [z] at Ll; simp at Ll
  refine s_seq (peel_disp4 ?_)
  refine (gv_var (ρ := [some (.ob a), some (.int n), some (.int ((i + 1 : Nat) : Int)), some (.ob h), some (.ob lb), none, none, none]) (i := 3) (v := .ob h) rfl) M7 (Grow.refl _) _ fun M8 g8 => ?_
  refine (gv_var (ρ := [some (.ob a), some (.int n), some (.int ((i + 1 : Nat) : Int)), some (.ob h), some (.ob lb), none, none, none]) (i := 4) (v := .ob lb) rfl) M8 (Grow.refl _) _ fun M9 g9 => ?_
  refine c_shufwords (ρ := [some (.ob a), some (.int n), some (.int ((i + 1 : Nat) : Int)), some (.ob h), some (.ob lb), none, none, none]) (ss := ["s", "u", ""]) (gv_var rfl) (ga_cons gv_c (ga_cons gv_c (ga_cons gv_c ga_nil))) (by decide) (by decide) ((dr7.grow g8).grow g9) fun M10 s Z0 g10 dr10 ns es hZ => ?_
  refine gv_c M10 (Grow.refl _) _ fun M11 g11 => ⟨by decide, fun b nb => ?_⟩
  dsimp only
  have a9 := ((dr7.grow g8).grow g9).new ns
  have eh9 := g9 _ _ (g8 _ _ eh7)
  have el9 := g9 _ _ (g8 _ _ elb7)
  have sh : s ≠ h := fun z => by rw [z, eh9] at ns; cases ns
  have slb : s ≠ lb := fun z => by rw [z, el9] at ns; cases ns
  have eh11 := g11 _ _ (g10.get ah.1 ah.2.1 eh9)
  have el11 := g11 _ _ (g10.get alb.1 alb.2.1 el9)
  have es11 := g11 _ _ es
  have dr11 := dr10.grow g11
  have ab := dr11.new nb
  have bh : b ≠ h := fun z => by rw [z, eh11] at nb; cases nb
  have blb : b ≠ lb := fun z => by rw [z, el11] at nb; cases nb
  have bs : b ≠ s := fun z => by rw [z, es11] at nb; cases nb
  have g09 : GrowH a l M M9 := g07.trans (g8.trans g9).h
  have g011 : GrowH a l M M11 := (g09.trans g10).trans g11.h
  have nsM : M s = none := by
    have := hide_none g09 ns
    rwa [hide_ne a9.1 a9.2.1] at this
  have nbM : M b = none := by
    have := hide_none g011 nb
    rwa [hide_ne ab.1 ab.2.1] at this
  have ap : Apart a l c b h lb s := ⟨by
    have d := dr
    obtain ⟨q1, q2, q3, _⟩ := d
    simp only [List.nodup_cons, List.mem_cons, List.not_mem_nil, or_false, not_or, List.nodup_nil, and_true, not_false_eq_true]
    exact ⟨⟨q1, q2, ab.1.symm, ah.1.symm, alb.1.symm, a9.1.symm⟩, ⟨q3, ab.2.1.symm, ah.2.1.symm, alb.2.1.symm, a9.2.1.symm⟩, ⟨ab.2.2.symm, ah.2.2.symm, alb.2.2.symm, a9.2.2.symm⟩, ⟨bh, blb, bs⟩, ⟨lbh.symm, sh.symm⟩, slb.symm⟩⟩
  have g0b : GrowH a l M (mset M11 b (.dc (mergeD [] [(.inr "heads", .ob h), (.inr "labels", .ob lb), (.inr "sites", .ob s), (.inr "calls", .int 14)]))) := g011.trans (Grow.new nb).h
  have drb : Drw a l c (mset M11 b (.dc (mergeD [] [(.inr "heads", .ob h), (.inr "labels", .ob lb), (.inr "sites", .ob s), (.inr "calls", .int 14)]))) := dr11.grow (Grow.new nb)
  have ebb : mset M11 b (.dc (mergeD [] [(.inr "heads", .ob h), (.inr "labels", .ob lb), (.inr "sites", .ob s), (.inr "calls", .int 14)])) b = some (.dc (mergeD [] [(.inr "heads", .ob h), (.inr "labels", .ob lb), (.inr "sites", .ob s), (.inr "calls", .int 14)])) := mset_same
  have ehb := (Grow.new nb (o := .dc (mergeD [] [(.inr "heads", .ob h), (.inr "labels", .ob lb), (.inr "sites", .ob s), (.inr "calls", .int 14)]))) _ _ eh11
  have elb' := (Grow.new nb (o := .dc (mergeD [] [(.inr "heads", .ob h), (.inr "labels", .ob lb), (.inr "sites", .ob s), (.inr "calls", .int 14)]))) _ _ el11
  have esb := (Grow.new nb (o := .dc (mergeD [] [(.inr "heads", .ob h), (.inr "labels", .ob lb), (.inr "sites", .ob s), (.inr "calls", .int 14)]))) _ _ es11
  generalize mset M11 b (.dc (mergeD [] [(.inr "heads", .ob h), (.inr "labels", .ob lb), (.inr "sites", .ob s), (.inr "calls", .int 14)])) = N11 at g0b drb ebb ehb elb' esb ⊢
  refine s_seq (peel_min (ρ := [some (.ob a), some (.int n), some (.int ((i + 1 : Nat) : Int)), some (.ob h), some (.ob lb), some (.ob b), none, none]) ?_)
  refine (gv_op (ρ := [some (.ob a), some (.int n), some (.int ((i + 1 : Nat) : Int)), some (.ob h), some (.ob lb), some (.ob b), none, none]) (M := N11) gv_c (gv_op gv_c (gv_var rfl) (rv_mul (.inl (by decide)))) rv_add) N11 (Grow.refl _) _ fun M12 g12 => ?_
  refine c_take (ρ := [some (.ob a), some (.int n), some (.int ((i + 1 : Nat) : Int)), some (.ob h), some (.ob lb), some (.ob b), none, none]) (a := a) (n := 14) (ga_cons (gv_var rfl) (ga_cons gv_c ga_nil)) (by decide) (by decide) (drb.grow g12) fun M13 t g13 dr13 ht => rv_add M13 (Grow.refl _) _ (rc_min M13 (Grow.refl _) _ fun M14 g14 => ?_)
  obtain ⟨n0, e0, n39⟩ : ∃ n0 : Nat, (if (6 : Int) + 4 * ((i + 1 : Nat) : Int) + (t : Int) < 39 then (6 : Int) + 4 * ((i + 1 : Nat) : Int) + (t : Int) else 39) = (n0 : Int) ∧ n0 ≤ 39 := by
    by_cases z : (6 : Int) + 4 * ((i + 1 : Nat) : Int) + (t : Int) < 39
    · exact ⟨6 + 4 * (i + 1) + t, by rw [if_pos z]; omega, by omega⟩
    · exact ⟨39, by rw [if_neg z]; rfl, by decide⟩
  rw [e0]
  have gt : ∀ {x : Addr} {o : MO}, x ≠ a → x ≠ l → N11 x = some o → M14 x = some o := fun h1 h2 e => g14 _ _ (g13.get h1 h2 (g12 _ _ e))
  refine g_put (ρ := [some (.ob a), some (.int n), some (.int ((i + 1 : Nat) : Int)), some (.ob h), some (.ob lb), some (.ob b), none, none]) (a := b) (s := "left") (gv_var rfl) gv_c (gt ab.1 ab.2.1 ebb) (by have := merge_len4 (x := ((.inr "heads" : Key), D.ob h)) (y := ((.inr "labels" : Key), D.ob lb)) (z := ((.inr "sites" : Key), D.ob s)) (u := ((.inr "calls" : Key), D.int 14)); rw [sizeLine_eq]; omega) fun M15 g15 => ?_
  rw [st_new]
  have lib : Lib a l c b h lb s H L Z0 n0 M (mset M15 b (.dc (stD h lb s 14 n0))) := by
    refine ⟨GrowH.put (a := a) (l := l) ((((g0b.trans g12.h).trans g13).trans (g14.trans g15).h)) (by rw [hide_ne ab.1 ab.2.1]; exact nbM), ((dr13.grow g14).grow g15).putOther ab.1 ab.2.1 ab.2.2, 14, mset_same, ?_, ?_, ?_⟩
    · rw [mset_ne bh.symm]
      exact g15 _ _ (gt ah.1 ah.2.1 ehb)
    · rw [mset_ne blb.symm]
      exact g15 _ _ (gt alb.1 alb.2.1 elb')
    · rw [mset_ne bs.symm]
      exact g15 _ _ (gt a9.1 a9.2.1 esb)
  generalize mset M15 b (.dc (stD h lb s 14 n0)) = N15 at lib ⊢
  have Zl : Z0.length = 78 := by rw [hZ.length_eq]; exact gWS.2.2
  have Znd : Z0.Nodup := (hZ.nodup_iff).mpr gWS.1
  have Zgood : Z0.all nameS = true := List.all_eq_true.mpr fun x hx => List.all_eq_true.mp gWS.2.1 x (hZ.mem_iff.mp hx)
  dsimp only
  refine s_seq (peel_asg (peel_lcR (ρ := [some (.ob a), some (.int n), some (.int ((i + 1 : Nat) : Int)), some (.ob h), some (.ob lb), some (.ob b), none, none]) (n := i + 1) (gv_var rfl) (by omega) fun M16 g16 => ?_))
  refine compI (fun r acc N => ∃ (xs : List D) (Z : List Str) (m : Nat), Lib a l c b h lb s H L Z m M N ∧ Part H L Z0 Z n0 m xs ∧ acc = List.zipWith mkP H xs ∧ r = (rgD 0 (i + 1)).drop xs.length) (fun acc N ⟨xs, Z, m, lb1, pt, ea, er⟩ => ?_) (fun d r acc N ⟨xs, Z, m, lb1, pt, ea, er⟩ KK hK => ?_) _ _ _ ⟨[], Z0, n0, lib.grow g16, ⟨Nat.zero_le _, fun i x h => by simp at h, by simp, by simp⟩, by simp, rfl⟩
  · intro p np
    dsimp only
    have xl : xs.length = H.length := by
      by_cases z : xs.length < i + 1
      · rw [List.drop_eq_getElem_cons (l := rgD 0 (i + 1)) (i := xs.length) (by rw [rgD_length]; exact z)] at er
        cases er
      · have := pt.le
        omega
    have plan : Plan H L xs := pt.plan xl Znd (by omega)
    obtain ⟨h0, H', eHH⟩ : ∃ h0 H', H = h0 :: H' := by
      cases H with
      | nil => simp at Hl
      | cons x r => exact ⟨x, r, rfl⟩
    obtain ⟨x0, xr, exs⟩ : ∃ x0 xr, xs = x0 :: xr := by
      cases xs with
      | nil => rw [← xl] at Hl; simp at Hl
      | cons x r => exact ⟨x, r, rfl⟩
    have eacc : acc = mkP h0 x0 :: List.zipWith mkP H' xr := by rw [ea, eHH, exs]; rfl
    obtain ⟨isl, labsIn⟩ := plan_lib (xs := xs) plan Hnd Hgood (by omega) (by omega) (ea ▸ eacc) (List.Perm.refl _)
    rw [← eacc] at isl labsIn
    have accl : acc.length = i + 1 := by rw [ea, List.length_zipWith]; omega
    have allP : acc.all isProc = true := by
      have z := isl
      unfold isLib at z
      simp only [Bool.and_eq_true] at z
      exact z.2.2.2.1
    have okA : ∀ M', OkL M' acc := fun M' => okL_mem.mpr fun d hd => by
      obtain ⟨x, bd, rfl, hn, hb⟩ := proc_shape (List.all_eq_true.mp allP d hd)
      refine ok_tup.2 fun e he => ?_
      simp only [List.mem_cons, List.not_mem_nil, or_false] at he
      rcases he with rfl | rfl | rfl
      · exact ok_k
      · exact ok_str (name_len hn)
      · exact body_ok M' 3 _ hb
    have ap1 := lb1.dr.new np
    have pb : p ≠ b := fun z => by
      obtain ⟨q0, e1, _⟩ := lb1.st
      rw [z, e1] at np
      cases np
    have plb : p ≠ lb := fun z => by
      obtain ⟨q0, _, _, e1, _⟩ := lb1.st
      rw [z, e1] at np
      cases np
    have ps : p ≠ s := fun z => by
      obtain ⟨q0, _, _, _, e1⟩ := lb1.st
      rw [z, e1] at np
      cases np
    have npM : M p = none := by
      have := hide_none lb1.g np
      rwa [hide_ne ap1.1 ap1.2.1] at this
    have lb2 := lb1.grow (Grow.new np (o := .ls acc))
    have ep2 : mset N p (.ls acc) p = some (.ls acc) := mset_same
    generalize mset N p (.ls acc) = N2 at lb2 ep2 ⊢
    refine s_seq (peel_ifEq ?_)
    refine (ga_cons (gv_tup (vs := [.str "library", .tup acc]) (ga_cons gv_c (ga_cons (gv_cb (ga_cons (gv_var (v := .ob p) rfl) ga_nil) (rc_tupL ep2)) ga_nil)) (szS 2 (by decide))) ga_nil : Ga (dCons (dTup (dCons (dC (.str "library")) (dCons (dCB dTupOf (dCons (dVar 6) dNil)) dNil))) dNil) [some (.ob a), some (.int n), some (.int ((i + 1 : Nat) : Int)), some (.ob h), some (.ob lb), some (.ob b), some (.ob p), none] N2 [.tup [.str "library", .tup acc]]) N2 (Grow.refl _) _ fun N3 g3 => ?_
    have lb3 := lb2.grow g3
    refine ⟨.str "library", acc, L, rfl, allP, by omega, okA N3, by omega, labsIn, fun N4 p2 ys g4 np2 ep4 hy _ => ?_⟩
    refine c_eqNil (zs := ys.map D.str) ep4 fun N5 g5 => ?_
    have lb5 := (lb3.grow g4).grow g5
    have ep5 := g5 _ _ (g4 _ _ (g3 _ _ ep2))
    clear lb2 lb3 ep2 lb1
    dsimp only
    by_cases eys : (ys.map D.str).isEmpty = true
    · rw [if_pos eys]
      obtain ⟨q0, e1, e2, e3, e4⟩ := id lb5.st
      have accI : acc[0]? = some (mkP h0 x0) := by rw [eacc]; rfl
      obtain ⟨ac, eac, lac⟩ := (pt.each 0 x0 (by rw [exs]; rfl)).2
      subst eac
      have Zlen : 39 ≤ Z.length := by
        have h1 := pt.cnt
        have h2 := pt.perm.length_eq
        rw [List.length_append, List.length_map] at h2
        omega
      obtain ⟨site, hlast⟩ : ∃ site, Z.getLast? = some site := by
        cases Z with
        | nil => simp at Zlen
        | cons x r => exact ⟨_, List.getLast?_eq_some_getLast (by simp)⟩
      have hsite : nameS site = true := List.all_eq_true.mp Zgood site (pt.sites site (List.mem_of_getLast? hlast))
      obtain ⟨y0, L', eLL⟩ : ∃ y0 L', L = y0 :: L' := by
        cases L with
        | nil => exact (L0 rfl).elim
        | cons x r => exact ⟨x, r, rfl⟩
      have plan2 := Part.more (z := site) (y := y0) (Z' := Z.dropLast) (exs ▸ pt) (exs ▸ xl) Znd n39 lac (last_perm hlast) hsite Lgood (by rw [eLL]; exact List.mem_cons_self)
      refine peel_big ?_
      refine (gv_sl (gv_op (gv_var (v := .ob p) rfl) gv_c (rv_ixL ep5 (atI_nat (n := 0) accI))) go_none (go_some gv_c) : Gv (dSl (dOp dIx (dVar 6) (dC (.int 0))) dNoPart (dPart (dC (.int 2)))) [some (.ob a), some (.int n), some (.int ((i + 1 : Nat) : Int)), some (.ob h), some (.ob lb), some (.ob b), some (.ob p), none] N5 (.tup (dcut [.str "proc", .str h0, .tup ac] none (some (2 : Nat))))) N5 (Grow.refl _) _ fun N6 g6 => ?_
      rw [dcut_to]
      refine (gv_op (gv_op (gv_var (v := .ob p) rfl) gv_c (rv_ixL (g6 _ _ ep5) (atI_nat (n := 0) accI))) gv_c (rv_ixT (atI_nat (n := 2) rfl)) : Gv (dOp dIx (dOp dIx (dVar 6) (dC (.int 0))) (dC (.int 2))) [some (.ob a), some (.int n), some (.int ((i + 1 : Nat) : Int)), some (.ob h), some (.ob lb), some (.ob b), some (.ob p), none] N6 (.tup ac)) N6 (Grow.refl _) _ fun N7 g7 => ?_
      have g57 := g6.trans g7
      refine c_popLast (ρ := [some (.ob a), some (.int n), some (.int ((i + 1 : Nat) : Int)), some (.ob h), some (.ob lb), some (.ob b), some (.ob p), none]) (l := s) (d := .str site) (gv_op (gv_var rfl) gv_c (rv_ixD rfl (g57 _ _ e1) st_sites)) (g57 _ _ e4) (by rw [List.getLast?_map, hlast]; rfl) fun N8 g8 => ?_
      have g58 := g57.trans g8
      have nds := ap.nd
      simp only [List.nodup_cons, List.mem_cons, List.not_mem_nil, or_false, not_or] at nds
      obtain ⟨⟨_, _, _, _, nlba, nsa⟩, ⟨_, _, _, nlbl, nsl⟩, ⟨_, _, _, nsc⟩, _, _, nlbs, _⟩ := nds
      have g8' : GrowH a l M (mset N8 s (.ls (Z.map D.str).dropLast)) := GrowH.put (lb5.g.trans g58.h) (by rw [hide_ne (Ne.symm nsa) (Ne.symm nsl)]; exact nsM)
      have dr8' : Drw a l c (mset N8 s (.ls (Z.map D.str).dropLast)) := (lb5.dr.grow g58).putOther (Ne.symm nsa) (Ne.symm nsl) (Ne.symm nsc)
      have ep8 : mset N8 s (.ls (Z.map D.str).dropLast) p = some (.ls acc) := by rw [mset_ne ps]; exact g58 _ _ ep5
      have el8 : mset N8 s (.ls (Z.map D.str).dropLast) lb = some (.ls (L.map D.str)) := by rw [mset_ne nlbs]; exact g58 _ _ e3
      generalize mset N8 s (.ls (Z.map D.str).dropLast) = N9 at g8' dr8' ep8 el8 ⊢
      refine (gv_op (gv_var (v := .ob lb) rfl) gv_c (rv_ixL el8 (atI_nat (n := 0) (by rw [eLL]; rfl))) : Gv (dOp dIx (dVar 4) (dC (.int 0))) [some (.ob a), some (.int n), some (.int ((i + 1 : Nat) : Int)), some (.ob h), some (.ob lb), some (.ob b), some (.ob p), none] N9 (.str y0)) N9 (Grow.refl _) _ fun N10 g10 => ?_
      refine gv_tup ga_nil (Nat.zero_le _) N10 (Grow.refl _) _ fun N11 g11 => ?_
      refine ⟨szS 4 (by decide), szS 1 (by decide), rv_catT (by rw [sizeLine_eq, List.length_singleton]; omega) N11 (Grow.refl _) _ ⟨szS 1 (by decide), rv_catT (by show 2 + 1 ≤ _; rw [sizeLine_eq]; omega) N11 (Grow.refl _) _ ?_⟩⟩
      unfold dgSub
      have ep11 := g11 _ _ (g10 _ _ ep8)
      refine (gv_var (v := .ob p) rfl : Gv (dVar 6) [some (.ob a), some (.int n), some (.int ((i + 1 : Nat) : Int)), some (.ob h), some (.ob lb), some (.ob b), some (.ob p), none] N11 (.ob p)) N11 (Grow.refl _) _ fun N12 g12 => ?_
      refine gv_c N12 (Grow.refl _) _ fun N13 g13 => ?_
      unfold dSetIt
      dsimp only
      rw [g13 _ _ (g12 _ _ ep11)]
      dsimp only
      rw [show ixN acc.length 0 = some 0 by
        unfold ixN
        rw [if_pos (by decide), if_pos (by omega)]
        rfl]
      dsimp only
      have g13' := (g10.trans g11).trans (g12.trans g13)
      have gF : GrowH a l M (mset N13 p (.ls (acc.set 0 (.tup (([.str "proc", .str h0, .tup ac] : List D).take 2 ++ [.tup (ac ++ [.tup [.str "do", .str site, .str y0, .tup []]])]))))) := GrowH.put (g8'.trans g13'.h) (by rw [hide_ne ap1.1 ap1.2.1]; exact npM)
      have drF := (dr8'.grow g13').putOther (p := p) (o := .ls (acc.set 0 (.tup (([.str "proc", .str h0, .tup ac] : List D).take 2 ++ [.tup (ac ++ [.tup [.str "do", .str site, .str y0, .tup []]])])))) ap1.1 ap1.2.1 ap1.2.2
      have epF : mset N13 p (.ls (acc.set 0 (.tup (([.str "proc", .str h0, .tup ac] : List D).take 2 ++ [.tup (ac ++ [.tup [.str "do", .str site, .str y0, .tup []]])])))) p = some (.ls (mkP h0 (.tup (ac ++ [.tup [.str "do", .str site, .str y0, .tup []]])) :: List.zipWith mkP H' xr)) := by
        rw [mset_same, eacc]
        rfl
      have ez : List.zipWith mkP H (.tup (ac ++ [.tup [.str "do", .str site, .str y0, .tup []]]) :: xr) = mkP h0 (.tup (ac ++ [.tup [.str "do", .str site, .str y0, .tup []]])) :: List.zipWith mkP H' xr := by rw [eHH]; rfl
      refine fin_lib (ρ := [some (.ob a), some (.int n), some (.int ((i + 1 : Nat) : Int)), some (.ob h), some (.ob lb), some (.ob b), some (.ob p), none]) (a := a) (l := l) (c := c) (p := p) (x := mkP h0 (.tup (ac ++ [.tup [.str "do", .str site, .str y0, .tup []]]))) (rest := List.zipWith mkP H' xr) rfl rfl drF ap1.1 ap1.2.1 epF (by have := congrArg List.length eacc; rw [List.length_cons] at this; omega) fun M' qs g dr' hp => ?_
      obtain ⟨r1, r2⟩ := plan_lib plan2 Hnd Hgood (by omega) (by omega) ez hp
      exact q M' _ L (gF.trans g) dr' r1 (by omega) Lgood r2 (nzz hp ez)
    · rw [if_neg eys]
      refine fin_lib (ρ := [some (.ob a), some (.int n), some (.int ((i + 1 : Nat) : Int)), some (.ob h), some (.ob lb), some (.ob b), some (.ob p), none]) (a := a) (l := l) (c := c) (p := p) (x := mkP h0 x0) (rest := List.zipWith mkP H' xr) rfl rfl lb5.dr ap1.1 ap1.2.1 (by rw [← eacc]; exact ep5) (by have := congrArg List.length eacc; rw [List.length_cons] at this; omega) fun M' qs g dr' hp => ?_
      obtain ⟨r1, r2⟩ := plan_lib (xs := xs) plan Hnd Hgood (by omega) (by omega) (ea ▸ eacc) hp
      exact q M' _ L (lb5.g.trans g) dr' r1 (by omega) Lgood r2 (nzz hp (ea ▸ eacc))
  · have hk : xs.length < i + 1 := by
      by_cases z : xs.length < i + 1
      · exact z
      · rw [List.drop_eq_nil_of_le (by rw [rgD_length]; omega)] at er
        cases er
    rw [List.drop_eq_getElem_cons (l := rgD 0 (i + 1)) (i := xs.length) (by rw [rgD_length]; exact hk)] at er
    obtain ⟨ed, er3⟩ := List.cons.inj er
    have ed2 : d = .int ((xs.length : Nat) : Int) := by
      have := rgD_get (lo := 0) hk
      rw [List.getElem?_eq_getElem (by rw [rgD_length]; exact hk)] at this
      rw [ed, Option.some.inj this, Int.zero_add]
    subst ed2
    obtain ⟨hd, hHd⟩ : ∃ hd, H[xs.length]? = some hd := ⟨_, List.getElem?_eq_getElem (by omega)⟩
    unfold dYes
    dsimp only
    rw [if_pos rfl]
    obtain ⟨q0, e1, e2, e3, e4⟩ := id lb1.st
    show (dTup (dCons _ (dCons _ (dCons _ dNil)))) [some (.ob a), some (.int n), some (.int ((i + 1 : Nat) : Int)), some (.ob h), some (.ob lb), some (.ob b), none, some (.int ((xs.length : Nat) : Int))] N _
    refine peel_tup3 (ρ := [some (.ob a), some (.int n), some (.int ((i + 1 : Nat) : Int)), some (.ob h), some (.ob lb), some (.ob b), none, some (.int ((xs.length : Nat) : Int))]) gv_c (gv_op (gv_var rfl) (gv_var rfl) (rv_ixL e2 (atI_nat (v := .str hd) (by rw [List.getElem?_map, hHd]; rfl)))) fun N1 g1 => ?_
    have lb2 := lb1.grow g1
    refine c_call6 (ρ := [some (.ob a), some (.int n), some (.int ((i + 1 : Nat) : Int)), some (.ob h), some (.ob lb), some (.ob b), none, some (.int ((xs.length : Nat) : Int))]) (gv_var rfl) (gv_var rfl) (gv_var rfl) gv_c fun N2 g2 => ?_
    refine peel_opc (c_take (ρ := [some (.ob a), some (.int n), some (.int ((i + 1 : Nat) : Int)), some (.ob h), some (.ob lb), some (.ob b), none, some (.int ((xs.length : Nat) : Int))]) (a := a) (n := 5) (ga_cons (gv_var rfl) (ga_cons gv_c ga_nil)) (by decide) (by decide) (lb2.grow g2).dr fun N3 t2 g3 dr3' ht2 => rv_add N3 (Grow.refl _) _ ?_)
    have lb3 := (lb2.grow g2).growH ap g3 dr3'
    refine gv_c N3 (Grow.refl _) _ fun N4 g4 => ?_
    have lb4 := lb3.grow g4
    rw [show (2 : Int) + (t2 : Int) = ((t2 + 2 : Nat) : Int) by omega]
    have hZs : Z.all nameS = true := List.all_eq_true.mpr fun x hx => List.all_eq_true.mp Zgood x (pt.sites x hx)
    have hnZ := pt.nZ (by omega)
    refine ⟨a, l, c, b, h, lb, s, H, L, Z, m, xs.length, 1, t2 + 2, true, rfl, rfl, by omega, (fun h => by cases h), ap, lb4.dr, lb4.st, Hgood, by omega, Lgood, L0, by omega, hZs, hnZ, fun M' x Z' n' gs dr' st' bok hx => ?_⟩
    refine ⟨by rw [sizeLine_eq]; omega, ?_, True.intro, ?_⟩
    · rw [ea, List.length_zipWith, sizeLine_eq]
      omega
    · refine hK _ M' ⟨xs ++ [x], Z', n', ⟨lb4.g.gs nbM nsM gs, dr', st'⟩, pt.app (by omega) bok ?_, ?_, ?_⟩
      · obtain ⟨ac, eac, lac⟩ := hx
        exact ⟨ac, eac, by omega⟩
      · rw [ea, zip_snoc hHd]
        rfl
      · rw [List.length_append, List.length_singleton]
        exact er3
end
end DL

/-! P3: wrong libraries are none, in plain words. -/
namespace DL
open PySem PySem.Spec PyProof.Rows L2
structure LibOk (ps : List D) : Prop where
  l8 : ps.length ≤ 8
  ne : ps ≠ []
  pr : ps.all isProc = true
  names : (ps.map nmP).Nodup
  cnt : (allIt ps).length ≤ 40
  sites : ((allIt ps).map st1).Nodup
  calls : ∀ it ∈ allIt ps, isCall it = true → st2 it ∈ ps.map nmP ∧ st2 it ≠ nm0 ps
  rounds : (roundsP ps ps.length).length = ps.length
theorem lib_ok {ps : List D} (h : isLib (.tup [.str "library", .tup ps]) = true) : LibOk ps := by
  unfold isLib callsRight at h
  simp only [Bool.and_eq_true, decide_eq_true_eq, List.all_eq_true, Bool.not_eq_true', decide_eq_false_iff_not] at h
  obtain ⟨_, h8, h0, hp, ⟨hn, hc, hs, hk⟩, hr⟩ := h
  refine ⟨by omega, fun z => by rw [z] at h0; simp at h0, List.all_eq_true.mpr hp, ?_, hc, ?_, fun it hit hcl => hk it (List.mem_filter.mpr ⟨hit, hcl⟩), hr⟩
  · exact (seen_nodup _).mp (by rw [hn, List.length_map])
  · exact (seen_nodup _).mp (by rw [hs, List.length_map])
theorem not_lib {ps : List D} (h : LibOk ps → False) : isLib (.tup [.str "library", .tup ps]) = false := by
  cases e : isLib (.tup [.str "library", .tup ps]) with
  | false => rfl
  | true => exact (h (lib_ok e)).elim
section
variable {ps pi bds : List D} {nm : Str} {p0 x : D} {rest : List D}
theorem wrong_twice (e : ps = p0 :: rest) : isLib (.tup [.str "library", .tup (ps ++ ps.take 1)]) = false := not_lib fun k => by
  have n := k.names
  rw [e, List.map_append] at n
  have := (List.nodup_append.mp n).2.2 (nmP p0) (by simp) (nmP p0) (by simp)
  exact this rfl
theorem wrong_proc (h : isProc x = false) : isLib (.tup [.str "library", .tup (pi ++ [x])]) = false := not_lib fun k => by
  have n := List.all_eq_true.mp k.pr x (by simp)
  rw [h] at n
  cases n
theorem wrong_item {more : List D} {it : D} (hm : it ∈ more) (h : isItem it = false) : isProc (mkP nm (.tup (bds ++ more))) = false := by
  cases e : isProc (mkP nm (.tup (bds ++ more))) with
  | false => rfl
  | true =>
    have e2 : (decide (("proc" : Str) = "proc") && isName (.str nm) && isBody 3 (.tup (bds ++ more))) = true := e
    rw [Bool.and_eq_true, isBody_eq] at e2
    have e3 := e2.2
    rw [Bool.and_eq_true] at e3
    have := List.all_eq_true.mp e3.2 it (List.mem_append_right _ hm)
    rw [h] at this
    cases this
theorem allIt_last {more : List D} (hb : ∀ it ∈ more, (bodiesD it).getD [] = []) : allIt (pi ++ [mkP nm (.tup (bds ++ more))]) = allIt (pi ++ [mkP nm (.tup bds)]) ++ more := by
  unfold allIt
  rw [List.flatMap_append, List.flatMap_append, List.flatMap_cons, List.flatMap_nil, List.append_nil, List.flatMap_cons, List.flatMap_nil, List.append_nil, List.append_assoc]
  congr 1
  show (bds ++ more).flatMap _ = bds.flatMap _ ++ more
  rw [List.flatMap_append]
  congr 1
  induction more with
  | nil => rfl
  | cons m r ih =>
    rw [List.flatMap_cons, hb m List.mem_cons_self, List.flatMap_nil, ih fun it h => hb it (List.mem_cons_of_mem _ h)]
    rfl
theorem wrong_sites {it : D} (hb : (bodiesD it).getD [] = []) : isLib (.tup [.str "library", .tup (pi ++ [mkP nm (.tup (bds ++ [it, it]))])]) = false := not_lib fun k => by
  have n := k.sites
  rw [allIt_last (fun x hx => by simp at hx; rw [hx]; exact hb), List.map_append] at n
  have := (List.nodup_append.mp n).2.1
  simp at this
theorem wrong_call {it : D} (hb : (bodiesD it).getD [] = []) (hc : isCall it = true) (h : LibOk (pi ++ [mkP nm (.tup (bds ++ [it]))]) → st2 it ∈ (pi ++ [mkP nm (.tup (bds ++ [it]))]).map nmP → st2 it ≠ nm0 (pi ++ [mkP nm (.tup (bds ++ [it]))]) → False) : isLib (.tup [.str "library", .tup (pi ++ [mkP nm (.tup (bds ++ [it]))])]) = false := not_lib fun k => by
  have := k.calls it (by rw [allIt_last (fun x hx => by simp at hx; rw [hx]; exact hb)]; simp) hc
  exact h k this.1 this.2
theorem wrong_self {s : Str} : isLib (.tup [.str "library", .tup (pi ++ [mkP nm (.tup (bds ++ [.tup [.str "call", .str s, .str nm]]))])]) = false := not_lib fun k => by
  have nd := k.names
  have never : ∀ j, nm ∉ roundsP (pi ++ [mkP nm (.tup (bds ++ [.tup [.str "call", .str s, .str nm]]))]) j := by
    intro j
    induction j with
    | zero => exact fun h => nomatch h
    | succ j ih =>
      intro h
      have aux : ∀ (ys acc : List Str), nm ∈ ys.foldl seen1 acc → nm ∈ acc ∨ nm ∈ ys := by
        intro ys
        induction ys with
        | nil => exact fun acc h => .inl h
        | cons y ys ihy =>
          intro acc h
          rw [List.foldl_cons] at h
          rcases ihy _ h with h | h
          · unfold seen1 at h
            split at h
            · exact .inl h
            · rcases List.mem_append.mp h with h | h
              · exact .inl h
              · rw [List.mem_singleton.mp h]
                exact .inr List.mem_cons_self
          · exact .inr (List.mem_cons_of_mem _ h)
      rcases aux _ _ h with h | h
      · exact ih h
      · obtain ⟨p, hp, en⟩ := List.mem_map.mp h
        obtain ⟨hp, hc⟩ := List.mem_filter.mp hp
        rw [Bool.and_eq_true] at hc
        rw [List.map_append] at nd
        rcases List.mem_append.mp hp with hp | hp
        · exact (List.nodup_append.mp nd).2.2 (nmP p) (List.mem_map.mpr ⟨p, hp, rfl⟩) nm (by show nm ∈ [nm]; simp) en
        · rw [List.mem_singleton.mp hp] at hc
          have := List.all_eq_true.mp (show (bds ++ [D.tup [.str "call", .str s, .str nm]]).all _ = true from hc.2) (.tup [.str "call", .str s, .str nm]) (by simp)
          exact ih (of_decide_eq_true this)
  have r := rounds_eq nd (pi ++ [mkP nm (.tup (bds ++ [.tup [.str "call", .str s, .str nm]]))]).length
  have l := len_sub _ (pi.map nmP) r.2.1 fun x hx => by
    have := r.2.2 x hx
    rw [List.map_append] at this
    rcases List.mem_append.mp this with h | h
    · exact h
    · have : x = nm := by simpa using (show x ∈ [nm] from h)
      exact (never _ (this ▸ hx)).elim
  have e := k.rounds
  rw [List.length_map] at l
  rw [List.length_append, List.length_singleton] at e l
  omega
end
end DL

/-! D9: readings whose values have a property; a wrong library is drawn. -/
namespace DL
open PySem PySem.Spec PyProof.Rows L2
def LsG (M M' : DM) : Prop := ∀ x xs, M x = some (.ls xs) → ∃ ys, M' x = some (.ls ys)
mutual
theorem Ok.lsg {M M' : DM} (g : LsG M M') : ∀ d, Ok M d → Ok M' d
  | .tup ds, h => by
    unfold Ok at h ⊢
    exact OkL.lsg g ds h
  | .ob a, h => by
    unfold Ok at h ⊢
    obtain ⟨xs, e⟩ := h
    exact g a _ e
  | .ty _, h => h
  | .non, _ => True.intro
  | .bl _, _ => True.intro
  | .int _, _ => True.intro
  | .str _, h => h
theorem OkL.lsg {M M' : DM} (g : LsG M M') : ∀ ds, OkL M ds → OkL M' ds
  | [], _ => True.intro
  | d :: ds, h => by
    unfold OkL at h ⊢
    exact ⟨Ok.lsg g d h.1, OkL.lsg g ds h.2⟩
end
abbrev OkH (a l : Addr) (M : DM) (d : D) : Prop := Ok (hide a l M) d
section
variable {a l p : Addr} {M M' : DM} {d : D}
theorem OkH.grow (h : OkH a l M d) (g : Grow M M') : OkH a l M' d := Ok.grow g.h d h
theorem OkH.growH (h : OkH a l M d) (g : GrowH a l M M') : OkH a l M' d := Ok.grow g d h
theorem OkH.put {xs : List D} (h : OkH a l M d) (h1 : p ≠ a) (h2 : p ≠ l) : OkH a l (mset M p (.ls xs)) d := Ok.lsg (fun x ys e => by
  obtain ⟨n1, n2, e⟩ := hide_some e
  by_cases z : x = p
  · rw [z]
    exact ⟨xs, by rw [hide_ne h1 h2, mset_same]⟩
  · exact ⟨ys, by rw [hide_ne n1 n2, mset_ne z]; exact e⟩) d h
theorem OkH.ob {xs : List D} (h1 : p ≠ a) (h2 : p ≠ l) (e : M p = some (.ls xs)) : OkH a l M (.ob p) := by
  show Ok _ _
  unfold Ok
  exact ⟨xs, by rw [hide_ne h1 h2]; exact e⟩
theorem OkH.tup {ds : List D} (h : ∀ d ∈ ds, OkH a l M d) : OkH a l M (.tup ds) := ok_tup.2 h
theorem OkH.mem {ds : List D} (h : OkH a l M (.tup ds)) : ∀ d ∈ ds, OkH a l M d := ok_tup.1 h
theorem OkH.str {x : Str} (h : x.length ≤ 64) : OkH a l M (.str x) := ok_str h
theorem OkH.ok (h : OkH a l M d) : Ok M d := Ok.grow hide_le d h
end
/-- every value of te has R -/
def Ge (te : DTE) (ρ : DSt) (M : DM) (R : D → DM → Prop) : Prop := ∀ M1, Grow M M1 → ∀ Q : DK, (∀ M2 d, Grow M1 M2 → R d M2 → Q d M2) → te ρ M1 Q
def Gw (t : DTA) (ρ : DSt) (M : DM) (n : Nat) (R : D → DM → Prop) : Prop := ∀ M1, Grow M M1 → ∀ Q : List D → DM → Prop, (∀ M2 ds, Grow M1 M2 → ds.length = n → (∀ d ∈ ds, R d M2) → Q ds M2) → t ρ M1 Q
/-- a list all of whose values have R -/
def Gl (te : DTE) (ρ : DSt) (M : DM) (n : Nat) (R : D → DM → Prop) : Prop := ∀ M1, Grow M M1 → ∀ Q : DK, (∀ M2 p ds, Grow M1 M2 → M1 p = none → M2 p = some (.ls ds) → ds.length ≤ n → (∀ d ∈ ds, R d M2) → Q (.ob p) M2) → te ρ M1 Q
def Mono (R : D → DM → Prop) : Prop := ∀ d M M', Grow M M' → R d M → R d M'
section
variable {ρ : DSt} {M M' : DM} {E : DEnds} {te ta tb : DTE} {t : DTA} {R : D → DM → Prop} {v x y z : D} {n m i j k : Nat}
theorem ge_v (h : Gv te ρ M v) (r : ∀ M1, Grow M M1 → R v M1) : Ge te ρ M R := fun M1 g1 Q q => h M1 g1 _ fun M2 g2 => q M2 v g2 (r M2 (g1.trans g2))
theorem gw_nil : Gw dNil ρ M 0 R := fun M1 _ Q q => q M1 [] (Grow.refl M1) rfl fun d h => nomatch h
theorem gw_cons (mono : Mono R) (h : Ge te ρ M R) (h' : Gw t ρ M n R) : Gw (dCons te t) ρ M (n + 1) R := fun M1 g1 Q q => h M1 g1 _ fun M2 d g2 r => h' M2 (g1.trans g2) _ fun M3 ds g3 hl rs => q M3 (d :: ds) (g2.trans g3) (by rw [List.length_cons, hl]) fun e he => by
  rcases List.mem_cons.mp he with rfl | he
  · exact mono _ _ _ g3 r
  · exact rs e he
theorem gl_w (mono : Mono R) (h : Gw t ρ M n R) (hl : n ≤ sizeLine) : Gl (dLst t) ρ M n R := fun M1 g1 Q q => h M1 g1 _ fun M2 ds g2 el rs => ⟨by omega, fun p np => q _ p ds (g2.trans (Grow.new np)) (fresh_of g2 np) mset_same (by omega) fun d hd => mono _ _ _ (Grow.new np) (rs d hd)⟩
theorem s_setG (h : Gl te ρ M n R) (q : ∀ M1 p ds, Grow M M1 → M p = none → M1 p = some (.ls ds) → ds.length ≤ n → (∀ d ∈ ds, R d M1) → E.nx (ρ.set i (some (.ob p))) M1) : dAsg te (dName i) E ρ M := h M (Grow.refl M) _ q
theorem s_tup3 (h : Gv te ρ M (.tup [x, y, z])) (q : ∀ M1, Grow M M1 → E.nx (((ρ.set i (some x)).set j (some y)).set k (some z)) M1) : dAsg te (dgTup 3 (dgCons (dName i) (dgCons (dName j) (dgCons (dName k) dgNil)))) E ρ M := h M (Grow.refl M) _ fun M1 g1 => ⟨rfl, q M1 g1⟩
theorem rv_rep {ds : List D} {k : Nat} (h0 : ds ≠ []) (hl : ds.length ≤ 1000) (hk : k ≤ 1000) : Rv dMul (.tup ds) (.int (k : Nat)) M (.tup (List.replicate k ds).flatten) := fun M1 _ Q q => ⟨h0, hl, by omega, by omega, q⟩
theorem gl_catA {a : Addr} {xs : List D} (h : Gv ta ρ M (.ob a)) (e : M a = some (.ls xs)) (mono : Mono R) (rs : ∀ d ∈ xs, R d M) (h' : Gl tb ρ M m R) (hl : xs.length + m ≤ sizeLine) : Gl (dOp dAdd ta tb) ρ M (xs.length + m) R := fun M1 g1 Q q => h M1 g1 _ fun M2 g2 => h' M2 (g1.trans g2) _ fun M3 p ds g3 np ep el rs2 => by
  unfold dAdd
  dsimp only
  rw [((g1.trans g2).trans g3) _ _ e, ep]
  dsimp only
  refine ⟨by omega, fun p2 np2 => q _ p2 (xs ++ ds) ((g2.trans g3).trans (Grow.new np2)) (fresh_of (g2.trans g3) np2) mset_same (by rw [List.length_append]; omega) fun d hd => ?_⟩
  rcases List.mem_append.mp hd with hd | hd
  · exact mono _ _ _ (((g1.trans g2).trans g3).trans (Grow.new np2)) (rs d hd)
  · exact mono _ _ _ (Grow.new np2) (rs2 d hd)
theorem gv_neg1 : Gv (fun ρ M Q => dC (.int 1) ρ M fun x M1 => match x with
  | .int i => Q (.int (-i)) M1
  | _ => False) ρ M (.int (-1)) := fun M1 _ Q q => q M1 (Grow.refl M1)
theorem peel_tup2 {Q : DK} (hA : Gv ta ρ M v) (h : ∀ M1, Grow M M1 → tb ρ M1 fun z M2 => 2 ≤ sizeLine ∧ Q (.tup [v, z]) M2) : dTup (dCons ta (dCons tb dNil)) ρ M Q := hA M (Grow.refl M) _ fun M1 g1 => h M1 g1
theorem peel_ret (h : te ρ M E.rt) : dRet te E ρ M := h
theorem dcut_sub {ds : List D} {lo hi : Option Int} : ∀ d ∈ dcut ds lo hi, d ∈ ds := fun d h => List.mem_of_mem_drop (List.mem_of_mem_take h)
end
def spWrong : DSp := fun ds M Q => ∃ (a l c : Addr) (ps : List D), ds = [.ob a, .tup [.str "library", .tup ps]] ∧ isLib (.tup [.str "library", .tup ps]) = true ∧ (∀ p ∈ ps, nmP p ≠ "zz") ∧ Drw a l c M ∧ ∀ M' d, GrowH a l M M' → Drw a l c M' → OkH a l M' d → isLib d = false → Q d M'
section
variable {P : Program} {w : World} {K : PySem.W.Frag} {mg : Str → Option Value} {base : Heap}
theorem ok__law_wrong_library (T : Tx K mg w) : FnOk P w K mg base CX0 4 T.f__law_wrong_library.f T.f__law_wrong_library.fd ["draw", "library"] (LSp K spWrong) := by
  refine dfun T.f__law_wrong_library.F sc__law_wrong_library (fun ds M Q ⟨a, l, c, ps, e, _⟩ => by rw [e]; rfl) fun cdv A outer s H E hr => ⟨_, (ds_cons (ds_set (i := 2) sc__law_wrong_library.nd (d_ixA (hu1 hr) (dv 1) dint)) (ds_cons (ds_asg (d_ixA (hu1 hr) (dv 2) (d_neg dint)) (dg_tup (n := 3) rfl (dgs_cons (dg_name (i := 3) sc__law_wrong_library.nd) (dgs_cons (dg_name (i := 4) sc__law_wrong_library.nd) (dgs_cons (dg_name (i := 5) sc__law_wrong_library.nd) dgs_nil))))) (ds_cons (ds_set (i := 6) sc__law_wrong_library.nd (d_lst (da_cons dnon (da_cons (d_tup da_nil) (da_cons dint (da_cons dstr (da_cons (d_list T.b_list (da_cons (dv 1) da_nil)) (da_cons (d_sl (dv 1) do_none (do_some dint)) (da_cons (d_add (dv 1) (d_tup (da_cons (d_tup da_nil) da_nil))) (da_cons (d_tup (da_cons dstr (da_cons (dv 2) da_nil))) (da_cons (d_tup (da_cons dstr (da_cons (d_tup da_nil) da_nil))) (da_cons (d_tup (da_cons dstr (da_cons (d_list T.b_list (da_cons (dv 2) da_nil)) da_nil))) (da_cons (d_tup (da_cons dstr (da_cons (d_tup (da_cons dnon da_nil)) da_nil))) da_nil))))))))))))) (ds_cons (ds_set (i := 6) sc__law_wrong_library.nd (d_add (dv 6) (d_lst (da_cons (d_tup (da_cons dstr (da_cons (d_add (dv 2) (d_sl (dv 2) do_none (do_some dint))) da_nil))) (da_cons (d_tup (da_cons dstr (da_cons (d_add (d_sl (dv 2) do_none (do_some (d_neg dint))) (d_tup (da_cons (d_tup (da_cons (dv 3) (da_cons (dv 4) (da_cons (dv 5) (da_cons (d_tup da_nil) da_nil))))) da_nil))) da_nil))) (da_cons (d_tup (da_cons dstr (da_cons (d_add (d_sl (dv 2) do_none (do_some (d_neg dint))) (d_tup (da_cons (d_tup (da_cons (dv 3) (da_cons dstr (da_cons (dv 5) da_nil)))) da_nil))) da_nil))) (da_cons (d_tup (da_cons dnon (da_cons (dv 2) da_nil))) (da_cons (dv 2) da_nil)))))))) (ds_cons (ds_for PassesOwn.never rfl (di_any (d_lst (da_cons (d_mulA (d_tup (da_cons (d_tup (da_cons dstr (da_cons dstr (da_cons dstr (da_cons (d_tup da_nil) da_nil))))) da_nil)) dint) (da_cons (d_tup (da_cons (d_tup (da_cons dstr (da_cons dstr (da_cons (d_ixA (hu1 hr) (d_ixA (hu1 hr) (dv 2) dint) dint) da_nil)))) da_nil)) (da_cons (d_tup (da_cons (d_tup (da_cons dstr (da_cons dstr (da_cons (dv 4) da_nil)))) da_nil)) (da_cons (d_tup (da_cons (d_tup (da_cons dstr (da_cons dstr (da_cons dstr da_nil)))) da_nil)) (da_cons (d_tup (da_cons (d_tup (da_cons dstr (da_cons dstr (da_cons dstr (da_cons (d_mulA (d_tup (da_cons dstr da_nil)) dint) da_nil))))) da_nil)) (da_cons (d_tup (da_cons (d_tup (da_cons dstr (da_cons dstr (da_cons dstr (da_cons (d_tup da_nil) da_nil))))) da_nil)) da_nil)))))))) (dg_name (i := 7) sc__law_wrong_library.nd) (ds_one (ds_expr (d_appendS (dv 6) (da_cons (d_tup (da_cons dstr (da_cons (d_add (d_sl (dv 2) do_none (do_some (d_neg dint))) (d_tup (da_cons (d_tup (da_cons (dv 3) (da_cons (dv 4) (da_cons (d_add (dv 5) (dv 7)) da_nil)))) da_nil))) da_nil))) da_nil))))) (ds_one (ds_ret (d_fn (fn := T.f__law_pick) (ok__law_pick T) (hr.mono (by first | decide | omega)) (da_cons (dv 0) (da_cons (dv 6) da_nil)))))))))), ?_⟩
  rintro ds M Q ⟨a, l, c, ps, rfl, hlib, hzz, dr, q⟩
  have lok := lib_ok hlib
  obtain ⟨p0, rest, eps⟩ : ∃ p0 rest, ps = p0 :: rest := by
    cases ps with
    | nil => exact (lok.ne rfl).elim
    | cons x r => exact ⟨x, r, rfl⟩
  obtain ⟨pi, last, epi⟩ : ∃ pi last, ps = pi ++ [last] := ⟨ps.dropLast, ps.getLast lok.ne, (List.dropLast_concat_getLast lok.ne).symm⟩
  obtain ⟨nm, bd, rfl, hnm, hbd⟩ := proc_shape (List.all_eq_true.mp lok.pr last (by rw [epi]; simp))
  obtain ⟨bds, rfl⟩ := body_tup hbd
  obtain ⟨n0, b0, ep0, hn0, _⟩ := proc_shape (List.all_eq_true.mp lok.pr p0 (by rw [eps]; simp))
  refine s_seq (s_set (gv_op (gv_var rfl) gv_c (rv_ixT (atI_nat (n := 1) rfl))) fun M1 g1 => ?_)
  dsimp only
  have okps : ∀ M', OkH a l M' (.tup ps) := fun M' => OkH.tup fun p hp => by
    obtain ⟨x, b, rfl, hx, hb⟩ := proc_shape (List.all_eq_true.mp lok.pr p hp)
    refine OkH.tup fun e he => ?_
    simp only [List.mem_cons, List.not_mem_nil, or_false] at he
    rcases he with rfl | rfl | rfl
    · exact OkH.str (by decide +kernel)
    · exact OkH.str (name_len hx)
    · exact body_ok _ 3 _ hb
  have oklib : ∀ M', OkH a l M' (.tup [.str "library", .tup ps]) := fun M' => OkH.tup fun e he => by
    simp only [List.mem_cons, List.not_mem_nil, or_false] at he
    rcases he with rfl | rfl
    · exact OkH.str (by decide +kernel)
    · exact okps M'
  have oknm : ∀ M', OkH a l M' (.str nm) := fun M' => OkH.str (name_len hnm)
  have okbd : ∀ M', OkH a l M' (.tup bds) := fun M' => body_ok _ 3 _ hbd
  have okk : ∀ M' (x : Str), x.length ≤ 64 → OkH a l M' (.str x) := fun M' x h => OkH.str h
  have oklst : ∀ M' (z : D), OkH a l M' z → OkH a l M' (.tup [.str "library", z]) := fun M' z hz => OkH.tup fun e he => by
    simp only [List.mem_cons, List.not_mem_nil, or_false] at he
    rcases he with rfl | rfl
    · exact OkH.str (by decide +kernel)
    · exact hz
  have okpi : ∀ M', ∀ x ∈ pi, OkH a l M' x := fun M' x hx => (okps M').mem x (by rw [epi]; exact List.mem_append_left _ hx)
  have oksnoc : ∀ M' (z : D), OkH a l M' z → OkH a l M' (.tup (pi ++ [z])) := fun M' z hz => OkH.tup fun e he => by
    rcases List.mem_append.mp he with he | he
    · exact okpi M' e he
    · rw [List.mem_singleton.mp he]
      exact hz
  have psl : ps.length ≤ 8 := lok.l8
  have pil : pi.length ≤ 8 := by
    have := congrArg List.length epi
    rw [List.length_append, List.length_singleton] at this
    omega
  let R : D → DM → Prop := fun d M' => isLib d = false ∧ OkH a l M' d
  have mono : Mono R := fun d M1 M2 g h => ⟨h.1, h.2.grow g⟩
  refine s_seq (s_tup3 (ρ := [some (.ob a), some (.tup [.str "library", .tup ps]), some (.tup ps), none, none, none, none, none]) (gv_op (gv_var rfl) gv_neg1 (rv_ixT (atI_last (v := D.tup [.str "proc", .str nm, .tup bds]) (by rw [epi]; simp)))) fun M2 g2 => ?_)
  dsimp only
  have dr2 := (dr.grow g1).grow g2
  have newl : ∀ (te : DTE) (ρ : DSt) (xs : List D), Gx te ρ M2 xs → Ge te ρ M2 fun d M' => (∃ p, d = .ob p) ∧ OkH a l M' d := fun te ρ xs h M3 g3 Q q => h M3 g3 _ fun M4 p g4 np ep => q M4 _ g4 ⟨⟨p, rfl⟩, OkH.ob ((dr2.grow g3).new np).1 ((dr2.grow g3).new np).2.1 ep⟩
  have kv : ∀ (te : DTE) (ρ : DSt) (v : D), Gv te ρ M2 v → isLib v = false → (∀ M', OkH a l M' v) → Ge te ρ M2 R := fun te ρ v h h1 h2 => ge_v h fun M' _ => ⟨h1, h2 M'⟩
  let ρ2 : DSt := [some (.ob a), some (.tup [.str "library", .tup ps]), some (.tup ps), some (.str "proc"), some (.str nm), some (.tup bds), none, none]
  have v1 : ∀ M', Gv (dVar 1) ρ2 M' (.tup [.str "library", .tup ps]) := fun M' => gv_var rfl
  have v2 : ∀ M', Gv (dVar 2) ρ2 M' (.tup ps) := fun M' => gv_var rfl
  have sz : ∀ k : Nat, k ≤ 1000 → k ≤ sizeLine := fun k h => by rw [sizeLine_eq]; omega
  refine s_seq (s_setG (ρ := ρ2) (R := R) (gl_w mono (gw_cons mono (kv _ _ _ gv_c rfl fun M' => True.intro) (gw_cons mono (kv _ _ (.tup []) (gv_tup ga_nil (Nat.zero_le _)) rfl fun M' => OkH.tup fun d h => nomatch h) (gw_cons mono (kv _ _ _ gv_c rfl fun M' => True.intro) (gw_cons mono (kv _ _ _ gv_c rfl fun M' => OkH.str (by decide +kernel)) (gw_cons mono ?_ (gw_cons mono ?_ (gw_cons mono ?_ (gw_cons mono ?_ (gw_cons mono ?_ (gw_cons mono ?_ (gw_cons mono ?_ gw_nil))))))))))) (sz 11 (by decide))) fun M3 p3 xs3 g3 np3 ep3 l3 r3 => ?_)
  · intro M3 g3 Q q
    exact newl _ _ _ (gl_listT (v1 M2)) M3 g3 Q fun M4 d g4 ⟨⟨p, hp⟩, ho⟩ => q M4 d g4 ⟨by rw [hp]; rfl, ho⟩
  · refine kv _ _ (.tup [.str "library"]) (gv_eq (gv_sl (v1 M2) go_none (go_some gv_c)) (by rw [show ((1 : Int)) = ((1 : Nat) : Int) from rfl, dcut_to]; rfl)) rfl fun M' => OkH.tup fun e he => ?_
    rw [List.mem_singleton.mp he]
    exact OkH.str (by decide +kernel)
  · refine kv _ _ (.tup [.str "library", .tup ps, .tup []]) (gv_op (x := .tup [.str "library", .tup ps]) (y := .tup [.tup []]) (v1 M2) (gv_tup (ga_cons (gv_tup ga_nil (Nat.zero_le _)) ga_nil) (sz 1 (by decide))) (rv_catT (sz 3 (by decide)) : Rv dAdd (.tup [.str "library", .tup ps]) (.tup [.tup []]) M2 (.tup ([.str "library", .tup ps] ++ [.tup []])))) rfl fun M' => OkH.tup fun e he => ?_
    simp only [List.mem_cons, List.not_mem_nil, or_false] at he
    rcases he with rfl | rfl | rfl
    · exact OkH.str (by decide +kernel)
    · exact okps M'
    · exact OkH.tup fun d h => nomatch h
  · refine kv _ _ (.tup [.str "procs", .tup ps]) (gv_tup (ga_cons gv_c (ga_cons (v2 M2) ga_nil)) (sz 2 (by decide))) ?_ fun M' => OkH.tup fun e he => ?_
    · unfold isLib
      dsimp only
      rw [show decide (("procs" : Str) = "library") = false by decide]
      rfl
    · simp only [List.mem_cons, List.not_mem_nil, or_false] at he
      rcases he with rfl | rfl
      · exact OkH.str (by decide +kernel)
      · exact okps M'
  · exact kv _ _ (.tup [.str "library", .tup []]) (gv_tup (ga_cons gv_c (ga_cons (gv_tup ga_nil (Nat.zero_le _)) ga_nil)) (sz 2 (by decide))) (not_lib fun k => k.ne rfl) fun M' => oklst M' _ (OkH.tup fun d h => nomatch h)
  · intro M3 g3 Q q
    refine peel_tup2 (v := .str "library") gv_c fun M4 g4 => ?_
    refine newl _ _ _ (gl_listT (v2 M2)) M4 (g3.trans g4) _ fun M5 d g5 ⟨⟨p, hp⟩, ho⟩ => ?_
    exact ⟨sz 2 (by decide), q M5 _ (g4.trans g5) ⟨by rw [hp]; rfl, oklst M5 _ ho⟩⟩
  · refine kv _ _ (.tup [.str "library", .tup [.non]]) (gv_tup (ga_cons gv_c (ga_cons (gv_tup (ga_cons gv_c ga_nil) (sz 1 (by decide))) ga_nil)) (sz 2 (by decide))) (not_lib fun k => nomatch k.pr) fun M' => oklst M' _ (OkH.tup fun d h => ?_)
    rw [List.mem_singleton.mp h]
    exact True.intro
  have ps3 := g3
  -- the second list
  have g13 := (g1.trans g2).trans g3
  have d3 := dr2.grow g3
  have n3 := dr2.new np3
  have kv3 : ∀ (te : DTE) (ρ : DSt) (v : D), Gv te ρ M3 v → isLib v = false → (∀ M', OkH a l M' v) → Ge te ρ M3 R := fun te ρ v h h1 h2 => ge_v h fun M' _ => ⟨h1, h2 M'⟩
  let ρ3 : DSt := [some (.ob a), some (.tup [.str "library", .tup ps]), some (.tup ps), some (.str "proc"), some (.str nm), some (.tup bds), some (.ob p3), none]
  have w2 : ∀ M', Gv (dVar 2) ρ3 M' (.tup ps) := fun M' => gv_var rfl
  have wpi : ∀ M' (ρ : DSt), ρ[2]? = some (some (.tup ps)) → Gv (dSl (dVar 2) dNoPart (dPart fun ρ M Q => dC (.int 1) ρ M fun x M1 => match x with
  | .int i => Q (.int (-i)) M1
  | _ => False)) ρ M' (.tup pi) := fun M' ρ h => gv_eq (gv_sl (gv_var h) go_none (go_some gv_neg1)) (by rw [dcut_init, epi, List.dropLast_concat])
  have snoc : ∀ (z : D) M' , Gv (dOp dAdd (dSl (dVar 2) dNoPart (dPart fun ρ M Q => dC (.int 1) ρ M fun x M1 => match x with
  | .int i => Q (.int (-i)) M1
  | _ => False)) (dTup (dCons (dC z) dNil))) ρ3 M' (.tup (pi ++ [z])) := fun z M' => gv_op (y := .tup [z]) (wpi M' ρ3 rfl) (gv_tup (ga_cons gv_c ga_nil) (sz 1 (by decide))) (rv_catT (by rw [sizeLine_eq, List.length_singleton]; omega))
  dsimp only
  refine s_seq (s_setG (i := 6) (ρ := ρ3) (R := R) (n := xs3.length + 5) (gl_catA (gv_var (v := .ob p3) rfl) ep3 mono r3 (gl_w mono (gw_cons mono ?_ (gw_cons mono ?_ (gw_cons mono ?_ (gw_cons mono ?_ (gw_cons mono ?_ gw_nil))))) (sz 5 (by decide))) (by rw [sizeLine_eq]; omega)) fun M4 p4 xs4 g4 np4 ep4 l4 r4 => ?_)
  · refine kv3 _ _ (.tup [.str "library", .tup (ps ++ ps.take 1)]) (gv_tup (ga_cons gv_c (ga_cons (gv_op (y := .tup (ps.take 1)) (w2 M3) (gv_eq (gv_sl (w2 M3) go_none (go_some gv_c)) (by rw [show ((1 : Int)) = ((1 : Nat) : Int) from rfl, dcut_to])) (rv_catT ?_)) ga_nil)) (sz 2 (by decide))) (wrong_twice eps) fun M' => oklst M' _ (OkH.tup fun d h => ?_)
    · rw [List.length_take, sizeLine_eq]
      omega
    · rcases List.mem_append.mp h with h | h
      · exact (okps M').mem d h
      · exact (okps M').mem d (List.mem_of_mem_take h)
  · refine kv3 _ _ (.tup [.str "library", .tup (pi ++ [.tup [.str "proc", .str nm, .tup bds, .tup []]])]) (gv_tup (ga_cons gv_c (ga_cons (gv_op (y := .tup [.tup [.str "proc", .str nm, .tup bds, .tup []]]) (wpi M3 ρ3 rfl) (gv_tup (ga_cons (gv_tup (ga_cons (gv_var rfl) (ga_cons (gv_var rfl) (ga_cons (gv_var rfl) (ga_cons (gv_tup ga_nil (Nat.zero_le _)) ga_nil)))) (sz 4 (by decide))) ga_nil) (sz 1 (by decide))) (rv_catT (by rw [sizeLine_eq, List.length_singleton]; omega))) ga_nil)) (sz 2 (by decide))) (wrong_proc rfl) fun M' => oklst M' _ (oksnoc M' _ (OkH.tup fun d h => ?_))
    simp only [List.mem_cons, List.not_mem_nil, or_false] at h
    rcases h with rfl | rfl | rfl | rfl
    · exact OkH.str (by decide +kernel)
    · exact oknm M'
    · exact okbd M'
    · exact OkH.tup fun d h => nomatch h
  · refine kv3 _ _ (.tup [.str "library", .tup (pi ++ [.tup [.str "proc", .str "while", .tup bds]])]) (gv_tup (ga_cons gv_c (ga_cons (gv_op (y := .tup [.tup [.str "proc", .str "while", .tup bds]]) (wpi M3 ρ3 rfl) (gv_tup (ga_cons (gv_tup (ga_cons (gv_var rfl) (ga_cons gv_c (ga_cons (gv_var rfl) ga_nil))) (sz 3 (by decide))) ga_nil) (sz 1 (by decide))) (rv_catT (by rw [sizeLine_eq, List.length_singleton]; omega))) ga_nil)) (sz 2 (by decide))) (wrong_proc ?_) fun M' => oklst M' _ (oksnoc M' _ (OkH.tup fun d h => ?_))
    · show (decide (("proc" : Str) = "proc") && nameS "while" && isBody 3 (.tup bds)) = false
      rw [show nameS "while" = false by decide +kernel]
      rw [Bool.and_false, Bool.false_and]
    · simp only [List.mem_cons, List.not_mem_nil, or_false] at h
      rcases h with rfl | rfl | rfl
      · exact OkH.str (by decide +kernel)
      · exact OkH.str (by decide +kernel)
      · exact okbd M'
  · exact kv3 _ _ (.tup [.non, .tup ps]) (gv_tup (ga_cons gv_c (ga_cons (w2 M3) ga_nil)) (sz 2 (by decide))) rfl fun M' => OkH.tup fun e he => by
      simp only [List.mem_cons, List.not_mem_nil, or_false] at he
      rcases he with rfl | rfl
      · exact True.intro
      · exact okps M'
  · refine kv3 _ _ (.tup ps) (w2 M3) ?_ okps
    rw [eps, ep0]
    rfl
  dsimp only
  have bl : bds.length ≤ 10 := by
    have z := hbd
    rw [isBody_eq, Bool.and_eq_true] at z
    have := of_decide_eq_true z.1
    omega
  let W : D → Prop := fun d => ∃ more, d = .tup more ∧ more.length ≤ 2 ∧ isLib (.tup [.str "library", .tup (pi ++ [mkP nm (.tup (bds ++ more))])]) = false ∧ ∀ M', OkH a l M' (.tup more)
  let mores : List D := [.tup [.tup [.str "do", .str "zz", .str "a", .tup []], .tup [.str "do", .str "zz", .str "a", .tup []]], .tup [.tup [.str "call", .str "zz", .str n0]], .tup [.tup [.str "call", .str "zz", .str nm]], .tup [.tup [.str "call", .str "zz", .str "zz"]], .tup [.tup [.str "do", .str "zz", .str "a", .tup [.str "a", .str "a", .str "a", .str "a"]]], .tup [.tup [.str "do", .str "zz", .str "if", .tup []]]]
  have okw : ∀ (M' : DM) (xs : List Str), (∀ x ∈ xs, x.length ≤ 64) → OkH a l M' (.tup (xs.map D.str)) := fun M' xs h => OkH.tup fun d hd => by
    obtain ⟨x, hx, rfl⟩ := List.mem_map.mp hd
    exact OkH.str (h x hx)
  have ok4 : ∀ (M' : DM) (x y z : Str) (w : List Str), x.length ≤ 64 → y.length ≤ 64 → z.length ≤ 64 → (∀ x ∈ w, x.length ≤ 64) → OkH a l M' (.tup [.str x, .str y, .str z, .tup (w.map D.str)]) := fun M' x y z w h1 h2 h3 h4 => OkH.tup fun d hd => by
    simp only [List.mem_cons, List.not_mem_nil, or_false] at hd
    rcases hd with rfl | rfl | rfl | rfl
    · exact OkH.str h1
    · exact OkH.str h2
    · exact OkH.str h3
    · exact okw M' w h4
  have hW : ∀ d ∈ mores, W d := fun d hd => by
    simp only [mores, List.mem_cons, List.not_mem_nil, or_false] at hd
    rcases hd with rfl | rfl | rfl | rfl | rfl | rfl
    · refine ⟨_, rfl, by simp, wrong_sites rfl, fun M' => OkH.tup fun d hd => ?_⟩
      simp only [List.mem_cons, List.not_mem_nil, or_false, or_self] at hd
      rw [hd]
      exact ok4 M' _ _ _ [] (by decide +kernel) (by decide +kernel) (by decide +kernel) fun x h => nomatch h
    · refine ⟨_, rfl, by simp, wrong_call rfl rfl fun k h1 h2 => h2 ?_, fun M' => OkH.tup fun d hd => ?_⟩
      · show n0 = _
        cases pi with
        | nil =>
          rw [List.nil_append] at epi
          rw [eps, ep0] at epi
          show n0 = nm
          injection epi with e1 _
          injection e1 with e1
          injection e1 with _ e1
          injection e1 with e1 _
          injection e1
        | cons x r =>
          rw [eps, ep0] at epi
          injection epi with e1 _
          show n0 = nmP x
          rw [← e1]
          rfl
      · rw [List.mem_singleton.mp hd]
        exact okw M' ["call", "zz", n0] fun x hx => by
          simp only [List.mem_cons, List.not_mem_nil, or_false] at hx
          rcases hx with rfl | rfl | rfl
          · decide +kernel
          · decide +kernel
          · exact name_len hn0
    · refine ⟨_, rfl, by simp, wrong_self, fun M' => OkH.tup fun d hd => ?_⟩
      rw [List.mem_singleton.mp hd]
      exact okw M' ["call", "zz", nm] fun x hx => by
        simp only [List.mem_cons, List.not_mem_nil, or_false] at hx
        rcases hx with rfl | rfl | rfl
        · decide +kernel
        · decide +kernel
        · exact name_len hnm
    · refine ⟨_, rfl, by simp, wrong_call rfl rfl fun k h1 h2 => ?_, fun M' => OkH.tup fun d hd => ?_⟩
      · have e : (pi ++ [mkP nm (.tup (bds ++ [.tup [.str "call", .str "zz", .str "zz"]]))]).map nmP = ps.map nmP := by
          rw [epi, List.map_append, List.map_append]
          rfl
        rw [e] at h1
        obtain ⟨p, hp, ez⟩ := List.mem_map.mp h1
        exact hzz p hp ez
      · rw [List.mem_singleton.mp hd]
        exact okw M' ["call", "zz", "zz"] (by decide +kernel)
    · refine ⟨_, rfl, by simp, wrong_proc (wrong_item (List.mem_singleton.2 rfl) (by decide +kernel)), fun M' => OkH.tup fun d hd => ?_⟩
      rw [List.mem_singleton.mp hd]
      exact ok4 M' _ _ _ ["a", "a", "a", "a"] (by decide +kernel) (by decide +kernel) (by decide +kernel) (by decide +kernel)
    · refine ⟨_, rfl, by simp, wrong_proc (wrong_item (List.mem_singleton.2 rfl) (by decide +kernel)), fun M' => OkH.tup fun d hd => ?_⟩
      rw [List.mem_singleton.mp hd]
      exact ok4 M' _ _ _ [] (by decide +kernel) (by decide +kernel) (by decide +kernel) fun x h => nomatch h
  let ρ4 : DSt := [some (.ob a), some (.tup [.str "library", .tup ps]), some (.tup ps), some (.str "proc"), some (.str nm), some (.tup bds), some (.ob p4), none]
  have one : ∀ {t : DTA} {v : D} {vs : List D} (ρ : DSt), Ga t ρ M4 vs → vs.length ≤ 4 → Gv (dTup (dCons (dTup t) dNil)) ρ M4 (.tup [.tup vs]) := fun {t v vs} ρ h hl => gv_tup (ga_cons (gv_tup h (by rw [sizeLine_eq]; omega)) ga_nil) (sz 1 (by decide))
  refine s_seq (s_forX (ρ := ρ4) (all := mores) (gl_lst (ga_cons (gv_eq (gv_op (one (v := .non) _ (ga_cons gv_c (ga_cons gv_c (ga_cons gv_c (ga_cons (gv_tup ga_nil (Nat.zero_le _)) ga_nil)))) (by decide)) gv_c (rv_rep (k := 2) (by simp) (by decide) (by decide))) rfl) (ga_cons (one (v := .non) _ (ga_cons gv_c (ga_cons gv_c (ga_cons (gv_op (gv_op (gv_var rfl) gv_c (rv_ixT (atI_nat (n := 0) (v := D.tup [.str "proc", .str n0, b0]) (by rw [eps, ep0]; rfl)))) gv_c (rv_ixT (atI_nat (n := 1) rfl))) ga_nil))) (by simp)) (ga_cons (one (v := .non) _ (ga_cons gv_c (ga_cons gv_c (ga_cons (gv_var rfl) ga_nil))) (by simp)) (ga_cons (one (v := .non) _ (ga_cons gv_c (ga_cons gv_c (ga_cons gv_c ga_nil))) (by decide)) (ga_cons (one (v := .non) _ (ga_cons gv_c (ga_cons gv_c (ga_cons gv_c (ga_cons (gv_eq (gv_op (gv_tup (ga_cons gv_c ga_nil) (sz 1 (by decide))) gv_c (rv_rep (k := 4) (by simp) (by decide) (by decide))) rfl) ga_nil)))) (by decide)) (ga_cons (one (v := .non) _ (ga_cons gv_c (ga_cons gv_c (ga_cons gv_c (ga_cons (gv_tup ga_nil (Nat.zero_le _)) ga_nil)))) (by decide)) ga_nil)))))) (sz 6 (by decide))) fun M5 p5 g5 np5 ep5 => ?_)
  have g04 := g13.trans g4
  have n4 : p4 ≠ a ∧ p4 ≠ l ∧ p4 ≠ c := d3.new np4
  have np4M : hide a l M p4 = none := by
    rw [hide_ne n4.1 n4.2.1]
    exact fresh_of g13 np4
  have n54 : p5 ≠ p4 := fun z => by rw [z, ep4] at np5; cases np5
  refine loopI (fun r ρ M6 => GrowH a l M M6 ∧ Drw a l c M6 ∧ (∀ d ∈ r, W d) ∧ M6 p5 = some (.ls mores) ∧ ∃ (o7 : Option D) (xs : List D), ρ = [some (.ob a), some (.tup [.str "library", .tup ps]), some (.tup ps), some (.str "proc"), some (.str nm), some (.tup bds), some (.ob p4), o7] ∧ M6 p4 = some (.ls xs) ∧ (∀ d ∈ xs, R d M6) ∧ 6 ≤ xs.length + r.length ∧ xs.length + r.length ≤ 40)
    (fun ρ M6 ⟨g6, dr6, _, _, o7, xs, eρ, ex, rx, h6, _⟩ => ?_) (fun d r ρ M6 ⟨g6, dr6, hw, e5, o7, xs, eρ, ex, rx, h6, h40⟩ N hN => ?_) _ _ _ ⟨(g04.trans g5).h, (d3.grow g4).grow g5, hW, ep5, none, xs4, rfl, g5 _ _ ep4, fun d hd => mono _ _ _ g5 (r4 d hd), by show 6 ≤ _ + 6; omega, by show _ + 6 ≤ 40; omega⟩
  · subst eρ
    dsimp only
    refine peel_ret (c_pick (ρ := [some (.ob a), some (.tup [.str "library", .tup ps]), some (.tup ps), some (.str "proc"), some (.str nm), some (.tup bds), some (.ob p4), o7]) (a := a) (l := l) (c := c) (s := p4) (xs := xs) (ga_cons (gv_var rfl) (ga_cons (gv_var rfl) ga_nil)) dr6 ex n4.1 n4.2.1 (fun z => by rw [z] at h6; simp at h6) (by simp at *; omega) fun M7 d g7 dr7 hd => ?_)
    exact q M7 d (g6.trans g7) dr7 ((rx d hd).2.growH g7) (rx d hd).1
  · subst eρ
    obtain ⟨more, rfl, ml, mw, mo⟩ := hw d List.mem_cons_self
    rw [List.length_cons] at h6 h40
    refine s_append (ρ := [some (.ob a), some (.tup [.str "library", .tup ps]), some (.tup ps), some (.str "proc"), some (.str nm), some (.tup bds), some (.ob p4), some (.tup more)]) (v := .tup [.str "library", .tup (pi ++ [mkP nm (.tup (bds ++ more))])]) (gv_var rfl) (gv_tup (ga_cons gv_c (ga_cons (gv_op (y := .tup [mkP nm (.tup (bds ++ more))]) (wpi M6 _ rfl) (gv_tup (ga_cons (gv_tup (ga_cons (gv_var rfl) (ga_cons (gv_var rfl) (ga_cons (gv_op (gv_var rfl) (gv_var rfl) (rv_catT (by rw [sizeLine_eq]; omega))) ga_nil))) (sz 3 (by decide))) ga_nil) (sz 1 (by decide))) (rv_catT (by rw [sizeLine_eq, List.length_singleton]; omega))) ga_nil)) (sz 2 (by decide))) ex (by rw [sizeLine_eq]; omega) fun M7 g7 => ?_
    have okv : ∀ M', OkH a l M' (.tup [.str "library", .tup (pi ++ [mkP nm (.tup (bds ++ more))])]) := fun M' => oklst M' _ (oksnoc M' _ (OkH.tup fun d h => by
      simp only [List.mem_cons, List.not_mem_nil, or_false] at h
      rcases h with rfl | rfl | rfl
      · exact OkH.str (by decide +kernel)
      · exact oknm M'
      · refine OkH.tup fun d h => ?_
        rcases List.mem_append.mp h with h | h
        · exact (okbd M').mem d h
        · exact (mo M').mem d h))
    refine hN _ _ (msq_ls (by rw [mset_ne n54]; exact g7 _ _ e5)) ⟨GrowH.put (g6.trans g7.h) np4M, (dr6.grow g7).putOther n4.1 n4.2.1 n4.2.2, fun d h => hw d (List.mem_cons_of_mem _ h), by rw [mset_ne n54]; exact g7 _ _ e5, _, _, rfl, mset_same, fun d hd => ?_, by rw [List.length_append, List.length_singleton]; omega, by rw [List.length_append, List.length_singleton]; omega⟩
    rcases List.mem_append.mp hd with hd | hd
    · exact ⟨(rx d hd).1, ((rx d hd).2.grow g7).put n4.1 n4.2.1⟩
    · rw [List.mem_singleton.mp hd]
      exact ⟨mw, okv _⟩
end
end DL

/-! D10: what is in a set of texts; a body is changed. -/
namespace DL
open PySem PySem.Spec PyProof.Rows L2
mutual
def StrIn (B : List Str) : D → Prop
  | .str x => x ∈ B
  | .tup ds => StrInL B ds
  | _ => True
def StrInL (B : List Str) : List D → Prop
  | [] => True
  | d :: ds => StrIn B d ∧ StrInL B ds
end
theorem strInL_mem {B : List Str} : ∀ {ds : List D}, StrInL B ds ↔ ∀ d ∈ ds, StrIn B d
  | [] => by simp [StrInL]
  | d :: ds => by
    unfold StrInL
    rw [strInL_mem]
    simp
theorem strIn_tup {B : List Str} {ds : List D} : StrIn B (.tup ds) ↔ ∀ d ∈ ds, StrIn B d := by
  rw [show StrIn B (.tup ds) = StrInL B ds by unfold StrIn; rfl]
  exact strInL_mem
theorem strIn_str {B : List Str} {x : Str} : StrIn B (.str x) ↔ x ∈ B := by
  rw [show StrIn B (.str x) = (x ∈ B) by unfold StrIn; rfl]
/-- d stands beside the box, its texts are short and lie in B -/
def Good (a l : Addr) (B : List Str) (d : D) (M : DM) : Prop := OkH a l M d ∧ StrIn B d
section
variable {a l p : Addr} {B : List Str} {d : D} {ds es : List D} {M M' : DM}
theorem good_mono : Mono (Good a l B) := fun d M M' g h => ⟨h.1.grow g, h.2⟩
theorem Good.grow (h : Good a l B d M) (g : Grow M M') : Good a l B d M' := ⟨h.1.grow g, h.2⟩
theorem Good.growH (h : Good a l B d M) (g : GrowH a l M M') : Good a l B d M' := ⟨h.1.growH g, h.2⟩
theorem Good.put {xs : List D} (h : Good a l B d M) (h1 : p ≠ a) (h2 : p ≠ l) : Good a l B d (mset M p (.ls xs)) := ⟨h.1.put h1 h2, h.2⟩
theorem good_tup (h : ∀ d ∈ ds, Good a l B d M) : Good a l B (.tup ds) M := ⟨OkH.tup fun d hd => (h d hd).1, strIn_tup.2 fun d hd => (h d hd).2⟩
theorem Good.mem (h : Good a l B (.tup ds) M) : ∀ d ∈ ds, Good a l B d M := fun d hd => ⟨h.1.mem d hd, strIn_tup.1 h.2 d hd⟩
theorem good_str {x : Str} (h : x.length ≤ 64) (hB : x ∈ B) : Good a l B (.str x) M := ⟨OkH.str h, strIn_str.2 hB⟩
theorem good_ob {xs : List D} (h1 : p ≠ a) (h2 : p ≠ l) (e : M p = some (.ls xs)) : Good a l B (.ob p) M := ⟨OkH.ob h1 h2 e, by unfold StrIn; trivial⟩
theorem good_app (h : ∀ d ∈ ds, Good a l B d M) (h' : ∀ d ∈ es, Good a l B d M) : ∀ d ∈ ds ++ es, Good a l B d M := fun d hd => by
  rcases List.mem_append.mp hd with hd | hd
  · exact h d hd
  · exact h' d hd
theorem good_one {x : D} (h : Good a l B x M) : ∀ d ∈ [x], Good a l B d M := fun d hd => by
  rw [List.mem_singleton.mp hd]
  exact h
end
def fWith : List D → Option D
  | [.tup (.str k :: r), x] => if r.length ≤ 1000 then some (.tup (if k = "do" then (D.str k :: r).take 3 ++ [x] else (D.str k :: r).take 2 ++ [x] ++ (D.str k :: r).drop 3)) else none
  | _ => none
def spChanged (n : Nat) : DSp := fun ds M Q => ∃ (a l : Addr) (B : List Str) (bds : List D) (site : Str) (b : Addr) (due : List D), ds = [.tup bds, .str site, .ob b] ∧ isBody n (.tup bds) = true ∧ Good a l B (.tup bds) M ∧ M b = some (.ls due) ∧ due.length ≤ 20 ∧ (∀ d ∈ due, Good a l B d M) ∧ ∀ M' ys, Grow M M' → ys.length ≤ 200 → (∀ d ∈ ys, Good a l B d M') → Q (.tup ys) M'
section
variable {P : Program} {w : World} {K : PySem.W.Frag} {mg : Str → Option Value} {base : Heap}
theorem ok__law_with_args (T : Tx K mg w) : FnOk P w K mg base CX0 1 T.f__law_with_args.f T.f__law_with_args.fd ["item", "args"] (LSp K (spF fWith)) := by
  refine dfun T.f__law_with_args.F sc__law_with_args (fun ds M Q ⟨v, e, _⟩ => by
    unfold fWith at e
    split at e
    · rfl
    · cases e) fun cdv A outer s H E hr => ⟨_, (ds_one (ds_ret (d_ifE (d_eqT (hu0 hr) (d_ixA (hu1 hr) (dv 0) dint) dstr) (d_add (d_sl (dv 0) do_none (do_some dint)) (d_tup (da_cons (dv 1) da_nil))) (d_add (d_add (d_sl (dv 0) do_none (do_some dint)) (d_tup (da_cons (dv 1) da_nil))) (d_sl (dv 0) (do_some dint) do_none))))), ?_⟩
  rintro ds M Q ⟨v, e, hd, q⟩
  unfold fWith at e
  split at e
  · rename_i k r x
    split at e
    · rename_i hl
      have sz : ∀ k : Nat, k ≤ 3000 → k ≤ sizeLine := fun k h => by rw [sizeLine_eq]; omega
      have tk : ∀ n, ((D.str k :: r).take n).length ≤ 1001 := fun n => by
        rw [List.length_take, List.length_cons]
        omega
      have dk : ((D.str k :: r).drop 3).length ≤ 1001 := by
        rw [List.length_drop, List.length_cons]
        omega
      have t1 : Gv (dTup (dCons (dVar 1) dNil)) (dstart ["item", "args"].length [D.tup (.str k :: r), x]) M (.tup [x]) := gv_tup (ga_cons (gv_var rfl) ga_nil) (sz 1 (by decide))
      refine s_ret (v := v) (gv_eq (gv_if (v := .tup ((D.str k :: r).take 3 ++ [x])) (w := .tup ((D.str k :: r).take 2 ++ [x] ++ (D.str k :: r).drop 3)) (b := decide (k = "do")) (gt_t (gv_op (gv_op (gv_var rfl) gv_c (rv_ixT (atI_nat (n := 0) rfl))) gv_c rv_eqS)) (fun hc => ?_) (fun hc => ?_)) ?_) q
      · exact gv_op (gv_eq (gv_sl (gv_var rfl) go_none (go_some gv_c)) (congrArg D.tup (dcut_to (n := 3)))) t1 (rv_catT (by have := tk 3; rw [List.length_singleton]; exact sz _ (by omega)))
      · refine gv_op (gv_op (gv_eq (gv_sl (gv_var rfl) go_none (go_some gv_c)) (congrArg D.tup (dcut_to (n := 2)))) t1 (rv_catT (by have := tk 2; rw [List.length_singleton]; exact sz _ (by omega)))) (gv_eq (gv_sl (gv_var rfl) (go_some gv_c) go_none) (congrArg D.tup (dcut_from (n := 3)))) (rv_catT ?_)
        have := tk 2
        rw [List.length_append, List.length_singleton]
        exact sz _ (by omega)
      · cases e
        by_cases z : k = "do"
        · rw [decide_eq_true z, if_pos rfl, if_pos z]
        · rw [decide_eq_false z, if_neg (by simp), if_neg z]
    · cases e
  · cases e
theorem peel_if {ρ : DSt} {M : DM} {tt : DTT} {ta tb : DTE} {Q : DK} {b : Bool} (h : Gt tt ρ M b) (h1 : b = true → ∀ M1, Grow M M1 → ta ρ M1 Q) (h2 : b = false → ∀ M1, Grow M M1 → tb ρ M1 Q) : dIf tt ta tb ρ M Q := h M (Grow.refl M) _ fun M1 g1 => by
  cases b with
  | true =>
    rw [if_pos rfl]
    exact h1 rfl M1 g1
  | false =>
    rw [if_neg (by simp)]
    exact h2 rfl M1 g1
theorem peel_lcG {ρ : DSt} {M : DM} {E : DEnds} {ti : DTI} {tt : DTT} {te : DTE} {i j : Nat} {vs : List Nat} {all : List D} (hi : Gi ti ρ M all) (q : ∀ M1 stay, Grow M M1 → (∀ M2, Grow M1 M2 → stay M2) → dComp stay tt te (dwipe ρ vs) i (fun acc M2 => ∀ p, M2 p = none → E.nx (ρ.set j (some (.ob p))) (mset M2 p (.ls acc))) all [] M1) : dAsg (dLc ti i tt te vs) (dName j) E ρ M := hi M (Grow.refl M) _ q
theorem changed_step (T : Tx K mg w) {n k0 : Nat} {sp : DSp} (hsp : ∀ m, n = m + 1 → sp = spChanged m) (hk : 1 ≤ k0) (G : FnOk P w K mg base CX0 k0 T.f__law_changed.f T.f__law_changed.fd ["body", "site", "due"] (LSp K sp)) :
    FnOk P w K mg base CX0 (k0 + 1) T.f__law_changed.f T.f__law_changed.fd ["body", "site", "due"] (LSp K (spChanged n)) := by
  refine dfun T.f__law_changed.F sc__law_changed (fun ds M Q ⟨a, l, B, bds, site, b, due, e, _⟩ => by rw [e]; rfl) fun cdv A outer s H E hr => ⟨_, (ds_cons (ds_set (i := 3) sc__law_changed.nd (d_lst da_nil)) (ds_cons (ds_for PassesOwn.never rfl (di_any (dv 0)) (dg_name (i := 4) sc__law_changed.nd) (ds_cons (ds_setLc (k := 5) rfl sc__law_changed.nd (di_any (d_fn (fn := T.f__law_bodies) (ok__law_bodies T) (hr.mono (by first | decide | omega)) (da_cons (dv 4) da_nil))) (blkOk_by (own := [("one", 6)]) (N := ["body", "site", "due", "found", "item", "inner", "one"]) (sc := defScope s__law_changed) (by decide +kernel)) (by decide) (fun _ _ _ _ _ => pg_name (i := 6) sc__law_changed.nd rfl (Or.inl rfl)) (fun _ _ _ _ _ => dts_nil) (fun _ _ _ _ _ => (d_fn (fn := T.f__law_changed) G (hr.mono (by first | decide | omega)) (da_cons (dv 6) (da_cons (dv 1) (da_cons (dv 2) da_nil))))) (sw_true rfl rfl rfl (by decide +kernel))) (ds_one (ds_set (i := 3) sc__law_changed.nd (d_add (dv 3) (d_ifE (d_eqT (hu0 hr) (d_ixA (hu1 hr) (dv 4) dint) (dv 1)) (dv 2) (d_lst (da_cons (d_add (d_sl (dv 4) do_none (do_some (d_sub (d_len T.b_len (da_cons (dv 4) da_nil)) (d_len T.b_len (da_cons (dv 5) da_nil))))) (d_tuple T.b_tuple (da_cons (dv 5) da_nil))) da_nil)))))))) (ds_one (ds_ret (d_tuple T.b_tuple (da_cons (dv 3) da_nil)))))), ?_⟩
  rintro ds M Q ⟨a, l, B, bds, site, b, due, rfl, hbody, hgood, eb, l20, gdue, q⟩
  refine s_seq (s_setL (xs := []) (gl_lst ga_nil (Nat.zero_le _)) fun M1 p g1 np e1 => ?_)
  dsimp only
  have blen : bds.length ≤ 10 ∧ (n = 0 → bds = []) ∧ ∀ m, n = m + 1 → ∀ it ∈ bds, isItem it = true ∧ ((bodiesD it).getD []).all (isBody m) = true := by
    cases n with
    | zero =>
      have : bds.isEmpty = true := hbody
      have e : bds = [] := by cases bds with
        | nil => rfl
        | cons => cases this
      exact ⟨by rw [e]; simp, fun _ => e, fun m h => nomatch h⟩
    | succ m =>
      rw [isBody_eq, Bool.and_eq_true] at hbody
      have := of_decide_eq_true hbody.1
      refine ⟨by omega, fun h => (nomatch h), fun m2 h it hit => ?_⟩
      cases h
      have z := List.all_eq_true.mp hbody.2 it hit
      rw [Bool.and_eq_true] at z
      exact z
  have sz : ∀ k : Nat, k ≤ 3000 → k ≤ sizeLine := fun k h => by rw [sizeLine_eq]; omega
  refine s_seq (s_forT (all := bds) (gv_var rfl) fun M2 g2 => ?_)
  refine loopI (fun r ρ M3 => Grow M M3 ∧ (∀ it ∈ r, it ∈ bds) ∧ ∃ (p : Addr) (o4 o5 o6 : Option D) (acc : List D), ρ = [some (.tup bds), some (.str site), some (.ob b), some (.ob p), o4, o5, o6] ∧ M3 p = some (.ls acc) ∧ acc.length + 20 * r.length ≤ 200 ∧ ∀ d ∈ acc, Good a l B d M3)
    (fun ρ M3 ⟨g3, _, p, o4, o5, o6, acc, eρ, ep, hl, ga⟩ => ?_) (fun it r ρ M3 ⟨g3, hr3, p, o4, o5, o6, acc, eρ, ep, hl, ga⟩ N hN => ?_) _ _ _ ⟨g1.trans g2, fun it h => h, p, none, none, none, [], rfl, g2 _ _ e1, by have := blen.1; simp; omega, fun d h => nomatch h⟩
  · subst eρ
    exact (s_ret (gv_cb (ga_cons (gv_var rfl) ga_nil) (rc_tupL ep)) fun M4 g4 => q M4 acc (g3.trans g4) (by omega) fun d hd => (ga d hd).grow g4 : dRet (dCB dTupOf (dCons (dVar 3) dNil)) { nx := fun _ M' => Q .non M', rt := Q } [some (.tup bds), some (.str site), some (.ob b), some (.ob p), o4, o5, o6] M3)
  · subst eρ
    have hit := hr3 it List.mem_cons_self
    obtain ⟨m, rfl⟩ : ∃ m, n = m + 1 := by
      cases n with
      | zero =>
        rw [blen.2.1 rfl] at hit
        cases hit
      | succ m => exact ⟨m, rfl⟩
    obtain ⟨hi, hbs⟩ := blen.2.2 m rfl it hit
    rw [hsp m rfl]
    obtain ⟨dz, ei, i0, i1, _⟩ := shape_ix (item_shape hi)
    have gi := hgood.mem it hit
    obtain ⟨kk, rr, ekr⟩ : ∃ k r, it = .tup (.str k :: r) := by
      cases item_shape hi with
      | stp => exact ⟨_, _, rfl⟩
      | iff => exact ⟨_, _, rfl⟩
      | whl => exact ⟨_, _, rfl⟩
      | cal => exact ⟨_, _, rfl⟩
    have len5 : dz.length ≤ 5 := by
      cases item_shape hi with
      | stp => cases ei; simp
      | iff => cases ei; simp
      | whl => cases ei; simp
      | cal => cases ei; simp
    have bl2 : ((bodiesD it).getD []).length ≤ 2 := by
      cases item_shape hi with
      | stp => exact Nat.zero_le _
      | iff => exact Nat.le_refl 2
      | whl => exact Nat.le_succ 1
      | cal => exact Nat.zero_le _
    have bsub : ∀ x ∈ (bodiesD it).getD [], isBody m x = true ∧ Good a l B x M := fun x hx => by
      refine ⟨List.all_eq_true.mp hbs x hx, ?_⟩
      cases item_shape hi with
      | stp => cases hx
      | iff => exact gi.mem x (List.mem_of_mem_drop (i := 3) hx)
      | whl => exact gi.mem x (List.mem_of_mem_drop (i := 3) hx)
      | cal => cases hx
    have bE : fBodiesL [it] = (bodiesD it).getD [] := rfl
    refine s_seq (peel_lcG (ρ := [some (.tup bds), some (.str site), some (.ob b), some (.ob p), some it, o5, o6]) (gi_new (gx_call (ga_cons (gv_var rfl) ga_nil) fun M' _ => ⟨kk, rr, by rw [ekr]⟩)) fun M4 stay g4 hs => ?_)
    rw [bE]
    refine compI (fun r2 acc2 M5 => Grow M4 M5 ∧ (∀ x ∈ r2, x ∈ (bodiesD it).getD []) ∧ acc2.length + r2.length ≤ 2 ∧ ∀ d ∈ acc2, Good a l B d M5) (fun acc2 M5 ⟨g5, _, h2, ga2⟩ => ?_) (fun x r2 acc2 M5 ⟨g5, hr2, h2, ga2⟩ N2 hN2 => ?_) _ _ _ ⟨Grow.refl _, fun x h => h, by simpa using bl2, fun d h => nomatch h⟩
    · intro p5 np5
      dsimp only
      have g35 := (g4.trans g5).trans (Grow.new np5 (o := .ls acc2))
      have ep5 : mset M5 p5 (.ls acc2) p5 = some (.ls acc2) := mset_same
      have ga5 : ∀ d ∈ acc2, Good a l B d (mset M5 p5 (.ls acc2)) := fun d hd => (ga2 d hd).grow (Grow.new np5)
      generalize mset M5 p5 (.ls acc2) = M6 at g35 ep5 ga5 ⊢
      rw [List.length_nil, Nat.add_zero] at h2
      rw [List.length_cons] at hl
      have ep6 := g35 _ _ ep
      have fin : ∀ (M7 : DM) (p7 : Addr) (ds : List D), Grow M6 M7 → M7 p7 = some (.ls ds) → ds.length ≤ 20 → (∀ d ∈ ds, Good a l B d M7) → dAdd (.ob p) (.ob p7) M7 fun d M8 => N [some (.tup bds), some (.str site), some (.ob b), some d, some it, some (.ob p5), o6] M8 := fun M7 p7 ds g7 e7 l7 gd7 => by
        unfold dAdd
        dsimp only
        rw [g7 _ _ ep6, e7]
        dsimp only
        refine ⟨sz _ (by omega), fun p8 np8 => hN _ _ True.intro ⟨(g3.trans (g35.trans g7)).trans (Grow.new np8), fun x h => hr3 x (List.mem_cons_of_mem _ h), p8, _, _, _, acc ++ ds, rfl, mset_same, by rw [List.length_append]; omega, fun d hd => ?_⟩⟩
        rcases List.mem_append.mp hd with hd | hd
        · exact (ga d hd).grow ((g35.trans g7).trans (Grow.new np8))
        · exact (gd7 d hd).grow (Grow.new np8)
      refine peel_asg (peel_op ?_)
      refine (gv_var (v := .ob p) rfl : Gv (dVar 3) [some (.tup bds), some (.str site), some (.ob b), some (.ob p), some it, some (.ob p5), o6] M6 (.ob p)) M6 (Grow.refl _) _ fun M7 g7 => ?_
      refine peel_if (b := decide (st1 it = site)) (gt_t (gv_op (gv_op (gv_var rfl) gv_c (v := .str (st1 it)) (by rw [show Rv dIx it (.int 1) M7 (.str (st1 it)) = Rv dIx (.tup dz) (.int 1) M7 (.str (st1 it)) by rw [← ei]]; exact rv_ixT (atI_nat (n := 1) i1))) (gv_var rfl) rv_eqS)) (fun _ M8 g8 => ?_) (fun _ M8 g8 => ?_)
      · refine (gv_var (v := .ob b) rfl : Gv (dVar 2) [some (.tup bds), some (.str site), some (.ob b), some (.ob p), some it, some (.ob p5), o6] M8 (.ob b)) M8 (Grow.refl _) _ fun M9 g9 => ?_
        have g69 := (g7.trans g8).trans g9
        exact fin M9 b due g69 ((g3.trans (g35.trans g69)) _ _ eb) l20 fun d hd => (gdue d hd).grow (g3.trans (g35.trans g69))
      · have e5 := (g7.trans g8) _ _ ep5
        let nit : D := .tup (dcut dz none (some ((dz.length : Int) - (acc2.length : Int))) ++ acc2)
        have lc : (dcut dz none (some ((dz.length : Int) - (acc2.length : Int)))).length ≤ 5 := by
          unfold dcut
          rw [List.length_take, List.length_drop]
          omega
        refine (gl_lst (vs := [nit]) (ga_cons (gv_op (gv_sl (vs := dz) (gv_eq (gv_var rfl) ei) go_none (go_some (gv_op (gv_cb (ga_cons (gv_eq (gv_var rfl) ei) ga_nil) rc_lenT) (gv_cb (ga_cons (gv_var rfl) ga_nil) (rc_lenL e5)) rv_sub))) (gv_cb (ga_cons (gv_var rfl) ga_nil) (rc_tupL e5)) (rv_catT (sz _ (by omega)))) ga_nil) (sz 1 (by decide)) : Gx _ [some (.tup bds), some (.str site), some (.ob b), some (.ob p), some it, some (.ob p5), o6] M8 [nit]) M8 (Grow.refl _) _ fun M9 p9 g9 np9 e9 => ?_
        have g69 := (g7.trans g8).trans g9
        refine fin M9 p9 [nit] g69 e9 (by simp) fun d hd => ?_
        rw [List.mem_singleton.mp hd]
        refine good_tup (good_app (fun d hd => ?_) fun d hd => (ga5 d hd).grow g69)
        rw [ei] at gi
        exact (gi.mem d (dcut_sub d hd)).grow (g3.trans (g35.trans g69))
    · have hx := bsub x (hr2 x List.mem_cons_self)
      obtain ⟨xs, rfl⟩ := body_tup hx.1
      unfold dYes
      dsimp only
      rw [if_pos rfl]
      have g05 := g3.trans (g4.trans g5)
      rw [List.length_cons] at h2
      refine (ga_cons (gv_var (v := .tup xs) rfl) (ga_cons (gv_var (v := .str site) rfl) (ga_cons (gv_var (v := .ob b) rfl) ga_nil)) : Ga (dCons (dVar 6) (dCons (dVar 1) (dCons (dVar 2) dNil))) [some (.tup bds), some (.str site), some (.ob b), some (.ob p), some it, o5, some (.tup xs)] M5 [.tup xs, .str site, .ob b]) M5 (Grow.refl _) _ fun M6 g6 => ?_
      refine ⟨a, l, B, xs, site, b, due, rfl, hx.1, hx.2.grow (g05.trans g6), (g05.trans g6) _ _ eb, l20, fun d hd => (gdue d hd).grow (g05.trans g6), fun M7 ys g7 l7 gy => ?_⟩
      refine ⟨sz _ (by omega), hs _ ((g5.trans g6).trans g7), hN2 _ M7 ⟨(g5.trans g6).trans g7, fun z h => hr2 z (List.mem_cons_of_mem _ h), by rw [List.length_append, List.length_singleton]; omega, good_app (fun d hd => (ga2 d hd).grow (g6.trans g7)) (good_one (good_tup gy))⟩⟩
theorem ok_changed0 (T : Tx K mg w) : FnOk P w K mg base CX0 2 T.f__law_changed.f T.f__law_changed.fd ["body", "site", "due"] (LSp K (spChanged 0)) :=
  changed_step T (k0 := 1) (sp := fun _ _ _ => False) (fun m h => nomatch h) (Nat.le_refl _) (dfun T.f__law_changed.F sc__law_changed (fun _ _ _ h => h.elim) fun _ _ _ _ _ _ _ => ⟨fun _ _ _ => False, PSs.none, fun _ _ _ h => h.elim⟩)
theorem ok_changed (T : Tx K mg w) : ∀ n, FnOk P w K mg base CX0 (n + 2) T.f__law_changed.f T.f__law_changed.fd ["body", "site", "due"] (LSp K (spChanged n))
  | 0 => ok_changed0 T
  | n + 1 => changed_step T (sp := spChanged n) (fun m e => by cases e; rfl) (by omega) (ok_changed T n)
end
end DL

/-! D11: what comes instead of an item. -/
namespace DL
open PySem PySem.Spec PyProof.Rows L2
def baseT : List Str := ["do", "if", "while", "call", "library", "proc", "zz", "a", "zy", "abcdefghi", "Aa", ""]
def spInstead : DSp := fun ds M Q => ∃ (a l c : Addr) (B : List Str) (it : D) (nb ob : Addr) (names others : List Str), ds = [.ob a, it, .ob nb, .ob ob] ∧ isItem it = true ∧ (∀ x ∈ (bodiesD it).getD [], ∃ xs, x = .tup xs ∧ xs.length ≤ 10) ∧ Good a l B it M ∧ Drw a l c M ∧ M nb = some (.ls (names.map D.str)) ∧ M ob = some (.ls (others.map D.str)) ∧ nb ≠ a ∧ nb ≠ l ∧ ob ≠ a ∧ ob ≠ l ∧
  names ≠ [] ∧ others ≠ [] ∧ names.length ≤ 1000 ∧ others.length ≤ 1000 ∧ (∀ x ∈ names, x ∈ B ∧ x.length ≤ 64) ∧ (∀ x ∈ others, x ∈ B ∧ x.length ≤ 64) ∧ (∀ x ∈ baseT, x ∈ B) ∧ ∀ M' p xs, GrowH a l M M' → Drw a l c M' → M' p = some (.ls xs) → xs.length ≤ 20 → (∀ d ∈ xs, Good a l B d M') → Q (.ob p) M'
theorem gv_ixX {ρ : DSt} {M : DM} {ta tb : DTE} {vs : List D} {i : Int} {v : D} (h : Gx ta ρ M vs) (hb : Gv tb ρ M (.int i)) (e : atI vs i = some v) : Gv (dOp dIx ta tb) ρ M v := fun M1 g1 Q q => h M1 g1 _ fun M2 p g2 np ep => hb M2 (g1.trans g2) _ fun M3 g3 => by
  unfold dIx
  dsimp only
  rw [g3 _ _ ep]
  dsimp only
  rw [e]
  exact q M3 (g2.trans g3)
theorem s_setW {ρ : DSt} {M : DM} {E : DEnds} {t : DTA} {R : D → DM → Prop} {n i : Nat} (mono : Mono R) (h : Gw t ρ M n R) (hl : n ≤ sizeLine) (q : ∀ M1 p ds, Grow M M1 → M p = none → M1 p = some (.ls ds) → ds.length = n → (∀ d ∈ ds, R d M1) → E.nx (ρ.set i (some (.ob p))) M1) : dAsg (dLst t) (dName i) E ρ M := h M (Grow.refl M) _ fun M2 ds g2 el rs => ⟨by omega, fun p np => q _ p ds (g2.trans (Grow.new np)) (fresh_of g2 np) mset_same el fun d hd => mono _ _ _ (Grow.new np) (rs d hd)⟩
theorem peel_tup1 {ρ : DSt} {M : DM} {A : DTE} {Q : DK} (h : A ρ M fun x M1 => 1 ≤ sizeLine ∧ Q (.tup [x]) M1) : dTup (dCons A dNil) ρ M Q := h
theorem peel_lst1 {ρ : DSt} {M : DM} {A : DTE} {Q : DK} (h : A ρ M fun x M1 => 1 ≤ sizeLine ∧ ∀ p, M1 p = none → Q (.ob p) (mset M1 p (.ls [x]))) : dLst (dCons A dNil) ρ M Q := h
section
variable {P : Program} {w : World} {K : PySem.W.Frag} {mg : Str → Option Value} {base : Heap}
theorem ok__law_instead (T : Tx K mg w) : FnOk P w K mg base CX0 4 T.f__law_instead.f T.f__law_instead.fd ["draw", "item", "names", "others"] (LSp K spInstead) := by
  refine dfun T.f__law_instead.F sc__law_instead (fun ds M Q ⟨a, l, c, B, it, nb, ob, names, others, e, _⟩ => by rw [e]; rfl) fun cdv A outer s H E hr => ⟨_, (ds_cons (ds_par3 (i := 4) (j := 5) (l := 6) rfl sc__law_instead.nd (by decide) (by decide) (by decide) (da_cons (d_fn (fn := T.f__law_take) (ok__law_take T) (hr.mono (by first | decide | omega)) (da_cons (dv 0) (da_cons dint da_nil))) (da_cons (d_fn (fn := T.f__law_args) (ok__law_args T) (hr.mono (by first | decide | omega)) (da_cons (dv 1) da_nil)) (da_cons (d_fn (fn := T.f__law_pick) (ok__law_pick T) (hr.mono (by first | decide | omega)) (da_cons (dv 0) (da_cons (dv 2) da_nil))) da_nil)))) (ds_cons (ds_if (d_ltT (dv 4) dint) (ds_one (ds_ret (d_ifE (d_eqT (hu0 hr) (dv 4) dint) (d_lst da_nil) (d_lst (da_cons (dv 1) (da_cons (dv 1) da_nil)))))) ds_nil) (ds_cons (ds_if (d_eqT (hu0 hr) (dv 4) dint) (ds_one (ds_ret (d_ifE (d_neT (hu0 hr) (d_fn (fn := T.f__law_bodies) (ok__law_bodies T) (hr.mono (by first | decide | omega)) (da_cons (dv 1) da_nil)) (d_lst da_nil)) (d_list T.b_list (da_cons (d_ixA (hu1 hr) (d_fn (fn := T.f__law_bodies) (ok__law_bodies T) (hr.mono (by first | decide | omega)) (da_cons (dv 1) da_nil)) (d_neg dint)) da_nil)) (d_lst (da_cons (dv 1) da_nil))))) ds_nil) (ds_cons (ds_if (d_eqT (hu0 hr) (dv 4) dint) (ds_one (ds_ret (d_lst (da_cons (d_add (d_add (d_sl (dv 1) do_none (do_some dint)) (d_tup (da_cons (d_fn (fn := T.f__law_pick) (ok__law_pick T) (hr.mono (by first | decide | omega)) (da_cons (dv 0) (da_cons (dv 3) da_nil))) da_nil))) (d_sl (dv 1) (do_some dint) do_none)) da_nil)))) ds_nil) (ds_cons (ds_if (PW.pt (d_and (d_ltT (dv 4) dint) (d_and1 (d_neT (hu0 hr) (d_ixA (hu1 hr) (dv 1) dint) dstr)))) (ds_cons (ds_set (i := 7) sc__law_instead.nd (d_fn (fn := T.f__law_take) (ok__law_take T) (hr.mono (by first | decide | omega)) (da_cons (dv 0) (da_cons (d_add (d_len T.b_len (da_cons (dv 5) da_nil)) dint) da_nil)))) (ds_one (ds_ret (d_lst (da_cons (d_fn (fn := T.f__law_with_args) (ok__law_with_args T) (hr.mono (by first | decide | omega)) (da_cons (dv 1) (da_cons (d_add (d_add (d_sl (dv 5) do_none (do_some (dv 7))) (d_ifE (d_ltT (dv 4) dint) (d_tup (da_cons (dv 6) da_nil)) (d_tup da_nil))) (d_sl (dv 5) (do_some (d_add (dv 7) (d_int T.b_int (da_cons (d_gt (dv 4) dint) da_nil)))) do_none)) da_nil))) da_nil))))) ds_nil) (ds_cons (ds_if (d_ltT (dv 4) dint) (ds_one (ds_ret (d_lst (da_cons (d_tup (da_cons dstr (da_cons (d_ixA (hu1 hr) (dv 1) dint) (da_cons (d_fn (fn := T.f__law_pick) (ok__law_pick T) (hr.mono (by first | decide | omega)) (da_cons (dv 0) (da_cons (dv 3) da_nil))) da_nil)))) da_nil)))) ds_nil) (ds_cons (ds_if (d_eqT (hu0 hr) (dv 4) dint) (ds_one (ds_ret (d_lst (da_cons (d_tup (da_cons dstr (da_cons dstr (da_cons (d_tup da_nil) (da_cons (d_tup (da_cons (dv 1) da_nil)) (da_cons (d_tup da_nil) da_nil)))))) da_nil)))) ds_nil) (ds_cons (ds_if (d_eqT (hu0 hr) (dv 4) dint) (ds_one (ds_ret (d_lst (da_cons (d_tup (da_cons dstr (da_cons dstr (da_cons (d_sl (dv 5) do_none (do_some dint)) (da_cons (d_tup (da_cons (dv 1) da_nil)) da_nil))))) da_nil)))) ds_nil) (ds_cons (ds_if (d_eqT (hu0 hr) (dv 4) dint) (ds_one (ds_ret (d_lst (da_cons (d_tup (da_cons dstr (da_cons (d_ixA (hu1 hr) (dv 1) dint) (da_cons (dv 6) (da_cons (d_sl (dv 5) do_none (do_some dint)) da_nil))))) da_nil)))) ds_nil) (ds_cons (ds_if (d_eqT (hu0 hr) (dv 4) dint) (ds_one (ds_ret (d_lst (da_cons (d_ifE (d_inT (hu1 hr) (d_ixA (hu1 hr) (dv 1) dint) (d_lst (da_cons dstr (da_cons dstr da_nil)))) (d_add (d_add (d_sl (dv 1) do_none (do_some dint)) (d_tup (da_cons (d_fn (fn := T.f__law_pick) (ok__law_pick T) (hr.mono (by first | decide | omega)) (da_cons (dv 0) (da_cons (dv 3) da_nil))) da_nil))) (d_sl (dv 1) (do_some dint) do_none)) (dv 1)) da_nil)))) ds_nil) (ds_cons (ds_set (i := 8) sc__law_instead.nd (d_lst (da_cons (d_lst (da_cons (d_sl (dv 1) do_none (do_some (d_neg dint))) da_nil)) (da_cons (d_lst (da_cons (d_list T.b_list (da_cons (dv 1) da_nil)) da_nil)) (da_cons (d_lst (da_cons (d_add (dv 1) (d_tup (da_cons (d_tup da_nil) da_nil))) da_nil)) (da_cons (d_lst (da_cons (d_add (d_tup (da_cons dstr da_nil)) (d_sl (dv 1) (do_some dint) do_none)) da_nil)) (da_cons (d_lst (da_cons (d_tup (da_cons dstr (da_cons dstr (da_cons dstr (da_cons (d_list T.b_list (da_cons (dv 5) da_nil)) da_nil))))) da_nil)) (da_cons (d_lst (da_cons (d_tup (da_cons dstr (da_cons dstr (da_cons dstr (da_cons (d_add (dv 5) (d_tup (da_cons dnon da_nil))) da_nil))))) da_nil)) (da_cons (d_lst (da_cons dnon da_nil)) (da_cons (d_lst (da_cons (d_tup (da_cons dstr (da_cons dstr (da_cons (dv 6) da_nil)))) da_nil)) da_nil)))))))))) (ds_one (ds_ret (d_fn (fn := T.f__law_pick) (ok__law_pick T) (hr.mono (by first | decide | omega)) (da_cons (dv 0) (da_cons (dv 8) da_nil)))))))))))))))), ?_⟩
  rintro ds M Q ⟨a, l, c, B, it, nb, ob, names, others, rfl, hi, hbs, hgood, dr, en, eo, n1, n2, o1, o2, nne, one', nl, ol, hn, ho, hB, q⟩
  refine s_seq (peel_par3 (c_take (ρ := [some (.ob a), some it, some (.ob nb), some (.ob ob), none, none, none, none, none]) (a := a) (n := 13) (ga_cons (gv_var rfl) (ga_cons gv_c ga_nil)) (by decide) (by decide) dr fun M1 way g1 dr1 hway => ?_))
  obtain ⟨as, ea, l3, _, _⟩ := labs_row hi
  have good1 := hgood.growH g1
  refine (gv_call (ga_cons (gv_var (v := it) rfl) ga_nil) (rc_spF (v := .tup (as.map D.str)) ea (okL_one good1.1.ok)) : Gv (dCall (spF fArgs) (dCons (dVar 1) dNil)) [some (.ob a), some it, some (.ob nb), some (.ob ob), none, none, none, none, none] M1 (.tup (as.map D.str))) M1 (Grow.refl _) _ fun M2 g2 => ?_
  refine c_pick (ρ := [some (.ob a), some it, some (.ob nb), some (.ob ob), none, none, none, none, none]) (a := a) (l := l) (c := c) (s := nb) (xs := names.map D.str) (ga_cons (gv_var rfl) (ga_cons (gv_var rfl) ga_nil)) (dr1.grow g2) (g2 _ _ (g1.get n1 n2 en)) n1 n2 (by simpa using nne) (by rw [List.length_map]; omega) fun M3 d3 g3 dr3 hd3 => ?_
  obtain ⟨other, hother, rfl⟩ := List.mem_map.mp hd3
  have g03 : GrowH a l M M3 := (g1.trans g2.h).trans g3
  clear g1 g2 g3 dr1 good1
  dsimp only
  have good3 := hgood.growH g03
  obtain ⟨dz, ei, i0, i1, _⟩ := shape_ix (item_shape hi)
  have len5 : dz.length ≤ 5 := by
    cases item_shape hi with
    | stp => cases ei; simp
    | iff => cases ei; simp
    | whl => cases ei; simp
    | cal => cases ei; simp
  have len3 : 3 ≤ dz.length := by
    cases item_shape hi with
    | stp => cases ei; simp
    | iff => cases ei; simp
    | whl => cases ei; simp
    | cal => cases ei; simp
  have gargs : Good a l B (.tup (as.map D.str)) M3 := by
    cases item_shape hi with
    | stp s l2 as2 => rw [← (Option.some.inj ea : D.tup (as2.map D.str) = .tup (as.map D.str))]; exact good3.mem _ (by simp)
    | iff s as2 x y => rw [← (Option.some.inj ea : D.tup (as2.map D.str) = .tup (as.map D.str))]; exact good3.mem _ (by simp)
    | whl s as2 x => rw [← (Option.some.inj ea : D.tup (as2.map D.str) = .tup (as.map D.str))]; exact good3.mem _ (by simp)
    | cal =>
      have : as = [] := by
        have z : D.tup [] = .tup (as.map D.str) := Option.some.inj ea
        injection z with z
        exact List.map_eq_nil_iff.mp z.symm
      rw [this]
      exact good_tup fun d h => nomatch h
  have gdz : ∀ d ∈ dz, Good a l B d M3 := by
    rw [ei] at good3
    exact good3.mem
  have gother : Good a l B (.str other) M3 := good_str (hn other hother).2 (hn other hother).1
  have gbase : ∀ x ∈ baseT, Good a l B (.str x) M3 := fun x hx => good_str (by
    have : ∀ x ∈ baseT, x.length ≤ 64 := by decide +kernel
    exact this x hx) (hB x hx)
  have sz : ∀ k : Nat, k ≤ 3000 → k ≤ sizeLine := fun k h => by rw [sizeLine_eq]; omega
  have fin : ∀ {M4 : DM} {p : Addr} {xs : List D}, GrowH a l M3 M4 → Drw a l c M4 → M4 p = some (.ls xs) → xs.length ≤ 20 → (∀ d ∈ xs, Good a l B d M3) → Q (.ob p) M4 := fun g d e hl hg => q _ _ _ (g03.trans g) d e hl fun d hd => (hg d hd).growH g
  have ret : ∀ {te : DTE} {xs : List D} {ρ : DSt} {M4 : DM} {E : DEnds}, E.rt = Q → Grow M3 M4 → Gx te ρ M4 xs → xs.length ≤ 20 → (∀ d ∈ xs, Good a l B d M3) → dRet te E ρ M4 := fun hE g h hl hg => s_retL h fun M5 p g5 _ ep => by
    rw [hE]
    exact fin (g.trans g5).h (dr3.grow (g.trans g5)) ep hl hg
  have pick : ∀ {ρ : DSt} {M4 : DM} {KK : DK}, ρ[0]? = some (some (.ob a)) → ρ[3]? = some (some (.ob ob)) → Grow M3 M4 → (∀ M5 x, GrowH a l M3 M5 → Drw a l c M5 → Good a l B (.str x) M3 → KK (.str x) M5) → dCall spPick (dCons (dVar 0) (dCons (dVar 3) dNil)) ρ M4 KK := fun {ρ M4 KK} r0 r3 g kk => by
    refine c_pick (a := a) (l := l) (c := c) (s := ob) (xs := others.map D.str) (ga_cons (gv_var r0) (ga_cons (gv_var r3) ga_nil)) (dr3.grow g) (g _ _ (GrowH.get g03 o1 o2 eo)) o1 o2 (by simpa using one') (by rw [List.length_map]; omega) fun M5 d5 g5 dr5 hd5 => ?_
    obtain ⟨x, hx, rfl⟩ := List.mem_map.mp hd5
    exact kk M5 x (g.h.trans g5) dr5 (good_str (ho x hx).2 (ho x hx).1)
  let ρ : DSt := [some (.ob a), some it, some (.ob nb), some (.ob ob), some (.int way), some (.tup (as.map D.str)), some (.str other), none, none]
  have vw : ∀ M', Gv (dVar 4) ρ M' (.int way) := fun M' => gv_var rfl
  have vi : ∀ M', Gv (dVar 1) ρ M' it := fun M' => gv_var rfl
  have vz : ∀ M', Gv (dVar 1) ρ M' (.tup dz) := fun M' => gv_eq (gv_var rfl) ei
  have va : ∀ M', Gv (dVar 5) ρ M' (.tup (as.map D.str)) := fun M' => gv_var rfl
  have vo : ∀ M', Gv (dVar 6) ρ M' (.str other) := fun M' => gv_var rfl
  have good1 : ∀ d ∈ [it], Good a l B d M3 := good_one good3
  refine s_guard (ρ := ρ) (gt_t (gv_op (vw _) gv_c rv_lt)) (fun _ M4 g4 => ?_) fun _ M4 g4 => ?_
  · by_cases z : (way : Int) = 0
    · exact ret rfl g4 (xs := []) (gx_if (gt_t (gv_op (vw _) gv_c rv_eqI)) (fun _ => gl_lst ga_nil (Nat.zero_le _)) fun h => absurd z (of_decide_eq_false h)) (Nat.zero_le _) fun d h => nomatch h
    · refine ret rfl g4 (xs := [it, it]) (gx_if (gt_t (gv_op (vw _) gv_c rv_eqI)) (fun h => absurd (of_decide_eq_true h) z) fun _ => gl_lst (ga_cons (vi _) (ga_cons (vi _) ga_nil)) (sz 2 (by decide))) (by simp) fun d hd => ?_
      simp only [List.mem_cons, List.not_mem_nil, or_false, or_self] at hd
      rw [hd]
      exact good3
  have sub : Grow M3 M4 := g4
  have bx : ∀ M', Gx (dCall (spL preItem fBodiesL) (dCons (dVar 1) dNil)) ρ M' ((bodiesD it).getD []) := fun M' => gx_call (ga_cons (vi _) ga_nil) fun M' _ => by
    cases item_shape hi with
    | stp => exact ⟨_, _, rfl⟩
    | iff => exact ⟨_, _, rfl⟩
    | whl => exact ⟨_, _, rfl⟩
    | cal => exact ⟨_, _, rfl⟩
  have gbod : ∀ x ∈ (bodiesD it).getD [], Good a l B x M3 := fun x hx => by
    cases item_shape hi with
    | stp => cases hx
    | iff => exact good3.mem x (List.mem_of_mem_drop (i := 3) hx)
    | whl => exact good3.mem x (List.mem_of_mem_drop (i := 3) hx)
    | cal => cases hx
  refine s_guard (ρ := ρ) (gt_t (gv_op (vw _) gv_c rv_eqI)) (fun _ M5 g5 => ?_) fun _ M5 g5 => ?_
  · cases eb : (bodiesD it).getD [] with
    | nil =>
      exact ret rfl (g4.trans g5) (xs := [it]) (gx_if (b := false) (gt_t (gv_eq (gv_neL (bx _)) (by rw [eb]; rfl))) (fun h => nomatch h) fun _ => gl_lst (ga_cons (vi _) ga_nil) (sz 1 (by decide))) (by simp) good1
    | cons y ys =>
      obtain ⟨lst, hlst⟩ : ∃ lst, ((bodiesD it).getD []).getLast? = some lst := ⟨_, List.getLast?_eq_some_getLast (by rw [eb]; simp)⟩
      have hmem := List.mem_of_getLast? hlst
      obtain ⟨xs, rfl, hl⟩ := hbs lst hmem
      exact ret rfl (g4.trans g5) (xs := xs) (gx_if (b := true) (gt_t (gv_eq (gv_neL (bx _)) (by rw [eb]; rfl))) (fun _ => gl_listT (gv_ixX (bx _) gv_neg1 (atI_last hlst))) fun h => nomatch h) (by omega) (gbod _ hmem).mem
  have one : ∀ {M5 : DM} {x : D} {E : DEnds}, E.rt = Q → GrowH a l M3 M5 → Drw a l c M5 → Good a l B x M3 → 1 ≤ sizeLine ∧ ∀ p, M5 p = none → E.rt (.ob p) (mset M5 p (.ls [x])) := fun hE g d h => ⟨sz 1 (by decide), fun p np => by
    rw [hE]
    exact fin (g.trans (Grow.new np).h) (d.grow (Grow.new np)) mset_same (by simp) (good_one h)⟩
  have swap : ∀ {n m : Nat} {i j : Int} {M4 : DM} {KK : DK}, i = (n : Int) → j = (m : Int) → Grow M3 M4 → (∀ M5 xs, GrowH a l M3 M5 → Drw a l c M5 → (∀ d ∈ xs, Good a l B d M3) → KK (.tup xs) M5) → dOp dAdd (dOp dAdd (dSl (dVar 1) dNoPart (dPart (dC (.int i)))) (dTup (dCons (dCall spPick (dCons (dVar 0) (dCons (dVar 3) dNil))) dNil))) (dSl (dVar 1) (dPart (dC (.int j))) dNoPart) ρ M4 KK := fun {n m i j M4 KK} ei' ej g kk => by
    subst ei' ej
    refine peel_op (peel_op ?_)
    refine (gv_eq (gv_sl (vz M4) go_none (go_some gv_c)) (congrArg D.tup (dcut_to (n := n)))) M4 (Grow.refl _) _ fun M5 g5 => ?_
    refine peel_tup1 (pick rfl rfl (g.trans g5) fun M6 x g6 dr6 gx => ⟨sz 1 (by decide), rv_catT ?_ M6 (Grow.refl _) _ ?_⟩)
    · rw [List.length_take, List.length_singleton]
      exact sz _ (by omega)
    · refine (gv_eq (gv_sl (vz M6) (go_some gv_c) go_none) (congrArg D.tup (dcut_from (n := m)))) M6 (Grow.refl _) _ fun M7 g7 => rv_catT ?_ M7 (Grow.refl _) _ (kk M7 _ (g6.trans g7.h) (dr6.grow g7) ?_)
      · rw [List.length_append, List.length_take, List.length_drop, List.length_singleton]
        exact sz _ (by omega)
      · exact good_app (good_app (fun d hd => gdz d (List.mem_of_mem_take hd)) (good_one gx)) fun d hd => gdz d (List.mem_of_mem_drop hd)
  refine s_guard (ρ := ρ) (gt_t (gv_op (vw _) gv_c rv_eqI)) (fun _ M6 g6 => ?_) fun _ M6 g6 => ?_
  · exact peel_ret (peel_lst1 (swap (n := 1) (m := 2) rfl rfl ((g4.trans g5).trans g6) fun M7 xs g7 d7 gx => one rfl g7 d7 (good_tup gx)))
  have g36 := (g4.trans g5).trans g6
  clear g4 g5 g6 sub
  obtain ⟨kk, rr, ekr, lrr⟩ : ∃ k r, it = .tup (.str k :: r) ∧ r.length ≤ 4 := by
    cases item_shape hi with
    | stp => exact ⟨_, _, rfl, by simp⟩
    | iff => exact ⟨_, _, rfl, by simp⟩
    | whl => exact ⟨_, _, rfl, by simp⟩
    | cal => exact ⟨_, _, rfl, by simp⟩
  have cutG : ∀ {ds : List D} {lo hi : Option Int}, (∀ d ∈ ds, Good a l B d M3) → ∀ d ∈ dcut ds lo hi, Good a l B d M3 := fun h d hd => h d (dcut_sub d hd)
  have cutL : ∀ {ds : List D} {lo hi : Option Int}, (dcut ds lo hi).length ≤ ds.length := fun {ds lo hi} => by
    unfold dcut
    rw [List.length_take, List.length_drop]
    omega
  have gas := gargs.mem
  have asl : (as.map D.str).length ≤ 3 := by rw [List.length_map]; exact l3
  refine s_guard (ρ := ρ) (gt_and (gt_t (gv_op (vw _) gv_c rv_lt)) fun _ => gt_t (gv_op (gv_op (vz _) gv_c (rv_ixT (atI_nat (n := 0) i0))) gv_c rv_neS)) (fun _ M7 g7 => ?_) fun _ M7 g7 => ?_
  · refine s_seq (peel_asg (c_take (ρ := ρ) (a := a) (n := as.length + 1) (ga_cons (gv_var rfl) (ga_cons (gv_eq (gv_op (gv_cb (ga_cons (va _) ga_nil) rc_lenT) gv_c rv_add) (by rw [List.length_map]; rfl)) ga_nil)) (by omega) (by omega) (dr3.grow (g36.trans g7)) fun M8 k g8 dr8 hk => ?_))
    have g38 : GrowH a l M3 M8 := (g36.trans g7).h.trans g8
    dsimp only
    let ρ7 : DSt := [some (.ob a), some it, some (.ob nb), some (.ob ob), some (.int way), some (.tup (as.map D.str)), some (.str other), some (.int k), none]
    let X : D := .tup (dcut (as.map D.str) none (some (k : Int)) ++ (if (way : Int) < 6 then [.str other] else []) ++ dcut (as.map D.str) (some ((k : Int) + (if decide ((4 : Int) < way) then 1 else 0))) none)
    have gX : Good a l B X M3 := good_tup (good_app (good_app (cutG gas) (by
      split
      · exact good_one gother
      · exact fun d h => nomatch h)) (cutG gas))
    have vX : Gv (dOp dAdd (dOp dAdd (dSl (dVar 5) dNoPart (dPart (dVar 7))) (dIf (dT (dOp dLt (dVar 4) (dC (.int 6)))) (dTup (dCons (dVar 6) dNil)) (dTup dNil))) (dSl (dVar 5) (dPart (dOp dAdd (dVar 7) (dCB dIntC (dCons (dOp dGt (dVar 4) (dC (.int 4))) dNil)))) dNoPart)) ρ7 M8 X := by
      refine gv_op (gv_op (gv_sl (gv_var rfl) go_none (go_some (gv_var rfl))) (gv_eq (gv_if (v := .tup [.str other]) (w := .tup []) (gt_t (gv_op (gv_var rfl) gv_c rv_lt)) (fun _ => gv_tup (ga_cons (gv_var rfl) ga_nil) (sz 1 (by decide))) fun _ => gv_tup ga_nil (Nat.zero_le _)) ?_) (rv_catT ?_)) (gv_sl (gv_var rfl) (go_some (gv_op (gv_var rfl) (gv_cb (ga_cons (gv_op (gv_var rfl) gv_c rv_gt) ga_nil) rc_intB) rv_add)) go_none) (rv_catT ?_)
      · by_cases z : (way : Int) < 6
        · rw [decide_eq_true z, if_pos rfl, if_pos z]
        · rw [decide_eq_false z, if_neg (by simp), if_neg z]
      · have := cutL (ds := as.map D.str) (lo := none) (hi := some (k : Int))
        split
        · rw [List.length_singleton]
          exact sz _ (by omega)
        · exact sz _ (by simp; omega)
      · have h1 := cutL (ds := as.map D.str) (lo := none) (hi := some (k : Int))
        have h2 := cutL (ds := as.map D.str) (lo := some ((k : Int) + (if decide ((4 : Int) < way) then 1 else 0))) (hi := none)
        rw [List.length_append]
        have h3 : (if (way : Int) < 6 then [D.str other] else []).length ≤ 1 := by split <;> simp
        exact sz _ (by omega)
    have eW : fWith [it, X] = some (.tup (if kk = "do" then (D.str kk :: rr).take 3 ++ [X] else (D.str kk :: rr).take 2 ++ [X] ++ (D.str kk :: rr).drop 3)) := by
      rw [ekr]
      show (if rr.length ≤ 1000 then _ else _) = _
      rw [if_pos (by omega)]
    have gkr : ∀ d ∈ (D.str kk :: rr), Good a l B d M3 := by
      rw [ekr] at good3
      exact good3.mem
    refine peel_ret (peel_lst1 ((gv_call (ga_cons (gv_var (v := it) rfl) (ga_cons vX ga_nil)) (rc_spF eW (by
      unfold OkL
      exact ⟨(good3.growH g38).1.ok, okL_one (gX.growH g38).1.ok⟩)) : Gv (dCall (spF fWith) (dCons (dVar 1) (dCons _ dNil))) ρ7 M8 _) M8 (Grow.refl _) _ fun M9 g9 => one rfl (g38.trans g9.h) (dr8.grow g9) (good_tup ?_)))
    split
    · exact good_app (fun d hd => gkr d (List.mem_of_mem_take hd)) (good_one gX)
    · exact good_app (good_app (fun d hd => gkr d (List.mem_of_mem_take hd)) (good_one gX)) fun d hd => gkr d (List.mem_of_mem_drop hd)
  have g37 := g36.trans g7
  clear g7 g36
  have gst : Good a l B (.str (st1 it)) M3 := gdz _ (List.mem_of_getElem? i1)
  have v1 : ∀ M', Gv (dOp dIx (dVar 1) (dC (.int 1))) ρ M' (.str (st1 it)) := fun M' => gv_op (vz _) gv_c (rv_ixT (atI_nat (n := 1) i1))
  have goods : ∀ {ds : List D}, (∀ d ∈ ds, Good a l B d M3) → Good a l B (.tup ds) M3 := fun h => good_tup h
  have gnil : Good a l B (.tup []) M3 := good_tup fun d h => nomatch h
  have c3 : ∀ {x y z : D}, Good a l B x M3 → Good a l B y M3 → Good a l B z M3 → ∀ d ∈ [x, y, z], Good a l B d M3 := fun h1 h2 h3 d hd => by
    simp only [List.mem_cons, List.not_mem_nil, or_false] at hd
    rcases hd with rfl | rfl | rfl
    · exact h1
    · exact h2
    · exact h3
  have c4 : ∀ {x y z u : D}, Good a l B x M3 → Good a l B y M3 → Good a l B z M3 → Good a l B u M3 → ∀ d ∈ [x, y, z, u], Good a l B d M3 := fun h1 h2 h3 h4 d hd => by
    rcases List.mem_cons.mp hd with rfl | hd
    · exact h1
    · exact c3 h2 h3 h4 d hd
  have a3 : ∀ M', Gv (dSl (dVar 5) dNoPart (dPart (dC (.int 3)))) ρ M' (.tup (dcut (as.map D.str) none (some 3))) := fun M' => gv_sl (va _) go_none (go_some gv_c)
  have ga3 : Good a l B (.tup (dcut (as.map D.str) none (some 3))) M3 := good_tup (cutG gas)
  have bs : ∀ (x : Str), x ∈ baseT → Good a l B (.str x) M3 := gbase
  refine s_guard (ρ := ρ) (gt_t (gv_op (vw _) gv_c rv_lt)) (fun _ M8 g8 => ?_) fun _ M8 g8 => ?_
  · exact peel_ret (peel_lst1 (peel_tup3 (ρ := ρ) gv_c (v1 _) fun M9 g9 => pick rfl rfl ((g37.trans g8).trans g9) fun M10 x g10 d10 gx => ⟨sz 3 (by decide), one rfl g10 d10 (good_tup (c3 (bs "call" (by decide)) gst gx))⟩))
  refine s_guard (ρ := ρ) (gt_t (gv_op (vw _) gv_c rv_eqI)) (fun _ M9 g9 => ?_) fun _ M9 g9 => ?_
  · refine ret rfl ((g37.trans g8).trans g9) (xs := [.tup [.str "if", .str "zz", .tup [], .tup [it], .tup []]]) (gl_lst (ga_cons (gv_tup (ga_cons gv_c (ga_cons gv_c (ga_cons (gv_tup ga_nil (Nat.zero_le _)) (ga_cons (gv_tup (ga_cons (vi _) ga_nil) (sz 1 (by decide))) (ga_cons (gv_tup ga_nil (Nat.zero_le _)) ga_nil))))) (sz 5 (by decide))) ga_nil) (sz 1 (by decide))) (by simp) (good_one (good_tup fun d hd => ?_))
    rcases List.mem_cons.mp hd with rfl | hd
    · exact bs "if" (by decide)
    · exact c4 (bs "zz" (by decide)) gnil (good_tup good1) gnil d hd
  refine s_guard (ρ := ρ) (gt_t (gv_op (vw _) gv_c rv_eqI)) (fun _ M10 g10 => ?_) fun _ M10 g10 => ?_
  · exact ret rfl (((g37.trans g8).trans g9).trans g10) (xs := [.tup [.str "while", .str "zz", .tup (dcut (as.map D.str) none (some 3)), .tup [it]]]) (gl_lst (ga_cons (gv_tup (ga_cons gv_c (ga_cons gv_c (ga_cons (a3 _) (ga_cons (gv_tup (ga_cons (vi _) ga_nil) (sz 1 (by decide))) ga_nil)))) (sz 4 (by decide))) ga_nil) (sz 1 (by decide))) (by simp) (good_one (good_tup (c4 (bs "while" (by decide)) (bs "zz" (by decide)) ga3 (good_tup good1))))
  refine s_guard (ρ := ρ) (gt_t (gv_op (vw _) gv_c rv_eqI)) (fun _ M11 g11 => ?_) fun _ M11 g11 => ?_
  · exact ret rfl ((((g37.trans g8).trans g9).trans g10).trans g11) (xs := [.tup [.str "do", .str (st1 it), .str other, .tup (dcut (as.map D.str) none (some 3))]]) (gl_lst (ga_cons (gv_tup (ga_cons gv_c (ga_cons (v1 _) (ga_cons (vo _) (ga_cons (a3 _) ga_nil)))) (sz 4 (by decide))) ga_nil) (sz 1 (by decide))) (by simp) (good_one (good_tup (c4 (bs "do" (by decide)) gst gother ga3)))
  have g311 := (((g37.trans g8).trans g9).trans g10).trans g11
  clear g37 g8 g9 g10 g11
  have z0 : ∀ M', Gv (dOp dIx (dVar 1) (dC (.int 0))) ρ M' (.str (st0 it)) := fun M' => gv_op (vz _) gv_c (rv_ixT (atI_nat (n := 0) i0))
  refine s_guard (ρ := ρ) (gt_t (gv_op (vw _) gv_c rv_eqI)) (fun _ M12 g12 => ?_) fun _ M12 g12 => ?_
  · refine peel_ret (peel_lst1 (peel_if (b := decide (st0 it ∈ (["do", "call"] : List Str))) (gt_t (gv_inLst (ss := ["do", "call"]) (z0 _) (ga_cons gv_c (ga_cons gv_c ga_nil)) (by decide))) (fun _ M13 g13 => swap (n := 2) (m := 3) rfl rfl ((g311.trans g12).trans g13) fun M14 xs g14 d14 gx => one rfl g14 d14 (good_tup gx)) fun _ M13 g13 => vi M13 M13 (Grow.refl _) _ fun M14 g14 => one rfl (((g311.trans g12).trans g13).trans g14).h (dr3.grow (((g311.trans g12).trans g13).trans g14)) good3))
  have g312 := g311.trans g12
  let R : D → DM → Prop := fun d M' => ∃ (p : Addr) (xs : List D), d = .ob p ∧ M' p = some (.ls xs) ∧ p ≠ a ∧ p ≠ l ∧ xs.length ≤ 20 ∧ ∀ e ∈ xs, Good a l B e M'
  have mono : Mono R := fun d M1 M2 g ⟨p, xs, e, ep, h1, h2, hl, hg⟩ => ⟨p, xs, e, g _ _ ep, h1, h2, hl, fun x hx => (hg x hx).grow g⟩
  have dr12 := dr3.grow g312
  have lst1 : ∀ {te : DTE}, Ge te ρ M12 (Good a l B) → Ge (dLst (dCons te dNil)) ρ M12 R := fun {te} h M13 g13 Q q => peel_lst1 (h M13 g13 _ fun M14 d g14 gd => ⟨sz 1 (by decide), fun p np => q _ _ (g14.trans (Grow.new np)) ⟨p, [d], rfl, mset_same, ((dr12.grow (g13.trans g14)).new np).1, ((dr12.grow (g13.trans g14)).new np).2.1, by simp, good_one (gd.grow (Grow.new np))⟩⟩)
  have val : ∀ {te : DTE} {v : D}, Gv te ρ M12 v → Good a l B v M3 → Ge te ρ M12 (Good a l B) := fun h hg => ge_v h fun M' g' => hg.grow (g312.trans g')
  have newo : ∀ {te : DTE} {xs : List D}, Gx te ρ M12 xs → Ge te ρ M12 (Good a l B) := fun h M13 g13 Q q => h M13 g13 _ fun M14 p g14 np ep => q M14 _ g14 (good_ob ((dr12.grow g13).new np).1 ((dr12.grow g13).new np).2.1 ep)
  refine s_seq (s_setW (i := 8) (ρ := ρ) (R := R) (n := 8) mono (gw_cons mono (lst1 ?_) (gw_cons mono (lst1 ?_) (gw_cons mono (lst1 ?_) (gw_cons mono (lst1 ?_) (gw_cons mono (lst1 ?_) (gw_cons mono (lst1 ?_) (gw_cons mono (lst1 ?_) (gw_cons mono (lst1 ?_) gw_nil)))))))) (sz 8 (by decide)) fun M13 p8 ls g13 np8 ep8 l8 r8 => ?_)
  · refine val (v := .tup (dcut dz none (some (-1)))) (gv_sl (vz _) go_none (go_some gv_neg1)) (good_tup (cutG gdz))
  · exact newo (gl_listT (vz _))
  · exact val (v := .tup (dz ++ [.tup []])) (gv_op (vz _) (gv_tup (ga_cons (gv_tup ga_nil (Nat.zero_le _)) ga_nil) (sz 1 (by decide))) (rv_catT (by rw [List.length_singleton]; exact sz _ (by omega)))) (good_tup (good_app gdz (good_one gnil)))
  · exact val (v := .tup ([.str "proc"] ++ dcut dz (some 1) none)) (gv_op (gv_tup (ga_cons gv_c ga_nil) (sz 1 (by decide))) (gv_sl (vz _) (go_some gv_c) go_none) (rv_catT (by have := cutL (ds := dz) (lo := some 1) (hi := none); rw [List.length_singleton]; exact sz _ (by omega)))) (good_tup (good_app (good_one (bs "proc" (by decide))) (cutG gdz)))
  · intro M13 g13 Q q
    refine peel_tup4d (ρ := ρ) gv_c gv_c gv_c fun M14 g14 => newo (gl_listT (va _)) M14 (g13.trans g14) _ fun M15 d g15 gd => ⟨sz 4 (by decide), q _ _ (g14.trans g15) (good_tup fun e he => ?_)⟩
    have gM : ∀ {x : D}, Good a l B x M3 → Good a l B x M15 := fun h => h.grow (g312.trans (g13.trans (g14.trans g15)))
    simp only [List.mem_cons, List.not_mem_nil, or_false] at he
    rcases he with rfl | rfl | rfl | rfl
    · exact gM (bs "do" (by decide))
    · exact gM (bs "zz" (by decide))
    · exact gM (bs "a" (by decide))
    · exact gd
  · exact val (v := .tup [.str "do", .str "zz", .str "a", .tup (as.map D.str ++ [.non])]) (gv_tup (ga_cons gv_c (ga_cons gv_c (ga_cons gv_c (ga_cons (gv_op (va _) (gv_tup (ga_cons gv_c ga_nil) (sz 1 (by decide))) (rv_catT (by rw [List.length_singleton]; exact sz _ (by omega)))) ga_nil)))) (sz 4 (by decide))) (good_tup (c4 (bs "do" (by decide)) (bs "zz" (by decide)) (bs "a" (by decide)) (good_tup (good_app gas (good_one (x := .non) ⟨True.intro, True.intro⟩)))))
  · exact val gv_c ⟨True.intro, True.intro⟩
  · exact val (v := .tup [.str "call", .str "zy", .str other]) (gv_tup (ga_cons gv_c (ga_cons gv_c (ga_cons (vo _) ga_nil))) (sz 3 (by decide))) (good_tup (c3 (bs "call" (by decide)) (bs "zy" (by decide)) gother))
  · have nn := dr12.new np8
    have g313 := g312.trans g13
    dsimp only
    refine peel_ret (c_pick (ρ := [some (.ob a), some it, some (.ob nb), some (.ob ob), some (.int way), some (.tup (as.map D.str)), some (.str other), none, some (.ob p8)]) (a := a) (l := l) (c := c) (s := p8) (xs := ls) (ga_cons (gv_var rfl) (ga_cons (gv_var rfl) ga_nil)) (dr12.grow g13) ep8 nn.1 nn.2.1 (fun z => by rw [z] at l8; cases l8) (by omega) fun M14 d g14 dr14 hd => ?_)
    obtain ⟨p, xs, rfl, ep, h1, h2, hl, hg⟩ := r8 d hd
    exact q M14 p xs (g03.trans (g313.h.trans g14)) dr14 (GrowH.get g14 h1 h2 ep) hl fun e he => (hg e he).growH g14
end
end DL

/-! D12: a library is bent. -/
namespace DL
open PySem PySem.Spec PyProof.Rows L2
section
variable {a l : Addr} {B : List Str} {M : DM}
theorem good_body {it : D} (h : Good a l B it M) : ∀ x ∈ (bodiesD it).getD [], Good a l B x M := fun x hx => by
  unfold bodiesD at hx
  split at hx
  · split at hx
    · exact h.mem x (List.mem_cons_of_mem _ (List.mem_of_mem_drop (show x ∈ List.drop _ _ from hx)))
    · cases hx
  · cases hx
theorem items_good : ∀ (n : Nat) (d : D), isBody n d = true → Good a l B d M → ∀ it ∈ itemsD n d, Good a l B it M
  | 0, d, _, _, it, h => by cases d <;> cases h
  | n + 1, .tup xs, hb, g, it, h => by
    rw [isBody_eq, Bool.and_eq_true] at hb
    have hb := List.all_eq_true.mp hb.2
    obtain ⟨x, hx, h⟩ := List.mem_flatMap.mp (show it ∈ xs.flatMap _ from h)
    have gx := g.mem x hx
    rcases List.mem_cons.mp h with rfl | h
    · exact gx
    · obtain ⟨b, hbb, h⟩ := List.mem_flatMap.mp h
      have := hb x hx
      rw [Bool.and_eq_true] at this
      exact items_good n b (List.all_eq_true.mp this.2 b hbb) (good_body gx b hbb) it h
  | n + 1, .non, hb, _, _, _ => nomatch hb
  | n + 1, .bl _, hb, _, _, _ => nomatch hb
  | n + 1, .int _, hb, _, _, _ => nomatch hb
  | n + 1, .str _, hb, _, _, _ => nomatch hb
  | n + 1, .ob _, hb, _, _, _ => nomatch hb
  | n + 1, .ty _, hb, _, _, _ => nomatch hb
theorem items_bods : ∀ (n : Nat) (d : D), isBody n d = true → ∀ it ∈ itemsD n d, isItem it = true ∧ ∀ x ∈ (bodiesD it).getD [], ∃ xs, x = .tup xs ∧ xs.length ≤ 10
  | 0, d, _, it, h => by cases d <;> cases h
  | n + 1, .tup xs, hb, it, h => by
    rw [isBody_eq, Bool.and_eq_true] at hb
    have hb := List.all_eq_true.mp hb.2
    obtain ⟨x, hx, h⟩ := List.mem_flatMap.mp (show it ∈ xs.flatMap _ from h)
    have hx := hb x hx
    rw [Bool.and_eq_true] at hx
    have hall := List.all_eq_true.mp hx.2
    rcases List.mem_cons.mp h with rfl | h
    · refine ⟨hx.1, fun b hbb => ?_⟩
      have := hall b hbb
      obtain ⟨ys, rfl⟩ := body_tup this
      exact ⟨ys, rfl, body_le this⟩
    · obtain ⟨b, hbb, h⟩ := List.mem_flatMap.mp h
      exact items_bods n b (hall b hbb) it h
  | n + 1, .non, hb, _, _ => nomatch hb
  | n + 1, .bl _, hb, _, _ => nomatch hb
  | n + 1, .int _, hb, _, _ => nomatch hb
  | n + 1, .str _, hb, _, _ => nomatch hb
  | n + 1, .ob _, hb, _, _ => nomatch hb
  | n + 1, .ty _, hb, _, _ => nomatch hb
theorem labs_good {it : D} (hi : isItem it = true) (h : Good a l B it M) : ∀ x ∈ labs it, x ∈ B.filter nameS := fun x hx => by
  have args : ∀ as : List Str, ArgsOk as → Good a l B (.tup (as.map D.str)) M → ∀ x ∈ (as.map D.str).map strD, x ∈ B.filter nameS := fun as ha g x hx => by
    rw [List.map_map] at hx
    obtain ⟨y, hy, rfl⟩ := List.mem_map.mp hx
    exact List.mem_filter.mpr ⟨strIn_str.1 (g.mem (.str y) (List.mem_map.mpr ⟨y, hy, rfl⟩)).2, List.all_eq_true.mp ha.2 y hy⟩
  cases item_shape hi with
  | stp s l2 as hs hl ha =>
    have hx : x ∈ (as.map D.str).map strD ++ [l2] := hx
    rcases List.mem_append.mp hx with hx | hx
    · exact args as ha (h.mem _ (by simp)) x hx
    · rw [List.mem_singleton.mp hx]
      exact List.mem_filter.mpr ⟨strIn_str.1 (h.mem (.str l2) (by simp)).2, hl⟩
  | iff s as b1 b2 hs ha =>
    rw [labs_if] at hx
    exact args as ha (h.mem _ (by simp)) x (by rw [List.map_map]; exact List.mem_map.mpr ⟨x, hx, rfl⟩)
  | whl s as b1 hs ha =>
    rw [labs_whl] at hx
    exact args as ha (h.mem _ (by simp)) x (by rw [List.map_map]; exact List.mem_map.mpr ⟨x, hx, rfl⟩)
  | cal s h2 hs hh =>
    exact nomatch (show x ∈ ([] : List Str) from hx)
theorem flat_le {f : D → List D} : ∀ {ps : List D} {p : D}, p ∈ ps → (f p).length ≤ (ps.flatMap f).length
  | x :: ps, p, h => by
    rw [List.flatMap_cons, List.length_append]
    rcases List.mem_cons.mp h with rfl | h
    · omega
    · have := flat_le (f := f) h
      omega
theorem lib_okH {ps : List D} (h : isLib (.tup [.str "library", .tup ps]) = true) : OkH a l M (.tup [.str "library", .tup ps]) := OkH.tup fun e he => by
  have lok := lib_ok h
  simp only [List.mem_cons, List.not_mem_nil, or_false] at he
  rcases he with rfl | rfl
  · exact OkH.str (by decide +kernel)
  · refine OkH.tup fun p hp => ?_
    obtain ⟨x, b, rfl, hx, hb⟩ := proc_shape (List.all_eq_true.mp lok.pr p hp)
    refine OkH.tup fun e he => ?_
    simp only [List.mem_cons, List.not_mem_nil, or_false] at he
    rcases he with rfl | rfl | rfl
    · exact OkH.str (by decide +kernel)
    · exact OkH.str (name_len hx)
    · exact body_ok _ 3 _ hb
end
section
variable {ρ : DSt} {M : DM} {E : DEnds} {v0 v1 v2 v3 : D} {e0 e1 e2 e3 te : DTE} {xs : List D} {Q : DK}
theorem gx_rev {p : Addr} (h : Gv te ρ M (.ob p)) (e : M p = some (.ls xs)) : Gx (dRevL te) ρ M xs.reverse := fun M1 g1 Q q => h M1 g1 _ fun M2 g2 => by
  dsimp only
  rw [msq_ls ((g1.trans g2) _ _ e)]
  exact fun p np => q _ p (g2.trans (Grow.new np)) (fresh_of g2 np) mset_same
theorem peel_call3 {sp : DSp} (h0 : Gv e0 ρ M v0) (h1 : Gv e1 ρ M v1) (q : ∀ M1, Grow M M1 → e2 ρ M1 fun x M2 => sp [v0, v1, x] M2 Q) : dCall sp (dCons e0 (dCons e1 (dCons e2 dNil))) ρ M Q := h0 M (Grow.refl M) _ fun M1 g1 => h1 M1 g1 _ fun M2 g2 => q M2 (g1.trans g2)
theorem peel_call4 {sp : DSp} (h0 : Gv e0 ρ M v0) (h1 : Gv e1 ρ M v1) (q : ∀ M1, Grow M M1 → e2 ρ M1 fun x M2 => e3 ρ M2 fun y M3 => sp [v0, v1, x, y] M3 Q) : dCall sp (dCons e0 (dCons e1 (dCons e2 (dCons e3 dNil)))) ρ M Q := h0 M (Grow.refl M) _ fun M1 g1 => h1 M1 g1 _ fun M2 g2 => q M2 (g1.trans g2)
theorem c_pickX {a l c : Addr} (h0 : Gv e0 ρ M (.ob a)) (h1 : Gx e1 ρ M xs) (dr : Drw a l c M) (hn : xs ≠ []) (h2 : xs.length < 1000000) (q : ∀ M' d, GrowH a l M M' → Drw a l c M' → d ∈ xs → Q d M') : dCall spPick (dCons e0 (dCons e1 dNil)) ρ M Q :=
  h0 M (Grow.refl M) _ fun M1 g1 => h1 M1 g1 _ fun M2 p g2 np ep => ⟨a, l, c, p, xs, rfl, (dr.grow g1).grow g2, ep, ((dr.grow g1).new np).1, ((dr.grow g1).new np).2.1, hn, h2, fun M' d g dr' hd => q M' d ((g1.trans g2).h.trans g) dr' hd⟩
theorem c_shuf {a l c s : Addr} (h0 : Gv e0 ρ M (.ob a)) (h1 : Gv e1 ρ M (.ob s)) (dr : Drw a l c M) (e : M s = some (.ls xs)) (n1 : s ≠ a) (n2 : s ≠ l) (h2 : xs.length < 1000000) (q : ∀ M' p ys, GrowH a l M M' → Drw a l c M' → hide a l M p = none → p ≠ a → p ≠ l → M' p = some (.ls ys) → ys.Perm xs → Q (.ob p) M') : dCall spShuf (dCons e0 (dCons e1 dNil)) ρ M Q :=
  h0 M (Grow.refl M) _ fun M1 g1 => h1 M1 g1 _ fun M2 g2 => ⟨a, l, c, s, xs, rfl, dr.grow (g1.trans g2), (g1.trans g2) _ _ e, n1, n2, h2, fun M' p ys g d hp n1 n2 ep pm => q M' p ys ((g1.trans g2).h.trans g) d (fresh_of (g1.trans g2).h hp) n1 n2 ep pm⟩
end
def spBent : DSp := fun ds M Q => ∃ (a l c : Addr) (B : List Str) (ps : List D), ds = [.ob a, .tup [.str "library", .tup ps]] ∧ isLib (.tup [.str "library", .tup ps]) = true ∧ Good a l B (.tup [.str "library", .tup ps]) M ∧ (∀ x ∈ baseT, x ∈ B) ∧ (B.filter nameS).length < 64 ∧ Drw a l c M ∧
  ∀ M' d, GrowH a l M M' → Drw a l c M' → Good a l B d M' → Q d M'
section
variable {P : Program} {w : World} {K : PySem.W.Frag} {mg : Str → Option Value} {base : Heap}
theorem ok__law_bent (T : Tx K mg w) : FnOk P w K mg base CX0 7 T.f__law_bent.f T.f__law_bent.fd ["draw", "library"] (LSp K spBent) := by
  have G3 := ok_litems (P := P) (base := base) T 3 (Nat.le_refl _)
  have G4 := ok_changed (P := P) (base := base) T 3
  refine dfun T.f__law_bent.F sc__law_bent (fun ds M Q ⟨a, l, c, B, ps, e, _⟩ => by rw [e]; rfl) fun cdv A outer s H E hr => ⟨_, (ds_cons (ds_par3 (i := 2) (j := 3) (l := 4) rfl sc__law_bent.nd (by decide) (by decide) (by decide) (da_cons (d_list T.b_list (da_cons (d_ixA (hu1 hr) (dv 1) dint) da_nil)) (da_cons (d_fn (fn := T.f__law_take) (ok__law_take T) (hr.mono (by first | decide | omega)) (da_cons (dv 0) (da_cons (d_len T.b_len (da_cons (d_ixA (hu1 hr) (dv 1) dint) da_nil)) da_nil))) (da_cons (d_fn (fn := T.f__law_take) (ok__law_take T) (hr.mono (by first | decide | omega)) (da_cons (dv 0) (da_cons dint da_nil))) da_nil)))) (ds_cons (ds_set (i := 3) sc__law_bent.nd (d_ifE (d_neT (hu0 hr) (d_ixA (hu1 hr) (d_ixA (hu1 hr) (dv 2) (dv 3)) dint) (d_tup da_nil)) (dv 3) dint)) (ds_cons (ds_asg (d_ixA (hu1 hr) (dv 2) (dv 3)) (dg_tup (n := 3) rfl (dgs_cons (dg_name (i := 5) sc__law_bent.nd) (dgs_cons (dg_name (i := 6) sc__law_bent.nd) (dgs_cons (dg_name (i := 7) sc__law_bent.nd) dgs_nil))))) (ds_cons (ds_set (i := 8) sc__law_bent.nd (d_fn (fn := T.f__law_items) G3 (hr.mono (by first | decide | omega)) (da_cons (dv 7) da_nil))) (ds_cons (ds_if (d_eqT (hu0 hr) (dv 8) (d_lst da_nil)) (ds_one (ds_ret (d_tup (da_cons dstr (da_cons (d_tuple T.b_tuple (da_cons (d_revL (dv 2)) da_nil)) da_nil))))) ds_nil) (ds_cons (ds_set (i := 9) sc__law_bent.nd (d_fn (fn := T.f__law_pick) (ok__law_pick T) (hr.mono (by first | decide | omega)) (da_cons (dv 0) (da_cons (dv 8) da_nil)))) (ds_cons (ds_if (d_ltT (dv 4) dint) (ds_cons (ds_set (i := 10) sc__law_bent.nd (d_add (d_add (d_lc rfl sc__law_bent.nd (di_any (dv 2)) (blkOk_by (own := [("proc", 11)]) (N := ["draw", "library", "procs", "k", "way", "word", "name", "body", "items", "item", "others", "proc", "one", "at"]) (sc := defScope s__law_bent) (by decide +kernel)) (by decide) (fun _ _ _ _ _ => pg_name (i := 11) sc__law_bent.nd rfl (Or.inl rfl)) (fun _ _ _ _ _ => dts_nil) (fun _ _ _ _ _ => (d_ixA (hu1 hr) (dv 11) dint))) (d_lc rfl sc__law_bent.nd (di_any (dv 8)) (blkOk_by (own := [("one", 12)]) (N := ["draw", "library", "procs", "k", "way", "word", "name", "body", "items", "item", "others", "proc", "one", "at"]) (sc := defScope s__law_bent) (by decide +kernel)) (by decide) (fun _ _ _ _ _ => pg_name (i := 12) sc__law_bent.nd rfl (Or.inl rfl)) (fun _ _ _ _ _ => dts_nil) (fun _ _ _ _ _ => (d_ixA (hu1 hr) (dv 12) dint)))) (d_lst (da_cons dstr da_nil)))) (ds_one (ds_set (i := 7) sc__law_bent.nd (d_fn (fn := T.f__law_changed) G4 (hr.mono (by first | decide | omega)) (da_cons (dv 7) (da_cons (d_ixA (hu1 hr) (dv 9) dint) (da_cons (d_fn (fn := T.f__law_instead) (ok__law_instead T) (hr.mono (by first | decide | omega)) (da_cons (dv 0) (da_cons (dv 9) (da_cons (d_add (d_fn (fn := T.f__law_labels) (ok__law_labels T) (hr.mono (by first | decide | omega)) (da_cons (dv 1) da_nil)) (d_lst (da_cons dstr da_nil))) (da_cons (dv 10) da_nil))))) da_nil))))))) (ds_one (ds_if (d_eqT (hu0 hr) (dv 4) dint) (ds_cons (ds_set (i := 7) sc__law_bent.nd (d_fn (fn := T.f__law_changed) G4 (hr.mono (by first | decide | omega)) (da_cons (dv 7) (da_cons (d_ixA (hu1 hr) (dv 9) dint) (da_cons (d_lst da_nil) da_nil))))) (ds_cons (ds_set (i := 13) sc__law_bent.nd (d_fn (fn := T.f__law_take) (ok__law_take T) (hr.mono (by first | decide | omega)) (da_cons (dv 0) (da_cons (d_add (d_len T.b_len (da_cons (dv 7) da_nil)) dint) da_nil)))) (ds_one (ds_set (i := 7) sc__law_bent.nd (d_add (d_add (d_sl (dv 7) do_none (do_some (dv 13))) (d_tup (da_cons (dv 9) da_nil))) (d_sl (dv 7) (do_some (dv 13)) do_none)))))) (ds_one (ds_if (d_eqT (hu0 hr) (dv 4) dint) (ds_one (ds_set (i := 6) sc__law_bent.nd (d_fn (fn := T.f__law_pick) (ok__law_pick T) (hr.mono (by first | decide | omega)) (da_cons (dv 0) (da_cons (d_add (d_lc rfl sc__law_bent.nd (di_any (dv 2)) (blkOk_by (own := [("proc", 11)]) (N := ["draw", "library", "procs", "k", "way", "word", "name", "body", "items", "item", "others", "proc", "one", "at"]) (sc := defScope s__law_bent) (by decide +kernel)) (by decide) (fun _ _ _ _ _ => pg_name (i := 11) sc__law_bent.nd rfl (Or.inl rfl)) (fun _ _ _ _ _ => dts_nil) (fun _ _ _ _ _ => (d_ixA (hu1 hr) (dv 11) dint))) (d_lst (da_cons dstr (da_cons dstr (da_cons dstr (da_cons dstr (da_cons dstr da_nil))))))) da_nil))))) (ds_cons (ds_set (i := 2) sc__law_bent.nd (d_fn (fn := T.f__law_shuffled) (ok__law_shuffled T) (hr.mono (by first | decide | omega)) (da_cons (dv 0) (da_cons (dv 2) da_nil)))) (ds_one (ds_asg (d_ixA (hu1 hr) (dv 2) (dv 3)) (dg_tup (n := 3) rfl (dgs_cons (dg_name (i := 5) sc__law_bent.nd) (dgs_cons (dg_name (i := 6) sc__law_bent.nd) (dgs_cons (dg_name (i := 7) sc__law_bent.nd) dgs_nil)))))))))))) (ds_cons (ds_asg (d_tup (da_cons (dv 5) (da_cons (dv 6) (da_cons (dv 7) da_nil)))) (dg_sub (hu1 hr) (dv 2) (dv 3))) (ds_one (ds_ret (d_tup (da_cons dstr (da_cons (d_tuple T.b_tuple (da_cons (dv 2) da_nil)) da_nil))))))))))))), ?_⟩
  rintro ds M Q ⟨a, l, c, B, ps, rfl, hlib, hgood, hB, hBn, dr, q⟩
  have lok := lib_ok hlib
  have sz : ∀ k : Nat, k ≤ 3000 → k ≤ sizeLine := fun k h => by rw [sizeLine_eq]; omega
  have gps := (hgood.mem (.tup ps) (by simp)).mem
  have psl : ps.length ≤ 8 := lok.l8
  have pos : 0 < ps.length := List.length_pos_iff.mpr lok.ne
  have gbase : ∀ x ∈ baseT, ∀ M', Good a l B (.str x) M' := fun x hx M' => good_str (by
    have : ∀ x ∈ baseT, x.length ≤ 64 := by decide +kernel
    exact this x hx) (hB x hx)
  refine s_seq (peel_par3 ((gl_listT (vs := ps) (gv_op (gv_var rfl) gv_c (rv_ixT (atI_nat (n := 1) rfl))) : Gx _ [some (.ob a), some (.tup [.str "library", .tup ps]), none, none, none, none, none, none, none, none, none, none, none, none] M ps) M (Grow.refl _) _ fun M1 pp g1 np1 ep1 => ?_))
  let ρ0 : DSt := [some (.ob a), some (.tup [.str "library", .tup ps]), some (.ob pp), none, none, none, none, none, none, none, none, none, none, none]
  have np : pp ≠ a ∧ pp ≠ l ∧ pp ≠ c := dr.new np1
  refine c_take (ρ := [some (.ob a), some (.tup [.str "library", .tup ps]), none, none, none, none, none, none, none, none, none, none, none, none]) (a := a) (n := ps.length) (ga_cons (gv_var rfl) (ga_cons (gv_cb (ga_cons (gv_op (gv_var rfl) gv_c (rv_ixT (v := .tup ps) (atI_nat (n := 1) rfl))) ga_nil) rc_lenT) ga_nil)) pos (by omega) (dr.grow g1) fun M2 k0 g2 dr2 hk0 => ?_
  refine c_take (ρ := [some (.ob a), some (.tup [.str "library", .tup ps]), none, none, none, none, none, none, none, none, none, none, none, none]) (a := a) (n := 9) (ga_cons (gv_var rfl) (ga_cons gv_c ga_nil)) (by decide) (by decide) dr2 fun M3 way g3 dr3 hway => ?_
  have g03 : GrowH a l M M3 := (g1.h.trans g2).trans g3
  have ep3 : M3 pp = some (.ls ps) := GrowH.get (g2.trans g3) np.1 np.2.1 ep1
  have npM : hide a l M pp = none := by
    rw [hide_ne np.1 np.2.1]
    exact np1
  clear g1 g2 g3 dr2 ep1
  dsimp only
  obtain ⟨x0, b0, ep0, hx0, hb0⟩ := proc_shape (List.all_eq_true.mp lok.pr (ps[k0]'hk0) (List.getElem_mem hk0))
  have ei0 : ps[k0]? = some (.tup [.str "proc", .str x0, b0]) := by rw [List.getElem?_eq_getElem hk0, ep0]
  obtain ⟨bds0, rfl⟩ := body_tup hb0
  let ρ1 : DSt := [some (.ob a), some (.tup [.str "library", .tup ps]), some (.ob pp), some (.int k0), some (.int way), none, none, none, none, none, none, none, none, none]
  obtain ⟨k, hk, ek⟩ : ∃ k : Nat, k < ps.length ∧ (if (!bds0.isEmpty) = true then D.int k0 else D.int 0) = .int (k : Nat) := by
    cases bds0.isEmpty with
    | true => exact ⟨0, pos, rfl⟩
    | false => exact ⟨k0, hk0, rfl⟩
  refine s_seq (s_set (ρ := ρ1) (v := .int (k : Nat)) (gv_eq (gv_if (b := !bds0.isEmpty) (v := .int k0) (w := .int 0) (gt_t (gv_op (gv_op (gv_op (gv_var rfl) (gv_var rfl) (rv_ixL ep3 (atI_nat ei0))) gv_c (rv_ixT (v := .tup bds0) (atI_nat (n := 2) rfl))) (gv_tup ga_nil (Nat.zero_le _)) rv_neT)) (fun _ => gv_var rfl) fun _ => gv_c) ek) fun M4 g4 => ?_)
  dsimp only
  clear ei0 ep0 hx0 hb0 ek hk0
  obtain ⟨nm, b, ep, hnm, hb⟩ := proc_shape (List.all_eq_true.mp lok.pr (ps[k]'hk) (List.getElem_mem hk))
  have ei : ps[k]? = some (.tup [.str "proc", .str nm, b]) := by rw [List.getElem?_eq_getElem hk, ep]
  obtain ⟨bds, rfl⟩ := body_tup hb
  have ep4 := g4 _ _ ep3
  let ρ2 : DSt := [some (.ob a), some (.tup [.str "library", .tup ps]), some (.ob pp), some (.int k), some (.int way), none, none, none, none, none, none, none, none, none]
  refine s_seq (s_tup3 (ρ := ρ2) (gv_op (gv_var rfl) (gv_var rfl) (rv_ixL ep4 (atI_nat ei))) fun M5 g5 => ?_)
  dsimp only
  have g05 : GrowH a l M M5 := (g03.trans g4.h).trans g5.h
  have dr5 := (dr3.grow g4).grow g5
  have ep5 := g5 _ _ ep4
  clear g03 dr3 ep3 g4 ep4 g5
  have gp := gps _ (List.mem_of_getElem? ei)
  have gbd : Good a l B (.tup bds) M := gp.mem _ (by simp)
  have gnm : Good a l B (.str nm) M := gp.mem _ (by simp)
  let its := itemsD 3 (.tup bds)
  have its_few : its.length ≤ 4210 := by
    have := items_few 3 _ hb
    rw [room3] at this
    exact this
  let ρ3 : DSt := [some (.ob a), some (.tup [.str "library", .tup ps]), some (.ob pp), some (.int k), some (.int way), some (.str "proc"), some (.str nm), some (.tup bds), none, none, none, none, none, none]
  refine s_seq (s_setL (ρ := ρ3) (xs := its) (gx_call (f := fItems 3) (vs := [.tup bds]) (ga_cons (gv_var rfl) ga_nil) fun M' _ => ⟨_, rfl, hb, body_ok _ 3 _ hb⟩) fun M6 pi g6 ni6 ei6 => ?_)
  dsimp only
  have ni := dr5.new ni6
  have ep6 := g6 _ _ ep5
  have g06 : GrowH a l M M6 := g05.trans g6.h
  have dr6 := dr5.grow g6
  clear g05 dr5 ep5 g6 ni6
  let ρ4 : DSt := [some (.ob a), some (.tup [.str "library", .tup ps]), some (.ob pp), some (.int k), some (.int way), some (.str "proc"), some (.str nm), some (.tup bds), some (.ob pi), none, none, none, none, none]
  have glist : ∀ {M' : DM} {xs : List D}, (∀ d ∈ xs, Good a l B d M') → Good a l B (.tup [.str "library", .tup xs]) M' := fun h => good_tup fun d hd => by
    simp only [List.mem_cons, List.not_mem_nil, or_false] at hd
    rcases hd with rfl | rfl
    · exact gbase _ (by decide) _
    · exact good_tup h
  refine s_guard (ρ := ρ4) (gt_t (gv_eq_at (gv_var rfl) ei6)) (fun _ M7 g7 => ?_) fun hne M7 g7 => ?_
  · refine s_ret (v := .tup [.str "library", .tup ps.reverse]) (gv_tup (ga_cons gv_c (ga_cons (gv_tupOf (gx_rev (gv_var rfl) (g7 _ _ ep6))) ga_nil)) (sz 2 (by decide))) fun M8 g8 => ?_
    exact q M8 _ (g06.trans (g7.trans g8).h) (dr6.grow (g7.trans g8)) (glist fun d hd => (gps d (List.mem_reverse.mp hd)).growH (g06.trans (g7.trans g8).h))
  have hne : its ≠ [] := fun z => by rw [z] at hne; cases hne
  have ep7 := g7 _ _ ep6
  have ei7 := g7 _ _ ei6
  refine s_seq (peel_asg (c_pick (ρ := ρ4) (a := a) (l := l) (c := c) (s := pi) (xs := its) (ga_cons (gv_var rfl) (ga_cons (gv_var rfl) ga_nil)) (dr6.grow g7) ei7 ni.1 ni.2.1 hne (by omega) fun M8 it g8 dr8 hit => ?_))
  have g08 : GrowH a l M M8 := (g06.trans g7.h).trans g8
  have ep8 := GrowH.get g8 np.1 np.2.1 ep7
  have ei8 := GrowH.get g8 ni.1 ni.2.1 ei7
  clear g06 dr6 ep6 g7 ep7 ei7 ei6 g8
  dsimp only
  obtain ⟨hi, hbs⟩ := items_bods 3 _ hb it hit
  have git : Good a l B it M := items_good 3 _ hb gbd it hit
  obtain ⟨dz, edz, i0, i1, _⟩ := shape_ix (item_shape hi)
  -- the end
  have fin : ∀ {M' : DM} {p' : Addr} {xs : List D} {d6 d7 : D} {o8 o9 o10 o11 o12 o13 : Option D} {E' : DEnds}, E'.rt = Q → GrowH a l M M' → Drw a l c M' → hide a l M p' = none → p' ≠ a → p' ≠ l → p' ≠ c → M' p' = some (.ls xs) → xs.length = ps.length → (∀ d ∈ xs, Good a l B d M') → Good a l B d6 M' → Good a l B d7 M' →
      dSeq (dAsg (dTup (dCons (dVar 5) (dCons (dVar 6) (dCons (dVar 7) dNil)))) (dgSub (dVar 2) (dVar 3))) (dRet (dTup (dCons (dC (.str "library")) (dCons (dCB dTupOf (dCons (dVar 2) dNil)) dNil)))) E' [some (.ob a), some (.tup [.str "library", .tup ps]), some (.ob p'), some (.int k), some (.int way), some (.str "proc"), some d6, some d7, o8, o9, o10, o11, o12, o13] M' := by
    intro M' p' xs d6 d7 o8 o9 o10 o11 o12 o13 E' hE g d hp' n1 n2 n3 e hl gx g6 g7
    refine s_seq ((gv_tup (vs := [.str "proc", d6, d7]) (ga_cons (gv_var rfl) (ga_cons (gv_var rfl) (ga_cons (gv_var rfl) ga_nil))) (sz 3 (by decide)) : Gv (dTup (dCons (dVar 5) (dCons (dVar 6) (dCons (dVar 7) dNil)))) [some (.ob a), some (.tup [.str "library", .tup ps]), some (.ob p'), some (.int k), some (.int way), some (.str "proc"), some d6, some d7, o8, o9, o10, o11, o12, o13] M' _) M' (Grow.refl _) _ fun M1 g1 => ?_)
    refine (gv_var (v := .ob p') rfl : Gv (dVar 2) [some (.ob a), some (.tup [.str "library", .tup ps]), some (.ob p'), some (.int k), some (.int way), some (.str "proc"), some d6, some d7, o8, o9, o10, o11, o12, o13] M1 _) M1 (Grow.refl _) _ fun M2 g2 => ?_
    refine (gv_var (v := .int (k : Nat)) rfl : Gv (dVar 3) [some (.ob a), some (.tup [.str "library", .tup ps]), some (.ob p'), some (.int k), some (.int way), some (.str "proc"), some d6, some d7, o8, o9, o10, o11, o12, o13] M2 _) M2 (Grow.refl _) _ fun M3 g3 => ?_
    have g13 := (g1.trans g2).trans g3
    unfold dSetIt
    dsimp only
    rw [g13 _ _ e]
    dsimp only
    rw [show ixN xs.length (k : Nat) = some k by
      rw [hl]
      unfold ixN
      simp [hk]]
    dsimp only
    refine s_ret (v := .tup [.str "library", .tup (xs.set k (.tup [.str "proc", d6, d7]))]) (gv_tup (ga_cons gv_c (ga_cons (gv_cb (ga_cons (gv_var rfl) ga_nil) (rc_tupL mset_same)) ga_nil)) (sz 2 (by decide))) fun M4 g4 => ?_
    rw [hE]
    have gg : GrowH a l M (mset M3 p' (.ls (xs.set k (.tup [.str "proc", d6, d7])))) := GrowH.put (g.trans g13.h) hp'
    refine q M4 _ (gg.trans g4.h) (((d.grow g13).putOther n1 n2 n3).grow g4) ((glist fun z hz => ?_).grow g4)
    refine Good.put (M := M3) ?_ n1 n2
    rcases List.mem_or_eq_of_mem_set hz with hz | rfl
    · exact (gx z hz).grow g13
    · refine good_tup fun e he => ?_
      simp only [List.mem_cons, List.not_mem_nil, or_false] at he
      rcases he with rfl | rfl | rfl
      · exact gbase _ (by decide) _
      · exact g6.grow g13
      · exact g7.grow g13
  let ρ5 : DSt := [some (.ob a), some (.tup [.str "library", .tup ps]), some (.ob pp), some (.int k), some (.int way), some (.str "proc"), some (.str nm), some (.tup bds), some (.ob pi), some it, none, none, none, none]
  have gpsX : ∀ {M' : DM}, GrowH a l M M' → ∀ d ∈ ps, Good a l B d M' := fun g d hd => (gps d hd).growH g
  have nmG : ∀ x ∈ ps.map nmP, x ∈ B ∧ x.length ≤ 64 := fun x hx => by
    obtain ⟨p, hp, rfl⟩ := List.mem_map.mp hx
    obtain ⟨x, b, rfl, h1, _⟩ := proc_shape (List.all_eq_true.mp lok.pr p hp)
    exact ⟨strIn_str.1 ((gps _ hp).mem (.str x) (by simp)).2, name_len h1⟩
  have itG : ∀ x ∈ its.map st1, x ∈ B ∧ x.length ≤ 64 := fun x hx => by
    obtain ⟨i2, hi2, rfl⟩ := List.mem_map.mp hx
    have g := items_good 3 _ hb gbd i2 hi2
    have h := (items_bods 3 _ hb i2 hi2).1
    have hs := item_shape h
    refine ⟨?_, by cases hs <;> exact name_len (by assumption)⟩
    obtain ⟨dz, e, _, i1, _⟩ := shape_ix hs
    rw [e] at g
    exact strIn_str.1 (g.mem _ (List.mem_of_getElem? i1)).2
  have zzB : ("zz" : Str) ∈ B ∧ ("zz" : Str).length ≤ 64 := ⟨hB _ (by decide), by decide +kernel⟩
  have prc : ∀ {ρ : DSt} {M' : DM}, ρ[2]? = some (some (.ob pp)) → M' pp = some (.ls ps) → dwipe ρ [11] = ρ.set 11 none → ρ.length = 14 → Gx (dLc (dwA (dVar 2)) 11 dYes (dOp dIx (dVar 11) (dC (.int 1))) [11]) ρ M' (ps.map fun p => D.str (nmP p)) := fun {ρ M'} h e hw hρ => gl_lc (fun p => .str (nmP p)) (gi_lst (gv_var h) e) (sz _ (by omega)) fun p hp => by
    obtain ⟨x, b, rfl, _⟩ := proc_shape (List.all_eq_true.mp lok.pr p hp)
    exact gv_op (gv_var (by rw [List.getElem?_set_self (by rw [hw, List.length_set, hρ]; decide)])) gv_c (rv_ixT (atI_nat (n := 1) rfl))
  have procsT : ∀ d : D, d ∈ ps.map (fun p => D.str (nmP p)) → ∃ x, d = .str x ∧ x ∈ B ∧ x.length ≤ 64 := fun d hd => by
    obtain ⟨p, hp, rfl⟩ := List.mem_map.mp hd
    exact ⟨_, rfl, nmG _ (List.mem_map.mpr ⟨p, hp, rfl⟩)⟩
  have vst1 : ∀ {ρ : DSt} {M' : DM}, ρ[9]? = some (some it) → Gv (dOp dIx (dVar 9) (dC (.int 1))) ρ M' (.str (st1 it)) := fun h => gv_op (x := .tup dz) (gv_eq (gv_var h) edz) gv_c (rv_ixT (atI_nat (n := 1) i1))
  refine s_seq (s_if (ρ := ρ5) (gt_t (gv_op (gv_var rfl) gv_c rv_lt)) (fun _ M9 g9 => ?_) fun _ M9 g9 => ?_)
  · have ep9 := g9 _ _ ep8
    have ei9 := g9 _ _ ei8
    have g09 := g08.trans g9.h
    have dr9 := dr8.grow g9
    let oth : List Str := ps.map nmP ++ its.map st1 ++ [("zz" : Str)]
    have othE : ps.map (fun p => D.str (nmP p)) ++ its.map (fun i => D.str (st1 i)) ++ [.str "zz"] = oth.map D.str := by
      show _ = (ps.map nmP ++ its.map st1 ++ [("zz" : Str)]).map D.str
      rw [List.map_append, List.map_append, List.map_map, List.map_map]
      rfl
    have its40 : its.length ≤ 40 := by
      have h := flat_le (f := fun p => itemsD 3 (bdP p)) (List.mem_of_getElem? ei)
      exact Nat.le_trans h lok.cnt
    refine s_seq (s_setL (ρ := ρ5) (gl_cat (gl_cat (prc rfl ep9 rfl rfl) (gl_lc (fun i => .str (st1 i)) (gi_lst (gv_var rfl) ei9) (sz _ (by omega)) fun i2 hi2 => ?_) (by rw [List.length_map, List.length_map]; exact sz _ (by omega))) (gl_lst (ga_cons gv_c ga_nil) (sz 1 (by decide))) (by rw [List.length_append, List.length_map, List.length_map]; exact sz _ (by simp; omega))) fun M10 po g10 no10 eo10 => ?_)
    · obtain ⟨dy, e, _, i1, _⟩ := shape_ix (item_shape (items_bods 3 _ hb i2 hi2).1)
      exact gv_op (x := .tup dy) (gv_eq (gv_var rfl) e) gv_c (rv_ixT (atI_nat (n := 1) i1))
    rw [othE] at eo10
    dsimp only
    let ρ6 : DSt := [some (.ob a), some (.tup [.str "library", .tup ps]), some (.ob pp), some (.int k), some (.int way), some (.str "proc"), some (.str nm), some (.tup bds), some (.ob pi), some it, some (.ob po), none, none, none]
    have no := dr9.new no10
    have dr10 := dr9.grow g10
    have g010 := g09.trans g10.h
    have ep10 := g10 _ _ ep9
    refine peel_asg (peel_call3 (ρ := ρ6) (v0 := .tup bds) (v1 := .str (st1 it)) (gv_var rfl) (vst1 rfl) fun M11 g11 => ?_)
    refine peel_call4 (ρ := ρ6) (v0 := .ob a) (v1 := it) (gv_var rfl) (gv_var rfl) fun M12 g12 => peel_op ?_
    refine (ga_cons (gv_var (v := .tup [.str "library", .tup ps]) rfl) ga_nil : Ga (dCons (dVar 1) dNil) ρ6 M12 _) M12 (Grow.refl _) _ fun M13 g13 => ?_
    refine ⟨.str "library", ps, B.filter nameS, rfl, lok.pr, by omega, okL_mem.mpr fun p hp => (gpsX (M' := M13) (g010.trans ((g11.trans g12).trans g13).h) p hp).1.ok, hBn, fun it2 hit2 y hy => ?_, fun M14 pl ys g14 nl14 el14 hy hyl => ?_⟩
    · obtain ⟨p, hp, h⟩ := List.mem_flatMap.mp hit2
      obtain ⟨x, b, rfl, _, hb2⟩ := proc_shape (List.all_eq_true.mp lok.pr p hp)
      exact labs_good (items_bods 3 _ hb2 it2 h).1 (items_good 3 _ hb2 ((gps _ hp).mem b (by simp)) it2 h) y hy
    refine (gl_lst (ga_cons gv_c ga_nil) (sz 1 (by decide)) : Gx (dLst (dCons (dC (.str "zz")) dNil)) ρ6 M14 [.str "zz"]) M14 (Grow.refl _) _ fun M15 pz g15 nz15 ez15 => ?_
    unfold dAdd
    dsimp only
    rw [g15 _ _ el14, ez15]
    dsimp only
    refine ⟨by rw [List.length_map]; exact sz _ (by simp; omega), fun pn npn => ?_⟩
    refine (gv_var (v := .ob po) rfl : Gv (dVar 10) ρ6 _ _) _ (Grow.refl _) _ fun M16 g16 => ?_
    have g1016 : Grow M10 M16 := ((((g11.trans g12).trans g13).trans g14).trans g15).trans ((Grow.new npn).trans g16)
    have nn := (dr10.grow ((((g11.trans g12).trans g13).trans g14).trans g15)).new npn
    refine ⟨a, l, c, B, it, pn, po, ys ++ [("zz" : Str)], oth, rfl, hi, hbs, git.growH (g010.trans g1016.h), dr10.grow g1016, ?_, g1016 _ _ eo10, nn.1, nn.2.1, no.1, no.2.1, by simp, by simp [oth], by simp; omega, by simp [oth]; omega, fun x hx => ?_, fun x hx => ?_, hB, fun M17 px xs g17 dr17 ex17 l17 gx17 => ?_⟩
    · rw [g16 _ _ mset_same, List.map_append]
      rfl
    · rcases List.mem_append.mp hx with hx | hx
      · have := List.mem_filter.mp (hy x hx)
        exact ⟨this.1, name_len this.2⟩
      · rw [List.mem_singleton.mp hx]
        exact zzB
    · rcases List.mem_append.mp (show x ∈ ps.map nmP ++ its.map st1 ++ [("zz" : Str)] from hx) with hx | hx
      · rcases List.mem_append.mp hx with hx | hx
        · exact nmG x hx
        · exact itG x hx
      · rw [List.mem_singleton.mp hx]
        exact zzB
    have g017 := (g010.trans g1016.h).trans g17
    refine ⟨a, l, B, bds, st1 it, px, xs, rfl, hb, gbd.growH g017, ex17, l17, gx17, fun M18 ys2 g18 l18 gy => ?_⟩
    have g018 := g017.trans g18.h
    have ep18 := g18 _ _ (GrowH.get g17 np.1 np.2.1 (g1016 _ _ ep10))
    exact fin rfl g018 (dr17.grow g18) npM np.1 np.2.1 np.2.2 ep18 rfl (gpsX g018) (gnm.growH g018) (good_tup gy)
  refine s_if (ρ := ρ5) (gt_t (gv_op (gv_var rfl) gv_c rv_eqI)) (fun _ M10 g10 => ?_) fun _ M10 g10 => ?_
  · have g010 := (g08.trans g9.h).trans g10.h
    have dr10 := (dr8.grow g9).grow g10
    have ep10 := g10 _ _ (g9 _ _ ep8)
    refine s_seq (peel_asg (peel_call3 (ρ := ρ5) (v0 := .tup bds) (v1 := .str (st1 it)) (gv_var rfl) (vst1 rfl) fun M11 g11 => ?_))
    refine (gl_lst ga_nil (Nat.zero_le _) : Gx (dLst dNil) ρ5 M11 []) M11 (Grow.refl _) _ fun M12 p12 g12 n12 e12 => ?_
    have g012 := g010.trans (g11.trans g12).h
    refine ⟨a, l, B, bds, st1 it, p12, [], rfl, hb, gbd.growH g012, e12, Nat.zero_le _, (fun d h => nomatch h), fun M13 ys g13 l13 gy => ?_⟩
    have g013 := g012.trans g13.h
    have dr13 := dr10.grow ((g11.trans g12).trans g13)
    have ep13 := ((g11.trans g12).trans g13) _ _ ep10
    dsimp only
    let ρ6 : DSt := [some (.ob a), some (.tup [.str "library", .tup ps]), some (.ob pp), some (.int k), some (.int way), some (.str "proc"), some (.str nm), some (.tup ys), some (.ob pi), some it, none, none, none, none]
    refine s_seq (peel_asg (c_take (ρ := ρ6) (a := a) (n := ys.length + 1) (ga_cons (gv_var rfl) (ga_cons (gv_op (gv_cb (ga_cons (gv_var rfl) ga_nil) rc_lenT) gv_c rv_add) ga_nil)) (by omega) (by omega) dr13 fun M14 at' g14 dr14 hat => ?_))
    have g014 := g013.trans g14
    have ep14 := GrowH.get g14 np.1 np.2.1 ep13
    dsimp only
    have cutL : ∀ {ds : List D} {lo hi : Option Int}, (dcut ds lo hi).length ≤ ds.length := fun {ds lo hi} => by
      unfold dcut
      rw [List.length_take, List.length_drop]
      omega
    have c1 := cutL (ds := ys) (lo := none) (hi := some (at' : Int))
    have c2 := cutL (ds := ys) (lo := some (at' : Int)) (hi := none)
    refine s_set (v := .tup (dcut ys none (some (at' : Int)) ++ [it] ++ dcut ys (some (at' : Int)) none)) (gv_op (gv_op (gv_sl (gv_var rfl) go_none (go_some (gv_var rfl))) (gv_tup (ga_cons (gv_var rfl) ga_nil) (sz 1 (by decide))) (rv_catT (by rw [List.length_singleton]; exact sz _ (by omega)))) (gv_sl (gv_var rfl) (go_some (gv_var rfl)) go_none) (rv_catT (by rw [List.length_append, List.length_singleton]; exact sz _ (by omega)))) fun M15 g15 => ?_
    have g015 := g014.trans g15.h
    refine fin rfl g015 (dr14.grow g15) npM np.1 np.2.1 np.2.2 (g15 _ _ ep14) rfl (gpsX g015) (gnm.growH g015) (good_tup (good_app (good_app (fun d hd => ?_) (good_one (git.growH g015))) fun d hd => ?_))
    · exact (gy d (dcut_sub d hd)).growH (g14.trans g15.h)
    · exact (gy d (dcut_sub d hd)).growH (g14.trans g15.h)
  refine s_if (ρ := ρ5) (gt_t (gv_op (gv_var rfl) gv_c rv_eqI)) (fun _ M11 g11 => ?_) fun _ M11 g11 => ?_
  · have g011 := ((g08.trans g9.h).trans g10.h).trans g11.h
    have dr11 := ((dr8.grow g9).grow g10).grow g11
    have ep11 := g11 _ _ (g10 _ _ (g9 _ _ ep8))
    refine peel_asg (c_pickX (ρ := ρ5) (gv_var rfl) (gl_cat (prc rfl ep11 rfl rfl) (gl_lst (ga_cons gv_c (ga_cons gv_c (ga_cons gv_c (ga_cons gv_c (ga_cons gv_c ga_nil))))) (sz 5 (by decide))) (by rw [List.length_map]; exact sz _ (by simp; omega))) dr11 (by simp) (by simp; omega) fun M12 d g12 dr12 hd => ?_)
    have g012 := g011.trans g12
    refine fin rfl g012 dr12 npM np.1 np.2.1 np.2.2 (GrowH.get g12 np.1 np.2.1 ep11) rfl (gpsX g012) ?_ (gbd.growH g012)
    rcases List.mem_append.mp hd with hd | hd
    · obtain ⟨x, rfl, h1, h2⟩ := procsT d hd
      exact good_str h2 h1
    · simp only [List.mem_cons, List.not_mem_nil, or_false] at hd
      rcases hd with rfl | rfl | rfl | rfl | rfl <;> exact gbase _ (by decide) _
  · have g011 := ((g08.trans g9.h).trans g10.h).trans g11.h
    have dr11 := ((dr8.grow g9).grow g10).grow g11
    have ep11 := g11 _ _ (g10 _ _ (g9 _ _ ep8))
    refine s_seq (peel_asg (c_shuf (ρ := ρ5) (gv_var rfl) (gv_var rfl) dr11 ep11 np.1 np.2.1 (by omega) fun M12 p2 qs g12 dr12 hp2 n1 n2 ep12 pm => ?_))
    have g012 := g011.trans g12
    have kq : k < qs.length := by rw [pm.length_eq]; exact hk
    have mem := pm.mem_iff.mp (List.getElem_mem kq)
    obtain ⟨nm2, b2, e2, hnm2, hb2⟩ := proc_shape (List.all_eq_true.mp lok.pr _ mem)
    have ei2 : qs[k]? = some (.tup [.str "proc", .str nm2, b2]) := by rw [List.getElem?_eq_getElem kq, e2]
    have gp2 := gps _ (pm.mem_iff.mp (List.mem_of_getElem? ei2))
    dsimp only
    refine s_tup3 (gv_op (gv_var rfl) (gv_var rfl) (rv_ixL ep12 (atI_nat ei2))) fun M13 g13 => ?_
    have g013 := g012.trans g13.h
    have n3 : p2 ≠ c := fun z => by
      obtain ⟨_, q2, q3, L, C, r, t, e1, e2, e3⟩ := dr11
      have : hide a l M11 c = some (.ls (C.map D.int)) := by rw [hide_ne q2.symm q3.symm]; exact e3
      rw [z, this] at hp2
      cases hp2
    exact fin rfl g013 (dr12.grow g13) (fresh_of g011 hp2) n1 n2 n3 (g13 _ _ ep12) pm.length_eq (fun d hd => gpsX g013 d (pm.mem_iff.mp hd)) ((gp2.mem (.str nm2) (by simp)).growH g013) ((gp2.mem b2 (by simp)).growH g013)
end
end DL

/-! D13: steps are made of letters. -/
namespace DL
open PySem PySem.Spec PyProof.Rows L2
/-- a value without lists -/
def Pure (d : D) : Prop := ∀ M, Ok M d
theorem pure_str {x : Str} (h : x.length ≤ 64) : Pure (.str x) := fun M => ok_str h
theorem pure_tup {ds : List D} (h : ∀ d ∈ ds, Pure d) : Pure (.tup ds) := fun M => ok_tup.2 fun d hd => h d hd M
theorem Pure.mem {ds : List D} (h : Pure (.tup ds)) : ∀ d ∈ ds, Pure d := fun d hd M => ok_tup.1 (h M) d hd
theorem Pure.okH {a l : Addr} {M : DM} {d : D} (h : Pure d) : OkH a l M d := h _
theorem str_app_len {x y : Str} : (x ++ y).length = x.length + y.length := Array.size_append
def stepD (h : Str) (ws : List Str) : D → D
  | .int i => .tup [.str "do", .str (h ++ (ws[i.toNat]?).getD ""), .str ((ws[i.toNat]?).getD ""), .tup []]
  | _ => .non
def spSteps : DSp := fun ds M Q => ∃ (p : Addr) (ws : List Str) (h : Str) (n : Nat), ds = [.ob p, .str h, .int n] ∧ M p = some (.ls (ws.map D.str)) ∧ (∀ w ∈ ws, w.length ≤ 4) ∧ h.length ≤ 4 ∧ n ≤ ws.length ∧ n ≤ 1000 ∧ ∀ M' ds, Grow M M' → ds.length = n → (∀ d ∈ ds, Pure d) → Q (.tup ds) M'
section
variable {P : Program} {w : World} {K : PySem.W.Frag} {mg : Str → Option Value} {base : Heap}
theorem ok__law_steps (T : Tx K mg w) : FnOk P w K mg base CX0 1 T.f__law_steps.f T.f__law_steps.fd ["letters", "head", "many"] (LSp K spSteps) := by
  refine dfun T.f__law_steps.F sc__law_steps (fun ds M Q ⟨p, ws, h, n, e, _⟩ => by rw [e]; rfl) fun cdv A outer s H E hr => ⟨_, (ds_one (ds_ret (d_tuple T.b_tuple (da_cons (d_lc rfl sc__law_steps.nd (di_rng rfl T.b_range (da_cons (dv 2) da_nil)) (blkOk_by (own := [("k", 3)]) (N := ["letters", "head", "many", "k"]) (sc := defScope s__law_steps) (by decide +kernel)) (by decide) (fun _ _ _ _ _ => pg_name (i := 3) sc__law_steps.nd rfl (Or.inl rfl)) (fun _ _ _ _ _ => dts_nil) (fun _ _ _ _ _ => (d_tup (da_cons dstr (da_cons (d_add (dv 1) (d_ixA (hu1 hr) (dv 0) (dv 3))) (da_cons (d_ixA (hu1 hr) (dv 0) (dv 3)) (da_cons (d_tup da_nil) da_nil))))))) da_nil)))), ?_⟩
  rintro ds M Q ⟨p, ws, h, n, rfl, ep, hw, hh, hn, n1, q⟩
  have sz : ∀ k : Nat, k ≤ 3000 → k ≤ sizeLine := fun k h => by rw [sizeLine_eq]; omega
  have len : (rgD 0 n).length = n := by simp [rgD]
  have mem : ∀ d ∈ rgD 0 n, ∃ i : Nat, d = .int i ∧ i < n := fun d hd => by
    obtain ⟨i, hi, rfl⟩ := List.mem_map.mp (show d ∈ List.map _ _ from hd)
    simp at hi
    exact ⟨i, by simp, by omega⟩
  refine s_ret (v := .tup ((rgD 0 n).map (stepD h ws))) (gv_tupOf (gl_lc (stepD h ws) (gi_rng (gv_var rfl) (by omega)) (by rw [len]; exact sz _ (by omega)) fun d hd => ?_)) fun M1 g1 => q M1 _ g1 (by rw [List.length_map, len]) fun d hd => ?_
  · obtain ⟨i, rfl, hi⟩ := mem d hd
    have lt : i < ws.length := by omega
    have e : ws[i]? = some (ws[i]'lt) := List.getElem?_eq_getElem lt
    have z := hw _ (List.getElem_mem lt)
    have v : ∀ {ρ : DSt}, ρ[0]? = some (some (.ob p)) → ρ[3]? = some (some (.int i)) → Gv (dOp dIx (dVar 0) (dVar 3)) ρ M (.str (ws[i]'lt)) := fun h0 h3 => gv_op (gv_var h0) (gv_var h3) (rv_ixL ep (atI_nat (by rw [List.getElem?_map, e]; rfl)))
    have es : stepD h ws (.int i) = .tup [.str "do", .str (h ++ ws[i]'lt), .str (ws[i]'lt), .tup []] := by
      show D.tup [.str "do", .str (h ++ (ws[(i : Int).toNat]?).getD ""), .str ((ws[(i : Int).toNat]?).getD ""), .tup []] = _
      rw [Int.toNat_natCast, e]
      rfl
    rw [es]
    exact gv_tup (ga_cons gv_c (ga_cons (gv_op (gv_var rfl) (v rfl rfl) (rv_cat (sz _ (by omega)))) (ga_cons (v rfl rfl) (ga_cons (gv_tup ga_nil (Nat.zero_le _)) ga_nil)))) (sz 4 (by decide))
  · obtain ⟨e, he, rfl⟩ := List.mem_map.mp hd
    obtain ⟨i, rfl, hi⟩ := mem e he
    have lt : i < ws.length := by omega
    have e : ws[i]? = some (ws[i]'lt) := List.getElem?_eq_getElem lt
    have z := hw _ (List.getElem_mem lt)
    show Pure (D.tup [.str "do", .str (h ++ (ws[(i : Int).toNat]?).getD ""), .str ((ws[(i : Int).toNat]?).getD ""), .tup []])
    rw [Int.toNat_natCast, e]
    refine pure_tup fun d hd => ?_
    simp only [List.mem_cons, List.not_mem_nil, or_false, Option.getD_some] at hd
    rcases hd with rfl | rfl | rfl | rfl
    · exact pure_str (by decide +kernel)
    · refine pure_str ?_
      have : (h ++ ws[i]'lt).length = h.length + (ws[i]'lt).length := str_app_len
      omega
    · exact pure_str (by omega)
    · exact pure_tup fun d h => nomatch h
end
end DL

/-! D14: readings whose values have a kind, under a standing condition. -/
namespace DL
open PySem PySem.Spec PyProof.Rows L2
/-- J stands when M grows, and when numbers are drawn; f is told by J -/
structure JOk (a l c f : Addr) (J : DM → Prop) : Prop where
  grow : ∀ M M', Grow M M' → J M → J M'
  draw : ∀ M M', GrowH a l M M' → Drw a l c M' → J M → J M'
  drw : ∀ M, J M → Drw a l c M
  known : ∀ M, J M → M f ≠ none
def MonoH (a l : Addr) (R : D → DM → Prop) : Prop := ∀ d M M', GrowH a l M M' → R d M → R d M'
def Te (a l : Addr) (J : DM → Prop) (te : DTE) (ρ : DSt) (R : D → DM → Prop) : Prop := ∀ M, J M → ∀ Q : DK, (∀ M' d, J M' → GrowH a l M M' → R d M' → Q d M') → te ρ M Q
def Tw (a l : Addr) (J : DM → Prop) (t : DTA) (ρ : DSt) (n : Nat) (R : D → DM → Prop) : Prop := ∀ M, J M → ∀ Q : List D → DM → Prop, (∀ M' ds, J M' → GrowH a l M M' → ds.length = n → (∀ d ∈ ds, R d M') → Q ds M') → t ρ M Q
def Pu : D → DM → Prop := fun d _ => Pure d
def TT (n : Nat) : D → DM → Prop := fun d _ => ∃ ds, d = .tup ds ∧ ds.length ≤ n ∧ ∀ e ∈ ds, Pure e
def LsT (a l f : Addr) (n : Nat) : D → DM → Prop := fun d M => ∃ p xs, d = .ob p ∧ p ≠ a ∧ p ≠ l ∧ p ≠ f ∧ M p = some (.ls xs) ∧ xs.length ≤ n ∧ ∀ e ∈ xs, Pure e
def LsE (a l f : Addr) (n : Nat) : D → DM → Prop := fun d M => ∃ p xs, d = .ob p ∧ p ≠ a ∧ p ≠ l ∧ p ≠ f ∧ M p = some (.ls xs) ∧ xs.length = n ∧ ∀ e ∈ xs, Pure e
theorem LsE.t {a l f : Addr} {n : Nat} {d : D} {M : DM} (h : LsE a l f n d M) : LsT a l f n d M := by
  obtain ⟨p, xs, e, h1, h2, h3, ep, hl, hp⟩ := h
  exact ⟨p, xs, e, h1, h2, h3, ep, by omega, hp⟩
def Sn (n : Nat) : D → DM → Prop := fun d _ => ∃ x, d = .str x ∧ x.length ≤ n
section
variable {a l c f : Addr} {J : DM → Prop} {te ta tb : DTE} {t : DTA} {ρ : DSt} {R S : D → DM → Prop} {v : D} {n m i j : Nat} {E : DEnds} {M : DM}
theorem TT.pure {d : D} (h : TT n d M) : Pure d := by
  obtain ⟨ds, rfl, _, h⟩ := h
  exact pure_tup h
theorem te_w (h : Te a l J te ρ R) (w : ∀ d M, R d M → S d M) : Te a l J te ρ S := fun M j Q q => h M j Q fun M' d j' g r => q M' d j' g (w d M' r)
theorem te_p (h : Te a l J te ρ (TT n)) : Te a l J te ρ Pu := te_w h fun d M r => r.pure
theorem te_s (h : Te a l J te ρ (Sn n)) (hn : n ≤ 64) : Te a l J te ρ Pu := te_w h fun d M ⟨x, e, h⟩ => by
  rw [e]
  exact pure_str (by omega)
theorem te_gv (jk : JOk a l c f J) (h : ∀ M, J M → Gv te ρ M v) (r : ∀ M, J M → R v M) : Te a l J te ρ R := fun M j Q q => h M j M (Grow.refl M) _ fun M1 g1 => q M1 v (jk.grow _ _ g1 j) g1.h (r M1 (jk.grow _ _ g1 j))
theorem te_cs {x : Str} (h : x.length ≤ 64) : Te a l J (dC (.str x)) ρ Pu := fun M j Q q => q M _ j (Grow.refl _) (pure_str h)
theorem te_cS {x : Str} (h : x.length ≤ n) : Te a l J (dC (.str x)) ρ (Sn n) := fun M j Q q => q M _ j (Grow.refl _) ⟨x, rfl, h⟩
theorem te_var (h : ρ[i]? = some (some v)) (r : ∀ M, J M → R v M) : Te a l J (dVar i) ρ R := fun M j Q q => by
  unfold dVar
  rw [h]
  exact q M v j (Grow.refl _) (r M j)
theorem tw_nil : Tw a l J dNil ρ 0 R := fun M j Q q => q M [] j (Grow.refl _) rfl fun d h => nomatch h
theorem tw_cons (mono : MonoH a l R) (h : Te a l J te ρ R) (h' : Tw a l J t ρ n R) : Tw a l J (dCons te t) ρ (n + 1) R := fun M j Q q => h M j _ fun M1 d j1 g1 r => h' M1 j1 _ fun M2 ds j2 g2 hl rs => q M2 (d :: ds) j2 (g1.trans g2) (by rw [List.length_cons, hl]) fun e he => by
  rcases List.mem_cons.mp he with rfl | he
  · exact mono _ _ _ g2 r
  · exact rs e he
theorem mono_pu : MonoH a l Pu := fun _ _ _ _ h => h
theorem mono_lt : MonoH a l (LsT a l f n) := fun d M M' g ⟨p, xs, e, h1, h2, h3, ep, h⟩ => ⟨p, xs, e, h1, h2, h3, GrowH.get g h1 h2 ep, h⟩
theorem tw_p (h : Te a l J te ρ Pu) (h' : Tw a l J t ρ n Pu) : Tw a l J (dCons te t) ρ (n + 1) Pu := tw_cons mono_pu h h'
theorem te_tup (h : Tw a l J t ρ n Pu) (hn : n ≤ sizeLine) : Te a l J (dTup t) ρ (TT n) := fun M j Q q => h M j _ fun M1 ds j1 g1 hl rs => ⟨by omega, q M1 _ j1 g1 ⟨ds, rfl, by omega, rs⟩⟩
theorem te_pt (h : Tw a l J t ρ n Pu) (hn : n ≤ sizeLine) : Te a l J (dTup t) ρ Pu := te_p (te_tup h hn)
theorem te_lst (jk : JOk a l c f J) (h : Tw a l J t ρ n Pu) (hn : n ≤ sizeLine) : Te a l J (dLst t) ρ (LsT a l f n) := fun M j Q q => h M j _ fun M1 ds j1 g1 hl rs => ⟨by omega, fun p np => q _ _ (jk.grow _ _ (Grow.new np) j1) (g1.trans (Grow.new np).h) ⟨p, ds, rfl, ((jk.drw M1 j1).new np).1, ((jk.drw M1 j1).new np).2.1, fun z => jk.known M1 j1 (z ▸ np), mset_same, by omega, rs⟩⟩
theorem te_addT (h : Te a l J ta ρ (TT n)) (h' : Te a l J tb ρ (TT m)) (hl : n + m ≤ sizeLine) : Te a l J (dOp dAdd ta tb) ρ (TT (n + m)) := fun M j Q q => h M j _ fun M1 d j1 g1 ⟨ds, e, l1, r1⟩ => h' M1 j1 _ fun M2 d2 j2 g2 ⟨ds2, e2, l2, r2⟩ => by
  subst e e2
  refine ⟨by omega, q M2 _ j2 (g1.trans g2) ⟨_, rfl, by rw [List.length_append]; omega, fun e he => ?_⟩⟩
  rcases List.mem_append.mp he with he | he
  · exact r1 e he
  · exact r2 e he
theorem te_addL (jk : JOk a l c f J) (h : Te a l J ta ρ (LsT a l f n)) (h' : Te a l J tb ρ (LsT a l f m)) (hl : n + m ≤ sizeLine) : Te a l J (dOp dAdd ta tb) ρ (LsT a l f (n + m)) := fun M j Q q => h M j _ fun M1 d j1 g1 r => h' M1 j1 _ fun M2 d2 j2 g2 ⟨p2, ds2, e2, _, _, _, ep2, l2, r2⟩ => by
  obtain ⟨p, ds, rfl, _, _, _, ep, l1, r1⟩ := mono_lt d M1 M2 g2 r
  subst e2
  unfold dAdd
  dsimp only
  rw [ep, ep2]
  dsimp only
  refine ⟨by omega, fun p3 np => q _ _ (jk.grow _ _ (Grow.new np) j2) ((g1.trans g2).trans (Grow.new np).h) ⟨p3, _, rfl, ((jk.drw M2 j2).new np).1, ((jk.drw M2 j2).new np).2.1, fun z => jk.known M2 j2 (z ▸ np), mset_same, by rw [List.length_append]; omega, fun e he => ?_⟩⟩
  rcases List.mem_append.mp he with he | he
  · exact r1 e he
  · exact r2 e he
theorem te_addS (h : Te a l J ta ρ (Sn n)) (h' : Te a l J tb ρ (Sn m)) (hl : n + m ≤ sizeLine) : Te a l J (dOp dAdd ta tb) ρ (Sn (n + m)) := fun M j Q q => h M j _ fun M1 d j1 g1 ⟨x, e, l1⟩ => h' M1 j1 _ fun M2 d2 j2 g2 ⟨y, e2, l2⟩ => by
  subst e e2
  exact ⟨by omega, q M2 _ j2 (g1.trans g2) ⟨_, rfl, by rw [str_app_len]; omega⟩⟩
theorem dcut_len {ds : List D} {lo hi : Option Int} : (dcut ds lo hi).length ≤ ds.length := by
  unfold dcut
  rw [List.length_take, List.length_drop]
  omega
theorem te_slT (jk : JOk a l c f J) {tl th : DTO} {lo hi : Option Int} (h : Te a l J te ρ (TT n)) (hl : ∀ M, J M → Go tl ρ M lo) (hh : ∀ M, J M → Go th ρ M hi) : Te a l J (dSl te tl th) ρ (TT n) := fun M j Q q => h M j _ fun M1 d j1 g1 ⟨ds, e, l1, r1⟩ => hl M1 j1 M1 (Grow.refl _) _ fun M2 g2 => hh M2 (jk.grow _ _ g2 j1) M2 (Grow.refl _) _ fun M3 g3 => by
  subst e
  exact q M3 _ (jk.grow _ _ g3 (jk.grow _ _ g2 j1)) (g1.trans (g2.trans g3).h) ⟨_, rfl, Nat.le_trans dcut_len l1, fun e he => r1 e (dcut_sub e he)⟩
theorem te_slL (jk : JOk a l c f J) {tl th : DTO} {lo hi : Option Int} (h : Te a l J te ρ (LsT a l f n)) (hl : ∀ M, J M → Go tl ρ M lo) (hh : ∀ M, J M → Go th ρ M hi) : Te a l J (dSl te tl th) ρ (LsT a l f n) := fun M j Q q => h M j _ fun M1 d j1 g1 ⟨p, ds, e, _, _, _, ep, l1, r1⟩ => hl M1 j1 M1 (Grow.refl _) _ fun M2 g2 => hh M2 (jk.grow _ _ g2 j1) M2 (Grow.refl _) _ fun M3 g3 => by
  subst e
  have j3 := jk.grow _ _ g3 (jk.grow _ _ g2 j1)
  dsimp only
  rw [msq_ls ((g2.trans g3) _ _ ep)]
  exact fun p np => q _ _ (jk.grow _ _ (Grow.new np) j3) (g1.trans ((g2.trans g3).trans (Grow.new np)).h) ⟨p, _, rfl, ((jk.drw M3 j3).new np).1, ((jk.drw M3 j3).new np).2.1, fun z => jk.known M3 j3 (z ▸ np), mset_same, Nat.le_trans dcut_len l1, fun e he => r1 e (dcut_sub e he)⟩
theorem te_tupL (h : Te a l J te ρ (LsT a l f n)) : Te a l J (dCB dTupOf (dCons te dNil)) ρ (TT n) := fun M j Q q => h M j _ fun M1 d j1 g1 ⟨p, ds, e, _, _, _, ep, l1, r1⟩ => by
  subst e
  show dTupOf [D.ob p] M1 Q
  unfold dTupOf
  dsimp only
  rw [msq_ls ep]
  exact q M1 _ j1 g1 ⟨ds, rfl, l1, r1⟩
theorem te_tupE (h : Te a l J te ρ fun d M => TT n d M ∨ LsT a l f n d M) : Te a l J (dCB dTupOf (dCons te dNil)) ρ (TT n) := fun M j Q q => h M j _ fun M1 d j1 g1 r => by
  rcases r with ⟨ds, e, l1, r1⟩ | ⟨p, ds, e, _, _, _, ep, l1, r1⟩
  · subst e
    exact q M1 _ j1 g1 ⟨ds, rfl, l1, r1⟩
  · subst e
    show dTupOf [D.ob p] M1 Q
    unfold dTupOf
    dsimp only
    rw [msq_ls ep]
    exact q M1 _ j1 g1 ⟨ds, rfl, l1, r1⟩
theorem te_take (jk : JOk a l c f J) (h0 : ρ[0]? = some (some (.ob a))) {n : Nat} (h1 : 1 ≤ n) (hn : n < 1000000) : Te a l J (dCall spTake (dCons (dVar 0) (dCons (dC (.int n)) dNil))) ρ fun d _ => ∃ k : Nat, d = .int k ∧ k < n := fun M j Q q => c_take (ga_cons (gv_var h0) (ga_cons gv_c ga_nil)) h1 hn (jk.drw M j) fun M' i g d hi => q M' _ (jk.draw _ _ g d j) g ⟨i, rfl, hi⟩
theorem te_mul (h : Te a l J ta ρ fun d M => TT n d M ∧ d ≠ .tup []) (h' : Te a l J tb ρ fun d _ => ∃ k : Nat, d = .int k ∧ k < m) (hn : n ≤ 1000) (hm : m ≤ 1001) : Te a l J (dOp dMul ta tb) ρ (TT (n * m)) := fun M j Q q => h M j _ fun M1 d j1 g1 ⟨⟨ds, e, l1, r1⟩, h0⟩ => h' M1 j1 _ fun M2 d2 j2 g2 ⟨k, e2, hk⟩ => by
  subst e e2
  refine ⟨fun z => h0 (by rw [z]), by omega, by omega, by omega, q M2 _ j2 (g1.trans g2) ⟨_, rfl, ?_, fun e he => ?_⟩⟩
  · rw [List.length_flatten, List.map_replicate, List.sum_replicate_nat, Int.toNat_natCast, Nat.mul_comm]
    exact Nat.mul_le_mul l1 (Nat.le_of_lt hk)
  · obtain ⟨xs, hx, he⟩ := List.mem_flatten.mp he
    rw [(List.mem_replicate.mp hx).2] at he
    exact r1 e he
theorem te_one (h : Te a l J te ρ Pu) : Te a l J (dTup (dCons te dNil)) ρ fun d M => TT 1 d M ∧ d ≠ .tup [] := fun M j Q q => h M j _ fun M1 d j1 g1 r => ⟨by show 1 ≤ _; rw [sizeLine_eq]; omega, q M1 _ j1 g1 ⟨⟨[d], rfl, Nat.le_refl _, fun e he => by rw [List.mem_singleton.mp he]; exact r⟩, fun z => nomatch z⟩⟩
theorem te_pick (jk : JOk a l c f J) (h0 : ρ[0]? = some (some (.ob a))) (mono : MonoH a l R) (h : Tw a l J t ρ (n + 1) R) (hn : n < 1000) : Te a l J (dCall spPick (dCons (dVar 0) (dCons (dLst t) dNil))) ρ R := fun M j Q q => by
  refine peel_callA ((gv_var h0 : Gv (dVar 0) ρ M (.ob a)) M (Grow.refl _) _ fun M1 g1 => peel_consA ?_)
  refine h M1 (jk.grow _ _ g1 j) _ fun M2 ds j2 g2 hl rs => ⟨by rw [sizeLine_eq]; omega, fun p np => ?_⟩
  have dr := jk.drw M2 j2
  have nn := dr.new np
  refine ⟨a, l, c, p, ds, rfl, dr.grow (Grow.new np), mset_same, nn.1, nn.2.1, (fun z => by rw [z] at hl; cases hl), by omega, fun M' d g d' hd => ?_⟩
  have gg := (Grow.new np).h.trans g
  exact q M' d (jk.draw _ _ gg d' j2) ((g1.h.trans g2).trans gg) (mono _ _ _ gg (rs d hd))
theorem te_if (jk : JOk a l c f J) {tt : DTT} {b : Bool} (h : ∀ M, J M → Gt tt ρ M b) (h1 : Te a l J ta ρ R) (h2 : Te a l J tb ρ R) : Te a l J (dIf tt ta tb) ρ R := fun M j Q q => peel_if (h M j) (fun _ M1 g1 => h1 M1 (jk.grow _ _ g1 j) Q fun M2 d j2 g2 r => q M2 d j2 (g1.h.trans g2) r) fun _ M1 g1 => h2 M1 (jk.grow _ _ g1 j) Q fun M2 d j2 g2 r => q M2 d j2 (g1.h.trans g2) r
theorem te_ixE (jk : JOk a l c f J) {p : Addr} {xs : List D} {k : Nat} (h : ρ[i]? = some (some (.ob p))) (e : ∀ M, J M → M p = some (.ls xs)) (hk : k < xs.length) (hp : ∀ x ∈ xs, Pure x) : Te a l J (dOp dIx (dVar i) (dC (.int k))) ρ Pu := te_gv jk (v := xs[k]'hk) (fun M j => gv_op (gv_var h) gv_c (rv_ixL (e M j) (atI_nat (List.getElem?_eq_getElem hk)))) fun M j => hp _ (List.getElem_mem hk)
/-- a tuple, or a list -/
def LP (a l f : Addr) (n : Nat) : D → DM → Prop := fun d M => TT n d M ∨ LsT a l f n d M
theorem mono_lp : MonoH a l (LP a l f n) := fun d M M' g r => r.imp (fun h => h) fun h => mono_lt d M M' g h
def LP2 (a l f : Addr) (n : Nat) : D → DM → Prop := fun d M => ∃ x y, d = .tup [x, y] ∧ LP a l f n x M ∧ LP a l f n y M
theorem mono_lp2 : MonoH a l (LP2 a l f n) := fun d M M' g ⟨x, y, e, h1, h2⟩ => ⟨x, y, e, mono_lp _ _ _ g h1, mono_lp _ _ _ g h2⟩
theorem te_pair (h : Te a l J ta ρ (LP a l f n)) (h' : Te a l J tb ρ (LP a l f n)) : Te a l J (dTup (dCons ta (dCons tb dNil))) ρ (LP2 a l f n) := fun M j Q q => h M j _ fun M1 x j1 g1 r1 => h' M1 j1 _ fun M2 y j2 g2 r2 => ⟨by show 2 ≤ _; rw [sizeLine_eq]; omega, q M2 _ j2 (g1.trans g2) ⟨x, y, rfl, mono_lp _ _ _ g2 r1, r2⟩⟩
/-- steps of letters -/
theorem te_steps (jk : JOk a l c f J) {t0 t1 t2 : DTE} {p : Addr} {ws : List Str} {k : Nat} (h0 : Te a l J t0 ρ fun d M => d = .ob p ∧ M p = some (.ls (ws.map D.str))) (np : p ≠ a ∧ p ≠ l) (h1 : Te a l J t1 ρ (Sn 4)) (h2 : Te a l J t2 ρ fun d _ => d = .int (k : Nat)) (hw : ∀ w ∈ ws, w.length ≤ 4) (hk : k ≤ ws.length) (hk1 : k ≤ 1000) :
    Te a l J (dCall spSteps (dCons t0 (dCons t1 (dCons t2 dNil)))) ρ (TT k) := fun M j Q q => h0 M j _ fun M1 d1 j1 g1 ⟨e1, ep⟩ => h1 M1 j1 _ fun M2 d2 j2 g2 ⟨x, e2, hx⟩ => h2 M2 j2 _ fun M3 d3 j3 g3 e3 => by
  subst e1 e2 e3
  refine ⟨p, ws, x, k, rfl, GrowH.get (g2.trans g3) np.1 np.2 ep, hw, hx, hk, hk1, fun M4 ds g4 hl hp => ?_⟩
  exact q M4 _ (jk.grow _ _ g4 j3) (((g1.trans g2).trans g3).trans g4.h) ⟨ds, rfl, by omega, hp⟩
/-! ### statements -/
theorem st_set (j : J M) (h : Te a l J te ρ R) (q : ∀ d M', J M' → GrowH a l M M' → R d M' → E.nx (ρ.set i (some d)) M') : dAsg te (dName i) E ρ M := h M j _ fun M' d j' g r => q d M' j' g r
theorem st_par (j : J M) (h : Te a l J ta ρ R) (mono : MonoH a l R) (h' : Te a l J tb ρ S) (q : ∀ d e M', J M' → GrowH a l M M' → R d M' → S e M' → E.nx ((ρ.set i (some d)).set n (some e)) M') : dPar i n (dCons ta (dCons tb dNil)) E ρ M := h M j _ fun M1 d j1 g1 r => h' M1 j1 _ fun M2 e j2 g2 s => q d e M2 j2 (g1.trans g2) (mono _ _ _ g2 r) s
theorem te_lc (jk : JOk a l c f J) {ti : DTI} {body : DTE} {vs : List Nat} {all : List D} (hi : ∀ M, J M → Gi ti ρ M all) (hl : all.length ≤ 1000)
    (each : ∀ d ∈ all, ∀ M, J M → ∀ Q : DK, (∀ M' d, J M' → Grow M M' → Pure d → Q d M') → body ((dwipe ρ vs).set i (some d)) M Q) : Te a l J (dLc ti i dYes body vs) ρ (LsE a l f all.length) := fun M j Q q => by
  refine hi M j M (Grow.refl M) _ fun M1 stay g1 hs => ?_
  have j1 := jk.grow _ _ g1 j
  have d1 := jk.drw M1 j1
  refine compI (fun r acc M2 => J M2 ∧ Grow M1 M2 ∧ (∀ d ∈ r, d ∈ all) ∧ acc.length + r.length = all.length ∧ ∀ d ∈ acc, Pure d) (fun acc M2 ⟨j2, g2, _, hl2, ha⟩ => ?_) (fun x r acc M2 ⟨j2, g2, hr, hl2, ha⟩ N hN => ?_) _ _ _ ⟨j1, Grow.refl _, fun d h => h, by simp, fun d h => nomatch h⟩
  · intro p np
    exact q _ _ (jk.grow _ _ (Grow.new np) j2) ((g1.trans g2).trans (Grow.new np)).h ⟨p, acc, rfl, ((jk.drw M2 j2).new np).1, ((jk.drw M2 j2).new np).2.1, fun z => jk.known M2 j2 (z ▸ np), mset_same, by simp at hl2; omega, ha⟩
  · unfold dYes
    dsimp only
    rw [if_pos rfl]
    rw [List.length_cons] at hl2
    refine each x (hr x List.mem_cons_self) M2 j2 _ fun M3 d j3 g3 hp => ?_
    refine ⟨by rw [sizeLine_eq]; omega, hs _ (g2.trans g3), hN _ M3 ⟨j3, g2.trans g3, fun y h => hr y (List.mem_cons_of_mem _ h), by rw [List.length_append, List.length_singleton]; omega, fun y hy => ?_⟩⟩
    rcases List.mem_append.mp hy with hy | hy
    · exact ha y hy
    · rw [List.mem_singleton.mp hy]
      exact hp
end
end DL

/-! D15: libraries at the limits. -/
namespace DL
open PySem PySem.Spec PyProof.Rows L2
def Lm (a l c f : Addr) (M0 : DM) (n : Nat) (ro : DM → Prop) (M : DM) : Prop := GrowH a l M0 M ∧ Drw a l c M ∧ (∃ fs, M f = some (.ls fs) ∧ fs.length ≤ n ∧ ∀ d ∈ fs, Pure d) ∧ ro M
def RoOk (a l f : Addr) (ro : DM → Prop) : Prop := (∀ M M', GrowH a l M M' → ro M → ro M') ∧ ∀ M xs, ro M → ro (mset M f (.ls xs))
section
variable {a l c f p : Addr} {M0 M M' : DM} {n m i j k : Nat} {ro ro' : DM → Prop} {te A B C F : DTE} {ρ : DSt} {E : DEnds} {xs : List D} {d : D}
theorem RoOk.and (h : RoOk a l f ro) (h' : RoOk a l f ro') : RoOk a l f fun M => ro M ∧ ro' M := ⟨fun M M' g r => ⟨h.1 M M' g r.1, h'.1 M M' g r.2⟩, fun M xs r => ⟨h.2 M xs r.1, h'.2 M xs r.2⟩⟩
theorem ro_ls (h1 : p ≠ a) (h2 : p ≠ l) (h3 : p ≠ f) : RoOk a l f fun M => M p = some (.ls xs) := ⟨fun M M' g e => GrowH.get g h1 h2 e, fun M ys e => by
  show mset M f (.ls ys) p = _
  rw [mset_ne h3]
  exact e⟩
theorem lsT_put (h : LsT a l f n d M) {ys : List D} : LsT a l f n d (mset M f (.ls ys)) := by
  obtain ⟨p, xs, e, h1, h2, h3, ep, r⟩ := h
  exact ⟨p, xs, e, h1, h2, h3, by rw [mset_ne h3]; exact ep, r⟩
theorem ro_lsT : RoOk a l f fun M => LsT a l f n d M := ⟨fun M M' g r => mono_lt d M M' g r, fun M xs r => lsT_put r⟩
theorem lm_ok (h1 : f ≠ a) (h2 : f ≠ l) (hr : RoOk a l f ro) : JOk a l c f (Lm a l c f M0 n ro) := ⟨fun M M' g ⟨g0, d, ⟨fs, e, r⟩, ho⟩ => ⟨g0.trans g.h, d.grow g, ⟨fs, g _ _ e, r⟩, hr.1 _ _ g.h ho⟩, fun M M' g d' ⟨g0, d, ⟨fs, e, r⟩, ho⟩ => ⟨g0.trans g, d', ⟨fs, GrowH.get g h1 h2 e, r⟩, hr.1 _ _ g ho⟩, fun M h => h.2.1, fun M ⟨_, _, ⟨fs, e, _⟩, _⟩ z => by rw [e] at z; cases z⟩
theorem st_app (j : Lm a l c f M0 n ro M) (h1 : f ≠ a) (h2 : f ≠ l) (h3 : f ≠ c) (np : hide a l M0 f = none) (hr : RoOk a l f ro) {to : DTE} (hρ : ∀ M, Gv to ρ M (.ob f)) (hn : n < 1000) (h : Te a l (Lm a l c f M0 n ro) te ρ Pu) (q : ∀ M', Lm a l c f M0 (n + 1) ro M' → E.nx ρ M') : dDrop (dBM dAppend to (dCons te dNil)) E ρ M := by
  refine hρ M M (Grow.refl _) _ fun M1 g1 => ?_
  have j1 := (lm_ok h1 h2 hr).grow _ _ g1 j
  obtain ⟨fs, e, _⟩ := j1.2.2.1
  refine ⟨by rw [msq_ls e]; rfl, h M1 j1 _ fun M2 d j2 g2 hp => ?_⟩
  obtain ⟨g0, dr, ⟨fs, e, hl, hf⟩, ho⟩ := j2
  unfold dNil dAppend
  dsimp only
  rw [e]
  refine ⟨by rw [sizeLine_eq]; omega, q _ ⟨GrowH.put g0 np, dr.putOther h1 h2 h3, ⟨_, mset_same, by rw [List.length_append, List.length_singleton]; omega, fun x hx => ?_⟩, hr.2 _ _ ho⟩⟩
  rcases List.mem_append.mp hx with hx | hx
  · exact hf x hx
  · rw [List.mem_singleton.mp hx]
    exact hp
theorem peel_four {o k : Nat} (h : A ρ M fun x M1 => B ρ M1 fun y M2 => C ρ M2 fun z M3 => F ρ M3 fun u M4 => 4 ≤ sizeLine ∧ 4 = 4 ∧ E.nx ((((ρ.set i (some x)).set j (some y)).set k (some z)).set o (some u)) M4) : dAsg (dTup (dCons A (dCons B (dCons C (dCons F dNil))))) (dgTup 4 (dgCons (dName i) (dgCons (dName j) (dgCons (dName k) (dgCons (dName o) dgNil))))) E ρ M := h
theorem c_words {ss : List Str} {Q : DK} (h : Gx te ρ M (ss.map D.str)) (l10 : ss.length ≤ 10) (each : ∀ s ∈ ss, s.length ≤ 10) (q : ∀ M' p, Grow M M' → M p = none → M' p = some (.ls ((wordsL ss).map D.str)) → Q (.ob p) M') : dCall spWords (dCons te dNil) ρ M Q := h M (Grow.refl M) _ fun M1 p g1 np ep => ⟨p, ss, rfl, ep, l10, each, fun M2 p2 g2 np2 ep2 => q M2 p2 (g1.trans g2) (fresh_of g1 np2) ep2⟩
theorem te_lcR {J : DM → Prop} (jk : JOk a l c f J) {tn body : DTE} {vs : List Nat} (hi : ∀ M, J M → Gv tn ρ M (.int n)) (hl : n ≤ 1000)
    (each : ∀ k < n, Te a l J body ((dwipe ρ vs).set i (some (.int (k : Nat)))) Pu) : Te a l J (dLc (dwR1 (dCons tn dNil)) i dYes body vs) ρ (LsE a l f n) := fun M j Q q => by
  refine peel_lcR (hi M j) (by omega) fun M1 g1 => ?_
  have j1 := jk.grow _ _ g1 j
  refine compI (fun r acc M2 => J M2 ∧ GrowH a l M1 M2 ∧ r = (rgD 0 n).drop acc.length ∧ acc.length ≤ n ∧ ∀ d ∈ acc, Pure d) (fun acc M2 ⟨j2, g2, er, hl2, ha⟩ => ?_) (fun x r acc M2 ⟨j2, g2, er, hl2, ha⟩ N hN => ?_) _ _ _ ⟨j1, Grow.refl _, rfl, Nat.zero_le _, fun d h => nomatch h⟩
  · intro p np
    exact q _ _ (jk.grow _ _ (Grow.new np) j2) ((g1.h.trans g2).trans (Grow.new np).h) ⟨p, acc, rfl, ((jk.drw M2 j2).new np).1, ((jk.drw M2 j2).new np).2.1, fun z => jk.known M2 j2 (z ▸ np), mset_same, by
      have := congrArg List.length er
      rw [List.length_drop, rgD_length, List.length_nil] at this
      omega, ha⟩
  · unfold dYes
    dsimp only
    rw [if_pos rfl]
    have lt : acc.length < n := by
      have := congrArg List.length er
      rw [List.length_drop, rgD_length, List.length_cons] at this
      omega
    have ex : x = .int (acc.length : Nat) ∧ r = (rgD 0 n).drop (acc.length + 1) := by
      rw [List.drop_eq_getElem_cons (by rw [rgD_length]; exact lt)] at er
      injection er with e1 e2
      refine ⟨?_, e2⟩
      have := rgD_get (lo := 0) lt
      rw [List.getElem?_eq_getElem (by rw [rgD_length]; exact lt)] at this
      rw [e1, Option.some.inj this, Int.zero_add]
    obtain ⟨rfl, er2⟩ := ex
    refine each acc.length lt M2 j2 _ fun M3 d j3 g3 hp => ?_
    refine ⟨by rw [sizeLine_eq]; omega, True.intro, hN _ M3 ⟨j3, g2.trans g3, by rw [List.length_append, List.length_singleton]; exact er2, by rw [List.length_append, List.length_singleton]; omega, fun y hy => ?_⟩⟩
    rcases List.mem_append.mp hy with hy | hy
    · exact ha y hy
    · rw [List.mem_singleton.mp hy]
      exact hp
end
def spLimits : DSp := fun ds M Q => ∃ (a l c : Addr), ds = [.ob a] ∧ Drw a l c M ∧ ∀ M' p xs, GrowH a l M M' → Drw a l c M' → p ≠ a → p ≠ l → hide a l M p = none → M' p = some (.ls xs) → xs.length ≤ 1000 → (∀ d ∈ xs, Pure d) → Q (.ob p) M'
section
variable {P : Program} {w : World} {K : PySem.W.Frag} {mg : Str → Option Value} {base : Heap}
theorem ok__law_limits (T : Tx K mg w) : FnOk P w K mg base CX0 4 T.f__law_limits.f T.f__law_limits.fd ["draw"] (LSp K spLimits) := by
  refine dfun T.f__law_limits.F sc__law_limits (fun ds M Q ⟨a, l, c, e, _⟩ => by rw [e]; rfl) fun cdv A outer s H E hr => ⟨_, (ds_cons (ds_asg (d_tup (da_cons (d_fn (fn := T.f__law_words) (ok__law_words T) (hr.mono (by first | decide | omega)) (da_cons (d_lst (da_cons dstr (da_cons dstr da_nil))) da_nil)) (da_cons (d_fn (fn := T.f__law_pick) (ok__law_pick T) (hr.mono (by first | decide | omega)) (da_cons (dv 0) (da_cons (d_lst (da_cons dint (da_cons dint da_nil))) da_nil))) (da_cons (d_fn (fn := T.f__law_pick) (ok__law_pick T) (hr.mono (by first | decide | omega)) (da_cons (dv 0) (da_cons (d_lst (da_cons dint (da_cons dint da_nil))) da_nil))) (da_cons (d_fn (fn := T.f__law_pick) (ok__law_pick T) (hr.mono (by first | decide | omega)) (da_cons (dv 0) (da_cons (d_lst (da_cons dint (da_cons dint da_nil))) da_nil))) da_nil))))) (dg_tup (n := 4) rfl (dgs_cons (dg_name (i := 1) sc__law_limits.nd) (dgs_cons (dg_name (i := 2) sc__law_limits.nd) (dgs_cons (dg_name (i := 3) sc__law_limits.nd) (dgs_cons (dg_name (i := 4) sc__law_limits.nd) dgs_nil)))))) (ds_cons (ds_set (i := 5) sc__law_limits.nd (d_lst (da_cons (d_tup (da_cons dstr (da_cons (d_tuple T.b_tuple (da_cons (d_lc rfl sc__law_limits.nd (di_rng rfl T.b_range (da_cons (dv 2) da_nil)) (blkOk_by (own := [("k", 6)]) (N := ["draw", "letters", "many", "wide", "deep", "found", "k", "parts", "head", "body", "inner", "calls", "first", "last", "round_body", "procs"]) (sc := defScope s__law_limits) (by decide +kernel)) (by decide) (fun _ _ _ _ _ => pg_name (i := 6) sc__law_limits.nd rfl (Or.inl rfl)) (fun _ _ _ _ _ => dts_nil) (fun _ _ _ _ _ => (d_tup (da_cons dstr (da_cons (d_add dstr (d_ixA (hu1 hr) (dv 1) (dv 6))) (da_cons (d_fn (fn := T.f__law_steps) (ok__law_steps T) (hr.mono (by first | decide | omega)) (da_cons (dv 1) (da_cons (d_add dstr (d_ixA (hu1 hr) (dv 1) (dv 6))) (da_cons (d_mod (dv 6) dint) da_nil)))) da_nil)))))) da_nil)) da_nil))) da_nil))) (ds_cons (ds_expr (d_appendS (dv 5) (da_cons (d_tup (da_cons dstr (da_cons (d_tup (da_cons (d_tup (da_cons dstr (da_cons dstr (da_cons (d_tup (da_cons (d_tup (da_cons dstr (da_cons dstr (da_cons dstr (da_cons (d_sl (d_tup (da_cons dstr (da_cons dstr (da_cons dstr (da_cons dstr da_nil))))) do_none (do_some (dv 3))) da_nil))))) (da_cons (d_tup (da_cons dstr (da_cons dstr (da_cons (d_sl (d_tup (da_cons dstr (da_cons dstr (da_cons dstr (da_cons dstr da_nil))))) do_none (do_some (dv 3))) (da_cons (d_tup da_nil) (da_cons (d_tup da_nil) da_nil)))))) (da_cons (d_tup (da_cons dstr (da_cons dstr (da_cons (d_mulA (d_tup (da_cons dstr da_nil)) (dv 3)) (da_cons (d_tup da_nil) da_nil))))) da_nil)))) da_nil)))) da_nil)) da_nil))) da_nil))) (ds_cons (ds_expr (d_appendS (dv 5) (da_cons (d_tup (da_cons dstr (da_cons (d_tup (da_cons (d_tup (da_cons dstr (da_cons dstr (da_cons (d_fn (fn := T.f__law_steps) (ok__law_steps T) (hr.mono (by first | decide | omega)) (da_cons (dv 1) (da_cons dstr (da_cons (dv 4) da_nil)))) da_nil)))) da_nil)) da_nil))) da_nil))) (ds_cons (ds_expr (d_appendS (dv 5) (da_cons (d_tup (da_cons dstr (da_cons (d_tup (da_cons (d_tup (da_cons dstr (da_cons dstr (da_cons (d_tup (da_cons (d_tup (da_cons dstr (da_cons dstr (da_cons (d_tup da_nil) (da_cons (d_fn (fn := T.f__law_steps) (ok__law_steps T) (hr.mono (by first | decide | omega)) (da_cons (dv 1) (da_cons dstr (da_cons dint da_nil)))) (da_cons (d_fn (fn := T.f__law_steps) (ok__law_steps T) (hr.mono (by first | decide | omega)) (da_cons (dv 1) (da_cons dstr (da_cons (dv 4) da_nil)))) da_nil)))))) da_nil)) da_nil)))) da_nil)) da_nil))) da_nil))) (ds_cons (ds_setLc (k := 7) rfl sc__law_limits.nd (di_any (d_lst (da_cons dstr (da_cons dstr (da_cons dstr da_nil))))) (blkOk_by (own := [("head", 8)]) (N := ["draw", "letters", "many", "wide", "deep", "found", "k", "parts", "head", "body", "inner", "calls", "first", "last", "round_body", "procs"]) (sc := defScope s__law_limits) (by decide +kernel)) (by decide) (fun _ _ _ _ _ => pg_name (i := 8) sc__law_limits.nd rfl (Or.inl rfl)) (fun _ _ _ _ _ => dts_nil) (fun _ _ _ _ _ => (d_fn (fn := T.f__law_steps) (ok__law_steps T) (hr.mono (by first | decide | omega)) (da_cons (dv 1) (da_cons (dv 8) (da_cons dint da_nil))))) (sw_true rfl rfl rfl (by decide +kernel))) (ds_cons (ds_set (i := 9) sc__law_limits.nd (d_add (d_tup (da_cons (d_tup (da_cons dstr (da_cons dstr (da_cons (d_tup da_nil) (da_cons (d_ixA (hu1 hr) (dv 7) dint) (da_cons (d_ixA (hu1 hr) (dv 7) dint) da_nil)))))) (da_cons (d_tup (da_cons dstr (da_cons dstr (da_cons (d_tup da_nil) (da_cons (d_ixA (hu1 hr) (dv 7) dint) da_nil))))) da_nil))) (d_fn (fn := T.f__law_steps) (ok__law_steps T) (hr.mono (by first | decide | omega)) (da_cons (dv 1) (da_cons dstr (da_cons (d_sub (dv 4) dint) da_nil)))))) (ds_cons (ds_expr (d_appendS (dv 5) (da_cons (d_tup (da_cons dstr (da_cons (d_tup (da_cons (d_tup (da_cons dstr (da_cons dstr (da_cons (d_sl (dv 9) do_none (do_some (d_neg dint))) da_nil)))) (da_cons (d_tup (da_cons dstr (da_cons dstr (da_cons (d_sl (dv 9) (do_some (d_neg dint)) do_none) da_nil)))) da_nil))) da_nil))) da_nil))) (ds_cons (ds_set (i := 10) sc__law_limits.nd (d_ifE (d_eqT (hu0 hr) (dv 4) dint) (d_tup (da_cons (d_tup (da_cons dstr (da_cons dstr (da_cons dstr (da_cons (d_tup da_nil) da_nil))))) da_nil)) (d_tup da_nil))) (ds_cons (ds_expr (d_appendS (dv 5) (da_cons (d_tup (da_cons dstr (da_cons (d_tup (da_cons (d_tup (da_cons dstr (da_cons dstr (da_cons (d_tup (da_cons (d_tup (da_cons dstr (da_cons dstr (da_cons dstr (da_cons (d_tup da_nil) da_nil))))) (da_cons (d_tup (da_cons dstr (da_cons dstr (da_cons (d_tup da_nil) (da_cons (d_tup (da_cons (d_tup (da_cons dstr (da_cons dstr (da_cons (d_tup da_nil) (da_cons (d_tup (da_cons (d_tup (da_cons dstr (da_cons dstr (da_cons (d_tup (da_cons dstr da_nil)) (da_cons (dv 10) (da_cons (d_tup da_nil) da_nil)))))) da_nil)) da_nil))))) da_nil)) (da_cons (d_tup da_nil) da_nil)))))) da_nil))) da_nil)))) da_nil)) da_nil))) da_nil))) (ds_cons (ds_setLc (k := 11) rfl sc__law_limits.nd (di_rng rfl T.b_range (da_cons dint da_nil)) (blkOk_by (own := [("k", 6)]) (N := ["draw", "letters", "many", "wide", "deep", "found", "k", "parts", "head", "body", "inner", "calls", "first", "last", "round_body", "procs"]) (sc := defScope s__law_limits) (by decide +kernel)) (by decide) (fun _ _ _ _ _ => pg_name (i := 6) sc__law_limits.nd rfl (Or.inl rfl)) (fun _ _ _ _ _ => dts_nil) (fun _ _ _ _ _ => (d_tup (da_cons dstr (da_cons (d_add dstr (d_ixA (hu1 hr) (dv 1) (dv 6))) (da_cons (d_add dstr (d_ixA (hu1 hr) (dv 1) (d_add (dv 6) dint))) da_nil))))) (sw_true rfl rfl rfl (by decide +kernel))) (ds_cons (ds_par (i := 12) (j := 13) rfl sc__law_limits.nd (by decide) (da_cons (d_fn (fn := T.f__law_pick) (ok__law_pick T) (hr.mono (by first | decide | omega)) (da_cons (dv 0) (da_cons (d_lst (da_cons (d_tup (da_cons (d_tup da_nil) (da_cons (d_sl (dv 11) do_none (do_some dint)) da_nil))) (da_cons (d_tup (da_cons (d_sl (dv 11) do_none (do_some dint)) (da_cons (d_sl (dv 11) (do_some dint) (do_some dint)) da_nil))) (da_cons (d_tup (da_cons (d_sl (dv 11) do_none (do_some dint)) (da_cons (d_tup da_nil) da_nil))) da_nil)))) da_nil))) (da_cons (d_fn (fn := T.f__law_pick) (ok__law_pick T) (hr.mono (by first | decide | omega)) (da_cons (dv 0) (da_cons (d_lst (da_cons (d_lst da_nil) (da_cons (d_lst (da_cons (d_tup (da_cons dstr (da_cons dstr (da_cons dstr da_nil)))) da_nil)) (da_cons (d_lst (da_cons (d_tup (da_cons dstr (da_cons dstr (da_cons (d_tup da_nil) (da_cons (d_tup (da_cons (d_tup (da_cons dstr (da_cons dstr (da_cons dstr da_nil)))) da_nil)) da_nil))))) da_nil)) da_nil)))) da_nil))) da_nil))) (ds_cons (ds_set (i := 9) sc__law_limits.nd (d_add (d_tup (da_cons (d_tup (da_cons dstr (da_cons dstr (da_cons dstr da_nil)))) da_nil)) (d_mulA (d_tup (da_cons (d_tup (da_cons dstr (da_cons dstr (da_cons (d_tup da_nil) (da_cons (d_tuple T.b_tuple (da_cons (d_ixA (hu1 hr) (dv 12) dint) da_nil)) (da_cons (d_tuple T.b_tuple (da_cons (d_ixA (hu1 hr) (dv 12) dint) da_nil)) da_nil)))))) da_nil)) (d_fn (fn := T.f__law_take) (ok__law_take T) (hr.mono (by first | decide | omega)) (da_cons (dv 0) (da_cons dint da_nil)))))) (ds_cons (ds_set (i := 14) sc__law_limits.nd (d_ifE (d_neT (hu0 hr) (dv 13) (d_lst da_nil)) (d_tup (da_cons (d_tup (da_cons dstr (da_cons dstr (da_cons (d_tup da_nil) (da_cons (d_tup (da_cons (d_tup (da_cons dstr (da_cons dstr (da_cons dstr da_nil)))) da_nil)) (da_cons (d_tup (da_cons (d_tup (da_cons dstr (da_cons dstr (da_cons dstr da_nil)))) da_nil)) da_nil)))))) da_nil)) (d_tup da_nil))) (ds_cons (ds_set (i := 15) sc__law_limits.nd (d_lst (da_cons (d_tup (da_cons dstr (da_cons dstr (da_cons (dv 9) da_nil)))) (da_cons (d_tup (da_cons dstr (da_cons dstr (da_cons (d_tuple T.b_tuple (da_cons (d_sl (dv 11) (do_some dint) (do_some dint)) da_nil)) da_nil)))) (da_cons (d_tup (da_cons dstr (da_cons dstr (da_cons (d_tup da_nil) da_nil)))) (da_cons (d_tup (da_cons dstr (da_cons dstr (da_cons (d_tup (da_cons (d_tup (da_cons dstr (da_cons dstr (da_cons (d_tup da_nil) (da_cons (d_tup da_nil) (da_cons (d_tuple T.b_tuple (da_cons (dv 13) da_nil)) da_nil)))))) da_nil)) da_nil)))) (da_cons (d_tup (da_cons dstr (da_cons dstr (da_cons (dv 14) da_nil)))) da_nil))))))) (ds_cons (ds_expr (d_appendS (dv 5) (da_cons (d_tup (da_cons dstr (da_cons (d_tuple T.b_tuple (da_cons (dv 15) da_nil)) da_nil))) da_nil))) (ds_cons (ds_expr (d_appendS (dv 5) (da_cons (d_tup (da_cons dstr (da_cons (d_tuple T.b_tuple (da_cons (d_add (d_add (d_sl (dv 15) do_none (do_some dint)) (d_lst (da_cons (d_tup (da_cons dstr (da_cons dstr (da_cons (d_mulA (d_tup (da_cons (d_tup (da_cons dstr (da_cons dstr (da_cons dstr da_nil)))) da_nil)) (d_fn (fn := T.f__law_take) (ok__law_take T) (hr.mono (by first | decide | omega)) (da_cons (dv 0) (da_cons dint da_nil)))) da_nil)))) da_nil))) (d_sl (dv 15) (do_some dint) do_none)) da_nil)) da_nil))) da_nil))) (ds_cons (ds_par (i := 12) (j := 13) rfl sc__law_limits.nd (by decide) (da_cons (d_tup (da_cons dstr (da_cons dstr (da_cons (d_tup (da_cons (d_tup (da_cons dstr (da_cons dstr (da_cons (d_tup da_nil) (da_cons (d_tup (da_cons (d_tup (da_cons dstr (da_cons dstr (da_cons dstr da_nil)))) da_nil)) (da_cons (d_tup (da_cons (d_tup (da_cons dstr (da_cons dstr (da_cons dstr da_nil)))) da_nil)) da_nil)))))) da_nil)) da_nil)))) (da_cons (d_tup (da_cons dstr (da_cons dstr (da_cons (d_tup (da_cons (d_tup (da_cons dstr (da_cons dstr (da_cons (d_fn (fn := T.f__law_pick) (ok__law_pick T) (hr.mono (by first | decide | omega)) (da_cons (dv 0) (da_cons (d_lst (da_cons dstr (da_cons dstr (da_cons dstr da_nil)))) da_nil))) da_nil)))) da_nil)) da_nil)))) da_nil))) (ds_cons (ds_expr (d_appendS (dv 5) (da_cons (d_tup (da_cons dstr (da_cons (d_tuple T.b_tuple (da_cons (d_add (d_add (d_add (d_add (d_sl (dv 15) do_none (do_some dint)) (d_lst (da_cons (dv 12) da_nil))) (d_sl (dv 15) (do_some dint) (do_some dint))) (d_lst (da_cons (dv 13) da_nil))) (d_sl (dv 15) (do_some dint) do_none)) da_nil)) da_nil))) da_nil))) (ds_one (ds_ret (dv 5)))))))))))))))))))))), ?_⟩
  rintro ds M0 Q ⟨a, l, c, rfl, dr, q⟩
  have sz : ∀ k : Nat, k ≤ 3000 → k ≤ sizeLine := fun k h => by rw [sizeLine_eq]; omega
  refine s_seq (peel_four ?_)
  refine c_words (ρ := [some (.ob a), none, none, none, none, none, none, none, none, none, none, none, none, none, none, none]) (ss := ["", "v"]) (gl_lst (ga_cons gv_c (ga_cons gv_c ga_nil)) (sz 2 (by decide))) (by decide) (by decide +kernel) fun M2 pl g2 nl2 el2 => ?_
  have np := dr.new nl2
  refine c_pickX (ρ := [some (.ob a), none, none, none, none, none, none, none, none, none, none, none, none, none, none, none]) (gv_var rfl) (gl_lst (vs := [.int 8, .int 9]) (ga_cons gv_c (ga_cons gv_c ga_nil)) (sz 2 (by decide))) (dr.grow g2) (by simp) (by simp) fun M3 d1 g3 dr3 hd1 => ?_
  refine c_pickX (ρ := [some (.ob a), none, none, none, none, none, none, none, none, none, none, none, none, none, none, none]) (gv_var rfl) (gl_lst (vs := [.int 3, .int 4]) (ga_cons gv_c (ga_cons gv_c ga_nil)) (sz 2 (by decide))) dr3 (by simp) (by simp) fun M4 d2 g4 dr4 hd2 => ?_
  refine c_pickX (ρ := [some (.ob a), none, none, none, none, none, none, none, none, none, none, none, none, none, none, none]) (gv_var rfl) (gl_lst (vs := [.int 10, .int 11]) (ga_cons gv_c (ga_cons gv_c ga_nil)) (sz 2 (by decide))) dr4 (by simp) (by simp) fun M5 d3 g5 dr5 hd3 => ⟨sz 4 (by decide), rfl, ?_⟩
  obtain ⟨many, rfl, hm⟩ : ∃ k : Nat, d1 = .int k ∧ k ≤ 9 := by
    simp only [List.mem_cons, List.not_mem_nil, or_false] at hd1
    rcases hd1 with rfl | rfl
    · exact ⟨8, rfl, by decide⟩
    · exact ⟨9, rfl, by decide⟩
  obtain ⟨wide, rfl, hw⟩ : ∃ k : Nat, d2 = .int k ∧ k ≤ 4 := by
    simp only [List.mem_cons, List.not_mem_nil, or_false] at hd2
    rcases hd2 with rfl | rfl
    · exact ⟨3, rfl, by decide⟩
    · exact ⟨4, rfl, by decide⟩
  obtain ⟨deep, rfl, hk1, hk⟩ : ∃ k : Nat, d3 = .int k ∧ 2 ≤ k ∧ k ≤ 11 := by
    simp only [List.mem_cons, List.not_mem_nil, or_false] at hd3
    rcases hd3 with rfl | rfl
    · exact ⟨10, rfl, by decide, by decide⟩
    · exact ⟨11, rfl, by decide, by decide⟩
  dsimp only
  have g05 : GrowH a l M0 M5 := ((g2.h.trans g3).trans g4).trans g5
  have el : M5 pl = some (.ls (WL.map D.str)) := GrowH.get ((g3.trans g4).trans g5) np.1 np.2.1 el2
  have WLn : WL.length = 52 := words_len ["", "v"]
  have WL2 : ∀ x ∈ WL, x.length ≤ 2 := by decide +kernel
  have WL4 : ∀ x ∈ WL, x.length ≤ 4 := fun x hx => Nat.le_trans (WL2 x hx) (by decide)
  clear g2 g3 g4 g5 dr3 dr4 hd1 hd2 hd3 el2
  -- the letters
  let J0 : DM → Prop := fun M => GrowH a l M0 M ∧ Drw a l c M ∧ M pl = some (.ls (WL.map D.str))
  have jk0 : JOk a l c a J0 := ⟨fun M M' g ⟨g0, d, e⟩ => ⟨g0.trans g.h, d.grow g, g _ _ e⟩, fun M M' g d' ⟨g0, d, e⟩ => ⟨g0.trans g, d', GrowH.get g np.1 np.2.1 e⟩, fun M h => h.2.1, fun M ⟨_, ⟨_, _, _, L, C, r, t, e, _⟩, _⟩ z => by rw [e] at z; cases z⟩
  have let1 : ∀ {J : DM → Prop} {f : Addr} (jk : JOk a l c f J) (hJ : ∀ M, J M → M pl = some (.ls (WL.map D.str))) {ti : DTE} {ρ : DSt} {k : Nat}, ρ[1]? = some (some (.ob pl)) → (∀ M, J M → Gv ti ρ M (.int (k : Nat))) → k < 52 → Te a l J (dOp dIx (dVar 1) ti) ρ (Sn 2) := @fun J f jk hJ ti ρ k h1 h2 hk => by
    have lt : k < WL.length := by omega
    have e : WL[k]? = some (WL[k]'lt) := List.getElem?_eq_getElem lt
    exact te_gv jk (v := .str (WL[k]'lt)) (fun M j => gv_op (gv_var h1) (h2 M j) (rv_ixL (hJ M j) (atI_nat (by rw [List.getElem?_map, e]; rfl)))) fun M j => ⟨_, rfl, WL2 _ (List.getElem_mem lt)⟩
  have tup0 : ∀ {J : DM → Prop} {ρ : DSt}, Te a l J (dTup dNil) ρ Pu := fun {J ρ} => te_p (te_tup tw_nil (Nat.zero_le _))
  have call3 : ∀ {J : DM → Prop} {f : Addr} (jk : JOk a l c f J) (hJ : ∀ M, J M → M pl = some (.ls (WL.map D.str))) {t1 t2 : DTE} {ρ : DSt} {k : Nat}, ρ[1]? = some (some (.ob pl)) → Te a l J t1 ρ (Sn 4) → (∀ M, J M → Gv t2 ρ M (.int (k : Nat))) → k ≤ 52 → Te a l J (dCall spSteps (dCons (dVar 1) (dCons t1 (dCons t2 dNil)))) ρ (TT k) := @fun J f jk hJ t1 t2 ρ k h0 h1 h2 hk =>
    te_steps jk (te_var h0 fun M j => ⟨rfl, hJ M j⟩) ⟨np.1, np.2.1⟩ h1 (te_gv jk h2 fun M j => rfl) WL4 (by omega) (by omega)
  let ρ1 : DSt := [some (.ob a), some (.ob pl), some (.int many), some (.int wide), some (.int deep), none, none, none, none, none, none, none, none, none, none, none]
  have lib : ∀ {J : DM → Prop} {te : DTE} {ρ : DSt} {n : Nat}, Te a l J te ρ (TT n) → Te a l J (dTup (dCons (dC (.str "library")) (dCons te dNil))) ρ Pu := fun h => te_p (te_tup (tw_p (te_cs (by decide +kernel)) (tw_p (te_p h) tw_nil)) (sz 2 (by decide)))
  have pr3 : ∀ {J : DM → Prop} {t1 t2 : DTE} {ρ : DSt}, Te a l J t1 ρ Pu → Te a l J t2 ρ Pu → Te a l J (dTup (dCons (dC (.str "proc")) (dCons t1 (dCons t2 dNil)))) ρ Pu := fun h1 h2 => te_p (te_tup (tw_p (te_cs (by decide +kernel)) (tw_p h1 (tw_p h2 tw_nil))) (sz 3 (by decide)))
  have fm2 : ∀ k : Nat, (k : Int).fmod 2 = ((k % 2 : Nat) : Int) := fun k => by
    rw [Int.fmod_eq_emod_of_nonneg _ (by decide)]
    rfl
  refine s_seq (peel_asg (peel_lst1 (lib (J := J0) (ρ := ρ1) (te_tupL ((te_w (te_lcR (n := many) jk0 (fun M j => gv_var rfl) (by omega) fun k hk => pr3 ?_ (te_p (n := k % 2) ?_)) fun d M h => h.t))) M5 ⟨g05, dr5, el⟩ _ fun M6 d j6 g6 r6 => ⟨sz 1 (by decide), fun pf nf => ?_⟩)))
  · exact te_s (te_addS (n := 1) (te_cS (by decide +kernel)) (let1 jk0 (fun M j => j.2.2) rfl (fun M j => gv_var rfl) (by omega)) (sz 3 (by decide))) (by decide)
  · refine call3 jk0 (fun M j => j.2.2) rfl ?_ (fun M j => gv_eq (gv_op (gv_var rfl) gv_c (rv_mod (by decide))) (congrArg D.int (fm2 k))) (by omega)
    exact te_w (te_addS (n := 1) (te_cS (by decide +kernel)) (let1 jk0 (fun M j => j.2.2) rfl (fun M j => gv_var rfl) (by omega)) (sz 3 (by decide))) fun d M ⟨x, e, h⟩ => ⟨x, e, by omega⟩
  have nn := j6.2.1.new nf
  have f0 : hide a l M0 pf = none := fresh_of j6.1 (by rw [hide_ne nn.1 nn.2.1]; exact nf)
  have plf : pl ≠ pf := fun z => by rw [← z, j6.2.2] at nf; cases nf
  let L0 : DM → Prop := fun M => M pl = some (.ls (WL.map D.str))
  have ro0 : RoOk a l pf L0 := ro_ls np.1 np.2.1 plf
  have j : Lm a l c pf M0 1 L0 (mset M6 pf (.ls [d])) := ⟨GrowH.put j6.1 f0, j6.2.1.putOther nn.1 nn.2.1 nn.2.2, ⟨[d], mset_same, by simp, fun e he => by rw [List.mem_singleton.mp he]; exact r6⟩, by show mset M6 pf _ pl = _; rw [mset_ne plf]; exact j6.2.2⟩
  have app : ∀ {n : Nat} {ro : DM → Prop} {ρ : DSt} {te : DTE} {M : DM} {E : DEnds}, RoOk a l pf ro → ρ[5]? = some (some (.ob pf)) → n < 1000 → Lm a l c pf M0 n ro M → Te a l (Lm a l c pf M0 n ro) te ρ Pu → (∀ M', Lm a l c pf M0 (n + 1) ro M' → E.nx ρ M') → dDrop (dBM dAppend (dVar 5) (dCons te dNil)) E ρ M := fun hr h5 hn j h q => st_app j nn.1 nn.2.1 nn.2.2 f0 hr (fun M => gv_var h5) hn h q
  generalize mset M6 pf (.ls [d]) = M7 at j ⊢
  clear dr5 el g05 j6 g6 r6 nf d
  dsimp only
  let ρ2 : DSt := [some (.ob a), some (.ob pl), some (.int many), some (.int wide), some (.int deep), some (.ob pf), none, none, none, none, none, none, none, none, none, none]
  have jk : ∀ n, JOk a l c pf (Lm a l c pf M0 n L0) := fun n => lm_ok nn.1 nn.2.1 ro0
  have cut4 : ∀ {J : DM → Prop} (jk : JOk a l c pf J) {t : DTA} {ρ : DSt}, ρ[3]? = some (some (.int wide)) → Tw a l J t ρ 4 Pu → Te a l J (dSl (dTup t) dNoPart (dPart (dVar 3))) ρ Pu := @fun J jk t ρ h3 h => te_p (te_slT jk (te_tup h (sz 4 (by decide))) (fun M j => go_none) fun M j => go_some (gv_var h3))
  refine s_seq (app (ρ := ρ2) ro0 rfl (by decide) j (lib (te_tup (tw_p (pr3 (te_cs (by decide +kernel)) ?_) tw_nil) (sz 1 (by decide)))) fun M8 j8 => ?_)
  · have jk1 := jk 1
    have hm : Te a l (Lm a l c pf M0 1 L0) (dOp dMul (dTup (dCons (dC (.str "d")) dNil)) (dVar 3)) ρ2 Pu := te_p (te_mul (m := 5) (te_one (te_cs (by decide +kernel))) (te_var rfl fun M j => ⟨wide, rfl, by omega⟩) (by decide) (by decide))
    repeat' first
      | exact tw_nil
      | exact hm
      | refine cut4 jk1 rfl ?_
      | exact tup0
      | exact te_cs (by decide +kernel)
      | apply tw_p
      | apply te_pt
      | exact sz _ (by decide)
  have c0 : ∀ {n : Nat} {ro : DM → Prop} (hr : RoOk a l pf ro) (h0 : ∀ M, ro M → M pl = some (.ls (WL.map D.str))) {x : Str} {t2 : DTE} {ρ : DSt} {k : Nat}, ρ[1]? = some (some (.ob pl)) → x.length ≤ 4 → (∀ M, Gv t2 ρ M (.int (k : Nat))) → k ≤ 52 → Te a l (Lm a l c pf M0 n ro) (dCall spSteps (dCons (dVar 1) (dCons (dC (.str x)) (dCons t2 dNil)))) ρ (TT k) := @fun n ro hr h0 x t2 ρ k h1 hx h2 hk => call3 (lm_ok nn.1 nn.2.1 hr) (fun M j => h0 M j.2.2.2) h1 (te_cS hx) (fun M _ => h2 M) hk
  refine s_seq (app (ρ := ρ2) ro0 rfl (by decide) j8 (lib (te_tup (tw_p (pr3 (te_cs (by decide +kernel)) (te_p (c0 ro0 (fun M h => h) (k := deep) rfl (by decide +kernel) (fun M => gv_var rfl) (by omega)))) tw_nil) (sz 1 (by decide)))) fun M9 j9 => ?_)
  refine s_seq (app (ρ := ρ2) ro0 rfl (by decide) j9 (lib (te_tup (tw_p (pr3 (te_cs (by decide +kernel)) ?_) tw_nil) (sz 1 (by decide)))) fun M10 j10 => ?_)
  · have h1 := te_p (c0 (n := 3) ro0 (fun M h => h) (x := "s") (t2 := dC (.int 1)) (ρ := ρ2) (k := 1) rfl (by decide +kernel) (fun M => gv_c) (by decide))
    have h2 := te_p (c0 (n := 3) ro0 (fun M h => h) (x := "u") (t2 := dVar 4) (ρ := ρ2) (k := deep) rfl (by decide +kernel) (fun M => gv_var rfl) (by omega))
    repeat' first
      | exact tw_nil
      | exact h1
      | exact h2
      | exact tup0
      | exact te_cs (by decide +kernel)
      | apply tw_p
      | apply te_pt
      | exact sz _ (by decide)
  refine s_seq (st_set (J := Lm a l c pf M0 4 L0) (ρ := ρ2) j10 (te_lc (all := [.str "s", .str "u", .str "sx"]) (jk 4) (fun M j => gi_new (gl_lst (ga_cons gv_c (ga_cons gv_c (ga_cons gv_c ga_nil))) (sz 3 (by decide)))) (by decide) fun d hd M j Q q => ?_) fun d11 M11 j11 g11 r11 => ?_)
  · obtain ⟨x, rfl, hx⟩ : ∃ x : Str, d = .str x ∧ x.length ≤ 4 := by
      simp only [List.mem_cons, List.not_mem_nil, or_false] at hd
      rcases hd with rfl | rfl | rfl <;> exact ⟨_, rfl, by decide +kernel⟩
    refine (ga_cons (gv_var (v := .ob pl) rfl) (ga_cons (gv_var (v := .str x) rfl) (ga_cons (gv_c (v := .int ((10 : Nat) : Int))) ga_nil)) : Ga (dCons (dVar 1) (dCons (dVar 8) (dCons (dC (.int 10)) dNil))) ((dwipe ρ2 [8]).set 8 (some (.str x))) M _) M (Grow.refl _) _ fun M1 g1 => ?_
    exact ⟨pl, WL, x, 10, rfl, g1 _ _ j.2.2.2, WL4, hx, by omega, by decide, fun M2 ds g2 hl hp => q M2 _ ((jk 4).grow _ _ (g1.trans g2) j) (g1.trans g2) (pure_tup hp)⟩
  obtain ⟨pp, xs, rfl, pp1, pp2, pp3, epp, lpp, hpp⟩ := r11
  dsimp only
  let L1 : DM → Prop := fun M => L0 M ∧ M pp = some (.ls xs)
  have ro1 : RoOk a l pf L1 := ro0.and (ro_ls pp1 pp2 pp3)
  have j11 : Lm a l c pf M0 4 L1 M11 := ⟨j11.1, j11.2.1, j11.2.2.1, j11.2.2.2, epp⟩
  have jk' : ∀ n, JOk a l c pf (Lm a l c pf M0 n L1) := fun n => lm_ok nn.1 nn.2.1 ro1
  let ρ3 : DSt := [some (.ob a), some (.ob pl), some (.int many), some (.int wide), some (.int deep), some (.ob pf), none, some (.ob pp), none, none, none, none, none, none, none, none]
  have ixp : ∀ k : Nat, k < 3 → Te a l (Lm a l c pf M0 4 L1) (dOp dIx (dVar 7) (dC (.int k))) ρ3 Pu := fun k hk => te_ixE (jk' 4) rfl (fun M j => j.2.2.2.2) (by rw [lpp]; exact hk) hpp
  refine s_seq (st_set (J := Lm a l c pf M0 4 L1) (ρ := ρ3) (R := TT (2 + (deep - 2))) j11 (te_addT (te_tup (tw_p ?_ (tw_p ?_ tw_nil)) (sz 2 (by decide))) (c0 ro1 (fun M h => h.1) (k := deep - 2) rfl (by decide +kernel) (fun M => gv_eq (gv_op (gv_var rfl) gv_c rv_sub) (congrArg D.int (by omega))) (by omega)) (sz _ (by omega))) fun d12 M12 j12 g12 r12 => ?_)
  · have h0 := ixp 0 (by decide)
    have h1 := ixp 1 (by decide)
    repeat' first
      | exact tw_nil
      | exact h0
      | exact h1
      | exact tup0
      | exact te_cs (by decide +kernel)
      | apply tw_p
      | apply te_pt
      | exact sz _ (by decide)
  · have h2 := ixp 2 (by decide)
    repeat' first
      | exact tw_nil
      | exact h2
      | exact tup0
      | exact te_cs (by decide +kernel)
      | apply tw_p
      | apply te_pt
      | exact sz _ (by decide)
  dsimp only
  let ρ4 : DSt := [some (.ob a), some (.ob pl), some (.int many), some (.int wide), some (.int deep), some (.ob pf), none, some (.ob pp), none, some d12, none, none, none, none, none, none]
  refine s_seq (app (ρ := ρ4) ro1 rfl (by decide) j12 (lib (te_tup (tw_p (pr3 (te_cs (by decide +kernel)) ?_) (tw_p (pr3 (te_cs (by decide +kernel)) ?_) tw_nil)) (sz 2 (by decide)))) fun M13 j13 => ?_)
  · exact te_p (te_slT (jk' 4) (te_var rfl fun M _ => r12) (fun M j => go_none) fun M j => go_some gv_neg1)
  · exact te_p (te_slT (jk' 4) (te_var rfl fun M _ => r12) (fun M j => go_some gv_neg1) fun M j => go_none)
  dsimp only
  refine s_seq (st_set (J := Lm a l c pf M0 5 L1) (ρ := ρ4) (R := Pu) j13 (te_if (jk' 5) (b := decide ((deep : Int) = 11)) (fun M j => gt_t (gv_op (gv_var (v := .int deep) rfl) gv_c rv_eqI)) ?_ ?_) fun d14 M14 j14 g14 r14 => ?_)
  · repeat' first
      | exact tw_nil
      | exact tup0
      | exact te_cs (by decide +kernel)
      | apply tw_p
      | apply te_pt
      | exact sz _ (by decide)
  · repeat' first
      | exact tw_nil
      | exact tup0
      | exact te_cs (by decide +kernel)
      | apply tw_p
      | apply te_pt
      | exact sz _ (by decide)
  dsimp only
  let ρ5 : DSt := [some (.ob a), some (.ob pl), some (.int many), some (.int wide), some (.int deep), some (.ob pf), none, some (.ob pp), none, some d12, some d14, none, none, none, none, none]
  refine s_seq (app (ρ := ρ5) ro1 rfl (by decide) j14 (lib (te_tup (tw_p (pr3 (te_cs (by decide +kernel)) ?_) tw_nil) (sz 1 (by decide)))) fun M15 j15 => ?_)
  · have h1 : Te a l (Lm a l c pf M0 5 L1) (dVar 10) ρ5 Pu := te_var rfl fun M _ => r14
    repeat' first
      | exact tw_nil
      | exact h1
      | exact tup0
      | exact te_cs (by decide +kernel)
      | apply tw_p
      | apply te_pt
      | exact sz _ (by decide)
  dsimp only
  refine s_seq (st_set (J := Lm a l c pf M0 6 L1) (ρ := ρ5) j15 (te_lcR (n := 4) (jk' 6) (fun M j => gv_c) (by decide) fun k hk => te_pt (tw_p (te_cs (by decide +kernel)) (tw_p ?_ (tw_p ?_ tw_nil))) (sz 3 (by decide))) fun d16 M16 j16 g16 r16 => ?_)
  · exact te_s (te_addS (n := 1) (te_cS (by decide +kernel)) (let1 (jk' 6) (fun M j => j.2.2.2.1) rfl (fun M j => gv_var rfl) (by omega)) (sz 3 (by decide))) (by decide)
  · exact te_s (te_addS (n := 1) (te_cS (by decide +kernel)) (let1 (k := k + 2) (jk' 6) (fun M j => j.2.2.2.1) rfl (fun M j => gv_op (gv_var rfl) gv_c rv_add) (by omega)) (sz 3 (by decide))) (by decide)
  dsimp only
  obtain ⟨pc, cs, rfl, pc1, pc2, pc3, epc, lpc, hpc⟩ := r16
  let L2 : DM → Prop := fun M => L0 M ∧ M pc = some (.ls cs)
  have ro2 : RoOk a l pf L2 := ro0.and (ro_ls pc1 pc2 pc3)
  have j16 : Lm a l c pf M0 6 L2 M16 := ⟨j16.1, j16.2.1, j16.2.2.1, j16.2.2.2.1, epc⟩
  have jk2 : ∀ n, JOk a l c pf (Lm a l c pf M0 n L2) := fun n => lm_ok nn.1 nn.2.1 ro2
  let ρ6 : DSt := [some (.ob a), some (.ob pl), some (.int many), some (.int wide), some (.int deep), some (.ob pf), none, some (.ob pp), none, some d12, some d14, some (.ob pc), none, none, none, none]
  have callsV : Te a l (Lm a l c pf M0 6 L2) (dVar 11) ρ6 (LsT a l pf 4) := te_var rfl fun M j => ⟨pc, cs, rfl, pc1, pc2, pc3, j.2.2.2.2, by omega, hpc⟩
  have nilP : Te a l (Lm a l c pf M0 6 L2) (dTup dNil) ρ6 (LP a l pf 4) := te_w (te_tup tw_nil (Nat.zero_le _)) fun d M ⟨ds, e, h, r⟩ => .inl ⟨ds, e, by omega, r⟩
  have slP : ∀ {tl th : DTO} {lo hi : Option Int}, (∀ M, Go tl ρ6 M lo) → (∀ M, Go th ρ6 M hi) → Te a l (Lm a l c pf M0 6 L2) (dSl (dVar 11) tl th) ρ6 (LP a l pf 4) := fun h1 h2 => te_w (te_slL (jk2 6) callsV (fun M _ => h1 M) fun M _ => h2 M) fun d M h => .inr h
  have wk : ∀ {J : DM → Prop} {t : DTA} {ρ : DSt} {n : Nat}, JOk a l c pf J → Tw a l J t ρ n Pu → n ≤ 4 → Te a l J (dLst t) ρ (LsT a l pf 4) := fun jk h hn => te_w (te_lst jk h (sz _ (by omega))) fun d M ⟨p, xs, e, h1, h2, h3, ep, hl, hp⟩ => ⟨p, xs, e, h1, h2, h3, ep, by omega, hp⟩
  refine s_seq (st_par (J := Lm a l c pf M0 6 L2) (ρ := ρ6) (R := LP2 a l pf 4) (S := LsT a l pf 4) j16 (te_pick (n := 2) (jk2 6) rfl mono_lp2 (tw_cons mono_lp2 ?_ (tw_cons mono_lp2 ?_ (tw_cons mono_lp2 ?_ tw_nil))) (by decide)) mono_lp2 (te_pick (n := 2) (jk2 6) rfl mono_lt (tw_cons mono_lt ?_ (tw_cons mono_lt ?_ (tw_cons mono_lt ?_ tw_nil))) (by decide)) fun d17 d18 M17 j17 g17 r17 r18 => ?_)
  · exact te_pair nilP (slP (fun M => go_none) fun M => go_some gv_c)
  · exact te_pair (slP (fun M => go_none) fun M => go_some gv_c) (slP (fun M => go_some gv_c) fun M => go_some gv_c)
  · exact te_pair (slP (fun M => go_none) fun M => go_some gv_c) nilP
  · exact wk (jk2 6) tw_nil (by decide)
  · refine wk (n := 1) (jk2 6) ?_ (by decide)
    repeat' first
      | exact tw_nil
      | exact tup0
      | exact te_cs (by decide +kernel)
      | apply tw_p
      | apply te_pt
      | exact sz _ (by decide)
  · refine wk (n := 1) (jk2 6) ?_ (by decide)
    repeat' first
      | exact tw_nil
      | exact tup0
      | exact te_cs (by decide +kernel)
      | apply tw_p
      | apply te_pt
      | exact sz _ (by decide)
  dsimp only
  obtain ⟨x, y, rfl, rx, ry⟩ := r17
  obtain ⟨pt, ts, rfl, pt1, pt2, pt3, ept, lpt, hpt⟩ := r18
  let L3 : DM → Prop := fun M => (L0 M ∧ M pc = some (.ls cs)) ∧ (LP a l pf 4 x M ∧ LP a l pf 4 y M) ∧ M pt = some (.ls ts)
  have roP : ∀ d, RoOk a l pf fun M => LP a l pf 4 d M := fun d => ⟨fun M M' g r => mono_lp d M M' g r, fun M xs r => r.imp (fun h => h) fun h => lsT_put h⟩
  have ro3 : RoOk a l pf L3 := ro2.and (((roP x).and (roP y)).and (ro_ls pt1 pt2 pt3))
  have j17 : Lm a l c pf M0 6 L3 M17 := ⟨j17.1, j17.2.1, j17.2.2.1, j17.2.2.2, ⟨rx, ry⟩, ept⟩
  have jk3 : ∀ n, JOk a l c pf (Lm a l c pf M0 n L3) := fun n => lm_ok nn.1 nn.2.1 ro3
  let ρ7 : DSt := [some (.ob a), some (.ob pl), some (.int many), some (.int wide), some (.int deep), some (.ob pf), none, some (.ob pp), none, some d12, some d14, some (.ob pc), some (.tup [x, y]), some (.ob pt), none, none]
  have first0 : Te a l (Lm a l c pf M0 6 L3) (dCB dTupOf (dCons (dOp dIx (dVar 12) (dC (.int 0))) dNil)) ρ7 Pu := te_p (n := 4) (te_tupE (f := pf) (te_gv (jk3 6) (v := x) (fun M j => gv_op (gv_var rfl) gv_c (rv_ixT (atI_nat (n := 0) rfl))) fun M j => j.2.2.2.2.1.1))
  have first1 : Te a l (Lm a l c pf M0 6 L3) (dCB dTupOf (dCons (dOp dIx (dVar 12) (dC (.int 1))) dNil)) ρ7 Pu := te_p (n := 4) (te_tupE (f := pf) (te_gv (jk3 6) (v := y) (fun M j => gv_op (gv_var rfl) gv_c (rv_ixT (atI_nat (n := 1) rfl))) fun M j => j.2.2.2.2.1.2))
  refine s_seq (st_set (J := Lm a l c pf M0 6 L3) (ρ := ρ7) (R := Pu) j17 (te_p (te_addT (te_tup (tw_p ?_ tw_nil) (sz 1 (by decide))) (te_mul (m := 2) (te_one ?_) (te_take (jk3 6) rfl (by decide) (by decide)) (by decide) (by decide)) (sz _ (by decide)))) fun d19 M19 j19 g19 r19 => ?_)
  · repeat' first
      | exact tw_nil
      | exact tup0
      | exact te_cs (by decide +kernel)
      | apply tw_p
      | apply te_pt
      | exact sz _ (by decide)
  · repeat' first
      | exact tw_nil
      | exact first0
      | exact first1
      | exact tup0
      | exact te_cs (by decide +kernel)
      | apply tw_p
      | apply te_pt
      | exact sz _ (by decide)
  dsimp only
  let ρ8 : DSt := [some (.ob a), some (.ob pl), some (.int many), some (.int wide), some (.int deep), some (.ob pf), none, some (.ob pp), none, some d19, some d14, some (.ob pc), some (.tup [x, y]), some (.ob pt), none, none]
  refine s_seq (st_set (J := Lm a l c pf M0 6 L3) (ρ := ρ8) (R := Pu) j19 (te_if (jk3 6) (b := !ts.isEmpty) (fun M j => gt_t (gv_ne_at (gv_var rfl) j.2.2.2.2.2)) ?_ ?_) fun d20 M20 j20 g20 r20 => ?_)
  · repeat' first
      | exact tw_nil
      | exact tup0
      | exact te_cs (by decide +kernel)
      | apply tw_p
      | apply te_pt
      | exact sz _ (by decide)
  · repeat' first
      | exact tw_nil
      | exact tup0
      | exact te_cs (by decide +kernel)
      | apply tw_p
      | apply te_pt
      | exact sz _ (by decide)
  dsimp only
  let ρ9 : DSt := [some (.ob a), some (.ob pl), some (.int many), some (.int wide), some (.int deep), some (.ob pf), none, some (.ob pp), none, some d19, some d14, some (.ob pc), some (.tup [x, y]), some (.ob pt), some d20, none]
  refine s_seq (st_set (J := Lm a l c pf M0 6 L3) (ρ := ρ9) (R := LsT a l pf 5) j20 (te_lst (n := 5) (jk3 6) ?_ (sz 5 (by decide))) fun d21 M21 j21 g21 r21 => ?_)
  · have h9 : Te a l (Lm a l c pf M0 6 L3) (dVar 9) ρ9 Pu := te_var rfl fun M _ => r19
    have h14 : Te a l (Lm a l c pf M0 6 L3) (dVar 14) ρ9 Pu := te_var rfl fun M _ => r20
    have h11 : Te a l (Lm a l c pf M0 6 L3) (dCB dTupOf (dCons (dSl (dVar 11) (dPart (dC (.int 2))) (dPart (dC (.int 3)))) dNil)) ρ9 Pu := te_p (n := 4) (te_tupL (f := pf) (te_slL (jk3 6) (te_var rfl fun M j => ⟨pc, cs, rfl, pc1, pc2, pc3, j.2.2.2.1.2, by omega, hpc⟩) (fun M j => go_some gv_c) fun M j => go_some gv_c))
    have h13 : Te a l (Lm a l c pf M0 6 L3) (dCB dTupOf (dCons (dVar 13) dNil)) ρ9 Pu := te_p (n := 4) (te_tupL (f := pf) (te_var rfl fun M j => ⟨pt, ts, rfl, pt1, pt2, pt3, j.2.2.2.2.2, lpt, hpt⟩))
    repeat' first
      | exact tw_nil
      | exact h9
      | exact h14
      | exact h11
      | exact h13
      | exact tup0
      | exact te_cs (by decide +kernel)
      | apply tw_p
      | apply te_pt
      | exact sz _ (by decide)
  dsimp only
  obtain ⟨pr, rs, rfl, pr1, pr2, pr3', epr, lpr, hpr⟩ := r21
  let L4 : DM → Prop := fun M => M pr = some (.ls rs)
  have ro4 : RoOk a l pf L4 := ro_ls pr1 pr2 pr3'
  have j21 : Lm a l c pf M0 6 L4 M21 := ⟨j21.1, j21.2.1, j21.2.2.1, epr⟩
  have jk4 : ∀ n, JOk a l c pf (Lm a l c pf M0 n L4) := fun n => lm_ok nn.1 nn.2.1 ro4
  have procsV : ∀ {n : Nat} {ρ : DSt}, ρ[15]? = some (some (.ob pr)) → Te a l (Lm a l c pf M0 n L4) (dVar 15) ρ (LsT a l pf 5) := fun h => te_var h fun M j => ⟨pr, rs, rfl, pr1, pr2, pr3', j.2.2.2, lpr, hpr⟩
  have slV : ∀ {n : Nat} {ρ : DSt} {tl th : DTO} {lo hi : Option Int}, ρ[15]? = some (some (.ob pr)) → (∀ M, Go tl ρ M lo) → (∀ M, Go th ρ M hi) → Te a l (Lm a l c pf M0 n L4) (dSl (dVar 15) tl th) ρ (LsT a l pf 5) := fun {n ρ tl th lo hi} h h1 h2 => te_slL (jk4 n) (procsV h) (fun M _ => h1 M) fun M _ => h2 M
  let ρA : DSt := [some (.ob a), some (.ob pl), some (.int many), some (.int wide), some (.int deep), some (.ob pf), none, some (.ob pp), none, some d19, some d14, some (.ob pc), some (.tup [x, y]), some (.ob pt), some d20, some (.ob pr)]
  refine s_seq (app (ρ := ρA) ro4 rfl (by decide) j21 (lib (te_tupL (procsV rfl))) fun M22 j22 => ?_)
  refine s_seq (app (ρ := ρA) ro4 rfl (by decide) j22 (lib (te_tupL (te_addL (n := 6) (m := 5) (jk4 7) (te_addL (n := 5) (m := 1) (jk4 7) (slV rfl (fun M => go_none) fun M => go_some gv_c) (te_lst (jk4 7) (tw_p (pr3 (te_cs (by decide +kernel)) (te_p (te_mul (m := 2) (te_one ?_) (te_take (jk4 7) rfl (by decide) (by decide)) (by decide) (by decide)))) tw_nil) (sz 1 (by decide))) (sz 6 (by decide))) (slV rfl (fun M => go_some gv_c) fun M => go_none) (sz 11 (by decide))))) fun M23 j23 => ?_)
  · repeat' first
      | exact tw_nil
      | exact tup0
      | exact te_cs (by decide +kernel)
      | apply tw_p
      | apply te_pt
      | exact sz _ (by decide)
  dsimp only
  refine s_seq (st_par (a := a) (l := l) (J := Lm a l c pf M0 8 L4) (ρ := ρA) (R := Pu) (S := Pu) j23 ?_ (mono_pu (a := a) (l := l)) ?_ fun d24 d25 M24 j24 g24 r24 r25 => ?_)
  · repeat' first
      | exact tw_nil
      | exact tup0
      | exact te_cs (by decide +kernel)
      | apply tw_p
      | apply te_pt
      | exact sz _ (by decide)
  · have hp : Te a l (Lm a l c pf M0 8 L4) (dCall spPick (dCons (dVar 0) (dCons (dLst (dCons (dC (.str "pb")) (dCons (dC (.str "pc")) (dCons (dC (.str "pe")) dNil)))) dNil))) ρA Pu := te_pick (n := 2) (jk4 8) rfl mono_pu (tw_p (te_cs (by decide +kernel)) (tw_p (te_cs (by decide +kernel)) (tw_p (te_cs (by decide +kernel)) tw_nil))) (by decide)
    repeat' first
      | exact tw_nil
      | exact hp
      | exact tup0
      | exact te_cs (by decide +kernel)
      | apply tw_p
      | apply te_pt
      | exact sz _ (by decide)
  dsimp only
  let ρB : DSt := [some (.ob a), some (.ob pl), some (.int many), some (.int wide), some (.int deep), some (.ob pf), none, some (.ob pp), none, some d19, some d14, some (.ob pc), some d24, some d25, some d20, some (.ob pr)]
  refine s_seq (app (ρ := ρB) ro4 rfl (by decide) j24 (lib (te_tupL (te_addL (n := 12) (m := 5) (jk4 8) (te_addL (n := 11) (m := 1) (jk4 8) (te_addL (n := 6) (m := 5) (jk4 8) (te_addL (n := 5) (m := 1) (jk4 8) (slV rfl (fun M => go_none) fun M => go_some gv_c) (te_lst (jk4 8) (tw_p (te_var rfl fun M _ => r24) tw_nil) (sz 1 (by decide))) (sz 6 (by decide))) (slV rfl (fun M => go_some gv_c) fun M => go_some gv_c) (sz 11 (by decide))) (te_lst (jk4 8) (tw_p (te_var rfl fun M _ => r25) tw_nil) (sz 1 (by decide))) (sz 12 (by decide))) (slV rfl (fun M => go_some gv_c) fun M => go_none) (sz 17 (by decide))))) fun M26 j26 => ?_)
  dsimp only
  refine s_ret (ρ := ρB) (v := .ob pf) (gv_var rfl) fun M27 g27 => ?_
  obtain ⟨g, d, ⟨fs, e, hl, hp⟩, _⟩ := (jk4 9).grow _ _ g27 j26
  exact q M27 pf fs g d nn.1 nn.2.1 f0 e (by omega) hp
end
end DL

/-! P4: the texts of a library. -/
namespace DL
open PySem PySem.Spec PyProof.Rows L2
/-- the texts of an item that is right, its bodies aside -/
theorem item_texts {B : List Str} {it : D} (hi : isItem it = true) (hB : ∀ x ∈ baseT, x ∈ B) (h1 : st1 it ∈ B) (h2 : isCall it = true → st2 it ∈ B) (hl : ∀ x ∈ labs it, x ∈ B) (hb : ∀ x ∈ (bodiesD it).getD [], StrIn B x) : StrIn B it := by
  have txs : ∀ as : List Str, (∀ x ∈ as, x ∈ B) → StrIn B (.tup (as.map D.str)) := fun as h => strIn_tup.2 fun d hd => by
    obtain ⟨x, hx, rfl⟩ := List.mem_map.mp hd
    exact strIn_str.2 (h x hx)
  have strE : ∀ as : List Str, (as.map D.str).map strD = as := fun as => by
    rw [List.map_map]
    exact List.map_id'' (fun _ => rfl) as
  have base : ∀ x ∈ baseT, StrIn B (.str x) := fun x hx => strIn_str.2 (hB x hx)
  cases item_shape hi with
  | stp s l as hs hll ha =>
    have hl : ∀ x ∈ (as.map D.str).map strD ++ [l], x ∈ B := hl
    rw [strE] at hl
    refine strIn_tup.2 fun d hd => ?_
    simp only [List.mem_cons, List.not_mem_nil, or_false] at hd
    rcases hd with rfl | rfl | rfl | rfl
    · exact base _ (by decide)
    · exact strIn_str.2 h1
    · exact strIn_str.2 (hl l (by simp))
    · exact txs as fun x hx => hl x (List.mem_append_left _ hx)
  | iff s as a b hs ha =>
    rw [labs_if] at hl
    refine strIn_tup.2 fun d hd => ?_
    simp only [List.mem_cons, List.not_mem_nil, or_false] at hd
    rcases hd with rfl | rfl | rfl | rfl | rfl
    · exact base _ (by decide)
    · exact strIn_str.2 h1
    · exact txs as hl
    · exact hb _ (show d ∈ [d, b] by simp)
    · exact hb _ (show d ∈ [a, d] by simp)
  | whl s as a hs ha =>
    rw [labs_whl] at hl
    refine strIn_tup.2 fun d hd => ?_
    simp only [List.mem_cons, List.not_mem_nil, or_false] at hd
    rcases hd with rfl | rfl | rfl | rfl
    · exact base _ (by decide)
    · exact strIn_str.2 h1
    · exact txs as hl
    · exact hb _ (show d ∈ [d] by simp)
  | cal s h hs hh =>
    refine strIn_tup.2 fun d hd => ?_
    simp only [List.mem_cons, List.not_mem_nil, or_false] at hd
    rcases hd with rfl | rfl | rfl
    · exact base _ (by decide)
    · exact strIn_str.2 h1
    · exact strIn_str.2 (h2 rfl)
theorem body_texts {B : List Str} (hB : ∀ x ∈ baseT, x ∈ B) : ∀ (n : Nat) (d : D), isBody n d = true → (∀ it ∈ itemsD n d, st1 it ∈ B ∧ (isCall it = true → st2 it ∈ B) ∧ ∀ x ∈ labs it, x ∈ B) → StrIn B d
  | 0, .tup xs, hb, _ => by
    have : xs.isEmpty = true := hb
    cases xs with
    | nil => exact strIn_tup.2 fun d h => nomatch h
    | cons => cases this
  | n + 1, .tup xs, hb, h => by
    rw [isBody_eq, Bool.and_eq_true] at hb
    have hx := List.all_eq_true.mp hb.2
    refine strIn_tup.2 fun it hit => ?_
    have hi := hx it hit
    rw [Bool.and_eq_true] at hi
    have inI : ∀ x, x ∈ it :: ((bodiesD it).getD []).flatMap (itemsD n) → x ∈ itemsD (n + 1) (.tup xs) := fun x h => List.mem_flatMap.mpr ⟨it, hit, h⟩
    obtain ⟨h1, h2, h3⟩ := h it (inI it List.mem_cons_self)
    refine item_texts hi.1 hB h1 h2 h3 fun b hbb => body_texts hB n b (List.all_eq_true.mp hi.2 b hbb) fun x hx => h x (inI x (List.mem_cons_of_mem _ (List.mem_flatMap.mpr ⟨b, hbb, hx⟩)))
  | 0, .non, hb, _ => nomatch hb
  | 0, .bl _, hb, _ => nomatch hb
  | 0, .int _, hb, _ => nomatch hb
  | 0, .str _, hb, _ => nomatch hb
  | 0, .ob _, hb, _ => nomatch hb
  | 0, .ty _, hb, _ => nomatch hb
  | n + 1, .non, hb, _ => nomatch hb
  | n + 1, .bl _, hb, _ => nomatch hb
  | n + 1, .int _, hb, _ => nomatch hb
  | n + 1, .str _, hb, _ => nomatch hb
  | n + 1, .ob _, hb, _ => nomatch hb
  | n + 1, .ty _, hb, _ => nomatch hb
def textsB (ps : List D) (L : List Str) : List Str := baseT ++ ((allIt ps).map st1 ++ (ps.map nmP ++ L))
theorem textsB_base {ps : List D} {L : List Str} : ∀ x ∈ baseT, x ∈ textsB ps L := fun x h => List.mem_append_left _ h
theorem textsB_few {ps : List D} {L : List Str} (h : isLib (.tup [.str "library", .tup ps]) = true) (hL : L.length ≤ 4) : ((textsB ps L).filter nameS).length < 64 := by
  have lok := lib_ok h
  have b : (baseT.filter nameS).length ≤ 3 := by decide +kernel
  have f : ∀ xs : List Str, (xs.filter nameS).length ≤ xs.length := fun xs => List.length_filter_le _ _
  unfold textsB
  rw [List.filter_append, List.length_append]
  have h1 := f ((allIt ps).map st1 ++ (ps.map nmP ++ L))
  rw [List.length_append, List.length_append, List.length_map, List.length_map] at h1
  have h2 := lok.cnt
  have h3 : ps.length ≤ 8 := lok.l8
  omega
theorem lib_texts {ps : List D} {L : List Str} (h : isLib (.tup [.str "library", .tup ps]) = true) (hl : ∀ it ∈ allIt ps, ∀ y ∈ labs it, y ∈ L) : StrIn (textsB ps L) (.tup [.str "library", .tup ps]) := by
  have lok := lib_ok h
  refine strIn_tup.2 fun d hd => ?_
  simp only [List.mem_cons, List.not_mem_nil, or_false] at hd
  rcases hd with rfl | rfl
  · exact strIn_str.2 (textsB_base _ (by decide))
  · refine strIn_tup.2 fun p hp => ?_
    obtain ⟨x, b, rfl, hx, hb⟩ := proc_shape (List.all_eq_true.mp lok.pr p hp)
    refine strIn_tup.2 fun e he => ?_
    simp only [List.mem_cons, List.not_mem_nil, or_false] at he
    rcases he with rfl | rfl | rfl
    · exact strIn_str.2 (textsB_base _ (by decide))
    · exact strIn_str.2 (List.mem_append_right _ (List.mem_append_right _ (List.mem_append_left _ (List.mem_map.mpr ⟨_, hp, rfl⟩))))
    · refine body_texts textsB_base 3 _ hb fun it hit => ?_
      have hA : it ∈ allIt ps := List.mem_flatMap.mpr ⟨_, hp, hit⟩
      exact ⟨List.mem_append_right _ (List.mem_append_left _ (List.mem_map.mpr ⟨it, hA, rfl⟩)), fun hc => List.mem_append_right _ (List.mem_append_right _ (List.mem_append_left _ (lok.calls it hA hc).1)), fun y hy => List.mem_append_right _ (List.mem_append_right _ (List.mem_append_right _ (hl it hA y hy)))⟩
end DL

/-! D16: what refuses a wrong library. -/
namespace DL
open PySem PySem.Spec PyProof.Rows L2
abbrev veMro : List Value := [.type "ValueError", .type "Exception", .type "BaseException", .type "object"]
/-- the two classes of errors -/
structure Tz (K : PySem.W.Frag) (mg : Str → Option Value) where
  C : Addr
  D : Addr
  mC : mg "BadLibrary" = some (.ref C)
  mD : mg "CallError" = some (.ref D)
  q : PySem.W.excIn K C veMro "ValueError.__new__" = true
  kC : PySem.W.keepIn K (.ref C) = true
  sC : PySem.W.subIn K (.ref C) (.type "BaseException") = some true
  tC : PySem.W.typeIn K (.ref C) = some (.type "type")
  xm : PySem.W.exmOne K (.ref C) (.ref D) = some true
  xc : ExcC K C
/-- the library that comes first is wrong: the error of the class at C is due -/
def spRefuse (K : PySem.W.Frag) (C : Addr) (n : Nat) : Sp := fun vs H _ E => ∃ ds d M, ds.length + 1 = n ∧ RepL K H (d :: ds) vs ∧ Mem K H M ∧ Ok M d ∧ isLib d = false ∧ ∀ M' H', Grow M M' → Stp H M H' M' → Mem K H' M' → E (.ref C) none H'
section
variable {P : Program} {w : World} {K : PySem.W.Frag} {mg : Str → Option Value} {base : Heap}
theorem ok_check_library (T : Tx K mg w) (Z : Tz K mg) : FnOk P w K mg base (L2.CX P w) 9 T.f_check_library.f T.f_check_library.fd ["library"] (spRefuse K Z.C 1) := by
  refine T.f_check_library.F.okX sc_check_library (fun vs H Q E ⟨ds, d, M, e, r, _⟩ => by rw [r.length, List.length_cons]; exact e) fun cdv A outer s H vs Q E hr ⟨ds, d, M, el, r, m, okd, hl, q⟩ => ?_
  refine ⟨_, pss_one (ps_if (d_not (d_val (d_fn (fn := T.f_is_library) (ok_is_library T) (hr.mono (Nat.le_refl _)) (da_cons (dv 0) da_nil)))) (pss_one (ps_raise (W := fun cls d _ H => E cls d H) rfl (takes_of rfl rfl rfl rfl) (SkE.pmk_own1 PySem.F.excBase_ValueError Z.q Z.mC Z.kC (raises_own Z.sC Z.tC) rfl (dv 0)))) pss_nil), ?_⟩
  obtain rfl : ds = [] := List.length_eq_zero_iff.mp (by omega)
  have rs := rs_start (N := ["library"]) r
  let ρ : DSt := dstart ["library"].length [d]
  have gv : Gv (dCall (spF fLib) (dCons (dVar 0) dNil)) ρ M (.bl (isLib d)) := gv_call (ga_cons (gv_var rfl) ga_nil) (rc_spF rfl (okL_one okd))
  have gt := gt_not (gt_t gv)
  refine ⟨ρ, M, fun b M1 => b = true ∧ Grow M M1, rs, m, gt M (Grow.refl M) _ fun M1 g1 => ⟨by rw [hl]; rfl, g1⟩, fun b M1 H1 ⟨hb, g1⟩ st m1 => ?_⟩
  subst hb
  rw [if_pos rfl]
  refine ⟨ρ, M1, fun _ M2 => Grow M M2, rs.mono (tk_of m st), m1, (gv_var rfl : Gv (dVar 0) ρ M1 d) M1 (Grow.refl M1) _ fun M2 g2 => g1.trans g2, fun x M2 v H2 g2 st2 _ m2 => ?_⟩
  exact q M2 H2 g2 (st.trans st2) m2
theorem refuse_fn (T : Tx K mg w) (Z : Tz K mg) {x : Str} {st : Stmt} {ps N : List Str} {n k : Nat} (F : Fn K mg x st ps) (S : FnScope N ps (defScope st)) (hp : ps.length = n) (h0 : N[0]? = some ("library" : Str)) (hlp : (defScope st).names.lookup ("library" : Str) = some .local) (hc : (defScope st).names.lookup ("check_library" : Str) = some .globalImplicit) {p1 p2 p3 p4 : Pos} {rest : List Stmt}
    (hb : defBody st = .Expr (.Call (.Name "check_library" p1) [.Name "library" p2] [] p3) p4 :: rest) (hk : 9 ≤ k) : FnOk P w K mg base (L2.CX P w) (k + 1) F.f F.fd ps (spRefuse K Z.C n) := by
  refine F.F.okX S (fun vs H Q E ⟨ds, d, M, e, r, _⟩ => by rw [r.length, List.length_cons]; omega) fun cdv A outer s H vs Q E hr ⟨ds, d, M, el, r, m, okd, hl, q⟩ => ?_
  rw [hb]
  have tk : Takes (cxOf (L2.CX P w) P w K mg base N x (defScope st) F.f cdv A outer s H E) fun cls d _ H => E cls d H := takes_of rfl rfl rfl rfl
  refine ⟨_, pss_cons (ps_expr (pe_callS (E := WE fun cls d _ H => E cls d H) (ok_check_library T Z) (hr.mono hk) hc T.f_check_library.m T.f_check_library.F.kp T.f_check_library.b (fun σ => passAt tk σ) (da_cons (dv 0 h0 (.inl hlp)) da_nil))) PSs.none, ?_⟩
  have rs := rs_start (N := N) r
  have g0 : ∀ M', Gv (dVar 0) (dstart N.length (d :: ds)) M' d := fun M' => gv_var (by unfold dstart; rfl)
  refine ⟨_, M, fun es M1 => es = [d] ∧ Grow M M1, rs, m, (ga_cons (g0 M) ga_nil : Ga (dCons (dVar 0) dNil) _ M [d]) M (Grow.refl M) _ fun M1 g1 => ⟨rfl, g1⟩, fun es M1 us H1 ⟨ee, g1⟩ st r1 m1 => ?_⟩
  subst ee
  exact ⟨[], d, M1, rfl, r1, m1, Ok.grow g1 _ okd, hl, fun M2 H2 g2 st2 m2 => q M2 H2 (g1.trans g2) (st.trans st2) m2⟩
theorem ok_reached (T : Tx K mg w) (Z : Tz K mg) : FnOk P w K mg base (L2.CX P w) 10 T.f_reached.f T.f_reached.fd ["library"] (spRefuse K Z.C 1) := refuse_fn T Z T.f_reached sc_reached rfl rfl rfl rfl rfl (Nat.le_refl _)
theorem ok_may (T : Tx K mg w) (Z : Tz K mg) : FnOk P w K mg base (L2.CX P w) 10 T.f_may.f T.f_may.fd ["library", "name"] (spRefuse K Z.C 2) := refuse_fn T Z T.f_may sc_may rfl rfl rfl rfl rfl (Nat.le_refl _)
end
end DL

/-! D17: an error that is caught and kept. -/
namespace DL
open PySem PySem.Spec PyProof.Rows L2
/-- a caught error of the class cls at a, known from then on -/
def ExH (cls : Value) (a : Addr) : HO := .ext fun h => ∃ (oe : Obj) (vs : Array Value), h.get? a = some oe ∧ Zc cls none oe ∧ oe.data = .fields vs
theorem exH_ok {P : Program} {w : World} {H : Hp} {h : Heap} {a : Addr} {cls : Value} {oe : Obj} {vs : Array Value} (e : h.get? a = some oe) (z : Zc cls none oe) (d : oe.data = .fields vs) : ObjOk P w H h a (ExH cls a) := ⟨⟨oe, vs, e, z, d⟩, ⟨oe, e⟩, fun _ _ ⟨oe2, vs2, e2, z2, d2⟩ st => ⟨oe2, vs2, st _ e2, z2, d2⟩⟩
theorem exH_ne {cls : Value} {a : Addr} (xs : List V) : ExH cls a ≠ .tup xs := fun z => by
  unfold ExH at z
  cases z
/-- an object that was made behind the entry is told from now on -/
theorem inv_learn {X : Cx} {pins : List (Addr × Obj)} {σ : L2.St} {H : Hp} {s : Shared} {a : Addr} {o : HO} (I : Inv X pins σ H s) (hn : H a = none) (h0 : X.s_0.heap.get? a = none) (hL : a ≠ X.env.locals) (hp : ∀ p ∈ X.pn ++ pins, p.1 ≠ a) (hc : ∀ y c, X.env.cells.lookup y = some c → c ≠ a) (new : ObjOk X.prog X.w (upd H a o) s.heap a o) : Inv X pins σ (upd H a o) s where
  ok := I.ok
  os := I.os
  bare := I.bare
  base :=
    { keep := I.base.keep
      slot := I.base.slot
      free := fun b u e n hx => by
        have ne : b ≠ a := fun z => by
          rw [z, h0] at e
          cases e
        rw [upd_ne ne]
        exact I.base.free b u e n hx
      there := I.base.there
      tups := fun b xs e => by
        have := I.base.tups b xs e
        rw [upd_ne (ne_of_none this hn)]
        exact this
      frzs := fun b u v e => by
        have := I.base.frzs b u v e
        rw [upd_ne (ne_of_none this hn)]
        exact this
      tbls := fun b ps e => by
        obtain ⟨m, this⟩ := I.base.tbls b ps e
        exact ⟨m, by rw [upd_ne (ne_of_none this hn)]; exact this⟩ }
  loc := I.loc
  cell := I.cell
  free := by
    rw [upd_ne hL.symm]
    exact I.free
  freeC := fun y c e => by
    rw [upd_ne (hc y c e)]
    exact I.freeC y c e
  pin := fun p h => by
    obtain ⟨h1, h2, h3⟩ := I.pin p h
    exact ⟨h1, by rw [upd_ne (hp p h)]; exact h2, h3⟩
  hok := I.hok.laidN (fun _ _ e => e) hn new
  len := I.len
theorem sky_none {B : Heap} {l : List Env} {a L : Addr} {Z : Obj → Prop} {h : Heap} (x : Sky B l a Z L h) : B.get? a = none := by
  rcases x with x | x | x
  · exact x.2.1
  · exact x.2.1
  · exact x.2.1
/-- what is asked of the body: the error is of the class c, without a dict; i: the clause's name, j: where it is kept -/
def wKept (K : PySem.W.Frag) (c : Value) (i j len : Nat) (D : Ends) : WX := fun cls d σ H => d = none ∧ PySem.W.exmOne K cls c = some true ∧ ∀ a, H a = none → σ.length = len → D.nx (((σ.set i (some (.ref a))).set j (some (.ref a))).set i none) (upd H a (ExH cls a))
theorem ps_try_kept {X : Cx} {x n m : Str} {c : Value} {i j : Nat} {body : List Stmt} {np mp qp ap pos pos' : Pos} {tb : WX → L2.TS} (hs : X.stack = X.env :: X.outer) (hf : X.env.frame = some X.env.locals) (hex : X.ex = []) (hN : X.N.Nodup) (hij : i ≠ j) (hi : X.N[i]? = some n) (hj : X.N[j]? = some m)
    (hln : X.env.kindOf n = some .local) (hlm : X.env.kindOf m = some .local) (hdn : (n == ("__debug__" : Str)) = false) (hcn : (n == ("__classdict__" : Str)) = false) (hc : Names X x c)
    (hsw : ∀ a pn, swapsWith (.Name n qp) (some (.Name m mp)) ap.line (X.suite a pn).env = pure false)
    (hb : ∀ (W : WX) (pn : List (Addr × Obj)) (xe : Value → Shared → Prop), Takes (X.tr pn xe) W → PSs (X.tr pn xe) body (tb W)) :
    PS X (.Try body [.ExceptHandler (some (.Name x np)) (some n) [.Assign [.Name m mp] (.Name n qp) ap] pos'] [] [] pos) (fun D σ H => tb (wKept X.K c i j X.N.length D) D σ H) := by
  constructor
  intro pins s0 σ0 H0 D I0 h0
  have ok := I0.ok
  have frames : X.A.frames = some (X.env :: X.outer) := ok.frames.trans (congrArg some hs)
  refine wpAny_Try_except (wpAny_mono ((hb (wKept X.K c i j X.N.length D) (X.pn ++ pins) (fun er st => wpAny (model X.prog X.w) X.A (noteFrame er X.env) (fun _ st2 => wpAny (model X.prog X.w) X.A (setFlight er none) (fun _ st3 => wpAny (model X.prog X.w) X.A (handleBy er X.env _) (SP X pins D) X.xe st3) X.xe st2) X.xe st) ?_).run [] s0 σ0 H0 D (I0.toTry _) h0) (fun fl s1 sp => ?_) fun _ _ z => z)
  · -- it came: noted, matched, kept
    rintro u s' ⟨a, B, sI, pins1, σ1, H1, cls, d, rfl, J1, ground, up1, sky, na, os1, ag1, rfl, hm, yes⟩
    have J : Inv X pins σ1 H1 sI := J1.ofTry ok
    have nB := sky_none sky
    rw [show (X.tr (X.pn ++ pins) _).stack = X.env :: X.outer from hs] at sky
    refine Sky.land Zc.steady frames hf sky fun h2 fl2 up2 => ?_
    have J2 : Inv X pins σ1 H1 { s' with heap := h2 } := J.landed ground fl2.1 (up1.trans up2) os1 ag1
    obtain ⟨oe2, vs2, get2, zc2, dat2⟩ := fl2.there
    have notFrame : a ∉ frs (X.env :: X.outer) := fun inside => by
      obtain ⟨_, o, get, plain⟩ := fl2.2.2.1.mem inside
      rw [get2] at get
      cases get
      exact plain _ dat2
    have nL : a ≠ X.env.locals := fun z => notFrame (List.mem_filterMap.mpr ⟨X.env, List.mem_cons_self, hf.trans (congrArg some z.symm)⟩)
    have nF : a ∉ X.fs := fun inside => by
      obtain ⟨e, he, q⟩ := List.mem_filterMap.mp inside
      exact notFrame (List.mem_filterMap.mpr ⟨e, List.mem_cons_of_mem _ he, q⟩)
    have fresh : ∀ (b : Addr) (o : Obj), sI.heap.get? b = some o → b ≠ a := fun b o e z => by
      have := ground b o e (fun q => notFrame (hs ▸ (z ▸ q)))
      rw [z, nB] at this
      cases this
    have fresh0 : X.s_0.heap.get? a = none := by
      cases e : X.s_0.heap.get? a with
      | none => rfl
      | some o =>
        obtain ⟨o', e'⟩ := J.base.there a o e (by rw [hex]; exact List.not_mem_nil)
        exact (fresh a o' e' rfl).elim
    have P2 := J2.suite get2 dat2 na nL nF
    refine wpAny_handleBy_cons (codeAny_handlers_test ?_) fun z => nomatch z
    have kind : PySem.W.Looks (model X.prog X.w) h2 (typeOf (.ref a)) cls := fun A Q E st k q => wpAny_typeOf_ref (k _ _ get2) (zc2.1.symm ▸ q)
    have hits := PySem.W.exm_one (M := model X.prog X.w) J2.kIn kind hm
    have named : ∀ {Q : Value → Shared → Prop} {E : Value → Shared → Prop}, Q c { s' with heap := h2 } → wpAny (model X.prog X.w) (X.A.mark (some (.ref a))) (eval (.Name x np) X.env) Q E { s' with heap := h2 } := fun q => by
      rcases hc with ⟨hg, hdbg, h | ⟨h1, h3, h4⟩⟩
      · exact ld_glob (X := X.suite a ((a, oe2) :: (X.pn ++ pins))) P2 hg h q hdbg
      · exact ld_blt (X := X.suite a ((a, oe2) :: (X.pn ++ pins))) P2 hg h1 h3 q h4 hdbg
    refine named (hits.here (codeAny_handlers_suite_as (HandSPX.lands_againZ fl2 fun h3 fl3 up3 => ?_)))
    have J3 : Inv X pins σ1 H1 { s' with heap := h3 } := J.landed ground fl3.1 ((up1.trans up2).trans up3) os1 ag1
    obtain ⟨oe3, vs3, get3, zc3, dat3⟩ := fl3.there
    refine store_ok (X := X.suite a ((a, oe3) :: (X.pn ++ pins))) (v := .ref a) (J3.suite get3 dat3 na nL nF) hN hi (.inl hln) rfl (fun s4 S4 => ?_) (.inr hln)
    have suite : PSs (X.suite a ((a, oe3) :: (X.pn ++ pins))) [.Assign [.Name m mp] (.Name n qp) ap] _ := pss_one (ps_set hN hj (.inl hlm) (pe_var hi (.inl hln) hdn hcn) (hsw _ _) (.inr hlm))
    have len : i < σ1.length := by
      rw [J.len]
      exact (List.getElem?_eq_some_iff.mp hi).1
    refine wpAny_mono (suite.run [] s4 _ H1 { nx := fun σ5 H5 => σ5 = (σ1.set i (some (.ref a))).set j (some (.ref a)) ∧ H5 = H1, rt := fun _ _ => False } S4 ⟨.ref a, List.getElem?_set_self len, rfl, rfl⟩) (fun fl5 s5 q5 => ?_) fun _ _ z => z.elim
    cases fl5 with
    | next =>
      obtain ⟨σ5, H5, S5, rfl, rfl⟩ := q5
      obtain ⟨get5, _⟩ := S5.pin (a, oe3) (List.mem_append_left _ List.mem_cons_self)
      have I5 := inv_learn (S5.unsuite ok) na fresh0 nL (fun p hp => by
        obtain ⟨e, _⟩ := J.pin p hp
        exact fresh _ _ e) (fun y c hy z => by
        obtain ⟨v, o, e, _⟩ := J.cell y c hy
        exact fresh _ _ e z) (exH_ok get5 zc3 dat3)
      exact gone_ok I5 hN hi hln fun s6 I6 => ⟨_, _, I6, yes a na J.len⟩
    | brk =>
      obtain ⟨_, _, _, z⟩ := q5
      exact z.elim
    | cont =>
      obtain ⟨_, _, _, z⟩ := q5
      exact z.elim
    | ret v =>
      obtain ⟨_, _, _, _, _, z⟩ := q5
      exact z.elim
  · cases fl with
    | next =>
      obtain ⟨σ1, H1, I1, q⟩ := sp
      exact wpAny_execs_nil ⟨σ1, H1, I1.ofTry ok, q⟩
    | brk =>
      obtain ⟨σ1, H1, I1, q⟩ := sp
      exact ⟨σ1, H1, I1.ofTry ok, q⟩
    | cont =>
      obtain ⟨σ1, H1, I1, q⟩ := sp
      exact ⟨σ1, H1, I1.ofTry ok, q⟩
    | ret v =>
      obtain ⟨x1, σ1, H1, I1, r1, q⟩ := sp
      exact ⟨x1, σ1, H1, I1.ofTry ok, r1, q⟩
end DL

/-! D18: a lambda is handed on, its table told. -/
namespace DL
open PySem PySem.Spec PyProof.Rows L2 LamX
/-- the code objects that a table tells -/
def Codes (ps : Array Value) (S : Addr → Prop) : Prop := TriplesOk ps.toList ∧ ∀ (pos : Pos) (cv : Value), codeAmong pos ps.toList = some cv → ∃ c, cv = .ref c ∧ S c
/-- behind the making of a lambda: the code object was there, or it is new at c' and in the table -/
def NewT (H : Hp) (P : Addr) (ps : Array Value) (q : Str) (H1 : Hp) : Prop := H1 = H ∨ ∃ (c' : Addr) (ps' : Array Value), H c' = none ∧ H1 = upd (upd H P (.tbl ps')) c' (CodeO c' q) ∧ ∀ S, Codes ps S → Codes ps' fun c => S c ∨ c = c'
section
variable {X : Cx} {pins : List (Addr × Obj)} {σ : L2.St} {H : Hp} {s : Shared}
theorem lam_madeP {c P : Addr} {ps : Array Value} {params : Arguments} {body : Expr} {scope : Scope} {pos : Pos} {E Q : Value → Shared → Prop} (I : Inv X pins σ H s) (TB : TabB X.base X.mg c P) (hcode : X.env.code = .ref c) (hP : H P = some (.tbl ps)) (hS : Codes ps fun c' => H c' = some (CodeO c' (X.env.qual ++ "<lambda>")))
    (hdef : defaultsOf params X.env = ([], [])) (hfree : ∀ y ∈ scope.names, y.2 = .free → ∃ c, X.env.cells.lookup y.1 = some c)
    (go : ∀ (f c' : Addr) (pm ctv : Value) (H1 : Hp) (s1 : Shared), Inv X pins σ H1 s1 → NewT H P ps (X.env.qual ++ "<lambda>") H1 → s1.heap.get? f = some (PySem.W.kla_obj "<lambda>" (X.env.qual ++ "<lambda>") params body scope (cloFrom X.env.cells scope.names []) pm c' ctv) → H1 f = none → f ∉ frs X.stack → H1 c' = some (CodeO c' (X.env.qual ++ "<lambda>")) → Q (.ref f) s1) :
    wpAny (model X.prog X.w) X.A (eval (.Lambda params body scope pos) X.env) Q E s := by
  have table : s.heap.get? P = some { cls := .none, data := .fields ps } := I.hok P _ hP
  have builtins := TB.bm.keeps I.bk
  have offStack : ∀ f, s.heap.objs.size ≤ f → f ∉ frs X.stack := fun f big inside => by
    rcases List.mem_cons.mp (I.stkSub f inside) with z | z
    · exact absurd (z ▸ I.lt) (Nat.not_lt.mpr big)
    · exact I.nofs big z
  refine PySem.W.kla_eval hdef ?_
  cases found : codeAmong pos ps.toList with
  | some cv =>
    obtain ⟨c', rfl, known⟩ := hS.2 pos cv found
    refine PySem.W.kla_makeFunctionHit (ps := ps) (closure_ok hfree) I.ok.glob (I.mod.glob.keeps I.bk) hcode (TB.code.keeps I.bk) table hS.1 found builtins fun ctv h1 tk kept big => ?_
    refine go h1.objs.size c' _ ctv H _ (I.kept (t' := tk) fun b o e => Heap.get?_push_of_some _ (kept b o e)) (.inl rfl) (Heap.get?_push_size _ rfl) (I.hok.fresh big) (offStack _ big) known
  | none =>
    refine PySem.W.kla_makeFunction (ps := ps) (closure_ok hfree) I.ok.glob (I.mod.glob.keeps I.bk) hcode (TB.code.keeps I.bk) table hS.1 found TB.gP builtins fun c' ctv h1 tk kept big lt record grown => ?_
    obtain ⟨c2, oc, vs, t, e2, at2, dat2, name2⟩ := record
    cases e2
    have newC : H c' = none := I.hok.fresh big
    have big1 : s.heap.objs.size ≤ h1.objs.size := Nat.le_of_lt (Nat.lt_of_le_of_lt big lt)
    let h2 := h1.push (PySem.W.kla_obj "<lambda>" (X.env.qual ++ "<lambda>") params body scope (cloFrom X.env.cells scope.names []) ((X.mg "__name__").getD .none) c' ctv)
    have onward : ∀ b o, h1.get? b = some o → h2.get? b = some o := fun b o e => Heap.get?_push_of_some _ e
    have I1 := inv_table (t' := tk) (more := #[rawInt pos.line, rawInt pos.col, .ref c']) (h' := h2) I hP (fun b o ne e => onward b o (kept b o ne e)) (onward _ _ grown) big ⟨oc, vs, t, onward _ _ at2, dat2, name2⟩
    refine go h1.objs.size c' _ ctv _ _ I1 (.inr ⟨c', _, newC, rfl, fun S hS2 => ?_⟩) (Heap.get?_push_size _ rfl) ?_ (offStack _ big1) upd_same
    · have el : (ps ++ #[rawInt pos.line, rawInt pos.col, Value.ref c']).toList = ps.toList ++ [rawInt pos.line, rawInt pos.col, .ref c'] := by simp
      refine ⟨by rw [el]; exact PySem.TriplesOk_snoc _ _ _ _ hS2.1, fun p1 cv h => ?_⟩
      rw [el] at h
      rcases among_app _ hS2.1 h with z | z
      · obtain ⟨c0, e0, h0⟩ := hS2.2 p1 cv z
        exact ⟨c0, e0, .inl h0⟩
      · exact ⟨c', z, .inr rfl⟩
    · rw [upd_ne (Nat.ne_of_gt lt), upd_ne (Nat.ne_of_gt (Nat.lt_of_lt_of_le (Heap.lt_size table) big1))]
      exact I.hok.fresh big1
/-- x(lambda: body), the table told -/
def tLamP (P : Addr) (q : Str) (TT : (XK → Hp → VK → Prop) → Hp → VK → Prop) (t : XK → TE) : TE := fun σ H Q => ∃ ps, H P = some (.tbl ps) ∧ Codes ps (fun c' => H c' = some (CodeO c' q)) ∧ ∀ H1, NewT H P ps q H1 → TT (fun E H' Q' => t E σ H' Q') H1 Q
theorem pe_lamP {TT : (XK → Hp → VK → Prop) → Hp → VK → Prop} {x a : Str} {st : Stmt} {c P : Addr} {k : Nat} {Ng : List Str} {params : Arguments} {body : Expr} {scope : Scope} {t : XK → TE} {p lpos pos : Pos} (hg : L2.Gl X x) (F : Fn X.K X.mg x st [a]) (Sg : FnScope Ng [a] (defScope st)) (h0 : Ng[0]? = some a) (hva : Vis (defScope st) a)
    (hG : ∀ cdv, GivesTo X Ng x (defScope st) F.f cdv (defBody st) a (X.env.qual ++ "<lambda>") TT) (TB : TabB X.base X.mg c P) (hcode : X.env.code = .ref c) (hr : Room (k + 2) X.A) (L : LamS X.env.scope scope) (hdef : defaultsOf params X.env = ([], []))
    (hbind : ∀ (q : Str) (cl : List (Str × Addr)) (pm cv ctv : Value), bindArgs (PySem.W.kla_fn "<lambda>" q params body scope cl pm cv ctv) ⟨[], []⟩ = pure [])
    (hbody : ∀ (A : Around) (outer : List Env) (s : Shared) (H : Hp) (E : XK) (f c' : Addr), Room k (A.deeper (lamEnv X scope s.heap.objs.size f c')) → PE (lamCx X A outer s H E scope f c') body (t E))
    (hdb : (x == ("__debug__" : Str)) = false := by decide) (hd : (a == ("__debug__" : Str)) = false := by decide) (hcd : (a == ("__classdict__" : Str)) = false := by decide) :
    PE X (.Call (.Name x p) [.Lambda params body scope lpos] [] pos) (tLamP P (X.env.qual ++ "<lambda>") TT t) := by
  constructor
  intro pins s σ H Q I ⟨ps, hP, hS, h⟩
  obtain ⟨oc, od, kV, doc, pm, an, cdv, ct, osl, efd, lk, hcd2⟩ := F.F.ex
  have binds := F.b
  rw [efd] at lk binds
  refine wpAny_Call_Name_kw (ld_glob I hg F.m ?_ hdb)
  refine PySem.W.callWith_K (h₀ := X.base) I.ok.mod.kin F.F.kp ?_ (by rfl) (by rfl)
  show wpAny _ _ (spliced ((false, eval (.Lambda params body scope lpos) X.env) :: backTo pos (starEach [] X.env))) _ _ s
  refine Calls.spliced_cons (lam_madeP I TB hcode hP hS hdef (L.has I.ok) fun f c' pm1 ctv1 H1 s1 I1 made at1 out1 off1 code1 => Calls.spliced_nil ⟨I1.kIn, ?_⟩)
  have run : codeAny (model X.prog X.w) X.A (.call (.ref F.f) ⟨[.ref f], []⟩) (CR C8.CX0 X.stack X.prog X.w H1 s1 Q C8.E0) s1 := by
    refine run_ofS (us := [.ref f]) (vs := [.ref f]) lk hcd2 Sg hr I1.env0 (binds s1 [.ref f] I1.kIn rfl) (.cons rfl .nil) rfl fun hr1 => ?_
    obtain ⟨t1, ht1, hq1⟩ := hG cdv f c' s1 H1 Q (fun E H' Q' => t E σ H' Q') (fun W pn xe E p1 p2 tk hW => pe_act (i := 0) I1 L at1 out1 off1 (hbind _ _ _ _ _) tk hW hr1 (fun A outer s H hr2 => hbody A outer s H E f c' hr2) h0 hva hd hcd) code1 (h H1 made)
    exact ⟨t1, ht1.nox, hq1⟩
  refine wpAny_call (codeAny_mono run fun r s2 hq => ?_)
  match r, hq with
  | .ok (.ret u), hq => exact I1.after hq
  | .error e, hq => exact (show False from hq).elim
  | .ok .next, hq => exact False.elim hq
  | .ok .brk, hq => exact False.elim hq
  | .ok .cont, hq => exact False.elim hq
end
end DL

/-! D19: what a refused call gives through _law_caught; isinstance of what was caught. -/
namespace DL
open PySem PySem.Spec PyProof.Rows L2 LamX
def TKept (K : PySem.W.Frag) (D : Addr) : (XK → Hp → VK → Prop) → Hp → VK → Prop := fun tl H Q => ∀ Qn, tl (fun cls d H' => d = none ∧ PySem.W.exmOne K cls (.ref D) = some true ∧ ∀ a, H' a = none → Q (.ref a) (upd H' a (ExH cls a))) H Qn
theorem takes_len {X : Cx} {W : WX} (tk : Takes X W) : Takes X fun cls d σ H => σ.length = X.N.length → W cls d σ H := fun u s' ⟨a, B, sI, pins, σ, H, cls, d, e, I, r1, r2, r3, r4, r5, r6, w⟩ => tk u s' ⟨a, B, sI, pins, σ, H, cls, d, e, I, r1, r2, r3, r4, r5, r6, w I.len⟩
theorem caught_gives {X : Cx} {g D : Addr} {cdg : Value} {q : Str} (hD : X.mg "CallError" = some (.ref D)) : GivesTo X ["work", "caught", "error"] "_law_caught" (defScope s__law_caught) g cdg (defBody s__law_caught) "work" q (TKept X.K D) := by
  intro f c' s H Q tl act hc h
  have S := sc__law_caught
  refine ⟨_, pss_cons (ps_set S.nd (i := 1) rfl (.inl rfl) pe_non) (pss_cons (ps_try_kept (c := .ref D) (i := 2) (j := 1) (tb := fun W D σ H => ∃ Ech : XK, (∀ cls d σ' H', Ech cls d H' → σ'.length = 3 → W cls d σ' H') ∧ σ[0]? = some (some (.ref f)) ∧ H c' = some (CodeO c' q) ∧ tl Ech H fun _ H' => D.nx σ H')
    rfl rfl rfl S.nd (by decide) rfl rfl rfl rfl (by decide) (by decide) ⟨rfl, by decide, .inl hD⟩ (fun _ _ => rfl) fun W pn xe tk => ⟨fun pins s1 σ1 H1 D1 I1 ⟨Ech, hW, h1, h2, h3⟩ => (pss_one (ps_expr (act (fun cls d σ H => σ.length = 3 → W cls d σ H) pn xe Ech _ _ (takes_len tk) hW))).run pins s1 σ1 H1 D1 I1 ⟨h1, h2, h3⟩⟩) (pss_one (ps_ret (pe_var (i := 1) rfl (.inl rfl))))), ?_⟩
  · refine ⟨fun cls d H' => d = none ∧ PySem.W.exmOne X.K cls (.ref D) = some true ∧ ∀ a, H' a = none → Q (.ref a) (upd H' a (ExH cls a)), fun cls d σ' H' ⟨e1, e2, e3⟩ hl => ⟨e1, e2, fun a na _ => ⟨.ref a, ?_, e3 a na⟩⟩, rfl, hc, h _⟩
    rw [List.getElem?_set_ne (by decide), List.getElem?_set_self (by rw [List.length_set, hl]; decide)]
/-! ### over data -/
def TabM (P : Addr) (q : Str) (M : DM) : Prop := ∃ S : Addr → Prop, M P = some (.raw fun o => ∃ ps, o = .tbl ps ∧ Codes ps S) ∧ ∀ c, S c → c ≠ P ∧ M c = some (.raw fun o => o = CodeO c q)
theorem TabM.growH {a l P : Addr} {q : Str} {M M' : DM} (h : TabM P q M) (ha : ∀ o, M P = some o → P ≠ a ∧ P ≠ l) (hc : ∀ c P', M c = some (.raw P') → c ≠ a ∧ c ≠ l) (g : GrowH a l M M') : TabM P q M' := by
  obtain ⟨S, e, hS⟩ := h
  exact ⟨S, GrowH.get g (ha _ e).1 (ha _ e).2 e, fun c h => ⟨(hS c h).1, GrowH.get g (hc c _ (hS c h).2).1 (hc c _ (hS c h).2).2 (hS c h).2⟩⟩
/-- what is caught of a def that refuses the wrong library in the slot i -/
def dKept (i : Nat) (P C : Addr) (q : Str) : DTE := fun ρ M Q => ∃ d, ρ[i]? = some (some d) ∧ Ok M d ∧ isLib d = false ∧ TabM P q M ∧ ∀ M1 e, (∀ x o, x ≠ P → M x = some o → M1 x = some o) → TabM P q M1 → M e = none → M1 e = some (.raw fun o => o = ExH (.ref C) e) → Q (.ob e) M1
theorem Codes.imp {ps : Array Value} {S S' : Addr → Prop} (h : Codes ps S) (w : ∀ c, S c → S' c) : Codes ps S' := ⟨h.1, fun pos cv e => by
  obtain ⟨c, e1, e2⟩ := h.2 pos cv e
  exact ⟨c, e1, w c e2⟩⟩
theorem le_kept {K : PySem.W.Frag} {mg : Str → Option Value} {i n : Nat} {P : Addr} {q : Str} {ta : DTA} (Z : Tz K mg) (hta : ∀ ρ M d, ρ[i]? = some (some d) → ∃ ds, ds.length + 1 = n ∧ Ga ta ρ M (d :: ds)) :
    ∀ σ H Q, LE K (dKept i P Z.C q) σ H Q → tLamP P q (TKept K Z.D) (fun E => tCallS (spRefuse K Z.C n) (WE fun cls d _ H => E cls d H) (LA K ta)) σ H Q := fun σ H Q ⟨ρ, M, Q', rs, m, ⟨d, ed, okd, hl, ⟨S, hP, hS⟩, go⟩, ck⟩ => by
  obtain ⟨o, Ho, _, ps, rfl, codes⟩ := m P _ hP
  refine ⟨ps, Ho, codes.imp fun c h => ?_, fun H1 made Qn => ?_⟩
  · obtain ⟨o, Hc, _, e⟩ := m c _ (hS c h).2
    exact e ▸ Hc
  · obtain ⟨M1, m1, st1, grows, tab1⟩ : ∃ M1, Mem K H1 M1 ∧ Stp H M H1 M1 ∧ (∀ x o, x ≠ P → M x = some o → M1 x = some o) ∧ TabM P q M1 := by
      rcases made with e | ⟨c', ps', nc, rfl, more⟩
      · exact ⟨M, by rw [e]; exact m, by rw [e]; exact Stp.refl H M, fun x o _ e => e, S, hP, hS⟩
      · have nM : M c' = none := m.isNil nc
        have neP : c' ≠ P := fun z => by
          rw [z, Ho] at nc
          cases nc
        have notT : ∀ xs, H P ≠ some (.tup xs) := fun xs e => by
          rw [Ho] at e
          cases e
        have nc1 : upd H P (.tbl ps') c' = none := by rw [upd_ne neP]; exact nc
        let M0 := mset M P (.raw fun o => ∃ ps, o = .tbl ps ∧ Codes ps fun c => S c ∨ c = c')
        have m0 : Mem K (upd H P (.tbl ps')) M0 := m.put notT ⟨_, upd_same, (fun xs z => nomatch z), ps', rfl, more S codes⟩
        refine ⟨mset M0 c' (.raw fun o => o = CodeO c' q), m0.put (fun xs e => by rw [nc1] at e; cases e) ⟨_, upd_same, (fun xs z => by
          unfold CodeO at z
          cases z), rfl⟩, (Stp.put (by rw [hP]; simp)).trans (Stp.new nc1), fun x o hx e => ?_, fun c => S c ∨ c = c', ?_, fun c h => ?_⟩
        · have : x ≠ c' := fun z => by
            rw [z, nM] at e
            cases e
          rw [mset_ne this]
          show mset M P _ x = _
          rw [mset_ne hx]
          exact e
        · rw [mset_ne neP.symm]
          exact mset_same
        · rcases h with h | rfl
          · have : c ≠ c' := fun z => by
              have e := (hS c h).2
              rw [z, nM] at e
              cases e
            refine ⟨(hS c h).1, ?_⟩
            rw [mset_ne this]
            show mset M P _ c = _
            rw [mset_ne (hS c h).1]
            exact (hS c h).2
          · exact ⟨neP, mset_same⟩
    have ok1 : Ok M1 d := Ok.lsg (fun x xs e => ⟨xs, grows x _ (fun z => by rw [z, hP] at e; cases e) e⟩) d okd
    obtain ⟨ds, el, ga⟩ := hta ρ M1 d ed
    refine ⟨ρ, M1, fun es M2 => es = d :: ds ∧ Grow M1 M2, rs.mono (tk_of m st1), m1, ga M1 (Grow.refl M1) _ fun M2 g2 => ⟨rfl, g2⟩, fun es M2 vs H2 ⟨ee, g2⟩ st2 r2 m2 => ?_⟩
    subst ee
    refine ⟨ds, d, M2, el, r2, m2, Ok.grow g2 _ ok1, hl, fun M3 H3 g3 st3 m3 => ⟨rfl, Z.xm, fun a na => ?_⟩⟩
    have g13 := g2.trans g3
    have st : Stp H M H3 M3 := (st1.trans st2).trans st3
    have nM3 : M3 a = none := m3.isNil na
    have newE : ∀ x o, x ≠ P → M x = some o → mset M3 a (.raw fun o => o = ExH (.ref Z.C) a) x = some o := fun x o hx e => by
      have e3 := g13 _ _ (grows x o hx e)
      rw [mset_ne fun z => by rw [z, nM3] at e3; cases e3]
      exact e3
    obtain ⟨S1, hP1, hS1⟩ := tab1
    refine ck (.ob a) (mset M3 a (.raw fun o => o = ExH (.ref Z.C) a)) _ _ (go _ a newE ⟨S1, ?_, fun c h => ⟨(hS1 c h).1, ?_⟩⟩ (m.isNil (st.free a na)) mset_same) (st.trans (Stp.new na)) rfl (m3.put (fun xs e => by rw [na] at e; cases e) ⟨_, upd_same, fun xs => exH_ne xs, rfl⟩)
    · have e3 := g13 _ _ hP1
      rw [mset_ne fun z => by rw [z, nM3] at e3; cases e3]
      exact e3
    · have e3 := g13 _ _ (hS1 c h).2
      rw [mset_ne fun z => by rw [z, nM3] at e3; cases e3]
      exact e3
/-! ### isinstance of what was caught -/
def dIsH (C : Addr) : DRC := fun ds M Q => ∃ e, ds = [.ob e, .ob C] ∧ M e = some (.raw fun o => o = ExH (.ref C) e) ∧ Q (.bl true) M
def rIsH (C : Addr) : List V → Hp → VK → Prop := fun xs H Q => ∃ e, xs = [.ref e, .ref C] ∧ H e = some (ExH (.ref C) e) ∧ Q (.bl true) H
theorem lc_isH {K : PySem.W.Frag} {C : Addr} : LRC K (rIsH C) (dIsH C) := fun H M vs ds Q' Q m r ⟨e, ed, eM, q⟩ ck => by
  subst ed
  obtain ⟨o, He, _, eo⟩ := m e _ eM
  subst eo
  unfold RepL at r
  obtain ⟨v, vs1, rfl, h1, r⟩ := r
  unfold RepL at r
  obtain ⟨v2, vs2, rfl, h2, r⟩ := r
  unfold RepL at r
  subst r
  unfold Rep at h1 h2
  subst h1 h2
  exact ⟨e, rfl, He, ck _ M _ H q (Stp.refl H M) rfl m⟩
theorem call_isH {X : Cx} {C : Addr} (Z : ExcC X.K C) : CallR X (.builtin "isinstance") (rIsH C) := by
  intro pins s σ H xs us Q I r ⟨e, ex, He, q⟩
  subst ex
  cases r with
  | cons r1 r =>
    cases r with
    | cons r2 r =>
      cases r
      cases r1
      cases r2
      obtain ⟨⟨oe, vs, get, zc, dat⟩, _⟩ := I.hok e _ He
      have J : PySem.W.InstAt s.heap e oe C none := by
        obtain ⟨oc, od, oda, osl⟩ := oe
        obtain ⟨z1, z2⟩ := zc
        dsimp only at z1 z2 dat
        subst z1 z2 dat
        exact ⟨get, rfl, rfl, trivial⟩
      exact PySem.W.kia_one (PySem.W.handS_kitx_exc Z.hg Z.hk Z.hs Z.hd Z.ha Z.hn Z.ht Z.hm) I.kIn J (by unfold PySem.W.kitOne; rw [if_pos (beq_self_eq_true _)]) (fun z => nomatch z) fun tk => ⟨.bl true, H, I.kept (t' := tk) fun _ _ z => z, rfl, q⟩
end DL

/-! D20: the law's own calls. -/
namespace DL
open PySem PySem.Spec PyProof.Rows L2 LamX
section
variable {X : Cx} {e : Expr} {te : DTE} {p p2 pos : Pos}
theorem d_isH (Z : Tz X.K X.mg) (hm : X.mg "isinstance" = none) (he : PE X e (LE X.K te)) (hg : L2.Gl X "isinstance") (hC : L2.Gl X "BadLibrary") (hs : starEach [e, .Name "BadLibrary" p2] X.env = (false, eval e X.env) :: starEach [.Name "BadLibrary" p2] X.env := by rfl) :
    PE X (.Call (.Name "isinstance" p) [e, .Name "BadLibrary" p2] [] pos) (LE X.K (dCB (dIsH Z.C) (dCons te (dCons (dC (.ob Z.C)) dNil)))) := d_callB (call_isH Z.xc) lc_isH hg hm rfl (da_cons he (da_cons (dglR hC Z.mC) da_nil) hs) (by decide) (by decide) hs
end
section
variable {X : Cx} {k : Nat} {f : Addr} {fd : FuncData} {ps ks : List Str} {sp : DSp} {x : Str} {p pos kpos : Pos} {e : Expr} {nm : Option Str} {t : DTE} {g : List Value → List Value → List Value} {gV : List V → List V → List V}
theorem d_callK (F : FnOk X.prog X.w X.K X.mg X.base CX0 k f fd ps (LSp X.K sp)) (hr : Room k X.A) (hg : L2.Gl X x) (hm : X.mg x = some (.ref f)) (hk : PySem.W.keepIn X.K (.ref f) = true)
    (hb : KBinds X.K fd ps ks g gV) (hgV : ∀ zs, gV [] zs = zs) (ha : PE X e (LE X.K t)) (hdb : (x == ("__debug__" : Str)) = false := by decide) (hall : (backToKw pos (keywordEach [⟨nm, e, kpos⟩] X.env)).all (·.1.isSome) = true := by rfl) (hks : (backToKw pos (keywordEach [⟨nm, e, kpos⟩] X.env)).filterMap (·.1) = ks := by rfl)
    (hpl : ((backTo pos (starEach [] X.env)).any (·.1) || (backToKw pos (keywordEach [⟨nm, e, kpos⟩] X.env)).any (·.1.isNone)) = false := by rfl) :
    PE X (.Call (.Name x p) [] [⟨nm, e, kpos⟩] pos) (LE X.K (dCall sp (dCons t dNil))) := by
  refine ⟨fun pins s σ H Q I h => ?_⟩
  obtain ⟨ρ, M, Q', rs, m, h, c⟩ := h
  refine wpAny_Call_Name_kw (ld_glob I hg hm ?_ hdb)
  refine PySem.W.callWith_KW0 (h₀ := X.base) I.ok.mod.kin hk hall ?_ hpl
  have hp : PK X [⟨nm, e, kpos⟩] (tCons (LE X.K t) tNil) := pk_cons ha pk_nil
  refine thn (hp.run pos pins s σ H (fun zs H2 => ∃ M1 d v, zs = [v] ∧ Rep X.K H2 d v ∧ Mem X.K H2 M1 ∧ Stp H M H2 M1 ∧ sp [d] M1 Q') I ⟨ρ, M, _, rs, m, h, fun d M1 v H1 h1 s1 r1 m1 => ⟨M1, d, v, rfl, r1, m1, s1, h1⟩⟩) fun ws s2 ⟨zs, H2, I2, rz, M1, d, v, ez, rv, m1, s1, q2⟩ => ⟨I2.kIn, ?_⟩
  subst ez
  rw [hks]
  exact run_fnk (us := []) (vs := []) F hr hb pass0 I2 .nil rz (E := E0) ⟨[d], M1, Q', by rw [hgV]; exact RepL.cons rv RepL.nil, m1, q2, c.step s1⟩
end
theorem vals_app : ∀ {vs zs : List V} {us ws : List Value}, Vals vs us → Vals zs ws → Vals (vs ++ zs) (us ++ ws)
  | _, _, _, _, .nil, h => h
  | _, _, _, _, .cons r t, h => .cons r (vals_app t h)
theorem kb_is_library {K : PySem.W.Frag} {mg : Str → Option Value} {w : World} (T : Tx K mg w) : KBinds K T.f_is_library.fd ["thing"] ["thing"] (fun us ws => us ++ ws) (fun vs zs => vs ++ zs) := by
  obtain ⟨oc, od, kV, doc, pm, an, cdv, ct, osl, efd, lk, hcd⟩ := T.f_is_library.F.ex
  rw [efd]
  constructor
  · intro s us ws _ hl
    match us, ws, hl with
    | [], [w1], _ => exact .of_eq rfl
    | [u], [], _ => exact .of_eq rfl
    | [], [], hl => exact nomatch hl
    | [], _ :: _ :: _, hl => simp at hl
    | [_], _ :: _, hl => simp at hl
    | _ :: _ :: _, _, hl => simp at hl
  · exact fun h h' => vals_app h h'
end DL

/-! D21: the law. -/
namespace DL
open PySem PySem.Spec PyProof.Rows L2 LamX
section
variable {X : Cx} {p p1 p2 p3 p4 lpos pos : Pos} {params : Arguments} {scope : Scope} {c P : Addr} {j : Nat}
theorem d_kept1 {q : Str} (hq : X.env.qual ++ "<lambda>" = q) (T : Tx X.K X.mg X.w) (Z : Tz X.K X.mg) (TB : TabB X.base X.mg c P) (hcode : X.env.code = .ref c) (hr : Room 12 X.A) (hg : L2.Gl X "_law_caught") (hN : X.N[6]? = some ("wrong" : Str)) (L : LamS X.env.scope scope) (hdef : defaultsOf params X.env = ([], []))
    (hbind : ∀ (q : Str) (cl : List (Str × Addr)) (pm cv ctv : Value), bindArgs (PySem.W.kla_fn "<lambda>" q params (.Call (.Name "reached" p1) [.Name "wrong" p2] [] p3) scope cl pm cv ctv) ⟨[], []⟩ = pure []) (hw : scope.names.lookup ("wrong" : Str) = some .free) (hf : scope.names.lookup ("reached" : Str) = some .globalImplicit) :
    PE X (.Call (.Name "_law_caught" p) [.Lambda params (.Call (.Name "reached" p1) [.Name "wrong" p2] [] p3) scope lpos] [] pos) (LE X.K (dKept 6 P Z.C q)) := by
  subst hq
  exact PE.weak (pe_lamP (k := 10) hg T.f__law_caught sc__law_caught rfl (.inl rfl) (fun cdv => caught_gives Z.mD) TB hcode hr L hdef hbind fun A outer s H E f c' hr2 => pe_callS (X := lamCx X A outer s H E scope f c') (E := WE fun cls d _ H => E cls d H) (ok_reached T Z) hr2 hf T.f_reached.m T.f_reached.F.kp T.f_reached.b (fun σ => passAt (takes_of rfl rfl rfl rfl) σ) (da_cons (dv (X := lamCx X A outer s H E scope f c') 6 hN (.inr (.inr hw))) da_nil))
    (le_kept Z fun ρ M d h => ⟨[], rfl, ga_cons (gv_var h) ga_nil⟩)
theorem d_kept2 {q : Str} (hq : X.env.qual ++ "<lambda>" = q) (T : Tx X.K X.mg X.w) (Z : Tz X.K X.mg) (TB : TabB X.base X.mg c P) (hcode : X.env.code = .ref c) (hr : Room 12 X.A) (hg : L2.Gl X "_law_caught") (hN : X.N[6]? = some ("wrong" : Str)) (L : LamS X.env.scope scope) (hdef : defaultsOf params X.env = ([], []))
    (hbind : ∀ (q : Str) (cl : List (Str × Addr)) (pm cv ctv : Value), bindArgs (PySem.W.kla_fn "<lambda>" q params (.Call (.Name "may" p1) [.Name "wrong" p2, .Constant .none j p4] [] p3) scope cl pm cv ctv) ⟨[], []⟩ = pure []) (hw : scope.names.lookup ("wrong" : Str) = some .free) (hf : scope.names.lookup ("may" : Str) = some .globalImplicit) :
    PE X (.Call (.Name "_law_caught" p) [.Lambda params (.Call (.Name "may" p1) [.Name "wrong" p2, .Constant .none j p4] [] p3) scope lpos] [] pos) (LE X.K (dKept 6 P Z.C q)) := by
  subst hq
  exact PE.weak (pe_lamP (k := 10) hg T.f__law_caught sc__law_caught rfl (.inl rfl) (fun cdv => caught_gives Z.mD) TB hcode hr L hdef hbind fun A outer s H E f c' hr2 => pe_callS (X := lamCx X A outer s H E scope f c') (E := WE fun cls d _ H => E cls d H) (ok_may T Z) hr2 hf T.f_may.m T.f_may.F.kp T.f_may.b (fun σ => passAt (takes_of rfl rfl rfl rfl) σ) (da_cons (dv (X := lamCx X A outer s H E scope f c') 6 hN (.inr (.inr hw))) (da_cons dnon da_nil)))
    (le_kept Z fun ρ M d h => ⟨[.non], rfl, ga_cons (gv_var h) (ga_cons gv_c ga_nil)⟩)
end
abbrev lawQ : Str := ("law" : Str) ++ ".<locals>." ++ "<lambda>"
theorem qual_law {P : Program} {w : World} {K : PySem.W.Frag} {mg : Str → Option Value} {base : Heap} {N : List Str} {sc : Scope} {f : Addr} {cd : Value} {A : Around} {outer : List Env} {s : Shared} {H : Hp} {E : XK} : (cxOf CX0 P w K mg base N "law" sc f cd A outer s H E).nox.env.qual ++ "<lambda>" = lawQ := rfl
def spLaw (P : Addr) : DSp := fun ds M Q => ∃ (s : Addr) (o : MO) (ns : List Int), ds = [.ob s] ∧ M s = some o ∧ (∀ M', M' s = some o → Msq M' s = some (ns.map D.int)) ∧ ns.length ≤ 1000 ∧ TabM P lawQ M ∧ ∀ M', Q (.bl true) M'
section
variable {P : Program} {w : World} {K : PySem.W.Frag} {mg : Str → Option Value} {base : Heap}
theorem dfunC {x qual : Str} {st : Stmt} {f : Addr} {oc kV doc pm cdv ct : Value} {an od : Option Addr} {osl : Array (Option Value)} {N ps : List Str} {k : Nat} {sp : DSp} (lk : K.lookup f = some ⟨oc, od, .func (PySem.W.fnOf x qual (defArgs st) (defBody st) (defScope st) .none kV doc pm an cdv ct), osl⟩) (hcd : PySem.W.codeIn K cdv qual = true) (S : FnScope N ps (defScope st)) (len : ∀ ds M Q, sp ds M Q → ds.length = ps.length)
    (hbody : ∀ (A : Around) (outer : List Env) (s : Shared) (H : Hp) (E : XK), Room k (A.deeper (envOfC qual (defScope st) s.heap.objs.size f cdv)) →
      ∃ t, PSs (cxOf CX0 P w K mg base N qual (defScope st) f cdv A outer s H E).nox (defBody st) (LS K t) ∧ ∀ ds M Q, sp ds M Q → t { nx := fun _ M' => Q .non M', rt := Q } (dstart N.length ds) M) :
    FnOk P w K mg base CX0 (k + 1) f (PySem.W.fnOf x qual (defArgs st) (defBody st) (defScope st) .none kV doc pm an cdv ct) ps (LSp K sp) := by
  refine fn_of lk hcd S (fun vs H Q E ⟨ds, M, Q', r, m, h, c⟩ => by rw [r.length]; exact len _ _ _ h) fun A outer s H vs Q E hr ⟨ds, M, Q', r, m, h, c⟩ => ?_
  obtain ⟨t, ht, hq⟩ := hbody A outer s H E hr
  exact ⟨_, ht.nox, _, M, _, rs_start r, m, hq ds M Q' h, ⟨fun ρ' M' σ' H' q s' _ m' => c _ M' _ H' q s' rfl m', c, fun _ _ _ _ q => q.elim, fun _ _ _ _ q => q.elim⟩⟩
section
variable {a l c : Addr} {PT : Addr} {q : Str} {M M' : DM} {ρ : DSt} {E : DEnds} {g : DTG} {t : DTS} {ta : DTE}
theorem TabM.grow (h : TabM PT q M) (g : Grow M M') : TabM PT q M' := by
  obtain ⟨S, e, hS⟩ := h
  exact ⟨S, g _ _ e, fun c h => ⟨(hS c h).1, g _ _ (hS c h).2⟩⟩
theorem TabM.step (h : TabM PT q M) (d : Drw a l c M) (g : GrowH a l M M') : TabM PT q M' := by
  obtain ⟨_, _, _, L, C, r, t, ea, el, ec⟩ := d
  have na : ∀ x P, M x = some (.raw P) → x ≠ a ∧ x ≠ l := fun x P e => ⟨(fun z => by rw [z, ea] at e; cases e), (fun z => by rw [z, el] at e; cases e)⟩
  exact h.growH (fun o e => by
    obtain ⟨S, e2, _⟩ := h
    exact na _ _ e2) (fun x P e => na x P e) g
theorem Drw.kept (d : Drw a l c M) (tab : TabM PT q M) (k : ∀ x o, x ≠ PT → M x = some o → M' x = some o) : Drw a l c M' := by
  obtain ⟨S, e, _⟩ := tab
  obtain ⟨h1, h2, h3, L, C, r, t, ea, el, ec⟩ := d
  exact ⟨h1, h2, h3, L, C, r, t, k _ _ (fun z => by rw [z, e] at ea; cases ea) ea, k _ _ (fun z => by rw [z, e] at el; cases el) el, k _ _ (fun z => by rw [z, e] at ec; cases ec) ec⟩
theorem ok_kept {d : D} (h : Ok M d) (tab : TabM PT q M) (k : ∀ x o, x ≠ PT → M x = some o → M' x = some o) : Ok M' d := by
  obtain ⟨S, e, _⟩ := tab
  exact Ok.lsg (fun x xs e2 => ⟨xs, k x _ (fun z => by rw [z, e] at e2; cases e2) e2⟩) d h
theorem gv_isH {C e : Addr} {te : DTE} (h : Gv te ρ M (.ob e)) (em : M e = some (.raw fun o => o = ExH (.ref C) e)) : Gv (dCB (dIsH C) (dCons te (dCons (dC (.ob C)) dNil))) ρ M (.bl true) := gv_cb (ga_cons h (ga_cons gv_c ga_nil)) fun M1 g Q q => ⟨e, rfl, g _ _ em, q M1 (Grow.refl M1)⟩
theorem isLib_ex {d : D} (h : isLib d = true) : ∃ ps, d = .tup [.str "library", .tup ps] := by
  unfold isLib at h
  split at h
  · rename_i k ps
    rw [Bool.and_eq_true] at h
    exact ⟨ps, by rw [of_decide_eq_true h.1]⟩
  · cases h
def dR1L (g : DTG) (t : DTS) (E : DEnds) (ρ : DSt) : List D → DM → Prop := fun ds M1 => match ds with
  | [.int j] => j < 2 ^ 62 ∧ -(2 ^ 62) ≤ j ∧ dLoop always g t E (rgD 0 j.toNat) ρ M1
  | _ => False
theorem peel_forR1 (h : ta ρ M fun x M1 => dR1L g t E ρ [x] M1) : dFor (dwR1 (dCons ta dNil)) g t E ρ M := h
def dwAL (g : DTG) (t : DTS) (E : DEnds) (ρ : DSt) : D → DM → Prop := fun d M1 => match d with
  | .tup ds => dLoop always g t E ds ρ M1
  | .ob a => (match Msq M1 a with
    | some ds => dLoop (fun M' => Msq M' a = some ds) g t E ds ρ M1
    | none => False)
  | _ => False
theorem peel_forA (h : ta ρ M fun d M1 => dwAL g t E ρ d M1) : dFor (dwA ta) g t E ρ M := h
end
theorem ok_law (T : Tx K mg w) (Z : Tz K mg) {c PT : Addr} {oc kV doc pm ct : Value} {an od : Option Addr} {osl : Array (Option Value)} (lk : K.lookup T.f_law.f = some ⟨oc, od, .func (PySem.W.fnOf "law" "law" (defArgs s_law) (defBody s_law) (defScope s_law) .none kV doc pm an (.ref c) ct), osl⟩) (hcd : PySem.W.codeIn K (.ref c) "law" = true) (TB : TabB base mg c PT) :
    FnOk P w K mg base CX0 13 T.f_law.f (PySem.W.fnOf "law" "law" (defArgs s_law) (defBody s_law) (defScope s_law) .none kV doc pm an (.ref c) ct) ["script"] (LSp K (spLaw PT)) := by
  refine dfunC lk hcd sc_law (fun ds M Q ⟨s, o, ns, e, _⟩ => by rw [e]; rfl) fun A outer s H E hr => ⟨_, (ds_cons (ds_set (i := 1) sc_law.nd (d_fn (fn := T.f__law_begun) (ok__law_begun T) (hr.mono (by first | decide | omega)) (da_cons (dv 0) da_nil))) (ds_cons (ds_for PassesOwn.never rfl (di_rng rfl T.b_range (da_cons (d_add dint (d_fn (fn := T.f__law_take) (ok__law_take T) (hr.mono (by first | decide | omega)) (da_cons (dv 1) (da_cons dint da_nil)))) da_nil)) (dg_name (i := 2) sc_law.nd) (ds_cons (ds_set (i := 3) sc_law.nd (d_fn (fn := T.f__law_library) (ok__law_library T) (hr.mono (by first | decide | omega)) (da_cons (dv 1) (da_cons (d_fn (fn := T.f__law_pick) (ok__law_pick T) (hr.mono (by first | decide | omega)) (da_cons (dv 1) (da_cons (d_lst (da_cons dint (da_cons dint (da_cons dint (da_cons dint (da_cons dint da_nil)))))) da_nil))) da_nil)))) (ds_cons (ds_if (PW.pt (d_or (d_notBT (d_fn (fn := T.f_is_library) (ok_is_library T) (hr.mono (by first | decide | omega)) (da_cons (dv 3) da_nil)) dbl) (d_or (d_notBT (d_callK (ok_is_library T) (hr.mono (by first | decide | omega)) rfl T.f_is_library.m T.f_is_library.F.kp (kb_is_library T) (fun _ => rfl) (dv 3)) dbl) (d_or1 (d_not (d_val (d_fn (fn := T.f__law_is_library) (ok__law_is_library T) (hr.mono (by first | decide | omega)) (da_cons (dv 3) da_nil)))))))) (ds_one (ds_ret dbl)) ds_nil) (ds_cons (ds_for PassesOwn.never rfl (di_rng rfl T.b_range (da_cons dint da_nil)) (dg_name (i := 4) sc_law.nd) (ds_cons (ds_set (i := 5) sc_law.nd (d_fn (fn := T.f__law_bent) (ok__law_bent T) (hr.mono (by first | decide | omega)) (da_cons (dv 1) (da_cons (dv 3) da_nil)))) (ds_cons (ds_if (d_eqT (hu0 hr) (d_fn (fn := T.f__law_take) (ok__law_take T) (hr.mono (by first | decide | omega)) (da_cons (dv 1) (da_cons dint da_nil))) dint) (ds_one (ds_set (i := 5) sc_law.nd (d_ifE (d_val (d_fn (fn := T.f__law_is_library) (ok__law_is_library T) (hr.mono (by first | decide | omega)) (da_cons (dv 5) da_nil))) (d_fn (fn := T.f__law_bent) (ok__law_bent T) (hr.mono (by first | decide | omega)) (da_cons (dv 1) (da_cons (dv 5) da_nil))) (dv 5)))) ds_nil) (ds_one (ds_if (d_neT (hu0 hr) (d_repr T.b_repr (da_cons (d_fn (fn := T.f_is_library) (ok_is_library T) (hr.mono (by first | decide | omega)) (da_cons (dv 5) da_nil)) da_nil)) (d_repr T.b_repr (da_cons (d_fn (fn := T.f__law_is_library) (ok__law_is_library T) (hr.mono (by first | decide | omega)) (da_cons (dv 5) da_nil)) da_nil))) (ds_one (ds_ret dbl)) ds_nil))))) (ds_cons (ds_set (i := 6) sc_law.nd (d_fn (fn := T.f__law_wrong_library) (ok__law_wrong_library T) (hr.mono (by first | decide | omega)) (da_cons (dv 1) (da_cons (dv 3) da_nil)))) (ds_cons (ds_set (i := 7) sc_law.nd (d_kept1 qual_law T Z TB rfl (hr.mono (by decide)) rfl rfl (lamS_by (sc := defScope s_law) (by decide +kernel)) rfl (fun _ _ _ _ _ => rfl) rfl rfl)) (ds_cons (ds_set (i := 8) sc_law.nd (d_kept2 qual_law T Z TB rfl (hr.mono (by decide)) rfl rfl (lamS_by (sc := defScope s_law) (by decide +kernel)) rfl (fun _ _ _ _ _ => rfl) rfl rfl)) (ds_one (ds_if (PW.pt (d_or (d_notBT (d_fn (fn := T.f_is_library) (ok_is_library T) (hr.mono (by first | decide | omega)) (da_cons (dv 6) da_nil)) dbl) (d_or (d_not (d_val (d_isH Z T.b_isinstance (dv 7) rfl rfl))) (d_or1 (d_not (d_val (d_isH Z T.b_isinstance (dv 8) rfl rfl))))))) (ds_one (ds_ret dbl)) ds_nil))))))))) (ds_cons (ds_for PassesOwn.never rfl (di_any (d_fn (fn := T.f__law_limits) (ok__law_limits T) (hr.mono (by first | decide | omega)) (da_cons (dv 1) da_nil))) (dg_name (i := 5) sc_law.nd) (ds_one (ds_if (d_neT (hu0 hr) (d_repr T.b_repr (da_cons (d_fn (fn := T.f_is_library) (ok_is_library T) (hr.mono (by first | decide | omega)) (da_cons (dv 5) da_nil)) da_nil)) (d_repr T.b_repr (da_cons (d_fn (fn := T.f__law_is_library) (ok__law_is_library T) (hr.mono (by first | decide | omega)) (da_cons (dv 5) da_nil)) da_nil))) (ds_one (ds_ret dbl)) ds_nil))) (ds_one (ds_ret dbl))))), ?_⟩
  rintro ds M0 Q ⟨s, o, ns, rfl, eo, es, hl, tab0, q⟩
  have sz : ∀ k : Nat, k ≤ 3000 → k ≤ sizeLine := fun k h => by rw [sizeLine_eq]; omega
  refine s_seq (peel_asg ((ga_cons (gv_var (v := .ob s) rfl) ga_nil : Ga (dCons (dVar 0) dNil) [some (.ob s), none, none, none, none, none, none, none, none] M0 [.ob s]) M0 (Grow.refl _) _ fun M1 g1 => ⟨s, o, ns, rfl, g1 _ _ eo, es, hl, fun M2 a l c2 g2 na nl nc dr2 => ?_⟩))
  have tab2 : TabM PT lawQ M2 := tab0.grow (g1.trans g2)
  dsimp only
  clear eo es hl tab0 g1 g2 na nl nc
  have lawT : ∀ {ρ : DSt} {M : DM} {i : Nat} {d : D}, ρ[i]? = some (some d) → Ok M d → Gv (dCall (spF fLib) (dCons (dVar i) dNil)) ρ M (.bl (isLib d)) := fun h ok => gv_call (ga_cons (gv_var h) ga_nil) (rc_spF rfl (okL_one ok))
  have same : ∀ {ρ : DSt} {M : DM} {i : Nat} {d : D}, ρ[i]? = some (some d) → Ok M d → Gt (dT (dOp (dEq true) (dCB dReprB (dCons (dCall (spF fLib) (dCons (dVar i) dNil)) dNil)) (dCB dReprB (dCons (dCall (spF fLib) (dCons (dVar i) dNil)) dNil)))) ρ M false := fun h ok => gt_eq (gt_t (gv_op (gv_cb (ga_cons (lawT h ok) ga_nil) rc_repr) (gv_cb (ga_cons (lawT h ok) ga_nil) rc_repr) rv_neS)) (by simp)
  refine s_seq (peel_forR1 (peel_op (gv_c (v := .int 1) M2 (Grow.refl _) _ fun M3 g3 => ?_)))
  refine c_take (ρ := [some (.ob s), some (.ob a), none, none, none, none, none, none, none]) (a := a) (l := l) (c := c2) (n := 3) (ga_cons (gv_var rfl) (ga_cons gv_c ga_nil)) (by decide) (by decide) (dr2.grow g3) fun M4 i g4 dr4 hi => ⟨by omega, by omega, ?_⟩
  have tab4 := (tab2.grow g3).step (dr2.grow g3) g4
  clear tab2 dr2 g3 g4
  refine loopI (fun r ρ M => Drw a l c2 M ∧ TabM PT lawQ M ∧ ∃ o2 o3 o4 o5 o6 o7 o8, ρ = [some (.ob s), some (.ob a), o2, o3, o4, o5, o6, o7, o8]) (fun ρ M ⟨dr, tab, o2, o3, o4, o5, o6, o7, o8, eρ⟩ => ?_) (fun d r ρ M ⟨dr, tab, o2, o3, o4, o5, o6, o7, o8, eρ⟩ N hN => ?_) _ _ _ ⟨dr4, tab4, none, none, none, none, none, none, none, rfl⟩
  · -- behind the turns: the limits
    subst eρ
    dsimp only
    refine s_seq (peel_forA ((ga_cons (gv_var (v := .ob a) rfl) ga_nil : Ga (dCons (dVar 1) dNil) [some (.ob s), some (.ob a), o2, o3, o4, o5, o6, o7, o8] M [.ob a]) M (Grow.refl _) _ fun M1 g1 => ⟨a, l, c2, rfl, dr.grow g1, fun M2 p xs g2 dr2 n1 n2 np ep hl hp => ?_⟩))
    unfold dwAL
    dsimp only
    rw [msq_ls ep]
    dsimp only
    refine loopI (fun r ρ M3 => M3 p = some (.ls xs) ∧ (∀ d ∈ r, Pure d) ∧ ∃ o5, ρ = [some (.ob s), some (.ob a), o2, o3, o4, o5, o6, o7, o8]) (fun ρ M3 ⟨e3, _, o5, eρ⟩ => ?_) (fun d r ρ M3 ⟨e3, hr3, o5, eρ⟩ N hN => ?_) _ _ _ ⟨ep, hp, o5, rfl⟩
    · subst eρ
      exact (s_ret gv_c fun M4 g4 => q M4 : dRet (dC (.bl true)) { nx := fun _ M' => Q .non M', rt := Q } [some (.ob s), some (.ob a), o2, o3, o4, o5, o6, o7, o8] M3)
    · subst eρ
      refine s_if0 (ρ := [some (.ob s), some (.ob a), o2, o3, o4, some d, o6, o7, o8]) (same rfl (hr3 d List.mem_cons_self M3)) fun M4 g4 => s_next (hN _ _ (msq_ls (g4 _ _ e3)) ⟨g4 _ _ e3, fun x h => hr3 x (List.mem_cons_of_mem _ h), _, rfl⟩)
  · subst eρ
    let ρ0 : DSt := [some (.ob s), some (.ob a), some d, o3, o4, o5, o6, o7, o8]
    refine s_seq (peel_asg (peel_callA ((gv_var rfl : Gv (dVar 1) ρ0 M (.ob a)) M (Grow.refl _) _ fun M1 g1 => peel_consA ?_)))
    refine c_pickX (ρ := ρ0) (a := a) (l := l) (c := c2) (gv_var rfl) (gl_lst (vs := [.int 2, .int 3, .int 4, .int 5, .int 8]) (ga_cons gv_c (ga_cons gv_c (ga_cons gv_c (ga_cons gv_c (ga_cons gv_c ga_nil))))) (sz 5 (by decide))) (dr.grow g1) (by simp) (by simp) fun M2 dn g2 dr2 hdn => ?_
    obtain ⟨n, rfl, hn1, hn8⟩ : ∃ n : Nat, dn = .int n ∧ 1 ≤ n ∧ n ≤ 8 := by
      simp only [List.mem_cons, List.not_mem_nil, or_false] at hdn
      rcases hdn with rfl | rfl | rfl | rfl | rfl
      · exact ⟨2, rfl, by decide, by decide⟩
      · exact ⟨3, rfl, by decide, by decide⟩
      · exact ⟨4, rfl, by decide, by decide⟩
      · exact ⟨5, rfl, by decide, by decide⟩
      · exact ⟨8, rfl, by decide, by decide⟩
    have tab2 := (tab.grow g1).step (dr.grow g1) g2
    refine ⟨a, l, c2, n, rfl, hn1, hn8, dr2, fun M3 ps L g3 dr3 hlib hL4 hLn hlabs hzz => ?_⟩
    have tab3 := tab2.step dr2 g3
    clear tab tab2 dr dr2 g1 g2 g3
    dsimp only
    let lib : D := .tup [.str "library", .tup ps]
    let B := textsB ps L
    have okl : ∀ M', Ok M' lib := fun M' => (lib_okH (a := a) (l := l) (M := M') hlib).ok
    let ρ1 : DSt := [some (.ob s), some (.ob a), some d, some lib, o4, o5, o6, o7, o8]
    have isl : ∀ M', Gv (dCall (spF fLib) (dCons (dVar 3) dNil)) ρ1 M' (.bl true) := fun M' => gv_eq (lawT rfl (okl M')) (congrArg D.bl hlib)
    refine s_guard0 (ρ := ρ1) (gt_or0 (gt_eq (gt_t (gv_op (isl M3) gv_c rv_notB)) (by simp)) (gt_or0 (gt_eq (gt_t (gv_op (isl M3) gv_c rv_notB)) (by simp)) (gt_not (gt_t (isl M3))))) fun M4 g4 => ?_
    have dr4 := dr3.grow g4
    have tab4 := tab3.grow g4
    clear tab3 dr3 g4
    refine s_seq (s_forR (n := 6) (ρ := ρ1) gv_c (by decide) fun M5 g5 => ?_)
    refine loopI (fun r ρ M => Drw a l c2 M ∧ TabM PT lawQ M ∧ ∃ o4 o5, ρ = [some (.ob s), some (.ob a), some d, some lib, o4, o5, o6, o7, o8]) (fun ρ M ⟨dr, tab, o4, o5, eρ⟩ => ?_) (fun dl r2 ρ M ⟨dr, tab, o4, o5, eρ⟩ N2 hN2 => ?_) _ _ _ ⟨dr4.grow g5, tab4.grow g5, o4, o5, rfl⟩
    · -- a wrong one
      subst eρ
      dsimp only
      let ρ2 : DSt := [some (.ob s), some (.ob a), some d, some lib, o4, o5, o6, o7, o8]
      refine s_seq (peel_asg ((ga_cons (gv_var (v := .ob a) rfl) (ga_cons (gv_var (v := lib) rfl) ga_nil) : Ga (dCons (dVar 1) (dCons (dVar 3) dNil)) ρ2 M [.ob a, lib]) M (Grow.refl _) _ fun M1 g1 => ⟨a, l, c2, ps, rfl, hlib, hzz, dr.grow g1, fun M2 wr g2 dr2 okw hw => ?_⟩))
      have tab2 := (tab.grow g1).step (dr.grow g1) g2
      dsimp only
      have okw2 : Ok M2 wr := okw.ok
      refine s_seq (peel_asg (i := 7) ⟨wr, rfl, okw2, hw, tab2, fun M3 e3 k3 tab3 n3 ee3 => ?_⟩)
      dsimp only
      have dr3 := dr2.kept tab2 k3
      have okw3 := ok_kept okw2 tab2 k3
      refine s_seq (peel_asg (i := 8) ⟨wr, rfl, okw3, hw, tab3, fun M4 e4 k4 tab4 n4 ee4 => ?_⟩)
      dsimp only
      have dr4' := dr3.kept tab3 k4
      have okw4 := ok_kept okw3 tab3 k4
      have e34 : M4 e3 = some (.raw fun o => o = ExH (.ref Z.C) e3) := by
        obtain ⟨S, ep, _⟩ := tab2
        exact k4 _ _ (fun z => by rw [z, ep] at n3; cases n3) ee3
      refine s_if0 (ρ := [some (.ob s), some (.ob a), some d, some lib, o4, o5, some wr, some (.ob e3), some (.ob e4)]) (gt_or0 (gt_eq (gt_t (gv_op (lawT rfl okw4) gv_c rv_notB)) (by rw [hw]; rfl)) (gt_or0 (gt_not (gt_t (gv_isH (gv_var rfl) e34))) (gt_not (gt_t (gv_isH (gv_var rfl) ee4))))) fun M5 g5 => ?_
      exact hN _ M5 True.intro ⟨dr4'.grow g5, tab4.grow g5, _, _, _, _, _, _, _, rfl⟩
    · subst eρ
      let ρ2 : DSt := [some (.ob s), some (.ob a), some d, some lib, some dl, o5, o6, o7, o8]
      have glib : ∀ M', Good a l B lib M' := fun M' => ⟨lib_okH hlib, lib_texts hlib hlabs⟩
      refine s_seq (peel_asg ((ga_cons (gv_var (v := .ob a) rfl) (ga_cons (gv_var (v := lib) rfl) ga_nil) : Ga (dCons (dVar 1) (dCons (dVar 3) dNil)) ρ2 M [.ob a, lib]) M (Grow.refl _) _ fun M1 g1 => ⟨a, l, c2, B, ps, rfl, hlib, glib M1, textsB_base, textsB_few hlib hL4, dr.grow g1, fun M2 th g2 dr2 gth => ?_⟩))
      have tab2 := (tab.grow g1).step (dr.grow g1) g2
      clear tab dr g1 g2
      dsimp only
      let ρ3 : DSt := [some (.ob s), some (.ob a), some d, some lib, some dl, some th, o6, o7, o8]
      have fin : ∀ {M3 : DM} {tx : D} {E' : DEnds}, E'.nx = N2 → Drw a l c2 M3 → TabM PT lawQ M3 → Good a l B tx M3 → dIfS (dT (dOp (dEq true) (dCB dReprB (dCons (dCall (spF fLib) (dCons (dVar 5) dNil)) dNil)) (dCB dReprB (dCons (dCall (spF fLib) (dCons (dVar 5) dNil)) dNil)))) (dRet (dC (.bl false))) dNext E' [some (.ob s), some (.ob a), some d, some lib, some dl, some tx, o6, o7, o8] M3 := fun hE dr tab g => s_if0 (same rfl g.1.ok) fun M4 g4 => s_next (by rw [hE]; exact hN2 _ _ True.intro ⟨dr.grow g4, tab.grow g4, _, _, rfl⟩)
      refine s_seq (peel_ifEq (c_take (ρ := ρ3) (a := a) (l := l) (c := c2) (n := 4) (ga_cons (gv_var rfl) (ga_cons gv_c ga_nil)) (by decide) (by decide) dr2 fun M3 j g3 dr3 hj => gv_c (v := .int 0) M3 (Grow.refl _) _ fun M5 g5 => ?_))
      have tab5 := (tab2.step dr2 g3).grow g5
      have dr5 := dr3.grow g5
      have gth5 : Good a l B th M5 := (gth.growH g3).grow g5
      clear tab2 dr2 gth g3 dr3 g5
      show (if decide ((j : Int) = 0) = true then (_ : Prop) else _)
      dsimp only
      by_cases z : ((j : Int) = 0)
      · rw [decide_eq_true z, if_pos rfl]
        refine peel_asg (peel_if (b := isLib th) (gt_t (lawT rfl gth5.1.ok)) (fun hb M6 g6 => ?_) fun _ M6 g6 => ?_)
        · obtain ⟨ps2, rfl⟩ := isLib_ex hb
          refine (ga_cons (gv_var (v := .ob a) rfl) (ga_cons (gv_var (v := .tup [.str "library", .tup ps2]) rfl) ga_nil) : Ga (dCons (dVar 1) (dCons (dVar 5) dNil)) ρ3 M6 [.ob a, .tup [.str "library", .tup ps2]]) M6 (Grow.refl _) _ fun M7 g7 => ⟨a, l, c2, B, ps2, rfl, hb, gth5.grow (g6.trans g7), textsB_base, textsB_few hlib hL4, dr5.grow (g6.trans g7), fun M8 t8 g8 dr8 gt8 => ?_⟩
          exact fin rfl dr8 ((tab5.grow (g6.trans g7)).step (dr5.grow (g6.trans g7)) g8) gt8
        · exact (gv_var (v := th) rfl : Gv (dVar 5) ρ3 M6 th) M6 (Grow.refl _) _ fun M7 g7 => fin rfl (dr5.grow (g6.trans g7)) (tab5.grow (g6.trans g7)) (gth5.grow (g6.trans g7))
      · rw [decide_eq_false z, if_neg (by simp)]
        exact s_next (fin rfl dr5 tab5 gth5)
end
end DL

/-! D22: the head. -/
namespace DL
open PySem PySem.Spec PyProof.Rows L2 LamX
def looseN : List PySem.Str := (["CallError", "BadLibrary", "BadName", "KEPT", "LETTERS", "is_name", "is_row", "ITEMS", "SITES", "DEEP", "ARGS", "PROCS", "LENGTHS", "is_item", "args_in", "bodies_of", "is_body", "is_proc", "items_in", "are_calls_right"] : List PySem.Str) ++ (["rank_in", "ranks_in", "is_library", "check_library", "procs_told", "check_name", "called_in", "reached_from", "reached", "may_told", "may", "_law_begun", "_law_mixed", "_law_take", "_law_pick", "_law_shuffled", "_law_words", "_law_args", "_law_bodies", "_law_items"] : List PySem.Str) ++ (["_law_procs", "_law_labels", "_law_some_args", "_law_body", "_law_library", "_law_caught", "_law_wrong_library", "_law_is_name", "_law_is_body", "_law_can", "_law_is_library", "_law_changed", "_law_with_args", "_law_instead", "_law_bent", "_law_steps", "_law_limits"] : List PySem.Str)
def dd_is_name : He.DefD := ⟨("is_name", none), "is_name", "is_name", defArgs s_is_name, defBody s_is_name, defScope s_is_name, [], []⟩
def dd_is_row : He.DefD := ⟨("is_row", none), "is_row", "is_row", defArgs s_is_row, defBody s_is_row, defScope s_is_row, [], []⟩
def dd_is_item : He.DefD := ⟨("is_item", none), "is_item", "is_item", defArgs s_is_item, defBody s_is_item, defScope s_is_item, [], []⟩
def dd_args_in : He.DefD := ⟨("args_in", none), "args_in", "args_in", defArgs s_args_in, defBody s_args_in, defScope s_args_in, [], []⟩
def dd_bodies_of : He.DefD := ⟨("bodies_of", none), "bodies_of", "bodies_of", defArgs s_bodies_of, defBody s_bodies_of, defScope s_bodies_of, [], []⟩
def dd_is_body : He.DefD := ⟨("is_body", none), "is_body", "is_body", defArgs s_is_body, defBody s_is_body, defScope s_is_body, [], []⟩
def dd_is_proc : He.DefD := ⟨("is_proc", none), "is_proc", "is_proc", defArgs s_is_proc, defBody s_is_proc, defScope s_is_proc, [], []⟩
def dd_items_in : He.DefD := ⟨("items_in", none), "items_in", "items_in", defArgs s_items_in, defBody s_items_in, defScope s_items_in, [], []⟩
def dd_are_calls_right : He.DefD := ⟨("are_calls_right", none), "are_calls_right", "are_calls_right", defArgs s_are_calls_right, defBody s_are_calls_right, defScope s_are_calls_right, [], []⟩
def dd_rank_in : He.DefD := ⟨("rank_in", none), "rank_in", "rank_in", defArgs s_rank_in, defBody s_rank_in, defScope s_rank_in, [], []⟩
def dd_ranks_in : He.DefD := ⟨("ranks_in", none), "ranks_in", "ranks_in", defArgs s_ranks_in, defBody s_ranks_in, defScope s_ranks_in, [], []⟩
def dd_is_library : He.DefD := ⟨("is_library", none), "is_library", "is_library", defArgs s_is_library, defBody s_is_library, defScope s_is_library, [], []⟩
def dd_check_library : He.DefD := ⟨("check_library", none), "check_library", "check_library", defArgs s_check_library, defBody s_check_library, defScope s_check_library, [], []⟩
def dd_procs_told : He.DefD := ⟨("procs_told", none), "procs_told", "procs_told", defArgs s_procs_told, defBody s_procs_told, defScope s_procs_told, [], []⟩
def dd_check_name : He.DefD := ⟨("check_name", none), "check_name", "check_name", defArgs s_check_name, defBody s_check_name, defScope s_check_name, [], []⟩
def dd_called_in : He.DefD := ⟨("called_in", none), "called_in", "called_in", defArgs s_called_in, defBody s_called_in, defScope s_called_in, [], []⟩
def dd_reached_from : He.DefD := ⟨("reached_from", none), "reached_from", "reached_from", defArgs s_reached_from, defBody s_reached_from, defScope s_reached_from, [], []⟩
def dd_reached : He.DefD := ⟨("reached", none), "reached", "reached", defArgs s_reached, defBody s_reached, defScope s_reached, [], []⟩
def dd_may_told : He.DefD := ⟨("may_told", none), "may_told", "may_told", defArgs s_may_told, defBody s_may_told, defScope s_may_told, [], []⟩
def dd_may : He.DefD := ⟨("may", none), "may", "may", defArgs s_may, defBody s_may, defScope s_may, [], []⟩
def dd__law_begun : He.DefD := ⟨("_law_begun", none), "_law_begun", "_law_begun", defArgs s__law_begun, defBody s__law_begun, defScope s__law_begun, [], []⟩
def dd__law_mixed : He.DefD := ⟨("_law_mixed", none), "_law_mixed", "_law_mixed", defArgs s__law_mixed, defBody s__law_mixed, defScope s__law_mixed, [], []⟩
def dd__law_take : He.DefD := ⟨("_law_take", none), "_law_take", "_law_take", defArgs s__law_take, defBody s__law_take, defScope s__law_take, [], []⟩
def dd__law_pick : He.DefD := ⟨("_law_pick", none), "_law_pick", "_law_pick", defArgs s__law_pick, defBody s__law_pick, defScope s__law_pick, [], []⟩
def dd__law_shuffled : He.DefD := ⟨("_law_shuffled", none), "_law_shuffled", "_law_shuffled", defArgs s__law_shuffled, defBody s__law_shuffled, defScope s__law_shuffled, [], []⟩
def dd__law_words : He.DefD := ⟨("_law_words", none), "_law_words", "_law_words", defArgs s__law_words, defBody s__law_words, defScope s__law_words, [], []⟩
def dd__law_args : He.DefD := ⟨("_law_args", none), "_law_args", "_law_args", defArgs s__law_args, defBody s__law_args, defScope s__law_args, [], []⟩
def dd__law_bodies : He.DefD := ⟨("_law_bodies", none), "_law_bodies", "_law_bodies", defArgs s__law_bodies, defBody s__law_bodies, defScope s__law_bodies, [], []⟩
def dd__law_items : He.DefD := ⟨("_law_items", none), "_law_items", "_law_items", defArgs s__law_items, defBody s__law_items, defScope s__law_items, [], []⟩
def dd__law_procs : He.DefD := ⟨("_law_procs", none), "_law_procs", "_law_procs", defArgs s__law_procs, defBody s__law_procs, defScope s__law_procs, [], []⟩
def dd__law_labels : He.DefD := ⟨("_law_labels", none), "_law_labels", "_law_labels", defArgs s__law_labels, defBody s__law_labels, defScope s__law_labels, [], []⟩
def dd__law_some_args : He.DefD := ⟨("_law_some_args", none), "_law_some_args", "_law_some_args", defArgs s__law_some_args, defBody s__law_some_args, defScope s__law_some_args, [], []⟩
def dd__law_body : He.DefD := ⟨("_law_body", none), "_law_body", "_law_body", defArgs s__law_body, defBody s__law_body, defScope s__law_body, [], []⟩
def dd__law_library : He.DefD := ⟨("_law_library", none), "_law_library", "_law_library", defArgs s__law_library, defBody s__law_library, defScope s__law_library, [], []⟩
def dd__law_caught : He.DefD := ⟨("_law_caught", none), "_law_caught", "_law_caught", defArgs s__law_caught, defBody s__law_caught, defScope s__law_caught, [], []⟩
def dd__law_wrong_library : He.DefD := ⟨("_law_wrong_library", none), "_law_wrong_library", "_law_wrong_library", defArgs s__law_wrong_library, defBody s__law_wrong_library, defScope s__law_wrong_library, [], []⟩
def dd__law_is_name : He.DefD := ⟨("_law_is_name", none), "_law_is_name", "_law_is_name", defArgs s__law_is_name, defBody s__law_is_name, defScope s__law_is_name, [], []⟩
def dd__law_is_body : He.DefD := ⟨("_law_is_body", none), "_law_is_body", "_law_is_body", defArgs s__law_is_body, defBody s__law_is_body, defScope s__law_is_body, [], []⟩
def dd__law_can : He.DefD := ⟨("_law_can", none), "_law_can", "_law_can", defArgs s__law_can, defBody s__law_can, defScope s__law_can, [], []⟩
def dd__law_is_library : He.DefD := ⟨("_law_is_library", none), "_law_is_library", "_law_is_library", defArgs s__law_is_library, defBody s__law_is_library, defScope s__law_is_library, [], []⟩
def dd__law_changed : He.DefD := ⟨("_law_changed", none), "_law_changed", "_law_changed", defArgs s__law_changed, defBody s__law_changed, defScope s__law_changed, [], []⟩
def dd__law_with_args : He.DefD := ⟨("_law_with_args", none), "_law_with_args", "_law_with_args", defArgs s__law_with_args, defBody s__law_with_args, defScope s__law_with_args, [], []⟩
def dd__law_instead : He.DefD := ⟨("_law_instead", none), "_law_instead", "_law_instead", defArgs s__law_instead, defBody s__law_instead, defScope s__law_instead, [], []⟩
def dd__law_bent : He.DefD := ⟨("_law_bent", none), "_law_bent", "_law_bent", defArgs s__law_bent, defBody s__law_bent, defScope s__law_bent, [], []⟩
def dd__law_steps : He.DefD := ⟨("_law_steps", none), "_law_steps", "_law_steps", defArgs s__law_steps, defBody s__law_steps, defScope s__law_steps, [], []⟩
def dd__law_limits : He.DefD := ⟨("_law_limits", none), "_law_limits", "_law_limits", defArgs s__law_limits, defBody s__law_limits, defScope s__law_limits, [], []⟩
def dd_law : He.DefD := ⟨("law", none), "law", "law", defArgs s_law, defBody s_law, defScope s_law, [], []⟩
def fnL : List He.DefD := [dd_is_name, dd_is_row, dd_is_item, dd_args_in, dd_bodies_of, dd_is_body, dd_is_proc, dd_items_in, dd_are_calls_right, dd_rank_in, dd_ranks_in, dd_is_library, dd_check_library, dd_procs_told, dd_check_name, dd_called_in, dd_reached_from, dd_reached, dd_may_told, dd_may, dd__law_begun, dd__law_mixed, dd__law_take, dd__law_pick, dd__law_shuffled, dd__law_words, dd__law_args, dd__law_bodies, dd__law_items, dd__law_procs, dd__law_labels, dd__law_some_args, dd__law_body, dd__law_library, dd__law_caught, dd__law_wrong_library, dd__law_is_name, dd__law_is_body, dd__law_can, dd__law_is_library, dd__law_changed, dd__law_with_args, dd__law_instead, dd__law_bent, dd__law_steps, dd__law_limits, dd_law]
def faL : List He.Fa := ([.glo "is_name", .glo "is_row", .glo "is_item", .glo "args_in", .glo "bodies_of", .glo "is_body", .glo "is_proc", .glo "items_in", .glo "are_calls_right", .glo "rank_in", .glo "ranks_in", .glo "is_library", .glo "check_library", .glo "procs_told", .glo "check_name", .glo "called_in", .glo "reached_from", .glo "reached", .glo "may_told", .glo "may", .glo "_law_begun", .glo "_law_mixed", .glo "_law_take", .glo "_law_pick", .glo "_law_shuffled"] : List He.Fa) ++ ([.glo "_law_words", .glo "_law_args", .glo "_law_bodies", .glo "_law_items", .glo "_law_procs", .glo "_law_labels", .glo "_law_some_args", .glo "_law_body", .glo "_law_library", .glo "_law_caught", .glo "_law_wrong_library", .glo "_law_is_name", .glo "_law_is_body", .glo "_law_can", .glo "_law_is_library", .glo "_law_changed", .glo "_law_with_args", .glo "_law_instead", .glo "_law_bent", .glo "_law_steps", .glo "_law_limits", .glo "law", .glo "BadLibrary", .glo "CallError", .glo "KEPT"] : List He.Fa) ++ ([.glo "LENGTHS", .free "len", .free "all", .free "isinstance", .free "abs", .free "int", .free "list", .free "tuple", .free "max", .free "min", .free "repr", .free "sorted", .free "dict", .free "set", .free "range", .free "str", .int "ITEMS" 10, .int "SITES" 40, .int "DEEP" 3, .int "ARGS" 3, .int "PROCS" 8, .str "LETTERS" abc, .exc "BadLibrary", .exm "BadLibrary" "CallError" true] : List He.Fa)
abbrev Rw : PySem.W.OpenRow := PySem.W.OpenLaw.row PySem.Challenge.rw_throughcalls_k16_whole_libraries_judged
def keptV : List He.Dv := kept.map He.Dv.str
def lensV : List (Str × He.Dv) := [("do", .int 4), ("if", .int 5), ("while", .int 4), ("call", .int 3)]
def tabL : List He.Tab := [(fun K => He.ga K "LENGTHS", ["do", "if", "while", "call"])]
/-- no list is written -/
def noLst (K : PySem.W.Frag) : Bool := K.all fun p => match p.2.cls with
  | .type c => !decide (c = "list")
  | _ => true
def excCB (K : PySem.W.Frag) (D : Addr) : Bool :=
  decide (PySem.W.findIn K (.ref D) "__getattribute__" = some (some (.builtin "BaseException.__getattribute__"))) && decide (PySem.W.findIn K (.ref D) "__getattr__" = some none) && decide (PySem.W.subIn K (.ref D) (.type "BaseException") = some true) && PySem.W.hasDictIn K D &&
  decide (PySem.W.findIn K (.ref D) "__class__" = some (some (.builtin "object.__class__"))) && decide (PySem.W.specialIn K (.builtin "object.__class__") "__get__" = some (some (.builtin "getset_descriptor.__get__"))) && decide (PySem.W.takesIn K (.builtin "object.__class__") = some true) && decide (PySem.W.mroIn K D (.type "object") = some true)
def exB (K : PySem.W.Frag) : Bool := He.tupB K "KEPT" keptV && He.valsB K (He.ga K "LENGTHS") lensV && noLst K && excCB K (He.ga K "BadLibrary")
abbrev hkL : PySem.W.Hook := He.hookX 4 faL fnL tabL [("law", none)] exB
def obL (s : PySem.W.SharedT) : He.AlX := He.obsX 4 faL fnL tabL [("law", none)] exB (HandSHeadRun.getT s)
theorem obL_eq (s : PySem.W.SharedT) : obL s = hkL.obs s.abs := He.obsX_eq (HandSHeadRun.getT_eq s)
set_option maxHeartbeats 0 in
theorem runL (w : World) : HandSHeadRun.RunEq Rw (PySem.W.view Rw.prog [64]) hkL obL 4000 looseN w := PySem.W.byRow2 "special-get-raises" (P := fun w => HandSHeadRun.RunEq Rw (PySem.W.view Rw.prog [64]) hkL obL 4000 looseN w) (fun w os => by kernel_rfl) (fun w os => by kernel_rfl) w
end DL

/-! D23: what the head tells. -/
namespace DL
open PySem PySem.Spec PyProof.Rows L2 LamX
section
variable {K : PySem.W.Frag} {mg : Str → Option Value} {h : Heap} {w : World}
theorem fun_of {x : Str} {st : Stmt} {f : Addr} {fd : FuncData} (F : FunD K x x (defArgs st) (defBody st) (defScope st) [] [] f fd) : Fun K x x st f fd := by
  obtain ⟨oc, od, dV, kV, doc, pm, an, cdv, ct, osl, e, lk, hc, hd, _⟩ := F.ex
  rcases hd with ⟨_, rfl⟩ | ⟨z, _⟩
  · exact ⟨⟨oc, od, kV, doc, pm, an, cdv, ct, osl, e, lk, hc⟩, F.kp⟩
  · exact (z rfl).elim
noncomputable def mkFn {x : Str} {st : Stmt} {ps : List Str} (e : ∃ fd, FunD K x x (defArgs st) (defBody st) (defScope st) [] [] (He.fAd K (x, none)) fd) (m : mg x = some (.ref (He.ga K x)))
    (b : ∀ (kV doc pm : Value) (an : Option Addr) (cdv ct : Value) (us : List Value), us.length = ps.length → bindArgs (PySem.W.fnOf x x (defArgs st) (defBody st) (defScope st) .none kV doc pm an cdv ct) ⟨us, []⟩ = pure (ps.zip us)) : Fn K mg x st ps where
  f := He.fAd K (x, none)
  fd := e.choose
  F := fun_of e.choose_spec
  m := m
  b := (fun_of e.choose_spec).binds b
theorem ex_parts (c : exB K = true) : He.tupB K "KEPT" keptV = true ∧ He.valsB K (He.ga K "LENGTHS") lensV = true ∧ noLst K = true ∧ excCB K (He.ga K "BadLibrary") = true := by
  unfold exB at c
  obtain ⟨c1, c4⟩ := He.ba c
  obtain ⟨c1, c3⟩ := He.ba c1
  obtain ⟨c1, c2⟩ := He.ba c1
  exact ⟨c1, c2, c3, c4⟩
theorem kept_of (c : exB K = true) : KTup K (He.ga K "KEPT") (kept.map V.str) := by
  have e := He.tupB_ok (ex_parts c).1 fun _ => none
  rw [show keptV.map (He.Dv.v K) = kept.map V.str by unfold keptV; rw [List.map_map]; rfl] at e
  rcases e with (e | ⟨_, e⟩) | e
  · cases e
  · cases e
  · exact e
theorem lens_of (t : He.SaysT faL fnL tabL w K) (c : exB K = true) : WD K w (He.ga K "LENGTHS") lens := by
  have vals := (ex_parts c).2.1
  have keys : He.dicW K (He.ga K "LENGTHS") = some (He.keysIn w.params ["do", "if", "while", "call"]) := by
    have e : tabL.map (fun t => He.dicW K (t.1 K)) = tabL.map fun t => some (He.keysIn w.params t.2) := congrArg (fun z : He.AlT => z.2) t
    exact List.head_eq_of_cons_eq e
  refine ⟨He.dicW_ok keys, fun z i hz => ?_, fun z hz => ?_⟩
  · have one : ∀ (q : Str × He.Dv), q ∈ lensV → ∀ i : Int, q.2 = .int i → ∃ t, PySem.W.nsIn K (He.ga K "LENGTHS") q.1 = some (some (.int i t)) := fun q hq i hi => by
      obtain ⟨u, e, r⟩ := He.valsB_ok vals hq
      rw [hi] at r
      obtain ⟨t, rfl⟩ := r
      exact ⟨t, e⟩
    rcases lens_cases hz with ⟨rfl, rfl⟩ | ⟨rfl, rfl⟩ | ⟨rfl, rfl⟩ | ⟨rfl, rfl⟩
    · exact one ("do", .int 4) (by unfold lensV; simp) 4 rfl
    · exact one ("if", .int 5) (by unfold lensV; simp) 5 rfl
    · exact one ("while", .int 4) (by unfold lensV; simp) 4 rfl
    · exact one ("call", .int 3) (by unfold lensV; simp) 3 rfl
  · have out : z ∉ (["do", "if", "while", "call"] : List Str) := fun hm => by
      have := lens_in (k := z)
      rw [hz, decide_eq_true hm] at this
      cases this
    unfold He.dicW at keys
    split at keys
    · rename_i cc es n sl lk
      split at keys
      · injection keys with keys
        unfold PySem.W.nsIn
        rw [lk]
        dsimp only
        have each : ∀ e ∈ es.toList, ∃ k t, e.key = .str k t ∧ k ∈ (["do", "if", "while", "call"] : List Str) := fun e he => by
          have hm : He.keyOf e ∈ es.toList.map He.keyOf := List.mem_map.mpr ⟨e, he, rfl⟩
          rw [keys] at hm
          obtain ⟨k, hk, e2⟩ := List.mem_map.mp hm
          unfold He.keyOf at e2
          split at e2
          · rename_i x t q
            injection e2 with e2
            injection e2 with e3 e4
            exact ⟨x, t, q, e3 ▸ hk⟩
          · cases e2
        have miss : es.toList.find? (·.key.isStr z) = none := List.find?_eq_none.mpr fun e he hs => by
          obtain ⟨k, t, e1, hk⟩ := each e he
          rw [e1] at hs
          have : k = z := eq_of_beq (show (k == z) = true from hs)
          exact out (this ▸ hk)
        rw [miss]
        dsimp only
        rw [if_neg]
        intro hr
        obtain ⟨e, he, hs⟩ := List.any_eq_true.mp hr
        obtain ⟨k, t, e1, _⟩ := each e he
        unfold DictEntry.refKey at hs
        rw [e1] at hs
        cases hs
      · cases keys
    · cases keys
theorem excC_of (c : exB K = true) : ExcC K (He.ga K "BadLibrary") := by
  have e := (ex_parts c).2.2.2
  unfold excCB at e
  obtain ⟨e, e8⟩ := He.ba e
  obtain ⟨e, e7⟩ := He.ba e
  obtain ⟨e, e6⟩ := He.ba e
  obtain ⟨e, e5⟩ := He.ba e
  obtain ⟨e, e4⟩ := He.ba e
  obtain ⟨e, e3⟩ := He.ba e
  obtain ⟨e1, e2⟩ := He.ba e
  exact ⟨of_decide_eq_true e1, of_decide_eq_true e2, of_decide_eq_true e3, e4, of_decide_eq_true e5, of_decide_eq_true e6, of_decide_eq_true e7, of_decide_eq_true e8⟩
noncomputable def F_is_name (X : K.In h) (G : h.Ns mainGlobals mg) (c : He.SaysD faL fnL K) : Fn K mg "is_name" s_is_name ["thing"] := mkFn (x := "is_name") (st := s_is_name) (c.def_ 0 (d := dd_is_name) rfl) (He.glo_ok X G (c.fact 0 (f := .glo "is_name") rfl)) fun _ _ _ _ _ _ us hl => match us, hl with | [_], _ => rfl
noncomputable def F_is_row (X : K.In h) (G : h.Ns mainGlobals mg) (c : He.SaysD faL fnL K) : Fn K mg "is_row" s_is_row ["thing", "most"] := mkFn (x := "is_row") (st := s_is_row) (c.def_ 1 (d := dd_is_row) rfl) (He.glo_ok X G (c.fact 1 (f := .glo "is_row") rfl)) fun _ _ _ _ _ _ us hl => match us, hl with | [_, _], _ => rfl
noncomputable def F_is_item (X : K.In h) (G : h.Ns mainGlobals mg) (c : He.SaysD faL fnL K) : Fn K mg "is_item" s_is_item ["thing"] := mkFn (x := "is_item") (st := s_is_item) (c.def_ 2 (d := dd_is_item) rfl) (He.glo_ok X G (c.fact 2 (f := .glo "is_item") rfl)) fun _ _ _ _ _ _ us hl => match us, hl with | [_], _ => rfl
noncomputable def F_args_in (X : K.In h) (G : h.Ns mainGlobals mg) (c : He.SaysD faL fnL K) : Fn K mg "args_in" s_args_in ["item"] := mkFn (x := "args_in") (st := s_args_in) (c.def_ 3 (d := dd_args_in) rfl) (He.glo_ok X G (c.fact 3 (f := .glo "args_in") rfl)) fun _ _ _ _ _ _ us hl => match us, hl with | [_], _ => rfl
noncomputable def F_bodies_of (X : K.In h) (G : h.Ns mainGlobals mg) (c : He.SaysD faL fnL K) : Fn K mg "bodies_of" s_bodies_of ["item"] := mkFn (x := "bodies_of") (st := s_bodies_of) (c.def_ 4 (d := dd_bodies_of) rfl) (He.glo_ok X G (c.fact 4 (f := .glo "bodies_of") rfl)) fun _ _ _ _ _ _ us hl => match us, hl with | [_], _ => rfl
noncomputable def F_is_body (X : K.In h) (G : h.Ns mainGlobals mg) (c : He.SaysD faL fnL K) : Fn K mg "is_body" s_is_body ["thing", "deep"] := mkFn (x := "is_body") (st := s_is_body) (c.def_ 5 (d := dd_is_body) rfl) (He.glo_ok X G (c.fact 5 (f := .glo "is_body") rfl)) fun _ _ _ _ _ _ us hl => match us, hl with | [_, _], _ => rfl
noncomputable def F_is_proc (X : K.In h) (G : h.Ns mainGlobals mg) (c : He.SaysD faL fnL K) : Fn K mg "is_proc" s_is_proc ["thing"] := mkFn (x := "is_proc") (st := s_is_proc) (c.def_ 6 (d := dd_is_proc) rfl) (He.glo_ok X G (c.fact 6 (f := .glo "is_proc") rfl)) fun _ _ _ _ _ _ us hl => match us, hl with | [_], _ => rfl
noncomputable def F_items_in (X : K.In h) (G : h.Ns mainGlobals mg) (c : He.SaysD faL fnL K) : Fn K mg "items_in" s_items_in ["body"] := mkFn (x := "items_in") (st := s_items_in) (c.def_ 7 (d := dd_items_in) rfl) (He.glo_ok X G (c.fact 7 (f := .glo "items_in") rfl)) fun _ _ _ _ _ _ us hl => match us, hl with | [_], _ => rfl
noncomputable def F_are_calls_right (X : K.In h) (G : h.Ns mainGlobals mg) (c : He.SaysD faL fnL K) : Fn K mg "are_calls_right" s_are_calls_right ["procs"] := mkFn (x := "are_calls_right") (st := s_are_calls_right) (c.def_ 8 (d := dd_are_calls_right) rfl) (He.glo_ok X G (c.fact 8 (f := .glo "are_calls_right") rfl)) fun _ _ _ _ _ _ us hl => match us, hl with | [_], _ => rfl
noncomputable def F_rank_in (X : K.In h) (G : h.Ns mainGlobals mg) (c : He.SaysD faL fnL K) : Fn K mg "rank_in" s_rank_in ["body", "ranks"] := mkFn (x := "rank_in") (st := s_rank_in) (c.def_ 9 (d := dd_rank_in) rfl) (He.glo_ok X G (c.fact 9 (f := .glo "rank_in") rfl)) fun _ _ _ _ _ _ us hl => match us, hl with | [_, _], _ => rfl
noncomputable def F_ranks_in (X : K.In h) (G : h.Ns mainGlobals mg) (c : He.SaysD faL fnL K) : Fn K mg "ranks_in" s_ranks_in ["procs"] := mkFn (x := "ranks_in") (st := s_ranks_in) (c.def_ 10 (d := dd_ranks_in) rfl) (He.glo_ok X G (c.fact 10 (f := .glo "ranks_in") rfl)) fun _ _ _ _ _ _ us hl => match us, hl with | [_], _ => rfl
noncomputable def F_is_library (X : K.In h) (G : h.Ns mainGlobals mg) (c : He.SaysD faL fnL K) : Fn K mg "is_library" s_is_library ["thing"] := mkFn (x := "is_library") (st := s_is_library) (c.def_ 11 (d := dd_is_library) rfl) (He.glo_ok X G (c.fact 11 (f := .glo "is_library") rfl)) fun _ _ _ _ _ _ us hl => match us, hl with | [_], _ => rfl
noncomputable def F_check_library (X : K.In h) (G : h.Ns mainGlobals mg) (c : He.SaysD faL fnL K) : Fn K mg "check_library" s_check_library ["library"] := mkFn (x := "check_library") (st := s_check_library) (c.def_ 12 (d := dd_check_library) rfl) (He.glo_ok X G (c.fact 12 (f := .glo "check_library") rfl)) fun _ _ _ _ _ _ us hl => match us, hl with | [_], _ => rfl
noncomputable def F_procs_told (X : K.In h) (G : h.Ns mainGlobals mg) (c : He.SaysD faL fnL K) : Fn K mg "procs_told" s_procs_told ["library"] := mkFn (x := "procs_told") (st := s_procs_told) (c.def_ 13 (d := dd_procs_told) rfl) (He.glo_ok X G (c.fact 13 (f := .glo "procs_told") rfl)) fun _ _ _ _ _ _ us hl => match us, hl with | [_], _ => rfl
noncomputable def F_check_name (X : K.In h) (G : h.Ns mainGlobals mg) (c : He.SaysD faL fnL K) : Fn K mg "check_name" s_check_name ["library", "name"] := mkFn (x := "check_name") (st := s_check_name) (c.def_ 14 (d := dd_check_name) rfl) (He.glo_ok X G (c.fact 14 (f := .glo "check_name") rfl)) fun _ _ _ _ _ _ us hl => match us, hl with | [_, _], _ => rfl
noncomputable def F_called_in (X : K.In h) (G : h.Ns mainGlobals mg) (c : He.SaysD faL fnL K) : Fn K mg "called_in" s_called_in ["proc"] := mkFn (x := "called_in") (st := s_called_in) (c.def_ 15 (d := dd_called_in) rfl) (He.glo_ok X G (c.fact 15 (f := .glo "called_in") rfl)) fun _ _ _ _ _ _ us hl => match us, hl with | [_], _ => rfl
noncomputable def F_reached_from (X : K.In h) (G : h.Ns mainGlobals mg) (c : He.SaysD faL fnL K) : Fn K mg "reached_from" s_reached_from ["library", "line"] := mkFn (x := "reached_from") (st := s_reached_from) (c.def_ 16 (d := dd_reached_from) rfl) (He.glo_ok X G (c.fact 16 (f := .glo "reached_from") rfl)) fun _ _ _ _ _ _ us hl => match us, hl with | [_, _], _ => rfl
noncomputable def F_reached (X : K.In h) (G : h.Ns mainGlobals mg) (c : He.SaysD faL fnL K) : Fn K mg "reached" s_reached ["library"] := mkFn (x := "reached") (st := s_reached) (c.def_ 17 (d := dd_reached) rfl) (He.glo_ok X G (c.fact 17 (f := .glo "reached") rfl)) fun _ _ _ _ _ _ us hl => match us, hl with | [_], _ => rfl
noncomputable def F_may_told (X : K.In h) (G : h.Ns mainGlobals mg) (c : He.SaysD faL fnL K) : Fn K mg "may_told" s_may_told ["library"] := mkFn (x := "may_told") (st := s_may_told) (c.def_ 18 (d := dd_may_told) rfl) (He.glo_ok X G (c.fact 18 (f := .glo "may_told") rfl)) fun _ _ _ _ _ _ us hl => match us, hl with | [_], _ => rfl
noncomputable def F_may (X : K.In h) (G : h.Ns mainGlobals mg) (c : He.SaysD faL fnL K) : Fn K mg "may" s_may ["library", "name"] := mkFn (x := "may") (st := s_may) (c.def_ 19 (d := dd_may) rfl) (He.glo_ok X G (c.fact 19 (f := .glo "may") rfl)) fun _ _ _ _ _ _ us hl => match us, hl with | [_, _], _ => rfl
noncomputable def F__law_begun (X : K.In h) (G : h.Ns mainGlobals mg) (c : He.SaysD faL fnL K) : Fn K mg "_law_begun" s__law_begun ["script"] := mkFn (x := "_law_begun") (st := s__law_begun) (c.def_ 20 (d := dd__law_begun) rfl) (He.glo_ok X G (c.fact 20 (f := .glo "_law_begun") rfl)) fun _ _ _ _ _ _ us hl => match us, hl with | [_], _ => rfl
noncomputable def F__law_mixed (X : K.In h) (G : h.Ns mainGlobals mg) (c : He.SaysD faL fnL K) : Fn K mg "_law_mixed" s__law_mixed ["draw"] := mkFn (x := "_law_mixed") (st := s__law_mixed) (c.def_ 21 (d := dd__law_mixed) rfl) (He.glo_ok X G (c.fact 21 (f := .glo "_law_mixed") rfl)) fun _ _ _ _ _ _ us hl => match us, hl with | [_], _ => rfl
noncomputable def F__law_take (X : K.In h) (G : h.Ns mainGlobals mg) (c : He.SaysD faL fnL K) : Fn K mg "_law_take" s__law_take ["draw", "many"] := mkFn (x := "_law_take") (st := s__law_take) (c.def_ 22 (d := dd__law_take) rfl) (He.glo_ok X G (c.fact 22 (f := .glo "_law_take") rfl)) fun _ _ _ _ _ _ us hl => match us, hl with | [_, _], _ => rfl
noncomputable def F__law_pick (X : K.In h) (G : h.Ns mainGlobals mg) (c : He.SaysD faL fnL K) : Fn K mg "_law_pick" s__law_pick ["draw", "some"] := mkFn (x := "_law_pick") (st := s__law_pick) (c.def_ 23 (d := dd__law_pick) rfl) (He.glo_ok X G (c.fact 23 (f := .glo "_law_pick") rfl)) fun _ _ _ _ _ _ us hl => match us, hl with | [_, _], _ => rfl
noncomputable def F__law_shuffled (X : K.In h) (G : h.Ns mainGlobals mg) (c : He.SaysD faL fnL K) : Fn K mg "_law_shuffled" s__law_shuffled ["draw", "some"] := mkFn (x := "_law_shuffled") (st := s__law_shuffled) (c.def_ 24 (d := dd__law_shuffled) rfl) (He.glo_ok X G (c.fact 24 (f := .glo "_law_shuffled") rfl)) fun _ _ _ _ _ _ us hl => match us, hl with | [_, _], _ => rfl
noncomputable def F__law_words (X : K.In h) (G : h.Ns mainGlobals mg) (c : He.SaysD faL fnL K) : Fn K mg "_law_words" s__law_words ["heads"] := mkFn (x := "_law_words") (st := s__law_words) (c.def_ 25 (d := dd__law_words) rfl) (He.glo_ok X G (c.fact 25 (f := .glo "_law_words") rfl)) fun _ _ _ _ _ _ us hl => match us, hl with | [_], _ => rfl
noncomputable def F__law_args (X : K.In h) (G : h.Ns mainGlobals mg) (c : He.SaysD faL fnL K) : Fn K mg "_law_args" s__law_args ["item"] := mkFn (x := "_law_args") (st := s__law_args) (c.def_ 26 (d := dd__law_args) rfl) (He.glo_ok X G (c.fact 26 (f := .glo "_law_args") rfl)) fun _ _ _ _ _ _ us hl => match us, hl with | [_], _ => rfl
noncomputable def F__law_bodies (X : K.In h) (G : h.Ns mainGlobals mg) (c : He.SaysD faL fnL K) : Fn K mg "_law_bodies" s__law_bodies ["item"] := mkFn (x := "_law_bodies") (st := s__law_bodies) (c.def_ 27 (d := dd__law_bodies) rfl) (He.glo_ok X G (c.fact 27 (f := .glo "_law_bodies") rfl)) fun _ _ _ _ _ _ us hl => match us, hl with | [_], _ => rfl
noncomputable def F__law_items (X : K.In h) (G : h.Ns mainGlobals mg) (c : He.SaysD faL fnL K) : Fn K mg "_law_items" s__law_items ["body"] := mkFn (x := "_law_items") (st := s__law_items) (c.def_ 28 (d := dd__law_items) rfl) (He.glo_ok X G (c.fact 28 (f := .glo "_law_items") rfl)) fun _ _ _ _ _ _ us hl => match us, hl with | [_], _ => rfl
noncomputable def F__law_procs (X : K.In h) (G : h.Ns mainGlobals mg) (c : He.SaysD faL fnL K) : Fn K mg "_law_procs" s__law_procs ["library"] := mkFn (x := "_law_procs") (st := s__law_procs) (c.def_ 29 (d := dd__law_procs) rfl) (He.glo_ok X G (c.fact 29 (f := .glo "_law_procs") rfl)) fun _ _ _ _ _ _ us hl => match us, hl with | [_], _ => rfl
noncomputable def F__law_labels (X : K.In h) (G : h.Ns mainGlobals mg) (c : He.SaysD faL fnL K) : Fn K mg "_law_labels" s__law_labels ["library"] := mkFn (x := "_law_labels") (st := s__law_labels) (c.def_ 30 (d := dd__law_labels) rfl) (He.glo_ok X G (c.fact 30 (f := .glo "_law_labels") rfl)) fun _ _ _ _ _ _ us hl => match us, hl with | [_], _ => rfl
noncomputable def F__law_some_args (X : K.In h) (G : h.Ns mainGlobals mg) (c : He.SaysD faL fnL K) : Fn K mg "_law_some_args" s__law_some_args ["draw", "labels", "most"] := mkFn (x := "_law_some_args") (st := s__law_some_args) (c.def_ 31 (d := dd__law_some_args) rfl) (He.glo_ok X G (c.fact 31 (f := .glo "_law_some_args") rfl)) fun _ _ _ _ _ _ us hl => match us, hl with | [_, _, _], _ => rfl
noncomputable def F__law_body (X : K.In h) (G : h.Ns mainGlobals mg) (c : He.SaysD faL fnL K) : Fn K mg "_law_body" s__law_body ["draw", "state", "k", "deep", "many", "is_safe"] := mkFn (x := "_law_body") (st := s__law_body) (c.def_ 32 (d := dd__law_body) rfl) (He.glo_ok X G (c.fact 32 (f := .glo "_law_body") rfl)) fun _ _ _ _ _ _ us hl => match us, hl with | [_, _, _, _, _, _], _ => rfl
noncomputable def F__law_library (X : K.In h) (G : h.Ns mainGlobals mg) (c : He.SaysD faL fnL K) : Fn K mg "_law_library" s__law_library ["draw", "most"] := mkFn (x := "_law_library") (st := s__law_library) (c.def_ 33 (d := dd__law_library) rfl) (He.glo_ok X G (c.fact 33 (f := .glo "_law_library") rfl)) fun _ _ _ _ _ _ us hl => match us, hl with | [_, _], _ => rfl
noncomputable def F__law_caught (X : K.In h) (G : h.Ns mainGlobals mg) (c : He.SaysD faL fnL K) : Fn K mg "_law_caught" s__law_caught ["work"] := mkFn (x := "_law_caught") (st := s__law_caught) (c.def_ 34 (d := dd__law_caught) rfl) (He.glo_ok X G (c.fact 34 (f := .glo "_law_caught") rfl)) fun _ _ _ _ _ _ us hl => match us, hl with | [_], _ => rfl
noncomputable def F__law_wrong_library (X : K.In h) (G : h.Ns mainGlobals mg) (c : He.SaysD faL fnL K) : Fn K mg "_law_wrong_library" s__law_wrong_library ["draw", "library"] := mkFn (x := "_law_wrong_library") (st := s__law_wrong_library) (c.def_ 35 (d := dd__law_wrong_library) rfl) (He.glo_ok X G (c.fact 35 (f := .glo "_law_wrong_library") rfl)) fun _ _ _ _ _ _ us hl => match us, hl with | [_, _], _ => rfl
noncomputable def F__law_is_name (X : K.In h) (G : h.Ns mainGlobals mg) (c : He.SaysD faL fnL K) : Fn K mg "_law_is_name" s__law_is_name ["thing"] := mkFn (x := "_law_is_name") (st := s__law_is_name) (c.def_ 36 (d := dd__law_is_name) rfl) (He.glo_ok X G (c.fact 36 (f := .glo "_law_is_name") rfl)) fun _ _ _ _ _ _ us hl => match us, hl with | [_], _ => rfl
noncomputable def F__law_is_body (X : K.In h) (G : h.Ns mainGlobals mg) (c : He.SaysD faL fnL K) : Fn K mg "_law_is_body" s__law_is_body ["thing", "deep"] := mkFn (x := "_law_is_body") (st := s__law_is_body) (c.def_ 37 (d := dd__law_is_body) rfl) (He.glo_ok X G (c.fact 37 (f := .glo "_law_is_body") rfl)) fun _ _ _ _ _ _ us hl => match us, hl with | [_, _], _ => rfl
noncomputable def F__law_can (X : K.In h) (G : h.Ns mainGlobals mg) (c : He.SaysD faL fnL K) : Fn K mg "_law_can" s__law_can ["body", "lot"] := mkFn (x := "_law_can") (st := s__law_can) (c.def_ 38 (d := dd__law_can) rfl) (He.glo_ok X G (c.fact 38 (f := .glo "_law_can") rfl)) fun _ _ _ _ _ _ us hl => match us, hl with | [_, _], _ => rfl
noncomputable def F__law_is_library (X : K.In h) (G : h.Ns mainGlobals mg) (c : He.SaysD faL fnL K) : Fn K mg "_law_is_library" s__law_is_library ["thing"] := mkFn (x := "_law_is_library") (st := s__law_is_library) (c.def_ 39 (d := dd__law_is_library) rfl) (He.glo_ok X G (c.fact 39 (f := .glo "_law_is_library") rfl)) fun _ _ _ _ _ _ us hl => match us, hl with | [_], _ => rfl
noncomputable def F__law_changed (X : K.In h) (G : h.Ns mainGlobals mg) (c : He.SaysD faL fnL K) : Fn K mg "_law_changed" s__law_changed ["body", "site", "due"] := mkFn (x := "_law_changed") (st := s__law_changed) (c.def_ 40 (d := dd__law_changed) rfl) (He.glo_ok X G (c.fact 40 (f := .glo "_law_changed") rfl)) fun _ _ _ _ _ _ us hl => match us, hl with | [_, _, _], _ => rfl
noncomputable def F__law_with_args (X : K.In h) (G : h.Ns mainGlobals mg) (c : He.SaysD faL fnL K) : Fn K mg "_law_with_args" s__law_with_args ["item", "args"] := mkFn (x := "_law_with_args") (st := s__law_with_args) (c.def_ 41 (d := dd__law_with_args) rfl) (He.glo_ok X G (c.fact 41 (f := .glo "_law_with_args") rfl)) fun _ _ _ _ _ _ us hl => match us, hl with | [_, _], _ => rfl
noncomputable def F__law_instead (X : K.In h) (G : h.Ns mainGlobals mg) (c : He.SaysD faL fnL K) : Fn K mg "_law_instead" s__law_instead ["draw", "item", "names", "others"] := mkFn (x := "_law_instead") (st := s__law_instead) (c.def_ 42 (d := dd__law_instead) rfl) (He.glo_ok X G (c.fact 42 (f := .glo "_law_instead") rfl)) fun _ _ _ _ _ _ us hl => match us, hl with | [_, _, _, _], _ => rfl
noncomputable def F__law_bent (X : K.In h) (G : h.Ns mainGlobals mg) (c : He.SaysD faL fnL K) : Fn K mg "_law_bent" s__law_bent ["draw", "library"] := mkFn (x := "_law_bent") (st := s__law_bent) (c.def_ 43 (d := dd__law_bent) rfl) (He.glo_ok X G (c.fact 43 (f := .glo "_law_bent") rfl)) fun _ _ _ _ _ _ us hl => match us, hl with | [_, _], _ => rfl
noncomputable def F__law_steps (X : K.In h) (G : h.Ns mainGlobals mg) (c : He.SaysD faL fnL K) : Fn K mg "_law_steps" s__law_steps ["letters", "head", "many"] := mkFn (x := "_law_steps") (st := s__law_steps) (c.def_ 44 (d := dd__law_steps) rfl) (He.glo_ok X G (c.fact 44 (f := .glo "_law_steps") rfl)) fun _ _ _ _ _ _ us hl => match us, hl with | [_, _, _], _ => rfl
noncomputable def F__law_limits (X : K.In h) (G : h.Ns mainGlobals mg) (c : He.SaysD faL fnL K) : Fn K mg "_law_limits" s__law_limits ["draw"] := mkFn (x := "_law_limits") (st := s__law_limits) (c.def_ 45 (d := dd__law_limits) rfl) (He.glo_ok X G (c.fact 45 (f := .glo "_law_limits") rfl)) fun _ _ _ _ _ _ us hl => match us, hl with | [_], _ => rfl
noncomputable def F_law (X : K.In h) (G : h.Ns mainGlobals mg) (c : He.SaysD faL fnL K) : Fn K mg "law" s_law ["script"] := mkFn (x := "law") (st := s_law) (c.def_ 46 (d := dd_law) rfl) (He.glo_ok X G (c.fact 46 (f := .glo "law") rfl)) fun _ _ _ _ _ _ us hl => match us, hl with | [_], _ => rfl
noncomputable def txOf (X : K.In h) (G : h.Ns mainGlobals mg) (c : He.SaysX faL fnL tabL [("law", none)] exB w h K) : Tx K mg w where
  f_is_name := F_is_name X G c.t.d
  f_is_row := F_is_row X G c.t.d
  f_is_item := F_is_item X G c.t.d
  f_args_in := F_args_in X G c.t.d
  f_bodies_of := F_bodies_of X G c.t.d
  f_is_body := F_is_body X G c.t.d
  f_is_proc := F_is_proc X G c.t.d
  f_items_in := F_items_in X G c.t.d
  f_are_calls_right := F_are_calls_right X G c.t.d
  f_rank_in := F_rank_in X G c.t.d
  f_ranks_in := F_ranks_in X G c.t.d
  f_is_library := F_is_library X G c.t.d
  f_check_library := F_check_library X G c.t.d
  f_procs_told := F_procs_told X G c.t.d
  f_check_name := F_check_name X G c.t.d
  f_called_in := F_called_in X G c.t.d
  f_reached_from := F_reached_from X G c.t.d
  f_reached := F_reached X G c.t.d
  f_may_told := F_may_told X G c.t.d
  f_may := F_may X G c.t.d
  f__law_begun := F__law_begun X G c.t.d
  f__law_mixed := F__law_mixed X G c.t.d
  f__law_take := F__law_take X G c.t.d
  f__law_pick := F__law_pick X G c.t.d
  f__law_shuffled := F__law_shuffled X G c.t.d
  f__law_words := F__law_words X G c.t.d
  f__law_args := F__law_args X G c.t.d
  f__law_bodies := F__law_bodies X G c.t.d
  f__law_items := F__law_items X G c.t.d
  f__law_procs := F__law_procs X G c.t.d
  f__law_labels := F__law_labels X G c.t.d
  f__law_some_args := F__law_some_args X G c.t.d
  f__law_body := F__law_body X G c.t.d
  f__law_library := F__law_library X G c.t.d
  f__law_caught := F__law_caught X G c.t.d
  f__law_wrong_library := F__law_wrong_library X G c.t.d
  f__law_is_name := F__law_is_name X G c.t.d
  f__law_is_body := F__law_is_body X G c.t.d
  f__law_can := F__law_can X G c.t.d
  f__law_is_library := F__law_is_library X G c.t.d
  f__law_changed := F__law_changed X G c.t.d
  f__law_with_args := F__law_with_args X G c.t.d
  f__law_instead := F__law_instead X G c.t.d
  f__law_bent := F__law_bent X G c.t.d
  f__law_steps := F__law_steps X G c.t.d
  f__law_limits := F__law_limits X G c.t.d
  f_law := F_law X G c.t.d
  b_len := He.free_ok X G (c.t.d.fact 51 (f := .free "len") rfl)
  b_all := He.free_ok X G (c.t.d.fact 52 (f := .free "all") rfl)
  b_isinstance := He.free_ok X G (c.t.d.fact 53 (f := .free "isinstance") rfl)
  b_abs := He.free_ok X G (c.t.d.fact 54 (f := .free "abs") rfl)
  b_int := He.free_ok X G (c.t.d.fact 55 (f := .free "int") rfl)
  b_list := He.free_ok X G (c.t.d.fact 56 (f := .free "list") rfl)
  b_tuple := He.free_ok X G (c.t.d.fact 57 (f := .free "tuple") rfl)
  b_max := He.free_ok X G (c.t.d.fact 58 (f := .free "max") rfl)
  b_min := He.free_ok X G (c.t.d.fact 59 (f := .free "min") rfl)
  b_repr := He.free_ok X G (c.t.d.fact 60 (f := .free "repr") rfl)
  b_sorted := He.free_ok X G (c.t.d.fact 61 (f := .free "sorted") rfl)
  b_dict := He.free_ok X G (c.t.d.fact 62 (f := .free "dict") rfl)
  b_set := He.free_ok X G (c.t.d.fact 63 (f := .free "set") rfl)
  b_range := He.free_ok X G (c.t.d.fact 64 (f := .free "range") rfl)
  b_str := He.free_ok X G (c.t.d.fact 65 (f := .free "str") rfl)
  c_ITEMS := He.int_ok X G (c.t.d.fact 66 (f := .int "ITEMS" 10) rfl)
  c_SITES := He.int_ok X G (c.t.d.fact 67 (f := .int "SITES" 40) rfl)
  c_DEEP := He.int_ok X G (c.t.d.fact 68 (f := .int "DEEP" 3) rfl)
  c_ARGS := He.int_ok X G (c.t.d.fact 69 (f := .int "ARGS" 3) rfl)
  c_PROCS := He.int_ok X G (c.t.d.fact 70 (f := .int "PROCS" 8) rfl)
  c_LETTERS := He.str_ok X G (c.t.d.fact 71 (f := .str "LETTERS" abc) rfl)
  aK := He.ga K "KEPT"
  c_KEPT := He.glo_ok X G (c.t.d.fact 49 (f := .glo "KEPT") rfl)
  k_KEPT := kept_of c.more
  aW := He.ga K "LENGTHS"
  c_LENGTHS := He.glo_ok X G (c.t.d.fact 50 (f := .glo "LENGTHS") rfl)
  w_LENGTHS := lens_of c.t c.more
noncomputable def tzOf (X : K.In h) (G : h.Ns mainGlobals mg) (c : He.SaysX faL fnL tabL [("law", none)] exB w h K) : Tz K mg where
  C := He.ga K "BadLibrary"
  D := He.ga K "CallError"
  mC := He.glo_ok X G (c.t.d.fact 47 (f := .glo "BadLibrary") rfl)
  mD := He.glo_ok X G (c.t.d.fact 48 (f := .glo "CallError") rfl)
  q := (He.exc_ok (c.t.d.fact 72 (f := .exc "BadLibrary") rfl)).1
  kC := (He.exc_ok (c.t.d.fact 72 (f := .exc "BadLibrary") rfl)).2.1
  sC := (He.exc_ok (c.t.d.fact 72 (f := .exc "BadLibrary") rfl)).2.2.1
  tC := (He.exc_ok (c.t.d.fact 72 (f := .exc "BadLibrary") rfl)).2.2.2
  xm := He.exm_ok (c.t.d.fact 73 (f := .exm "BadLibrary" "CallError" true) rfl)
  xc := excC_of c.more
end
end DL

/-! D24: the law holds. -/
namespace DL
open PySem PySem.Spec PyProof.Rows L2 LamX
section
variable {K : PySem.W.Frag} {mg : Str → Option Value} {h : Heap} {w : World}
theorem no_written (c : noLst K = true) {a : Addr} {o : Obj} (e : K.lookup a = some o) : o.cls ≠ .type "list" := fun z => by
  have := List.all_eq_true.mp c (a, o) (He.lookup_mem e)
  rw [show ((a, o) : Addr × Obj).2.cls = .type "list" from z] at this
  exact nomatch this
theorem codes_nil {S : Addr → Prop} : Codes #[] S := ⟨True.intro, fun pos cv e => by
  have z : codeAmong pos [] = some cv := e
  simp [codeAmong] at z⟩
theorem start_of (c : noLst K = true) {H : Hp} {a PT : Addr} {ns : List Int} {Q : VK} (hl : ns.length ≤ 1000) (hT : H PT = some (.tbl #[])) (hS : SqL K H a (ns.map V.int)) (q : ∀ H', Q (.bl true) H') : LSp K (spLaw PT) [.ref a] H Q fun _ _ _ => False := by
  have rd : Rd H a (.lst (ns.map V.int)) := by
    rcases hS with hS | ⟨o, its, n, e, ec, _⟩
    · exact hS
    · exact (no_written c e ec).elim
  obtain ⟨mo, hm, hmsq⟩ : ∃ mo : MO, RepO K H a mo ∧ ∀ M : DM, M a = some mo → Msq M a = some (ns.map D.int) := by
    rcases rd with e | ⟨ob, e⟩
    · exact ⟨.ls (ns.map D.int), ⟨_, e, RepL.of_ints ns⟩, fun M eM => by unfold Msq; rw [eM]⟩
    · exact ⟨.rs (ns.map D.int), ⟨_, ob, e, RepL.of_ints ns⟩, fun M eM => by unfold Msq; rw [eM]⟩
  have ne : a ≠ PT := fun z => by
    rw [z] at rd
    rcases rd with e | ⟨ob, e⟩ <;> (rw [hT] at e; cases e)
  let M0 : DM := mset (mset (fun _ => none) PT (.raw fun o => ∃ ps, o = .tbl ps ∧ Codes ps fun _ => False)) a mo
  have atP : M0 PT = some (.raw fun o => ∃ ps, o = .tbl ps ∧ Codes ps fun _ => False) := by
    show mset _ a mo PT = _
    rw [mset_ne ne.symm]
    exact mset_same
  refine ⟨[.ob a], M0, fun d _ => d = .bl true, RepL.cons rfl RepL.nil, fun x u e => ?_, ⟨a, mo, ns, rfl, mset_same, fun M' e => hmsq M' e, hl, ⟨fun _ => False, atP, fun c h => h.elim⟩, fun _ => rfl⟩, fun d M' v H' ed _ rv _ => ?_⟩
  · by_cases z : x = a
    · rw [z] at e ⊢
      rw [show M0 a = some mo from mset_same] at e
      cases e
      exact hm
    · have e1 : mset (fun _ => none) PT (.raw fun o => ∃ ps, o = .tbl ps ∧ Codes ps fun _ => False) x = some u := by
        rw [← e]
        exact (mset_ne z).symm
      by_cases z2 : x = PT
      · rw [z2, mset_same] at e1
        cases e1
        rw [z2]
        exact ⟨_, hT, (fun xs z => nomatch z), #[], rfl, codes_nil⟩
      · rw [mset_ne z2] at e1
        cases e1
  · subst ed
    unfold Rep at rv
    subst rv
    exact q H'
theorem law_at (X : K.In h) (G : h.Ns mainGlobals mg) (c : He.SaysX faL fnL tabL [("law", none)] exB w h K) {fa : Addr} (hfa : mg ("law" : Str) = some (.ref fa)) : LawAtS PySem.Challenge.rw_throughcalls_k16_whole_libraries_judged w K CX0 13 63 "script" mg fa h := by
  obtain ⟨fd, F⟩ := c.t.d.def_ 46 (d := dd_law) rfl
  obtain ⟨oc, od, dV, kV, doc, pm, an, cdv, ct, osl, e, lk, hcd, hd, hk⟩ := F.ex
  obtain ⟨c', rfl⟩ := He.codeIn_ref hcd
  have hdV : dV = .none := by
    rcases hd with ⟨_, z⟩ | ⟨z, _⟩
    · exact z
    · exact (z rfl).elim
  subst hdV
  have hfa2 := He.glo_ok X G (c.t.d.fact 46 (f := .glo "law") rfl)
  rw [hfa] at hfa2
  have efa : fa = He.ga K "law" := by
    injection hfa2 with hfa2
    injection hfa2
  subst efa
  have e1 : (He.cT K ("law", none)).1 = c' := He.codeOf_eq lk (by rw [e])
  subst e
  refine ⟨PySem.W.fnOf "law" "law" (defArgs s_law) (defBody s_law) (defScope s_law) .none kV doc pm an (.ref c') ct, [He.cT K ("law", none)], LSp K (spLaw (He.cT K ("law", none)).2), fun p hp => ?_, fun p hp => ?_, fun p hp => ?_, fun s u => .of_eq rfl, fun H a ns hl _ hT hS => start_of (ex_parts c.more).2.2.1 (by omega) (hT _ List.mem_cons_self) hS fun H' => rfl, fun base hK hN hTB => ?_⟩
  · rw [List.mem_singleton.mp hp]
    exact c.empty _ List.mem_cons_self
  · rw [List.mem_singleton.mp hp]
    exact c.out _ List.mem_cons_self
  · rw [List.mem_singleton.mp hp]
    exact PySem.W.codeHd_of_K X (c.hd _ List.mem_cons_self)
  · have TB := hTB _ List.mem_cons_self
    rw [e1] at TB
    exact ok_law (txOf X G c) (tzOf X G c) lk hcd TB
end
end DL
open PySem PySem.W PySem.Calls PyProof.Rows
set_option maxHeartbeats 0 in
theorem PySem.Challenge.cw_throughcalls_k16_whole_libraries_judged_holds : PySem.Challenge.rw_throughcalls_k16_whole_libraries_judged.Holds := by
  w_on; o_law
  refine HandSHeadRun.head_any (r := DL.Rw) (q := PySem.W.view DL.Rw.prog [64]) (H := DL.hkL) (ob := DL.obL) (M := 4000) (loose := DL.looseN) (d := HandSHeadRun.topDef DL.Rw.prog 64) (kwd := []) DL.obL_eq (by kernel_rfl) (fun s => by kernel_rfl) DL.runL (by kernel_rfl) (by kernel_rfl) (by kernel_rfl) (by rfl) (by first | assumption | decide +kernel) (by decide +kernel) ⟨rfl, rfl, rfl, rfl, rfl, by decide +kernel⟩ ?hw ?hc
  case hw => w_witness2
  case hc =>
    refine LamX.walk_ofTsE (l := PySem.Challenge.rw_throughcalls_k16_whole_libraries_judged) (n := 63) (k := 13) (x := "script") (CX := fun _ => L2.CX0) rfl (by decide) (by kernel_rfl) ⟨rfl, by decide, by decide⟩ ?F (fun _ _ _ _ _ z => z)
    intro w mg fa h ⟨K, KX, c⟩ G hmg0
    have hmg : mg ("law" : PySem.Str) = some (.ref fa) := by
      have e : (HandSHeadRun.topDef DL.Rw.prog 64).name = ("law" : PySem.Str) := by kernel_rfl
      rw [← e]
      exact hmg0
    exact ⟨K, KX, DL.law_at KX G c hmg⟩
