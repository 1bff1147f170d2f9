import PyProof.Rows.All
import Wide.All
import OpenK.AllK
import Wide.FinOn
import HandS.ForMost
import HandS.Exc
import HandS.ExcOwn
import HandS.WordsExc
import HandS.Defaults
import HandS.More
import HandS.Star
import HandS.TupAny
import HandS.Flow
import HandS.Style
import HandS.Conv
import HandS.Wide
import HandS.Deep
import HandS.IsInst
import HandS.Zip
import HandS.RaiseMore
import HandS.CallSlots
import HandS.HeadHook1
import HandS.HeadHook2
import HandS.HeadHook3
import KE.SortData
import PyProof.ReprRoads
import PyProof.ListStr
import HandS.Ends
import HandS.HeadEnd
import HandS.Codes
import HandS.Head0
import HandS.Head1
import HandS.Head2
import KE.KStateDown
import Lean
import PySem.Challenge.RW_backstacks_k91_words_written_and_read
set_option Elab.async false
set_option linter.all false
set_option maxRecDepth 100000
set_option maxHeartbeats 4000000
set_option autoImplicit false
/-! Dn, part A: data, the store, the relation to the abstract heap, results, judgements. -/
namespace Dn
open PySem PySem.Spec PyProof.Rows L2

/-! ### data -/
inductive D where
  | non | bl (b : Bool) | int (i : Int) | str (x : Str) | ty (n : String) | glo (x : Str) | loc (n : Nat) | rol (ds : List D) | tup (ds : List D)

/-- a mutable object -/
inductive Cell where
  | lst (ds : List D)
  | ins (C : Str) (fs : List (Str × D))
  | dK (kvs : List (Key × D))
abbrev Store := List Cell
abbrev Env := List (Option D)

/-- an exception: its class, its fields -/
structure Exn where
  cls : D
  fs : List (Str × D)

inductive Res (α : Type) where
  | ok (a : α) (st : Store) | er (x : Exn) (st : Store) | bad
inductive SR where
  | nx (r : Env) (st : Store) | rt (d : D) (st : Store) | bk (r : Env) (st : Store) | ct (r : Env) (st : Store) | er (x : Exn) (r : Env) (st : Store) | bad

abbrev ME := Env → Store → Res D
abbrev MT := Env → Store → Res Bool
abbrev MA := Env → Store → Res (List D)
abbrev MS := Env → Store → SR

def Res.bind {α β : Type} (r : Res α) (k : α → Store → Res β) : Res β := match r with
  | .ok a st => k a st
  | .er x st => .er x st
  | .bad => .bad

/-! ### the relation -/
section
variable (K : PySem.W.Frag) (io : List Addr) (H : Hp)
/-- a list that is only read -/
def RoL (a : Addr) (vs : List V) : Prop := (∃ o, H a = some (.frz o (.lst vs))) ∨
    ∃ (o : Obj) (its : Array Value) (n : Nat), K.lookup a = some o ∧ o.cls = .type "list" ∧ o.dict = none ∧ o.data = .seq its n ∧ its.size ≤ sizeLine ∧ Vals vs its.toList
mutual
def RD : D → V → Prop
  | .non, v => v = .non
  | .bl b, v => v = .bl b
  | .int i, v => v = .int i
  | .str x, v => v = .str x
  | .ty n, v => v = .ty n
  | .glo x, v => v = .ref (He.ga K x)
  | .loc n, v => ∃ a, io[n]? = some a ∧ v = .ref a
  | .rol ds, v => ∃ a vs, v = .ref a ∧ RoL K H a vs ∧ RDs ds vs
  | .tup ds, v => ∃ a vs, v = .ref a ∧ SqT K H a vs ∧ RDs ds vs
def RDs : List D → List V → Prop
  | [], vs => vs = []
  | d :: ds, vs => ∃ v r, vs = v :: r ∧ RD d v ∧ RDs ds r
end
/-- attributes, by name, in order -/
def RFs : List (Str × D) → List (Str × V) → Prop
  | [], vs => vs = []
  | (f, d) :: ds, vs => ∃ v r, vs = (f, v) :: r ∧ RD K io H d v ∧ RFs ds r
def RKs : List (Key × D) → List (Key × V) → Prop
  | [], vs => vs = []
  | (f, d) :: ds, vs => ∃ v r, vs = (f, v) :: r ∧ RD K io H d v ∧ RKs ds r
def CellAt (a : Addr) : Cell → Prop
  | .lst ds => ∃ vs, H a = some (.lst vs) ∧ RDs K io H ds vs
  | .ins C fs => ∃ dx vs, H a = some (.ins (He.ga K C) dx vs) ∧ RFs K io H fs vs
  | .dK kvs => ∃ vs, H a = some (.dK vs) ∧ RKs K io H kvs vs
structure Sim (st : Store) : Prop where
  len : io.length = st.length
  nd : io.Nodup
  at_ : ∀ (n : Nat) (c : Cell) (a : Addr), st[n]? = some c → io[n]? = some a → CellAt K io H a c
end

/-- more is known, nothing that is read only has changed -/
structure Ge (io : List Addr) (H : Hp) (io' : List Addr) (H' : Hp) : Prop where
  pre : ∃ m, io' = io ++ m
  tup : ∀ a xs, H a = some (.tup xs) → H' a = some (.tup xs)
  frz : ∀ a o u, H a = some (.frz o u) → H' a = some (.frz o u)

section
variable {K : PySem.W.Frag} {io io' io2 : List Addr} {H H' H2 : Hp} {st : Store} {d : D} {ds : List D} {v : V} {vs : List V} {a : Addr}
theorem Ge.refl : Ge io H io H := ⟨⟨[], by simp⟩, fun _ _ h => h, fun _ _ _ h => h⟩
theorem Ge.trans (x : Ge io H io' H') (y : Ge io' H' io2 H2) : Ge io H io2 H2 := by
  obtain ⟨m, rfl⟩ := x.pre
  obtain ⟨m2, rfl⟩ := y.pre
  exact ⟨⟨m ++ m2, by simp⟩, fun a xs h => y.tup a xs (x.tup a xs h), fun a o u h => y.frz a o u (x.frz a o u h)⟩
theorem Ge.at_ (g : Ge io H io' H') {n : Nat} (h : io[n]? = some a) : io'[n]? = some a := by
  obtain ⟨m, rfl⟩ := g.pre
  have hl : n < io.length := (List.getElem?_eq_some_iff.mp h).1
  rw [List.getElem?_append_left hl]
  exact h
theorem Ge.sqT (g : Ge io H io' H') (h : SqT K H a vs) : SqT K H' a vs := by
  rcases h with (h | ⟨o, h⟩) | h
  · exact .inl (.inl (g.tup _ _ h))
  · exact .inl (.inr ⟨o, g.frz _ _ _ h⟩)
  · exact .inr h
theorem Ge.roL (g : Ge io H io' H') (h : RoL K H a vs) : RoL K H' a vs := by
  rcases h with ⟨o, h⟩ | h
  · exact .inl ⟨o, g.frz _ _ _ h⟩
  · exact .inr h
theorem RoL.sqL (h : RoL K H a vs) : SqL K H a vs := by
  rcases h with ⟨o, h⟩ | h
  · exact .inl (.inr ⟨o, h⟩)
  · exact .inr h
mutual
theorem RD.mono (g : Ge io H io' H') : ∀ {d : D} {v : V}, RD K io H d v → RD K io' H' d v
  | .non, _, h => h
  | .bl _, _, h => h
  | .int _, _, h => h
  | .str _, _, h => h
  | .ty _, _, h => h
  | .glo _, _, h => h
  | .loc _, _, h => by
    obtain ⟨a, h1, h2⟩ := h
    exact ⟨a, g.at_ h1, h2⟩
  | .rol ds, _, h => by
    obtain ⟨a, vs, h1, h2, h3⟩ := h
    exact ⟨a, vs, h1, g.roL h2, RDs.mono g h3⟩
  | .tup ds, _, h => by
    obtain ⟨a, vs, h1, h2, h3⟩ := h
    exact ⟨a, vs, h1, g.sqT h2, RDs.mono g h3⟩
theorem RDs.mono (g : Ge io H io' H') : ∀ {ds : List D} {vs : List V}, RDs K io H ds vs → RDs K io' H' ds vs
  | [], _, h => h
  | d :: ds, _, h => by
    obtain ⟨v, r, h1, h2, h3⟩ := h
    exact ⟨v, r, h1, RD.mono g h2, RDs.mono g h3⟩
end
theorem RFs.mono (g : Ge io H io' H') : ∀ {fs : List (Str × D)} {vs : List (Str × V)}, RFs K io H fs vs → RFs K io' H' fs vs
  | [], _, h => h
  | (f, d) :: fs, _, h => by
    obtain ⟨v, r, h1, h2, h3⟩ := h
    exact ⟨v, r, h1, h2.mono g, RFs.mono g h3⟩
theorem RKs.mono (g : Ge io H io' H') : ∀ {fs : List (Key × D)} {vs : List (Key × V)}, RKs K io H fs vs → RKs K io' H' fs vs
  | [], _, h => h
  | (f, d) :: fs, _, h => by
    obtain ⟨v, r, h1, h2, h3⟩ := h
    exact ⟨v, r, h1, h2.mono g, RKs.mono g h3⟩
theorem RDs.length : ∀ {ds : List D} {vs : List V}, RDs K io H ds vs → ds.length = vs.length
  | [], _, h => by
    have e : _ = _ := h
    subst e
    rfl
  | d :: ds, _, h => by
    obtain ⟨v, r, h1, h2, h3⟩ := h
    subst h1
    have := RDs.length h3
    simp [this]
theorem RDs.get : ∀ {ds : List D} {vs : List V} {n : Nat} {d : D}, RDs K io H ds vs → ds[n]? = some d → ∃ v, vs[n]? = some v ∧ RD K io H d v
  | [], _, _, _, _, e => by simp at e
  | d :: ds, _, 0, _, h, e => by
    obtain ⟨v, r, h1, h2, h3⟩ := h
    subst h1
    have e' := Option.some.inj (show some d = some _ from e)
    rw [← e']
    exact ⟨v, rfl, h2⟩
  | d :: ds, _, n + 1, _, h, e => by
    obtain ⟨v, r, h1, h2, h3⟩ := h
    subst h1
    exact RDs.get (n := n) h3 (by simpa using e)
theorem RDs.append : ∀ {ds es : List D} {vs us : List V}, RDs K io H ds vs → RDs K io H es us → RDs K io H (ds ++ es) (vs ++ us)
  | [], _, _, _, h, k => by
    have e : _ = _ := h
    subst e
    exact k
  | d :: ds, _, _, _, h, k => by
    obtain ⟨v, r, h1, h2, h3⟩ := h
    subst h1
    exact ⟨v, r ++ _, rfl, h2, RDs.append h3 k⟩
theorem RDs.drop : ∀ {ds : List D} {vs : List V} (n : Nat), RDs K io H ds vs → RDs K io H (ds.drop n) (vs.drop n)
  | _, _, 0, h => by simpa using h
  | [], _, n + 1, h => by
    have e : _ = _ := h
    subst e
    show _ = _
    simp
  | d :: ds, _, n + 1, h => by
    obtain ⟨v, r, h1, h2, h3⟩ := h
    subst h1
    simpa using RDs.drop n h3
theorem RDs.take : ∀ {ds : List D} {vs : List V} (n : Nat), RDs K io H ds vs → RDs K io H (ds.take n) (vs.take n)
  | _, _, 0, h => by
    show _ = _
    simp
  | [], _, n + 1, h => by
    have e : _ = _ := h
    subst e
    show _ = _
    simp
  | d :: ds, _, n + 1, h => by
    obtain ⟨v, r, h1, h2, h3⟩ := h
    subst h1
    exact ⟨v, r.take n, by simp, h2, RDs.take n h3⟩
theorem RDs.set {e : D} {u : V} (q : RD K io H e u) : ∀ {ds : List D} {vs : List V} (n : Nat), RDs K io H ds vs → RDs K io H (ds.set n e) (vs.set n u)
  | [], _, _, h => by
    have e : _ = _ := h
    subst e
    show _ = _
    simp
  | d :: ds, _, 0, h => by
    obtain ⟨v, r, h1, h2, h3⟩ := h
    subst h1
    exact ⟨u, r, rfl, q, h3⟩
  | d :: ds, _, n + 1, h => by
    obtain ⟨v, r, h1, h2, h3⟩ := h
    subst h1
    exact ⟨v, r.set n u, by simp, h2, RDs.set q n h3⟩
theorem RDs.isEmpty (h : RDs K io H ds vs) : vs.isEmpty = ds.isEmpty := by
  have e := h.length
  cases ds <;> cases vs <;> simp_all
theorem RFs.lookup {f : Str} : ∀ {fs : List (Str × D)} {vs : List (Str × V)}, RFs K io H fs vs → (∀ d, fs.lookup f = some d → ∃ v, vs.lookup f = some v ∧ RD K io H d v) ∧ (fs.lookup f = none → vs.lookup f = none)
  | [], _, h => by
    have e : _ = _ := h
    subst e
    exact ⟨fun d q => (by cases q), fun _ => rfl⟩
  | (g, d) :: fs, _, h => by
    obtain ⟨v, r, h1, h2, h3⟩ := h
    subst h1
    obtain ⟨k1, k2⟩ := RFs.lookup (f := f) h3
    by_cases e : f = g
    · subst e
      refine ⟨fun d' q => ?_, fun q => ?_⟩
      · have q' : d = d' := by simpa [List.lookup] using q
        subst q'
        exact ⟨v, by simp [List.lookup], h2⟩
      · simp [List.lookup] at q
    · have ne : (f == g) = false := by simpa using e
      refine ⟨fun d' q => ?_, fun q => ?_⟩
      · have q' : fs.lookup f = some d' := by simpa [List.lookup, ne] using q
        obtain ⟨u, u1, u2⟩ := k1 d' q'
        exact ⟨u, by simpa [List.lookup, ne] using u1, u2⟩
      · have q' : fs.lookup f = none := by simpa [List.lookup, ne] using q
        simpa [List.lookup, ne] using k2 q'
/-- an attribute is put -/
def putD (f : Str) (d : D) : List (Str × D) → List (Str × D)
  | [] => [(f, d)]
  | (g, e) :: r => if g = f then (g, d) :: r else (g, e) :: putD f d r
theorem RFs.put {f : Str} (q : RD K io H d v) : ∀ {fs : List (Str × D)} {vs : List (Str × V)}, RFs K io H fs vs → RFs K io H (putD f d fs) (putF f v vs)
  | [], _, h => by
    have e : _ = _ := h
    subst e
    exact ⟨v, [], rfl, q, rfl⟩
  | (g, e) :: fs, _, h => by
    obtain ⟨u, r, h1, h2, h3⟩ := h
    subst h1
    unfold putD putF
    by_cases c : g = f
    · rw [if_pos c, if_pos c]
      exact ⟨v, r, rfl, q, h3⟩
    · rw [if_neg c, if_neg c]
      exact ⟨u, _, rfl, h2, RFs.put q h3⟩
theorem RFs.length : ∀ {fs : List (Str × D)} {vs : List (Str × V)}, RFs K io H fs vs → fs.length = vs.length
  | [], _, h => by
    have e : _ = _ := h
    subst e
    rfl
  | (f, d) :: ds, _, h => by
    obtain ⟨v, r, h1, h2, h3⟩ := h
    subst h1
    have := RFs.length h3
    simp [this]
theorem CellAt.mono (g : Ge io H io' H') (hk : H' a = H a) {c : Cell} (h : CellAt K io H a c) : CellAt K io' H' a c := by
  cases c with
  | lst ds =>
    obtain ⟨vs, h1, h2⟩ := h
    exact ⟨vs, by rw [hk]; exact h1, h2.mono g⟩
  | ins C fs =>
    obtain ⟨dx, vs, h1, h2⟩ := h
    exact ⟨dx, vs, by rw [hk]; exact h1, h2.mono g⟩
  | dK kvs =>
    obtain ⟨vs, h1, h2⟩ := h
    exact ⟨vs, by rw [hk]; exact h1, h2.mono g⟩
theorem CellAt.tracked {c : Cell} (h : CellAt K io H a c) : ∃ o, H a = some o ∧ (∀ xs, o ≠ .tup xs) ∧ ∀ b u, o ≠ .frz b u := by
  cases c with
  | lst ds =>
    obtain ⟨vs, h1, h2⟩ := h
    exact ⟨_, h1, fun _ z => (nomatch z), fun _ _ z => (nomatch z)⟩
  | ins C fs =>
    obtain ⟨dx, vs, h1, h2⟩ := h
    exact ⟨_, h1, fun _ z => (nomatch z), fun _ _ z => (nomatch z)⟩
  | dK kvs =>
    obtain ⟨vs, h1, h2⟩ := h
    exact ⟨_, h1, fun _ z => (nomatch z), fun _ _ z => (nomatch z)⟩
/-! ### new objects -/
theorem Ge.new {p : Addr} {o : HO} (hp : H p = none) : Ge io H io (upd H p o) :=
  ⟨⟨[], by simp⟩, fun a xs h => by rw [upd_ne (ne_of_none h hp)]; exact h, fun a b u h => by rw [upd_ne (ne_of_none h hp)]; exact h⟩
theorem Ge.newL {p : Addr} {o : HO} (hp : H p = none) : Ge io H (io ++ [p]) (upd H p o) :=
  ⟨⟨[p], rfl⟩, fun a xs h => by rw [upd_ne (ne_of_none h hp)]; exact h, fun a b u h => by rw [upd_ne (ne_of_none h hp)]; exact h⟩
theorem Sim.get (S : Sim K io H st) {n : Nat} {c : Cell} (h : st[n]? = some c) : ∃ a, io[n]? = some a ∧ CellAt K io H a c := by
  have hl : n < st.length := (List.getElem?_eq_some_iff.mp h).1
  have hl2 : n < io.length := by rw [S.len]; exact hl
  exact ⟨io[n], by simp [hl2], S.at_ n c _ h (by simp [hl2])⟩
theorem Sim.notin (S : Sim K io H st) {p : Addr} (hp : H p = none) : p ∉ io := by
  intro hm
  obtain ⟨n, hn⟩ := List.mem_iff_getElem?.mp hm
  have hl : n < io.length := (List.getElem?_eq_some_iff.mp hn).1
  have hl2 : n < st.length := by rw [← S.len]; exact hl
  obtain ⟨o, h1, _⟩ := (S.at_ n st[n] p (by simp [hl2]) hn).tracked
  rw [hp] at h1
  cases h1
/-- an object that is not one of the store's is laid -/
theorem Sim.other (S : Sim K io H st) {p : Addr} {o : HO} (hp : H p = none) : Sim K io (upd H p o) st :=
  ⟨S.len, S.nd, fun n c a h1 h2 => (S.at_ n c a h1 h2).mono (Ge.new hp) (upd_ne fun e => S.notin hp (e ▸ List.mem_of_getElem? h2))⟩
theorem Sim.new (S : Sim K io H st) {p : Addr} {o : HO} {c : Cell} (hp : H p = none) (hc : CellAt K (io ++ [p]) (upd H p o) p c) : Sim K (io ++ [p]) (upd H p o) (st ++ [c]) := by
  refine ⟨by simp [S.len], ?_, fun n c' a h1 h2 => ?_⟩
  · rw [List.nodup_append]
    refine ⟨S.nd, by simp, fun a ha b hb => ?_⟩
    have e : b = p := by simpa using hb
    subst e
    rintro rfl
    exact S.notin hp ha
  · by_cases hl : n < st.length
    · rw [List.getElem?_append_left hl] at h1
      rw [List.getElem?_append_left (by rw [S.len]; exact hl)] at h2
      exact (S.at_ n c' a h1 h2).mono (Ge.newL hp) (upd_ne fun e => S.notin hp (e ▸ List.mem_of_getElem? h2))
    · rw [List.getElem?_append_right (by omega)] at h1
      rw [List.getElem?_append_right (by rw [S.len]; omega)] at h2
      have e : n - st.length = 0 := by
        have := (List.getElem?_eq_some_iff.mp h1).1
        simp at this
        omega
      rw [e] at h1
      rw [S.len, e] at h2
      have e1 : c = c' := by simpa using h1
      have e2 : p = a := by simpa using h2
      subst e1 e2
      exact hc
/-- the object at n is changed -/
theorem Ge.upd_ {n : Nat} {c : Cell} {o : HO} (S : Sim K io H st) (hn : st[n]? = some c) (ha : io[n]? = some a) : Ge io H io (upd H a o) := by
  obtain ⟨u, h1, h2, h3⟩ := (S.at_ n c a hn ha).tracked
  refine ⟨⟨[], by simp⟩, fun b xs h => ?_, fun b q w h => ?_⟩
  · rw [upd_ne fun e => ?_]
    · exact h
    · subst e
      rw [h1] at h
      exact h2 xs (Option.some.inj h)
  · rw [upd_ne fun e => ?_]
    · exact h
    · subst e
      rw [h1] at h
      exact h3 q w (Option.some.inj h)
theorem nodup_get : ∀ {l : List Addr} {i j : Nat} {a : Addr}, l.Nodup → l[i]? = some a → l[j]? = some a → i = j := by
  intro l
  induction l with
  | nil => intro i j a _ h; simp at h
  | cons x l ih =>
    intro i j a hn h1 h2
    obtain ⟨hx, hn⟩ := List.nodup_cons.mp hn
    cases i with
    | zero =>
      cases j with
      | zero => rfl
      | succ j =>
        have e : x = a := by simpa using h1
        subst e
        exact absurd (List.mem_of_getElem? (by simpa using h2)) hx
    | succ i =>
      cases j with
      | zero =>
        have e : x = a := by simpa using h2
        subst e
        exact absurd (List.mem_of_getElem? (by simpa using h1)) hx
      | succ j =>
        have := ih hn (by simpa using h1) (by simpa using h2)
        omega
theorem Sim.upd_ (S : Sim K io H st) {n : Nat} {c c' : Cell} {o : HO} (hn : st[n]? = some c) (ha : io[n]? = some a) (hc : CellAt K io (upd H a o) a c') : Sim K io (upd H a o) (st.set n c') := by
  refine ⟨by simp [S.len], S.nd, fun m c2 b h1 h2 => ?_⟩
  by_cases e : n = m
  · subst e
    have hl : n < st.length := (List.getElem?_eq_some_iff.mp hn).1
    rw [List.getElem?_set_self hl] at h1
    have e1 : c' = c2 := Option.some.inj h1
    rw [ha] at h2
    have e2 : a = b := Option.some.inj h2
    subst e1 e2
    exact hc
  · rw [List.getElem?_set_ne e] at h1
    have nb : b ≠ a := fun z => e (nodup_get S.nd ha (z ▸ h2))
    exact (S.at_ m c2 b h1 h2).mono (Ge.upd_ S hn ha) (upd_ne nb)
theorem RD.loc_inv {n : Nat} (h : RD K io H (.loc n) v) : ∃ a, io[n]? = some a ∧ v = .ref a := h
theorem RD.tup_inv (h : RD K io H (.tup ds) v) : ∃ a vs, v = .ref a ∧ SqT K H a vs ∧ RDs K io H ds vs := h
end
end Dn


set_option Elab.async false
set_option linter.all false
set_option maxRecDepth 100000
set_option maxHeartbeats 4000000
set_option autoImplicit false
/-! Dn, part B: what is wanted behind, the judgements, sequencing. -/
namespace Dn
open PySem PySem.Spec PyProof.Rows L2

/-- slots -/
structure RE (K : PySem.W.Frag) (io : List Addr) (H : Hp) (r : Env) (σ : L2.St) : Prop where
  len : r.length = σ.length
  at_ : ∀ (i : Nat) (d : D), r[i]? = some (some d) → ∃ v, σ[i]? = some (some v) ∧ RD K io H d v
def clsV (K : PySem.W.Frag) : D → Option Value
  | .glo x => some (.ref (He.ga K x))
  | .ty n => some (.type n)
  | _ => none
/-- an exception as it lies: its class, its dict -/
def RX (K : PySem.W.Frag) (io : List Addr) (H : Hp) (x : Exn) (cls : Value) (d : Option Addr) : Prop :=
  clsV K x.cls = some cls ∧ (x.fs = [] ∨ ∃ dd vs, d = some dd ∧ H dd = some (.xd vs) ∧ RFs K io H x.fs vs)
section
variable {K : PySem.W.Frag} {io io' io2 : List Addr} {H H' H2 : Hp} {st : Store} {d : D} {ds : List D} {v : V} {vs : List V} {a : Addr} {r : Env} {σ : L2.St}
theorem RE.mono (g : Ge io H io' H') (h : RE K io H r σ) : RE K io' H' r σ := ⟨h.len, fun i d e => let ⟨v, h1, h2⟩ := h.at_ i d e; ⟨v, h1, h2.mono g⟩⟩
theorem RE.set (h : RE K io H r σ) (q : RD K io H d v) (i : Nat) : RE K io H (r.set i (some d)) (σ.set i (some v)) := by
  refine ⟨by simp [h.len], fun j e hj => ?_⟩
  by_cases c : i = j
  · subst c
    by_cases hl : i < r.length
    · rw [List.getElem?_set_self hl] at hj
      have e1 := Option.some.inj (Option.some.inj hj)
      subst e1
      exact ⟨v, by rw [List.getElem?_set_self (by rw [← h.len]; exact hl)], q⟩
    · rw [List.getElem?_eq_none (by simpa using hl)] at hj
      cases hj
  · rw [List.getElem?_set_ne c] at hj
    obtain ⟨u, h1, h2⟩ := h.at_ j e hj
    exact ⟨u, by rw [List.getElem?_set_ne c]; exact h1, h2⟩
/-- what is wanted behind a value -/
def PostV (K : PySem.W.Frag) (W : WX) (σ : L2.St) (Q : VK) (io : List Addr) (H : Hp) : Res D → Prop
  | .ok d st => ∀ io' H' v, Ge io H io' H' → Sim K io' H' st → RD K io' H' d v → Q v H'
  | .er x st => ∀ io' H' cls dx, Ge io H io' H' → Sim K io' H' st → RX K io' H' x cls dx → W cls dx σ H'
  | .bad => False
def PostB (K : PySem.W.Frag) (W : WX) (σ : L2.St) (Q : Bool → Hp → Prop) (io : List Addr) (H : Hp) : Res Bool → Prop
  | .ok b st => ∀ io' H', Ge io H io' H' → Sim K io' H' st → Q b H'
  | .er x st => ∀ io' H' cls dx, Ge io H io' H' → Sim K io' H' st → RX K io' H' x cls dx → W cls dx σ H'
  | .bad => False
def PostA (K : PySem.W.Frag) (W : WX) (σ : L2.St) (Q : List V → Hp → Prop) (io : List Addr) (H : Hp) : Res (List D) → Prop
  | .ok ds st => ∀ io' H' vs, Ge io H io' H' → Sim K io' H' st → RDs K io' H' ds vs → Q vs H'
  | .er x st => ∀ io' H' cls dx, Ge io H io' H' → Sim K io' H' st → RX K io' H' x cls dx → W cls dx σ H'
  | .bad => False
def PostS (K : PySem.W.Frag) (W : WX) (D : Ends) (io : List Addr) (H : Hp) : SR → Prop
  | .nx r st => ∀ io' H' σ, Ge io H io' H' → Sim K io' H' st → RE K io' H' r σ → D.nx σ H'
  | .bk r st => ∀ io' H' σ, Ge io H io' H' → Sim K io' H' st → RE K io' H' r σ → D.bk σ H'
  | .ct r st => ∀ io' H' σ, Ge io H io' H' → Sim K io' H' st → RE K io' H' r σ → D.ct σ H'
  | .rt d st => ∀ io' H' v, Ge io H io' H' → Sim K io' H' st → RD K io' H' d v → D.rt v H'
  | .er x r st => ∀ io' H' σ cls dx, Ge io H io' H' → Sim K io' H' st → RE K io' H' r σ → RX K io' H' x cls dx → W cls dx σ H'
  | .bad => False
/-- a state that the store says -/
structure At (K : PySem.W.Frag) (io : List Addr) (r : Env) (st : Store) (σ : L2.St) (H : Hp) : Prop where
  sim : Sim K io H st
  env : RE K io H r σ
theorem PostV.mono {W : WX} {Q : VK} {x : Res D} (g : Ge io H io' H') (h : PostV K W σ Q io H x) : PostV K W σ Q io' H' x := by
  cases x with
  | ok d st => exact fun i2 H2 v g2 => h i2 H2 v (g.trans g2)
  | er x st => exact fun i2 H2 c dx g2 => h i2 H2 c dx (g.trans g2)
  | bad => exact h
theorem PostB.mono {W : WX} {Q : Bool → Hp → Prop} {x : Res Bool} (g : Ge io H io' H') (h : PostB K W σ Q io H x) : PostB K W σ Q io' H' x := by
  cases x with
  | ok d st => exact fun i2 H2 g2 => h i2 H2 (g.trans g2)
  | er x st => exact fun i2 H2 c dx g2 => h i2 H2 c dx (g.trans g2)
  | bad => exact h
theorem PostA.mono {W : WX} {Q : List V → Hp → Prop} {x : Res (List D)} (g : Ge io H io' H') (h : PostA K W σ Q io H x) : PostA K W σ Q io' H' x := by
  cases x with
  | ok d st => exact fun i2 H2 v g2 => h i2 H2 v (g.trans g2)
  | er x st => exact fun i2 H2 c dx g2 => h i2 H2 c dx (g.trans g2)
  | bad => exact h
theorem PostS.mono {W : WX} {D : Ends} {x : SR} (g : Ge io H io' H') (h : PostS K W D io H x) : PostS K W D io' H' x := by
  cases x with
  | nx r st => exact fun i2 H2 v g2 => h i2 H2 v (g.trans g2)
  | bk r st => exact fun i2 H2 v g2 => h i2 H2 v (g.trans g2)
  | ct r st => exact fun i2 H2 v g2 => h i2 H2 v (g.trans g2)
  | rt r st => exact fun i2 H2 v g2 => h i2 H2 v (g.trans g2)
  | er x r st => exact fun i2 H2 s c dx g2 => h i2 H2 s c dx (g.trans g2)
  | bad => exact h
end
/-! ### readings -/
def tV (K : PySem.W.Frag) (W : WX) (f : ME) : TE := fun σ H Q => ∃ io r st, At K io r st σ H ∧ PostV K W σ Q io H (f r st)
def tT (K : PySem.W.Frag) (W : WX) (f : MT) : TT := fun σ H Q => ∃ io r st, At K io r st σ H ∧ PostB K W σ Q io H (f r st)
def tL (K : PySem.W.Frag) (W : WX) (f : MA) : TA := fun σ H Q => ∃ io r st, At K io r st σ H ∧ PostA K W σ Q io H (f r st)
def tS (K : PySem.W.Frag) (W : WX) (f : MS) : TS := fun D σ H => ∃ io r st, At K io r st σ H ∧ PostS K W D io H (f r st)
/-! ### judgements -/
def IE (X : Cx) (W : WX) (e : Expr) (f : ME) : Prop := PE X e (tV X.K W f)
def IT (X : Cx) (W : WX) (e : Expr) (f : MT) : Prop := PT X e (tT X.K W f)
def IW (X : Cx) (W : WX) (e : Expr) (f : MT) : Prop := PW X e (tT X.K W f)
def IA (X : Cx) (W : WX) (es : List Expr) (f : MA) : Prop := PA X es (tL X.K W f)
def IS (X : Cx) (W : WX) (s : Stmt) (f : MS) : Prop := PS X s (tS X.K W f)
def ISs (X : Cx) (W : WX) (s : List Stmt) (f : MS) : Prop := PSs X s (tS X.K W f)
theorem pe_imp {X : Cx} {e : Expr} {t u : TE} (h : PE X e t) (k : ∀ σ H Q, u σ H Q → t σ H Q) : PE X e u := ⟨fun pins s σ H Q I q => h.run pins s σ H Q I (k σ H Q q)⟩
theorem pt_imp {X : Cx} {e : Expr} {t u : TT} (h : PT X e t) (k : ∀ σ H Q, u σ H Q → t σ H Q) : PT X e u := ⟨fun pins s σ H Q I q => h.run pins s σ H Q I (k σ H Q q)⟩
theorem pw_imp {X : Cx} {e : Expr} {t u : TT} (h : PW X e t) (k : ∀ σ H Q, u σ H Q → t σ H Q) : PW X e u := ⟨fun wh pins s σ H Q I q => h.run wh pins s σ H Q I (k σ H Q q)⟩
theorem pa_imp {X : Cx} {e : List Expr} {t u : TA} (h : PA X e t) (k : ∀ σ H Q, u σ H Q → t σ H Q) : PA X e u := ⟨fun pos pins s σ H Q I q => h.run pos pins s σ H Q I (k σ H Q q)⟩
theorem ps_imp {X : Cx} {e : Stmt} {t u : TS} (h : PS X e t) (k : ∀ D σ H, u D σ H → t D σ H) : PS X e u := ⟨fun pins s σ H Q I q => h.run pins s σ H Q I (k Q σ H q)⟩
theorem pss_imp {X : Cx} {e : List Stmt} {t u : TS} (h : PSs X e t) (k : ∀ D σ H, u D σ H → t D σ H) : PSs X e u := ⟨fun pins s σ H Q I q => h.run pins s σ H Q I (k Q σ H q)⟩

/-! ### sequencing -/
section
variable {K : PySem.W.Frag} {W : WX} {io : List Addr} {H : Hp} {st : Store} {r : Env} {σ : L2.St}
/-- a value, then what is done with it -/
theorem tV_then {f : ME} {P : V → Hp → Prop} (h : At K io r st σ H)
    (q : match f r st with
      | .ok d st1 => ∀ io1 H1 v, Ge io H io1 H1 → At K io1 r st1 σ H1 → RD K io1 H1 d v → P v H1
      | .er x st1 => ∀ io' H' cls dx, Ge io H io' H' → Sim K io' H' st1 → RX K io' H' x cls dx → W cls dx σ H'
      | .bad => False) : tV K W f σ H P := by
  refine ⟨io, r, st, h, ?_⟩
  cases e : f r st with
  | ok d st1 =>
    rw [e] at q
    exact fun i1 H1 v g S rd => q i1 H1 v g ⟨S, h.env.mono g⟩ rd
  | er x st1 =>
    rw [e] at q
    exact q
  | bad =>
    rw [e] at q
    exact q
theorem tT_then {f : MT} {P : Bool → Hp → Prop} (h : At K io r st σ H)
    (q : match f r st with
      | .ok d st1 => ∀ io1 H1, Ge io H io1 H1 → At K io1 r st1 σ H1 → P d H1
      | .er x st1 => ∀ io' H' cls dx, Ge io H io' H' → Sim K io' H' st1 → RX K io' H' x cls dx → W cls dx σ H'
      | .bad => False) : tT K W f σ H P := by
  refine ⟨io, r, st, h, ?_⟩
  cases e : f r st with
  | ok d st1 =>
    rw [e] at q
    exact fun i1 H1 g S => q i1 H1 g ⟨S, h.env.mono g⟩
  | er x st1 =>
    rw [e] at q
    exact q
  | bad =>
    rw [e] at q
    exact q
theorem tL_then {f : MA} {P : List V → Hp → Prop} (h : At K io r st σ H)
    (q : match f r st with
      | .ok d st1 => ∀ io1 H1 v, Ge io H io1 H1 → At K io1 r st1 σ H1 → RDs K io1 H1 d v → P v H1
      | .er x st1 => ∀ io' H' cls dx, Ge io H io' H' → Sim K io' H' st1 → RX K io' H' x cls dx → W cls dx σ H'
      | .bad => False) : tL K W f σ H P := by
  refine ⟨io, r, st, h, ?_⟩
  cases e : f r st with
  | ok d st1 =>
    rw [e] at q
    exact fun i1 H1 v g S rd => q i1 H1 v g ⟨S, h.env.mono g⟩ rd
  | er x st1 =>
    rw [e] at q
    exact q
  | bad =>
    rw [e] at q
    exact q
/-- f, then k: the shape of every rule -/
theorem bindV {f : ME} {k : D → Store → Res D} {Q : VK} {P : V → Hp → Prop} (h : At K io r st σ H) (q : PostV K W σ Q io H ((f r st).bind k))
    (c : ∀ io1 H1 v d st1, Ge io H io1 H1 → At K io1 r st1 σ H1 → RD K io1 H1 d v → PostV K W σ Q io1 H1 (k d st1) → P v H1) : tV K W f σ H P := by
  refine tV_then h ?_
  cases e : f r st with
  | ok d st1 =>
    rw [e] at q
    exact fun i1 H1 v g S rd => c i1 H1 v d st1 g S rd (PostV.mono g q)
  | er x st1 =>
    rw [e] at q
    exact q
  | bad =>
    rw [e] at q
    exact q
theorem bindVB {f : ME} {k : D → Store → Res Bool} {Q : Bool → Hp → Prop} {P : V → Hp → Prop} (h : At K io r st σ H) (q : PostB K W σ Q io H ((f r st).bind k))
    (c : ∀ io1 H1 v d st1, Ge io H io1 H1 → At K io1 r st1 σ H1 → RD K io1 H1 d v → PostB K W σ Q io1 H1 (k d st1) → P v H1) : tV K W f σ H P := by
  refine tV_then h ?_
  cases e : f r st with
  | ok d st1 =>
    rw [e] at q
    exact fun i1 H1 v g S rd => c i1 H1 v d st1 g S rd (PostB.mono g q)
  | er x st1 =>
    rw [e] at q
    exact q
  | bad =>
    rw [e] at q
    exact q
theorem bindVA {f : ME} {k : D → Store → Res (List D)} {Q : List V → Hp → Prop} {P : V → Hp → Prop} (h : At K io r st σ H) (q : PostA K W σ Q io H ((f r st).bind k))
    (c : ∀ io1 H1 v d st1, Ge io H io1 H1 → At K io1 r st1 σ H1 → RD K io1 H1 d v → PostA K W σ Q io1 H1 (k d st1) → P v H1) : tV K W f σ H P := by
  refine tV_then h ?_
  cases e : f r st with
  | ok d st1 =>
    rw [e] at q
    exact fun i1 H1 v g S rd => c i1 H1 v d st1 g S rd (PostA.mono g q)
  | er x st1 =>
    rw [e] at q
    exact q
  | bad =>
    rw [e] at q
    exact q
theorem bindT {f : MT} {k : Bool → Store → Res D} {Q : VK} {P : Bool → Hp → Prop} (h : At K io r st σ H) (q : PostV K W σ Q io H ((f r st).bind k))
    (c : ∀ io1 H1 b st1, Ge io H io1 H1 → At K io1 r st1 σ H1 → PostV K W σ Q io1 H1 (k b st1) → P b H1) : tT K W f σ H P := by
  refine tT_then h ?_
  cases e : f r st with
  | ok d st1 =>
    rw [e] at q
    exact fun i1 H1 g S => c i1 H1 d st1 g S (PostV.mono g q)
  | er x st1 =>
    rw [e] at q
    exact q
  | bad =>
    rw [e] at q
    exact q
theorem bindTB {f : MT} {k : Bool → Store → Res Bool} {Q : Bool → Hp → Prop} {P : Bool → Hp → Prop} (h : At K io r st σ H) (q : PostB K W σ Q io H ((f r st).bind k))
    (c : ∀ io1 H1 b st1, Ge io H io1 H1 → At K io1 r st1 σ H1 → PostB K W σ Q io1 H1 (k b st1) → P b H1) : tT K W f σ H P := by
  refine tT_then h ?_
  cases e : f r st with
  | ok d st1 =>
    rw [e] at q
    exact fun i1 H1 g S => c i1 H1 d st1 g S (PostB.mono g q)
  | er x st1 =>
    rw [e] at q
    exact q
  | bad =>
    rw [e] at q
    exact q
theorem bindL {f : MA} {k : List D → Store → Res D} {Q : VK} {P : List V → Hp → Prop} (h : At K io r st σ H) (q : PostV K W σ Q io H ((f r st).bind k))
    (c : ∀ io1 H1 vs ds st1, Ge io H io1 H1 → At K io1 r st1 σ H1 → RDs K io1 H1 ds vs → PostV K W σ Q io1 H1 (k ds st1) → P vs H1) : tL K W f σ H P := by
  refine tL_then h ?_
  cases e : f r st with
  | ok d st1 =>
    rw [e] at q
    exact fun i1 H1 v g S rd => c i1 H1 v d st1 g S rd (PostV.mono g q)
  | er x st1 =>
    rw [e] at q
    exact q
  | bad =>
    rw [e] at q
    exact q
theorem bindLA {f : MA} {k : List D → Store → Res (List D)} {Q : List V → Hp → Prop} {P : List V → Hp → Prop} (h : At K io r st σ H) (q : PostA K W σ Q io H ((f r st).bind k))
    (c : ∀ io1 H1 vs ds st1, Ge io H io1 H1 → At K io1 r st1 σ H1 → RDs K io1 H1 ds vs → PostA K W σ Q io1 H1 (k ds st1) → P vs H1) : tL K W f σ H P := by
  refine tL_then h ?_
  cases e : f r st with
  | ok d st1 =>
    rw [e] at q
    exact fun i1 H1 v g S rd => c i1 H1 v d st1 g S rd (PostA.mono g q)
  | er x st1 =>
    rw [e] at q
    exact q
  | bad =>
    rw [e] at q
    exact q
/-- an expression in a statement -/
def stE (r : Env) (x : Res D) (k : D → Store → SR) : SR := match x with
  | .ok d st => k d st
  | .er x st => .er x r st
  | .bad => .bad
def stT (r : Env) (x : Res Bool) (k : Bool → Store → SR) : SR := match x with
  | .ok d st => k d st
  | .er x st => .er x r st
  | .bad => .bad
def stA (r : Env) (x : Res (List D)) (k : List D → Store → SR) : SR := match x with
  | .ok d st => k d st
  | .er x st => .er x r st
  | .bad => .bad
theorem bindVS {f : ME} {k : D → Store → SR} {D0 : Ends} {P : V → Hp → Prop} (h : At K io r st σ H) (q : PostS K W D0 io H (stE r (f r st) k))
    (c : ∀ io1 H1 v d st1, Ge io H io1 H1 → At K io1 r st1 σ H1 → RD K io1 H1 d v → PostS K W D0 io1 H1 (k d st1) → P v H1) : tV K W f σ H P := by
  refine tV_then h ?_
  cases e : f r st with
  | ok d st1 =>
    rw [e] at q
    exact fun i1 H1 v g S rd => c i1 H1 v d st1 g S rd (PostS.mono g q)
  | er x st1 =>
    rw [e] at q
    exact fun i1 H1 cls dx g S rx => q i1 H1 σ cls dx g S (h.env.mono g) rx
  | bad =>
    rw [e] at q
    exact q
theorem bindTS {f : MT} {k : Bool → Store → SR} {D0 : Ends} {P : Bool → Hp → Prop} (h : At K io r st σ H) (q : PostS K W D0 io H (stT r (f r st) k))
    (c : ∀ io1 H1 b st1, Ge io H io1 H1 → At K io1 r st1 σ H1 → PostS K W D0 io1 H1 (k b st1) → P b H1) : tT K W f σ H P := by
  refine tT_then h ?_
  cases e : f r st with
  | ok d st1 =>
    rw [e] at q
    exact fun i1 H1 g S => c i1 H1 d st1 g S (PostS.mono g q)
  | er x st1 =>
    rw [e] at q
    exact fun i1 H1 cls dx g S rx => q i1 H1 σ cls dx g S (h.env.mono g) rx
  | bad =>
    rw [e] at q
    exact q
theorem bindLS {f : MA} {k : List D → Store → SR} {D0 : Ends} {P : List V → Hp → Prop} (h : At K io r st σ H) (q : PostS K W D0 io H (stA r (f r st) k))
    (c : ∀ io1 H1 vs ds st1, Ge io H io1 H1 → At K io1 r st1 σ H1 → RDs K io1 H1 ds vs → PostS K W D0 io1 H1 (k ds st1) → P vs H1) : tL K W f σ H P := by
  refine tL_then h ?_
  cases e : f r st with
  | ok d st1 =>
    rw [e] at q
    exact fun i1 H1 v g S rd => c i1 H1 v d st1 g S rd (PostS.mono g q)
  | er x st1 =>
    rw [e] at q
    exact fun i1 H1 cls dx g S rx => q i1 H1 σ cls dx g S (h.env.mono g) rx
  | bad =>
    rw [e] at q
    exact q
end

/-! ### names and constants -/
def var (i : Nat) : ME := fun r st => match r[i]? with
  | some (some d) => .ok d st
  | _ => .bad
def con (d : D) : ME := fun _ st => .ok d st
section
variable {X : Cx} {W : WX}
theorem ie_var (i : Nat) {x : Str} {pos : Pos} (hN : X.N[i]? = some x := by rfl) (hv : Vis X.env.scope x := by first | exact Or.inl rfl | exact Or.inr (Or.inl rfl) | exact Or.inr (Or.inr rfl)) (hd : (x == ("__debug__" : Str)) = false := by decide)
    (hcd : (x == ("__classdict__" : Str)) = false := by decide) : IE X W (.Name x pos) (var i) := pe_imp (pe_var hN hv hd hcd) fun σ H Q h => by
  obtain ⟨io, r, st, h, q⟩ := h
  unfold var at q
  split at q
  · rename_i d e
    obtain ⟨v, h1, h2⟩ := h.env.at_ i d e
    exact ⟨v, h1, q io H v Ge.refl h.sim h2⟩
  · exact q.elim
/-- a constant whose value says the datum whatever the heap -/
theorem ie_con {e : Expr} {v : V} {d : D} (h : PE X e (tC v)) (c : ∀ io H, RD X.K io H d v) : IE X W e (con d) := pe_imp h fun σ H Q h => by
  obtain ⟨io, r, st, h, q⟩ := h
  exact q io H v Ge.refl h.sim (c io H)
theorem ie_int {i : Int} {j : Nat} {pos : Pos} : IE X W (.Constant (.int i) j pos) (con (.int i)) := ie_con pe_int fun _ _ => rfl
theorem ie_bl {b : Bool} {j : Nat} {pos : Pos} : IE X W (.Constant (.bool b) j pos) (con (.bl b)) := ie_con pe_bl fun _ _ => rfl
theorem ie_non {j : Nat} {pos : Pos} : IE X W (.Constant .none j pos) (con .non) := ie_con pe_non fun _ _ => rfl
theorem ie_str {x : Str} {j : Nat} {pos : Pos} : IE X W (.Constant (.str x) j pos) (con (.str x)) := ie_con pe_str fun _ _ => rfl
/-- a name of the module -/
theorem ie_glob {x : Str} {v : V} {d : D} {pos : Pos} (hg : Gl X x) (h : ∃ u, X.mg x = some u ∧ RelV v u) (c : ∀ io H, RD X.K io H d v) (hd : (x == ("__debug__" : Str)) = false := by decide) : IE X W (.Name x pos) (con d) := by
  obtain ⟨u, h1, h2⟩ := h
  exact ie_con (pe_glob hg h1 h2 hd) c
/-! ### two operands -/
def bin (g : D → D → Store → Res D) (a b : ME) : ME := fun r st => (a r st).bind fun x st1 => (b r st1).bind fun y st2 => g x y st2
/-- an operation on values: what it gives is what g says -/
def PostN (K : PySem.W.Frag) (Q : VK) (io : List Addr) (H : Hp) : Res D → Prop
  | .ok z st' => ∀ io' H' v, Ge io H io' H' → Sim K io' H' st' → RD K io' H' z v → Q v H'
  | _ => False
def rG (K : PySem.W.Frag) (g : D → D → Store → Res D) : R2 := fun x y H Q => ∃ io st d e, Sim K io H st ∧ RD K io H d x ∧ RD K io H e y ∧ PostN K Q io H (g d e st)
theorem postN_of {K : PySem.W.Frag} {σ : L2.St} {Q : VK} {io : List Addr} {H : Hp} {x : Res D} (h : ∀ z st', x ≠ .er z st') (q : PostV K W σ Q io H x) : PostN K Q io H x := by
  cases x with
  | ok d st => exact q
  | er z st => exact (h z st rfl).elim
  | bad => exact q
theorem ie_bin_of {a b : Expr} {e : Expr} {fa fb : ME} {g : D → D → Store → Res D} (hg : ∀ x y st z st', g x y st ≠ .er z st') (hab : ∀ ta tb, PE X a ta → PE X b tb → PE X e (tOp (rG X.K g) ta tb)) (ha : IE X W a fa) (hb : IE X W b fb) : IE X W e (bin g fa fb) := by
  refine pe_imp (hab _ _ ha hb) fun σ H Q h => ?_
  obtain ⟨io, r, st, h, q⟩ := h
  refine bindV h q fun i1 H1 x d st1 g1 h1 r1 q1 => ?_
  refine bindV h1 q1 fun i2 H2 y e st2 g2 h2 r2 q2 => ?_
  refine ⟨i2, st2, d, e, h2.sim, r1.mono g2, r2, ?_⟩
  exact postN_of (hg d e st2) q2
theorem ie_bin {a b : Expr} {op : Operator} {fa fb : ME} {g : D → D → Store → Res D} {pos : Pos} (ho : OpR X (binaryOp op) (rG X.K g)) (hg : ∀ x y st z st', g x y st ≠ .er z st') (ha : IE X W a fa) (hb : IE X W b fb) :
    IE X W (.BinOp a op b pos) (bin g fa fb) := ie_bin_of hg (fun _ _ pa pb => pe_op ho pa pb) ha hb
theorem ie_cmp {a b : Expr} {op : CmpOp} {fa fb : ME} {g : D → D → Store → Res D} {pos : Pos} (ho : OpR X (compareOp op) (rG X.K g)) (hg : ∀ x y st z st', g x y st ≠ .er z st') (ha : IE X W a fa) (hb : IE X W b fb) (hm : behindInMarks op b = false) :
    IE X W (.Compare a [op] [b] pos) (bin g fa fb) := ie_bin_of hg (fun _ _ pa pb => pe_cmpR ho pa pb hm) ha hb
end
end Dn


set_option Elab.async false
set_option linter.all false
set_option maxRecDepth 100000
set_option maxHeartbeats 4000000
set_option autoImplicit false
/-! Dn, part C: operators, comparisons, tests, displays. -/
namespace Dn
open PySem PySem.Spec PyProof.Rows L2

abbrev LIM : Nat := 4000000
theorem lim_ok {n : Nat} (h : n ≤ LIM) : n ≤ sizeLine := Nat.le_trans h (by rw [sizeLine_eq]; decide)
theorem lim_lt {n : Nat} (h : n ≤ LIM) : n < sizeLine := Nat.lt_of_le_of_lt h (by rw [sizeLine_eq]; decide)

/-- 0 where there is none -/
def cellL (st : Store) (n : Nat) : Option (List D) := match st[n]? with
  | some (.lst ds) => some ds
  | _ => none
theorem cellL_some {st : Store} {n : Nat} {ds : List D} (h : cellL st n = some ds) : st[n]? = some (.lst ds) := by
  unfold cellL at h
  split at h
  · rename_i e
    cases h
    exact e
  · cases h
theorem cellL_of {st : Store} {n : Nat} {ds : List D} (h : st[n]? = some (.lst ds)) : cellL st n = some ds := by
  unfold cellL
  rw [h]

/-! ### arithmetic -/
def addD : D → D → Store → Res D
  | .int i, .int j, st => .ok (.int (i + j)) st
  | .str a, .str b, st => if a.length + b.length ≤ LIM then .ok (.str (a ++ b)) st else .bad
  | .tup a, .tup b, st => if a.length + b.length ≤ LIM then .ok (.tup (a ++ b)) st else .bad
  | .loc m, .loc n, st => match cellL st m, cellL st n with
    | some a, some b => if a.length + b.length ≤ LIM then .ok (.loc st.length) (st ++ [.lst (a ++ b)]) else .bad
    | _, _ => .bad
  | _, _, _ => .bad
def subD : D → D → Store → Res D
  | .int i, .int j, st => .ok (.int (i - j)) st
  | _, _, _ => .bad
def mulD : D → D → Store → Res D
  | .int i, .int j, st => if (-(2 ^ 64) < i ∧ i < 2 ^ 64) ∨ (-(2 ^ 64) < j ∧ j < 2 ^ 64) then .ok (.int (i * j)) st else .bad
  | .str x, .int k, st => if (x.length ≤ 1000 ∧ k ≤ 1000 ∧ -1000 ≤ k) ∨ (x.length ≤ LIM ∧ k ≤ 4 ∧ -1000 ≤ k) then .ok (.str (Txt.mul x k)) st else .bad
  | .loc m, .int k, st => match cellL st m with
    | some a => if a.length ≤ 1000 ∧ k ≤ 3000 ∧ -1000 ≤ k then .ok (.loc st.length) (st ++ [.lst (List.replicate k.toNat a).flatten]) else .bad
    | none => .bad
  | _, _, _ => .bad
def fdivD : D → D → Store → Res D
  | .int i, .int j, st => if 0 < j ∧ j < 2 ^ 64 then .ok (.int (i / j)) st else .bad
  | _, _, _ => .bad
def modD : D → D → Store → Res D
  | .int i, .int j, st => if 0 < j then .ok (.int (i % j)) st else .bad
  | _, _, _ => .bad
def powD : D → D → Store → Res D
  | .int i, .int j, st => if 0 ≤ j ∧ j ≤ 1000 ∧ i.natAbs < 2 ^ 64 then .ok (.int (i ^ j.toNat)) st else .bad
  | _, _, _ => .bad
/-! ### comparisons -/
def flatD : D → Bool
  | .non => true | .bl _ => true | .int _ => true | .str _ => true | _ => false
def eqF : D → D → Bool
  | .non, .non => true
  | .bl a, .bl b => a == b
  | .bl a, .int b => (if a then 1 else 0) == b
  | .int a, .bl b => a == (if b then 1 else 0)
  | .int a, .int b => a == b
  | .str a, .str b => a == b
  | _, _ => false
mutual
/-- a datum as plain data; lists are looked up -/
def pyD (st : Store) : Nat → D → Option PyData
  | 0, _ => none
  | _ + 1, .non => some .none
  | _ + 1, .bl b => some (.bool b)
  | _ + 1, .int i => some (.int i)
  | _ + 1, .str x => some (.str x)
  | n + 1, .tup ds => (pyDs st n ds).map .tuple
  | n + 1, .rol ds => (pyDs st n ds).map .list
  | n + 1, .loc m => match cellL st m with
    | some ds => (pyDs st n ds).map .list
    | none => none
  | _ + 1, .ty _ => none
  | _ + 1, .glo _ => none
def pyDs (st : Store) : Nat → List D → Option (List PyData)
  | _, [] => some []
  | n, d :: ds => match pyD st n d, pyDs st n ds with
    | some x, some xs => some (x :: xs)
    | _, _ => none
end
/-- both are flat, and of no bytes -/
def scalD : D → D → Bool
  | .non, .non => true
  | .non, .int _ => true | .int _, .non => true
  | .non, .bl _ => true | .bl _, .non => true
  | .non, .str _ => true | .str _, .non => true
  | .int _, .int _ => true
  | .bl _, .bl _ => true
  | .str _, .str _ => true
  | _, _ => false
def eqD (d e : D) (st : Store) : Res Bool := if scalD d e = true then .ok (eqF d e) st else
  match pyD st 60 d, pyD st 60 e with
  | some a, some b => if SeqAt.shaped a = true ∧ SeqAt.shaped b = true then .ok (PyData.eqv a b) st else .bad
  | _, _ => .bad
def blR (neg : Bool) (r : Res Bool) : Res D := match r with
  | .ok b st => .ok (.bl (if neg then !b else b)) st
  | _ => .bad
def eqV' (neg : Bool) : D → D → Store → Res D := fun d e st => blR neg (eqD d e st)
def cmpI (p : Int → Int → Bool) (q : List Nat → List Nat → Bool) : D → D → Store → Res D
  | .int i, .int j, st => .ok (.bl (p i j)) st
  | .str x, .str y, st => .ok (.bl (q x.cps.toList y.cps.toList)) st
  | _, _, _ => .bad
def ltD : D → D → Store → Res D := cmpI (fun i j => decide (i < j)) (fun x y => decide (x < y))
def leD : D → D → Store → Res D := cmpI (fun i j => decide (i ≤ j)) (fun x y => !decide (y < x))
def gtD : D → D → Store → Res D := cmpI (fun i j => decide (j < i)) (fun x y => decide (y < x))
def geD : D → D → Store → Res D := cmpI (fun i j => decide (j ≤ i)) (fun x y => !decide (x < y))
/-- the items of a sequence that is asked -/
def seqD (st : Store) : D → Option (List D)
  | .tup ds => some ds
  | .rol ds => some ds
  | .loc n => cellL st n
  | _ => none
def inD (d e : D) (st : Store) : Res Bool := match d, e with
  | .str x, .str z => if x.length = 1 then .ok (decide (x.cps.getD 0 0 ∈ z.cps.toList)) st else .bad
  | d, e => match seqD st e with
    | some ds => if flatD d = true ∧ ds.all flatD = true then .ok (ds.any fun y => eqF y d) st else .bad
    | none => .bad
def inV' (neg : Bool) : D → D → Store → Res D := fun d e st => blR neg (inD d e st)
def isN (neg : Bool) : D → D → Store → Res D := fun d e st => match e with
  | .non => (match d with
    | .non => .ok (.bl (!neg)) st
    | _ => .ok (.bl neg) st)
  | _ => .bad

section
variable {X : Cx} {W : WX} {K : PySem.W.Frag} {io : List Addr} {H : Hp} {st : Store}
theorem rd_seq (S : Sim K io H st) {e : D} {ds : List D} {v : V} (h : seqD st e = some ds) (r : RD K io H e v) : ∃ a vs, v = .ref a ∧ (SqL K H a vs ∨ SqT K H a vs) ∧ RDs K io H ds vs := by
  cases e with
  | tup es =>
    cases h
    obtain ⟨a, vs, h1, h2, h3⟩ := r
    exact ⟨a, vs, h1, .inr h2, h3⟩
  | rol es =>
    cases h
    obtain ⟨a, vs, h1, h2, h3⟩ := r
    exact ⟨a, vs, h1, .inl h2.sqL, h3⟩
  | loc n =>
    obtain ⟨a, h1, h2⟩ := r
    obtain ⟨a', q1, vs, q2, q3⟩ := S.get (cellL_some h)
    rw [h1] at q1
    cases q1
    exact ⟨a, vs, h2, .inl (SqL.of q2), q3⟩
  | _ => cases h
theorem rd_cell (S : Sim K io H st) {n : Nat} {ds : List D} {v : V} (h : cellL st n = some ds) (r : RD K io H (.loc n) v) : ∃ a vs, v = .ref a ∧ io[n]? = some a ∧ H a = some (.lst vs) ∧ RDs K io H ds vs := by
  obtain ⟨a, h1, h2⟩ := r
  obtain ⟨a', q1, vs, q2, q3⟩ := S.get (cellL_some h)
  rw [h1] at q1
  cases q1
  exact ⟨a, vs, h2, h1, q2, q3⟩
/-- a new list -/
theorem newL {ds : List D} {vs : List V} {p : Addr} {Q : VK} (S : Sim K io H st) (r : RDs K io H ds vs) (hp : H p = none)
    (q : ∀ io' H' v, Ge io H io' H' → Sim K io' H' (st ++ [.lst ds]) → RD K io' H' (.loc st.length) v → Q v H') : Q (.ref p) (upd H p (.lst vs)) :=
  q (io ++ [p]) _ _ (Ge.newL hp) (S.new hp ⟨vs, upd_same, r.mono (Ge.newL hp)⟩) ⟨p, by rw [← S.len]; simp, rfl⟩
/-- a new tuple -/
theorem newT {ds : List D} {vs : List V} {p : Addr} {Q : VK} (S : Sim K io H st) (r : RDs K io H ds vs) (hp : H p = none)
    (q : ∀ io' H' v, Ge io H io' H' → Sim K io' H' st → RD K io' H' (.tup ds) v → Q v H') : Q (.ref p) (upd H p (.tup vs)) :=
  q io _ _ (Ge.new hp) (S.other hp) ⟨p, vs, rfl, SqT.of upd_same, r.mono (Ge.new hp)⟩

theorem er_add : ∀ x y st z st', addD x y st ≠ .er z st' := by
  intro x y st z st' h
  unfold addD at h
  repeat' split at h
  all_goals cases h
theorem op_addD : OpR X (binaryOp .Add) (rG X.K addD) := by
  intro pins s σ H x y v u Q I rx ry h
  obtain ⟨io, st, d, e, S, rd, re, q⟩ := h
  unfold addD at q
  split at q
  · cases rd
    cases re
    exact op_add pins s σ H _ _ v u Q I rx ry ⟨_, _, rfl, rfl, q io H _ Ge.refl S rfl⟩
  · rename_i a b
    cases rd
    cases re
    split at q
    · rename_i hl
      exact op_add_str pins s σ H _ _ v u Q I rx ry ⟨_, _, rfl, rfl, lim_ok hl, q io H _ Ge.refl S rfl⟩
    · exact q.elim
  · rename_i a b
    split at q
    · rename_i hl
      obtain ⟨p, vs, rfl, h1, h2⟩ := id rd
      obtain ⟨p', vs', rfl, h1', h2'⟩ := id re
      have l1 := h2.length
      have l2 := h2'.length
      refine op_catA pins s σ H _ _ v u Q I rx ry ⟨p, p', vs, vs', rfl, rfl, h1, h1', lim_ok (by omega), fun z => ?_, fun _ z => ?_, fun _ _ p hp => ?_⟩
      · subst z
        have za : a = [] := List.length_eq_zero_iff.mp (by simpa using l1)
        subst za
        exact q io H _ Ge.refl S re
      · subst z
        have zb : b = [] := List.length_eq_zero_iff.mp (by simpa using l2)
        subst zb
        refine q io H _ Ge.refl S ?_
        rw [List.append_nil]
        exact rd
      · exact newT S (h2.append h2') hp q
    · exact q.elim
  · rename_i m n
    split at q
    · rename_i a b ha hb
      split at q
      · rename_i hl
        obtain ⟨p, vs, rfl, _, h1, h2⟩ := rd_cell S ha rd
        obtain ⟨p', vs', rfl, _, h1', h2'⟩ := rd_cell S hb re
        have l1 := h2.length
        have l2 := h2'.length
        exact op_cat pins s σ H _ _ v u Q I rx ry ⟨p, p', vs, vs', rfl, rfl, h1, h1', lim_ok (by omega), fun p hp => newL S (h2.append h2') hp q⟩
      · exact q.elim
    · exact q.elim
  · exact q.elim
theorem er_sub : ∀ x y st z st', subD x y st ≠ .er z st' := by
  intro x y st z st' h
  unfold subD at h
  split at h <;> cases h
theorem op_subD : OpR X (binaryOp .Sub) (rG X.K subD) := by
  intro pins s σ H x y v u Q I rx ry h
  obtain ⟨io, st, d, e, S, rd, re, q⟩ := h
  unfold subD at q
  split at q
  · cases rd
    cases re
    exact op_sub pins s σ H _ _ v u Q I rx ry ⟨_, _, rfl, rfl, q io H _ Ge.refl S rfl⟩
  · exact q.elim
theorem er_mul : ∀ x y st z st', mulD x y st ≠ .er z st' := by
  intro x y st z st' h
  unfold mulD at h
  repeat' split at h
  all_goals cases h
theorem rds_rep {ds : List D} {vs : List V} (h : RDs K io H ds vs) : ∀ n : Nat, RDs K io H (List.replicate n ds).flatten (List.replicate n vs).flatten
  | 0 => by
    show _ = _
    rfl
  | n + 1 => by
    rw [List.replicate_succ, List.replicate_succ, List.flatten_cons, List.flatten_cons]
    exact h.append (rds_rep h n)
theorem op_mul_strI : OpR X (binaryOp .Mult) (fun x y H Q => ∃ (z : Str) (k : Int), x = .str z ∧ y = .int k ∧ ((z.length ≤ 1000 ∧ k ≤ 1000 ∧ -1000 ≤ k) ∨ (z.length ≤ LIM ∧ k ≤ 4 ∧ -1000 ≤ k)) ∧ Q (.str (Txt.mul z k)) H) := by
  intro pins s σ H x y v u Q I rx ry h
  obtain ⟨z, k, rfl, rfl, h1, q⟩ := h
  obtain ⟨t, rfl⟩ := rx
  obtain ⟨t', rfl⟩ := ry
  rcases h1 with ⟨h1, h2, h3⟩ | ⟨h1, h2, h3⟩
  · exact SB.mul (mulOk_of 1000 1000 h1 h2 (by omega) (by decide) (by decide)) fun t' k => ⟨.str _, H, I.tok _, ⟨_, rfl⟩, q⟩
  · exact SB.mul (mulOk_of LIM 4 h1 h2 (by omega) (by decide) (by decide)) fun t' k => ⟨.str _, H, I.tok _, ⟨_, rfl⟩, q⟩
theorem op_mulD : OpR X (binaryOp .Mult) (rG X.K mulD) := by
  intro pins s σ H x y v u Q I rx ry h
  obtain ⟨io, st, d, e, S, rd, re, q⟩ := h
  unfold mulD at q
  split at q
  · cases rd
    cases re
    split at q
    · rename_i c
      exact op_mul pins s σ H _ _ v u Q I rx ry ⟨_, _, rfl, rfl, c, q io H _ Ge.refl S rfl⟩
    · exact q.elim
  · cases rd
    cases re
    split at q
    · rename_i c
      exact op_mul_strI pins s σ H _ _ v u Q I rx ry ⟨_, _, rfl, rfl, c, q io H _ Ge.refl S rfl⟩
    · exact q.elim
  · cases re
    split at q
    · rename_i a ha
      split at q
      · rename_i c
        obtain ⟨p, vs, rfl, _, h1, h2⟩ := rd_cell S ha rd
        have l1 := h2.length
        obtain ⟨c1, c2, c3⟩ := c
        exact op_rep pins s σ H _ _ v u Q I rx ry ⟨p, _, vs, rfl, rfl, h1, by omega, by omega, Nat.le_trans (Nat.mul_le_mul (by omega : vs.length ≤ 1000) (by omega : _ ≤ 3000)) (by rw [sizeLine_eq]; decide), fun p hp => newL S (rds_rep h2 _) hp q⟩
      · exact q.elim
    · exact q.elim
  · exact q.elim
theorem er_fdiv : ∀ x y st z st', fdivD x y st ≠ .er z st' := by
  intro x y st z st' h
  unfold fdivD at h
  repeat' split at h
  all_goals cases h
theorem op_fdivD : OpR X (binaryOp .FloorDiv) (rG X.K fdivD) := by
  intro pins s σ H x y v u Q I rx ry h
  obtain ⟨io, st, d, e, S, rd, re, q⟩ := h
  unfold fdivD at q
  split at q
  · rename_i i j
    cases rd
    cases re
    split at q
    · rename_i c
      exact op_fdivW pins s σ H _ _ v u Q I rx ry ⟨_, _, rfl, rfl, wide_div (b := 64) c.1 (by have := c.1; have := c.2; omega) (by decide) (by decide), q io H _ Ge.refl S rfl⟩
    · exact q.elim
  · exact q.elim
theorem er_mod : ∀ x y st z st', modD x y st ≠ .er z st' := by
  intro x y st z st' h
  unfold modD at h
  repeat' split at h
  all_goals cases h
theorem op_modD : OpR X (binaryOp .Mod) (rG X.K modD) := by
  intro pins s σ H x y v u Q I rx ry h
  obtain ⟨io, st, d, e, S, rd, re, q⟩ := h
  unfold modD at q
  split at q
  · cases rd
    cases re
    split at q
    · rename_i c
      exact op_mod pins s σ H _ _ v u Q I rx ry ⟨_, _, rfl, rfl, c, q io H _ Ge.refl S rfl⟩
    · exact q.elim
  · exact q.elim
theorem er_pow : ∀ x y st z st', powD x y st ≠ .er z st' := by
  intro x y st z st' h
  unfold powD at h
  repeat' split at h
  all_goals cases h
theorem op_powD : OpR X (binaryOp .Pow) (rG X.K powD) := by
  intro pins s σ H x y v u Q I rx ry h
  obtain ⟨io, st, d, e, S, rd, re, q⟩ := h
  unfold powD at q
  split at q
  · cases rd
    cases re
    split at q
    · rename_i c
      exact op_pow pins s σ H _ _ v u Q I rx ry ⟨_, _, rfl, rfl, ⟨c.1, by omega, c.2.2⟩, q io H _ Ge.refl S rfl⟩
    · exact q.elim
  · exact q.elim
/-! ### comparisons -/
mutual
theorem dp_of (S : Sim K io H st) : ∀ (n : Nat) (d : D) (v : V) (p : PyData), RD K io H d v → pyD st n d = some p → Dp K H v p
  | 0, _, _, _, _, h => by
    unfold pyD at h
    cases h
  | _ + 1, .non, _, _, r, h => by
    unfold pyD at h
    cases r
    cases h
    exact .non
  | _ + 1, .bl b, _, _, r, h => by
    unfold pyD at h
    cases r
    cases h
    exact .bl _
  | _ + 1, .int i, _, _, r, h => by
    unfold pyD at h
    cases r
    cases h
    exact .int _
  | _ + 1, .str x, _, _, r, h => by
    unfold pyD at h
    cases r
    cases h
    exact .str _
  | n + 1, .tup ds, _, _, r, h => by
    unfold pyD at h
    obtain ⟨ps, hp, rfl⟩ := Option.map_eq_some_iff.mp h
    obtain ⟨a, vs, rfl, h1, h2⟩ := r
    exact .tup h1 (dps_of S n ds vs ps h2 hp)
  | n + 1, .rol ds, _, _, r, h => by
    unfold pyD at h
    obtain ⟨ps, hp, rfl⟩ := Option.map_eq_some_iff.mp h
    obtain ⟨a, vs, rfl, h1, h2⟩ := r
    exact .lst h1.sqL (dps_of S n ds vs ps h2 hp)
  | n + 1, .loc m, _, _, r, h => by
    unfold pyD at h
    split at h
    · rename_i ds hd
      obtain ⟨ps, hp, rfl⟩ := Option.map_eq_some_iff.mp h
      obtain ⟨a, vs, rfl, _, h1, h2⟩ := rd_cell S hd r
      exact .lst (SqL.of h1) (dps_of S n ds vs ps h2 hp)
    · cases h
  | _ + 1, .ty _, _, _, _, h => by
    unfold pyD at h
    cases h
  | _ + 1, .glo _, _, _, _, h => by
    unfold pyD at h
    cases h
theorem dps_of (S : Sim K io H st) : ∀ (n : Nat) (ds : List D) (vs : List V) (ps : List PyData), RDs K io H ds vs → pyDs st n ds = some ps → DpAll K H vs ps
  | _, [], _, _, r, h => by
    unfold pyDs at h
    have e : _ = _ := r
    subst e
    cases h
    exact .nil
  | n, d :: ds, _, _, r, h => by
    unfold pyDs at h
    obtain ⟨v, vr, rfl, h1, h2⟩ := r
    split at h
    · rename_i x xs hx hxs
      cases h
      exact .cons (dp_of S n d v x h1 hx) (dps_of S n ds vr xs h2 hxs)
    · cases h
end
theorem er_eq {neg : Bool} : ∀ x y st z st', eqV' neg x y st ≠ .er z st' := by
  intro x y st z st' h
  unfold eqV' blR at h
  split at h <;> cases h
theorem flat_rd {d : D} {v : V} (h : flatD d = true) (r : RD K io H d v) : flatV v = true := by
  cases d <;> first | (cases r; rfl) | exact absurd h Bool.false_ne_true
theorem flat_eq {d e : D} {v u : V} (h : flatD d = true) (h' : flatD e = true) (r : RD K io H d v) (r' : RD K io H e u) : eqV v u = eqF d e := by
  cases d <;> cases e <;> first | exact absurd h Bool.false_ne_true | exact absurd h' Bool.false_ne_true | (cases r; cases r'; rfl)
theorem scal_rd {d e : D} {v u : V} (h : scalD d e = true) (r : RD K io H d v) (r' : RD K io H e u) : scal v u = true ∧ decide (v = u) = eqF d e := by
  cases d <;> cases e <;> first | exact absurd h Bool.false_ne_true | (cases r; cases r'; refine ⟨rfl, ?_⟩; first | rfl | exact dec_int | exact dec_bl | exact dec_str)
theorem op_eqD_eq {k : Nat} (hr : Room k X.A) : OpR X (compareOp .Eq) (rG X.K (eqV' false)) := by
  intro pins s σ H x y v u Q I rx ry h
  obtain ⟨io, st, d, e, S, rd, re, q⟩ := h
  unfold eqV' blR eqD at q
  by_cases c : scalD d e = true
  · rw [if_pos c] at q
    obtain ⟨s1, s2⟩ := scal_rd c rd re
    refine op_eq pins s σ H _ _ v u Q I rx ry ⟨s1, ?_⟩
    rw [s2]
    exact q io H _ Ge.refl S rfl
  · rw [if_neg c] at q
    cases ha : pyD st 60 d with
    | none =>
      rw [ha] at q
      exact q.elim
    | some a =>
      cases hb : pyD st 60 e with
      | none =>
        rw [ha, hb] at q
        exact q.elim
      | some b =>
        rw [ha, hb] at q
        by_cases c2 : SeqAt.shaped a = true ∧ SeqAt.shaped b = true
        · simp only [if_pos c2] at q
          exact op_eqD hr.units pins s σ H _ _ v u Q I rx ry ⟨a, b, dp_of S 60 d x a rd ha, dp_of S 60 e y b re hb, c2.1, c2.2, q io H _ Ge.refl S rfl⟩
        · simp only [if_neg c2] at q
          exact q.elim
theorem op_eqD_ne {k : Nat} (hr : Room k X.A) : OpR X (compareOp .NotEq) (rG X.K (eqV' true)) := by
  intro pins s σ H x y v u Q I rx ry h
  obtain ⟨io, st, d, e, S, rd, re, q⟩ := h
  unfold eqV' blR eqD at q
  by_cases c : scalD d e = true
  · rw [if_pos c] at q
    obtain ⟨s1, s2⟩ := scal_rd c rd re
    refine op_ne pins s σ H _ _ v u Q I rx ry ⟨s1, ?_⟩
    rw [s2]
    exact q io H _ Ge.refl S rfl
  · rw [if_neg c] at q
    cases ha : pyD st 60 d with
    | none =>
      rw [ha] at q
      exact q.elim
    | some a =>
      cases hb : pyD st 60 e with
      | none =>
        rw [ha, hb] at q
        exact q.elim
      | some b =>
        rw [ha, hb] at q
        by_cases c2 : SeqAt.shaped a = true ∧ SeqAt.shaped b = true
        · simp only [if_pos c2] at q
          exact op_neD hr.units pins s σ H _ _ v u Q I rx ry ⟨a, b, dp_of S 60 d x a rd ha, dp_of S 60 e y b re hb, c2.1, c2.2, q io H _ Ge.refl S rfl⟩
        · simp only [if_neg c2] at q
          exact q.elim
theorem er_cmp {p : Int → Int → Bool} {q : List Nat → List Nat → Bool} : ∀ x y st z st', cmpI p q x y st ≠ .er z st' := by
  intro x y st z st' h
  unfold cmpI at h
  split at h <;> cases h
theorem op_cmpD {op : CmpOp} {p : Int → Int → Bool} {q : List Nat → List Nat → Bool} (h1 : OpR X (compareOp op) (rI0 fun i j => .bl (p i j)))
    (h2 : OpR X (compareOp op) (fun x y H Q => ∃ i j, x = .str i ∧ y = .str j ∧ Q (.bl (q i.cps.toList j.cps.toList)) H)) : OpR X (compareOp op) (rG X.K (cmpI p q)) := by
  intro pins s σ H x y v u Q I rx ry h
  obtain ⟨io, st, d, e, S, rd, re, k⟩ := h
  unfold cmpI at k
  split at k
  · cases rd
    cases re
    exact h1 pins s σ H _ _ v u Q I rx ry ⟨_, _, rfl, rfl, k io H _ Ge.refl S rfl⟩
  · cases rd
    cases re
    exact h2 pins s σ H _ _ v u Q I rx ry ⟨_, _, rfl, rfl, k io H _ Ge.refl S rfl⟩
  · exact k.elim
theorem op_ltD : OpR X (compareOp .Lt) (rG X.K ltD) := op_cmpD op_lt op_lt_str
theorem op_leD : OpR X (compareOp .LtE) (rG X.K leD) := op_cmpD op_le op_le_str
theorem op_gtD : OpR X (compareOp .Gt) (rG X.K gtD) := op_cmpD op_gt op_gt_str
theorem op_geD : OpR X (compareOp .GtE) (rG X.K geD) := op_cmpD op_ge op_ge_str
theorem er_in {neg : Bool} : ∀ x y st z st', inV' neg x y st ≠ .er z st' := by
  intro x y st z st' h
  unfold inV' blR at h
  split at h <;> cases h
theorem all_flat : ∀ {ds : List D} {vs : List V}, RDs K io H ds vs → ds.all flatD = true → vs.all flatV = true
  | [], _, h, _ => by
    have e : _ = _ := h
    subst e
    rfl
  | d :: ds, _, h, f => by
    obtain ⟨v, r, rfl, h2, h3⟩ := h
    rw [List.all_cons, Bool.and_eq_true] at f ⊢
    exact ⟨flat_rd f.1 h2, all_flat h3 f.2⟩
theorem any_eq {d : D} {x : V} (fd : flatD d = true) (rd : RD K io H d x) : ∀ {ds : List D} {vs : List V}, RDs K io H ds vs → ds.all flatD = true → inV x vs = ds.any fun y => eqF y d
  | [], _, h, _ => by
    have e : _ = _ := h
    subst e
    rfl
  | e :: ds, _, h, f => by
    obtain ⟨v, r, rfl, h2, h3⟩ := h
    rw [List.all_cons, Bool.and_eq_true] at f
    have ih := any_eq fd rd h3 f.2
    unfold inV at ih ⊢
    rw [List.any_cons, List.any_cons, ih, flat_eq f.1 fd h2 rd]
theorem one_sign {x : Str} (h : x.length = 1) : x = ⟨#[x.cps.getD 0 0]⟩ := by
  obtain ⟨c⟩ := x
  have h' : c.size = 1 := h
  obtain ⟨l⟩ := c
  have h2 : l.length = 1 := h'
  cases l with
  | nil => cases h2
  | cons a l =>
    cases l with
    | nil => rfl
    | cons b l => simp at h2
theorem op_inD1 {neg : Bool} {op : CmpOp} (hs : OpR X (compareOp op) (fun x y H Q => ∃ (c : Nat) (z : Str), x = .str ⟨#[c]⟩ ∧ y = .str z ∧ Q (.bl (if neg then !decide (c ∈ z.cps.toList) else decide (c ∈ z.cps.toList))) H)) (hq : OpR X (compareOp op) (rIn X.K neg)) :
    OpR X (compareOp op) (rG X.K (inV' neg)) := by
  intro pins s σ H x y v u Q I rx ry h
  obtain ⟨io, st, d, e, S, rd, re, q⟩ := h
  have gen : ∀ ds, seqD st e = some ds → flatD d = true ∧ ds.all flatD = true → Q (.bl (if neg then !(ds.any fun y => eqF y d) else (ds.any fun y => eqF y d))) H → wpAny (model X.prog X.w) X.A (compareOp op v u) (EP X pins σ Q) X.xe s := by
    intro ds hs c k
    obtain ⟨a, vs, rfl, h1, h2⟩ := rd_seq S hs re
    refine hq pins s σ H _ _ v u Q I rx ry ⟨a, vs, rfl, h1, flat_rd c.1 rd, all_flat h2 c.2, ?_⟩
    rw [any_eq c.1 rd h2 c.2]
    exact k
  unfold inV' blR inD at q
  split at q
  · rename_i b st' hb
    split at hb
    · rename_i xs zs
      cases rd
      cases re
      split at hb
      · rename_i hl
        cases hb
        refine hs pins s σ H _ _ v u Q I rx ry ⟨xs.cps.getD 0 0, zs, by rw [← one_sign hl], rfl, ?_⟩
        exact q io H _ Ge.refl S rfl
      · cases hb
    · split at hb
      · rename_i ds hds
        split at hb
        · rename_i c
          cases hb
          exact gen ds hds c (q io H _ Ge.refl S rfl)
        · cases hb
      · cases hb
  · exact q.elim
theorem op_inD_in : OpR X (compareOp .In) (rG X.K (inV' false)) := op_inD1 op_in_sign op_in_seq
theorem op_inD_not : OpR X (compareOp .NotIn) (rG X.K (inV' true)) := op_inD1 op_notIn_sign op_notIn_seq
theorem er_isN {neg : Bool} : ∀ x y st z st', isN neg x y st ≠ .er z st' := by
  intro x y st z st' h
  unfold isN at h
  repeat' split at h
  all_goals cases h
theorem rd_non {d : D} {v : V} (r : RD K io H d v) (h : ∀ u : D, d = u → u ≠ .non) : v ≠ .non := by
  cases d with
  | non => exact absurd rfl (h _ rfl)
  | loc n =>
    obtain ⟨a, _, rfl⟩ := r
    exact fun z => (nomatch z)
  | rol n =>
    obtain ⟨a, _, rfl, _⟩ := r
    exact fun z => (nomatch z)
  | tup n =>
    obtain ⟨a, _, rfl, _⟩ := r
    exact fun z => (nomatch z)
  | _ =>
    cases r
    exact fun z => (nomatch z)
theorem op_isNneg {neg : Bool} {op : CmpOp} (ho : OpR X (compareOp op) (fun x y H Q => y = .non ∧ Q (.bl (if neg then !decide (x = .non) else decide (x = .non))) H)) : OpR X (compareOp op) (rG X.K (isN neg)) := by
  intro pins s σ H x y v u Q I rx ry h
  obtain ⟨io, st, d, e, S, rd, re, q⟩ := h
  unfold isN at q
  cases e with
  | non =>
    cases re
    cases d with
    | non =>
      cases rd
      refine ho pins s σ H _ _ v u Q I rx ry ⟨rfl, ?_⟩
      have k := q io H _ Ge.refl S rfl
      cases neg <;> exact k
    | _ =>
      have nn := rd_non rd (by intro u e z; subst e; cases z)
      refine ho pins s σ H _ _ v u Q I rx ry ⟨rfl, ?_⟩
      rw [decide_eq_false nn]
      have k := q io H _ Ge.refl S rfl
      cases neg <;> exact k
  | _ => cases d <;> exact q.elim
theorem op_isN_is : OpR X (compareOp .Is) (rG X.K (isN false)) := op_isNneg op_isN
theorem op_isN_not : OpR X (compareOp .IsNot) (rG X.K (isN true)) := op_isNneg op_notN
end
/-! ### as rules -/
section
variable {X : Cx} {W : WX} {a b : Expr} {fa fb : ME} {pos : Pos} {k : Nat}
theorem ie_add (ha : IE X W a fa) (hb : IE X W b fb) : IE X W (.BinOp a .Add b pos) (bin addD fa fb) := ie_bin op_addD er_add ha hb
theorem ie_sub (ha : IE X W a fa) (hb : IE X W b fb) : IE X W (.BinOp a .Sub b pos) (bin subD fa fb) := ie_bin op_subD er_sub ha hb
theorem ie_mul (ha : IE X W a fa) (hb : IE X W b fb) : IE X W (.BinOp a .Mult b pos) (bin mulD fa fb) := ie_bin op_mulD er_mul ha hb
theorem ie_fdiv (ha : IE X W a fa) (hb : IE X W b fb) : IE X W (.BinOp a .FloorDiv b pos) (bin fdivD fa fb) := ie_bin op_fdivD er_fdiv ha hb
theorem ie_mod (ha : IE X W a fa) (hb : IE X W b fb) : IE X W (.BinOp a .Mod b pos) (bin modD fa fb) := ie_bin op_modD er_mod ha hb
theorem ie_pow (ha : IE X W a fa) (hb : IE X W b fb) : IE X W (.BinOp a .Pow b pos) (bin powD fa fb) := ie_bin op_powD er_pow ha hb
theorem ie_eq (hr : Room k X.A) (ha : IE X W a fa) (hb : IE X W b fb) : IE X W (.Compare a [.Eq] [b] pos) (bin (eqV' false) fa fb) := ie_cmp (op_eqD_eq hr) er_eq ha hb (nomark _)
theorem ie_ne (hr : Room k X.A) (ha : IE X W a fa) (hb : IE X W b fb) : IE X W (.Compare a [.NotEq] [b] pos) (bin (eqV' true) fa fb) := ie_cmp (op_eqD_ne hr) er_eq ha hb (nomark _)
theorem ie_lt (ha : IE X W a fa) (hb : IE X W b fb) : IE X W (.Compare a [.Lt] [b] pos) (bin ltD fa fb) := ie_cmp op_ltD er_cmp ha hb (nomark _)
theorem ie_le (ha : IE X W a fa) (hb : IE X W b fb) : IE X W (.Compare a [.LtE] [b] pos) (bin leD fa fb) := ie_cmp op_leD er_cmp ha hb (nomark _)
theorem ie_gt (ha : IE X W a fa) (hb : IE X W b fb) : IE X W (.Compare a [.Gt] [b] pos) (bin gtD fa fb) := ie_cmp op_gtD er_cmp ha hb (nomark _)
theorem ie_ge (ha : IE X W a fa) (hb : IE X W b fb) : IE X W (.Compare a [.GtE] [b] pos) (bin geD fa fb) := ie_cmp op_geD er_cmp ha hb (nomark _)
theorem ie_in (ha : IE X W a fa) (hb : IE X W b fb) (hm : behindInMarks .In b = false := by rfl) : IE X W (.Compare a [.In] [b] pos) (bin (inV' false) fa fb) := ie_cmp op_inD_in er_in ha hb hm
theorem ie_notin (ha : IE X W a fa) (hb : IE X W b fb) (hm : behindInMarks .NotIn b = false := by rfl) : IE X W (.Compare a [.NotIn] [b] pos) (bin (inV' true) fa fb) := ie_cmp op_inD_not er_in ha hb hm
theorem ie_is (ha : IE X W a fa) (hb : IE X W b fb) : IE X W (.Compare a [.Is] [b] pos) (bin (isN false) fa fb) := ie_cmp op_isN_is er_isN ha hb (nomark _)
theorem ie_isnot (ha : IE X W a fa) (hb : IE X W b fb) : IE X W (.Compare a [.IsNot] [b] pos) (bin (isN true) fa fb) := ie_cmp op_isN_not er_isN ha hb (nomark _)
end
end Dn


set_option Elab.async false
set_option linter.all false
set_option maxRecDepth 100000
set_option maxHeartbeats 4000000
set_option autoImplicit false
/-! Dn, part D: truth, tests, displays, subscripts, slices, built-ins and methods by values. -/
namespace Dn
open PySem PySem.Spec PyProof.Rows L2

/-! ### truth -/
def truD (st : Store) : D → Option Bool
  | .non => some false
  | .bl b => some b
  | .int i => some (i != 0)
  | .str x => if x.length ≤ LIM then some (x.length != 0) else none
  | .tup ds => some (!ds.isEmpty)
  | .rol ds => some (!ds.isEmpty)
  | .loc n => match cellL st n with
    | some ds => some (!ds.isEmpty)
    | none => none
  | _ => none
def truR (d : D) (st : Store) : Res Bool := match truD st d with
  | some b => .ok b st
  | none => .bad
def test (f : ME) : MT := fun r st => (f r st).bind truR
def andE (a b : ME) : ME := fun r st => (a r st).bind fun x st1 => match truD st1 x with
  | some true => b r st1
  | some false => .ok x st1
  | none => .bad
def orE (a b : ME) : ME := fun r st => (a r st).bind fun x st1 => match truD st1 x with
  | some true => .ok x st1
  | some false => b r st1
  | none => .bad
def notE (a : ME) : ME := fun r st => (a r st).bind fun x st1 => match truD st1 x with
  | some b => .ok (.bl (!b)) st1
  | none => .bad
def andT (a b : MT) : MT := fun r st => (a r st).bind fun x st1 => if x = true then b r st1 else .ok false st1
def orT (a b : MT) : MT := fun r st => (a r st).bind fun x st1 => if x = true then .ok true st1 else b r st1
def notT (a : MT) : MT := fun r st => (a r st).bind fun x st1 => .ok (!x) st1
def ifE (c : MT) (a b : ME) : ME := fun r st => (c r st).bind fun x st1 => if x = true then a r st1 else b r st1
/-- a < b < c -/
def chain (g g' : D → D → Store → Res D) (a b c : ME) : ME := fun r st => (a r st).bind fun x st1 => (b r st1).bind fun y st2 => (g x y st2).bind fun z st3 => match z with
  | .bl true => (c r st3).bind fun w st4 => g' y w st4
  | .bl false => .ok (.bl false) st3
  | _ => .bad
/-- a display's items, from the left -/
def nilA : MA := fun _ st => .ok [] st
def consA (a : ME) (f : MA) : MA := fun r st => (a r st).bind fun x st1 => (f r st1).bind fun xs st2 => .ok (x :: xs) st2
def starA (a : ME) (f : MA) : MA := fun r st => (a r st).bind fun x st1 => match seqD st1 x with
  | some ds => (f r st1).bind fun xs st2 => .ok (ds ++ xs) st2
  | none => .bad
def tupE (f : MA) : ME := fun r st => (f r st).bind fun ds st1 => if ds.length ≤ LIM then .ok (.tup ds) st1 else .bad
def lstE (f : MA) : ME := fun r st => (f r st).bind fun ds st1 => if ds.length ≤ LIM then .ok (.loc st1.length) (st1 ++ [.lst ds]) else .bad
/-! ### subscripts -/
def itemD : D → D → Store → Res D
  | .str z, .int i, st => if z.length ≤ LIM then (match atI z.cps.toList i with
    | some c => .ok (.str ⟨#[c]⟩) st
    | none => .bad) else .bad
  | d, .int i, st => match seqD st d with
    | some ds => (match atI ds i with
      | some x => .ok x st
      | none => .bad)
    | none => .bad
  | _, _, _ => .bad
def cut {α : Type} (xs : List α) (lo hi : Option Int) : List α := (xs.drop (HT.sIx xs.length 0 lo)).take (HT.sIx xs.length xs.length hi - HT.sIx xs.length 0 lo)
def sliceD (d : D) (lo hi : Option Int) (st : Store) : Res D := match d with
  | .str z => if z.length ≤ LIM then .ok (.str (cutS z lo hi)) st else .bad
  | .tup ds => .ok (.tup (cut ds lo hi)) st
  | .rol ds => .ok (.loc st.length) (st ++ [.lst (cut ds lo hi)])
  | .loc n => match cellL st n with
    | some ds => .ok (.loc st.length) (st ++ [.lst (cut ds lo hi)])
    | none => .bad
  | _ => .bad
/-- a part of a slice: left out, or an int -/
abbrev MO := Env → Store → Res (Option Int)
def noO : MO := fun _ st => .ok none st
def someO (a : ME) : MO := fun r st => (a r st).bind fun x st1 => match x with
  | .int i => .ok (some i) st1
  | _ => .bad
def slice (a : ME) (lo hi : MO) : ME := fun r st => (a r st).bind fun x st1 => (lo r st1).bind fun l st2 => (hi r st2).bind fun h st3 => sliceD x l h st3
/-! ### calls of what is built in -/
def app (g : List D → Store → Res D) (f : MA) : ME := fun r st => (f r st).bind g
def meth (T : String) (g : D → List D → Store → Res D) (o : ME) (f : MA) : ME := fun r st => (o r st).bind fun x st1 =>
  match x with
  | .str _ => if T = "str" then (f r st1).bind fun ds st2 => g x ds st2 else .bad
  | .loc n => if T = "list" then (match cellL st1 n with
    | some _ => (f r st1).bind fun ds st2 => g x ds st2
    | none => .bad) else .bad
  | _ => .bad

section
variable {X : Cx} {W : WX} {K : PySem.W.Frag} {io : List Addr} {H : Hp} {st : Store}
theorem tru_of (S : Sim K io H st) {d : D} {v : V} {b : Bool} (h : truD st d = some b) (r : RD K io H d v) : TruV K v H b := by
  cases d with
  | non => cases r; cases h; rfl
  | bl b => cases r; cases h; rfl
  | int i => cases r; cases h; rfl
  | str x =>
    cases r
    have h : (if x.length ≤ LIM then some (x.length != 0) else none) = some b := h
    by_cases hl : x.length ≤ LIM
    · rw [if_pos hl] at h
      cases h
      refine ⟨lim_ok hl, ?_⟩
      cases hx : x.length with
      | zero => rfl
      | succ n =>
        have h1 : (n + 1 != 0) = true := by simp
        have h2 : (((n + 1 : Nat) : Int) != 0) = true := by
          have : ((n + 1 : Nat) : Int) ≠ 0 := by omega
          simpa using this
        rw [h1, h2]
    · rw [if_neg hl] at h
      cases h
  | tup ds =>
    cases h
    obtain ⟨a, vs, rfl, h1, h2⟩ := r
    exact .inr (.inl ⟨vs, h1, by rw [h2.isEmpty]⟩)
  | rol ds =>
    cases h
    obtain ⟨a, vs, rfl, h1, h2⟩ := r
    exact .inl ⟨vs, h1.sqL, by rw [h2.isEmpty]⟩
  | loc n =>
    have h : (match cellL st n with
      | some ds => some (!ds.isEmpty)
      | none => none) = some b := h
    cases hd : cellL st n with
    | some ds =>
      rw [hd] at h
      cases h
      obtain ⟨a, vs, rfl, _, h1, h2⟩ := rd_cell S hd r
      exact .inl ⟨vs, SqL.of h1, by rw [h2.isEmpty]⟩
    | none =>
      rw [hd] at h
      cases h
  | _ => cases h

/-! ### tests -/
theorem it_truth {a : Expr} {f : ME} (h : IE X W a f) (he : ∀ whole, isTrue a X.env whole = (do let v ← whole; standAt a.pos; holding [v] (truthy v)) := by intro _; rfl) : IT X W a (test f) := by
  refine pt_imp (pt_truth h he) fun σ H Q q => ?_
  obtain ⟨io, r, st, A, q⟩ := q
  refine bindVB A q fun i1 H1 v d st1 g1 A1 rd q1 => ?_
  unfold truR at q1
  cases e : truD st1 d with
  | none =>
    rw [e] at q1
    exact q1.elim
  | some b =>
    rw [e] at q1
    exact ⟨b, tru_of A1.sim e rd, q1 i1 H1 Ge.refl A1.sim⟩
theorem it_cmp_of {a b : Expr} {e : Expr} {fa fb : ME} {g : D → D → Store → Res D} (hg : ∀ x y st z st', g x y st ≠ .er z st') (hb' : ∀ x y st z st', g x y st = .ok z st' → ∃ k, z = .bl k)
    (hab : ∀ ta tb, PE X a ta → PE X b tb → PT X e (tTest (tOp (rG X.K g) ta tb))) (ha : IE X W a fa) (hb : IE X W b fb) : IT X W e (test (bin g fa fb)) := by
  refine pt_imp (hab _ _ ha hb) fun σ H Q h => ?_
  obtain ⟨io, r, st, A, q⟩ := h
  have q' : PostB X.K W σ Q io H ((fa r st).bind fun x st1 => (fb r st1).bind fun y st2 => (g x y st2).bind truR) := by
    have e : test (bin g fa fb) r st = ((fa r st).bind fun x st1 => (fb r st1).bind fun y st2 => (g x y st2).bind truR) := by
      unfold test bin
      cases fa r st with
      | ok x st1 =>
        show ((fb r st1).bind fun y st2 => g x y st2).bind truR = _
        show _ = (fb r st1).bind fun y st2 => (g x y st2).bind truR
        cases fb r st1 <;> rfl
      | _ => rfl
    rw [e] at q
    exact q
  refine bindVB A q' fun i1 H1 x d st1 g1 A1 r1 q1 => ?_
  refine bindVB A1 q1 fun i2 H2 y e st2 g2 A2 r2 q2 => ?_
  refine ⟨i2, st2, d, e, A2.sim, r1.mono g2, r2, ?_⟩
  cases z : g d e st2 with
  | ok w st3 =>
    rw [z] at q2
    obtain ⟨k, rfl⟩ := hb' _ _ _ _ _ z
    intro i3 H3 v g3 S3 r3
    cases r3
    exact ⟨k, rfl, q2 i3 H3 g3 S3⟩
  | er x st3 => exact (hg d e st2 x st3 z).elim
  | bad =>
    rw [z] at q2
    exact q2.elim
theorem it_cmp {a b : Expr} {op : CmpOp} {fa fb : ME} {g : D → D → Store → Res D} {pos : Pos} (ho : OpR X (compareOp op) (rG X.K g)) (hg : ∀ x y st z st', g x y st ≠ .er z st') (hb' : ∀ x y st z st', g x y st = .ok z st' → ∃ k, z = .bl k) (ha : IE X W a fa) (hb : IE X W b fb) (hm : behindInMarks op b = false) :
    IT X W (.Compare a [op] [b] pos) (test (bin g fa fb)) := it_cmp_of hg hb' (fun _ _ pa pb => pt_cmpR ho pa pb hm) ha hb
theorem bl_eq {neg : Bool} : ∀ x y st z st', eqV' neg x y st = .ok z st' → ∃ k, z = .bl k := by
  intro x y st z st' h
  unfold eqV' blR at h
  split at h <;> cases h
  exact ⟨_, rfl⟩
theorem bl_in {neg : Bool} : ∀ x y st z st', inV' neg x y st = .ok z st' → ∃ k, z = .bl k := by
  intro x y st z st' h
  unfold inV' blR at h
  split at h <;> cases h
  exact ⟨_, rfl⟩
theorem bl_cmp {p : Int → Int → Bool} {q : List Nat → List Nat → Bool} : ∀ x y st z st', cmpI p q x y st = .ok z st' → ∃ k, z = .bl k := by
  intro x y st z st' h
  unfold cmpI at h
  split at h <;> cases h
  all_goals exact ⟨_, rfl⟩
theorem bl_isN {neg : Bool} : ∀ x y st z st', isN neg x y st = .ok z st' → ∃ k, z = .bl k := by
  intro x y st z st' h
  unfold isN at h
  repeat' split at h
  all_goals cases h
  all_goals exact ⟨_, rfl⟩
variable {a b c : Expr} {rest : List Expr} {fa fb fc : ME} {ta tb : MT} {pos : Pos} {k : Nat}
theorem it_eq (hr : Room k X.A) (ha : IE X W a fa) (hb : IE X W b fb) : IT X W (.Compare a [.Eq] [b] pos) (test (bin (eqV' false) fa fb)) := it_cmp (op_eqD_eq hr) er_eq bl_eq ha hb (nomark _)
theorem it_ne (hr : Room k X.A) (ha : IE X W a fa) (hb : IE X W b fb) : IT X W (.Compare a [.NotEq] [b] pos) (test (bin (eqV' true) fa fb)) := it_cmp (op_eqD_ne hr) er_eq bl_eq ha hb (nomark _)
theorem it_lt (ha : IE X W a fa) (hb : IE X W b fb) : IT X W (.Compare a [.Lt] [b] pos) (test (bin ltD fa fb)) := it_cmp op_ltD er_cmp bl_cmp ha hb (nomark _)
theorem it_le (ha : IE X W a fa) (hb : IE X W b fb) : IT X W (.Compare a [.LtE] [b] pos) (test (bin leD fa fb)) := it_cmp op_leD er_cmp bl_cmp ha hb (nomark _)
theorem it_gt (ha : IE X W a fa) (hb : IE X W b fb) : IT X W (.Compare a [.Gt] [b] pos) (test (bin gtD fa fb)) := it_cmp op_gtD er_cmp bl_cmp ha hb (nomark _)
theorem it_ge (ha : IE X W a fa) (hb : IE X W b fb) : IT X W (.Compare a [.GtE] [b] pos) (test (bin geD fa fb)) := it_cmp op_geD er_cmp bl_cmp ha hb (nomark _)
theorem it_in (ha : IE X W a fa) (hb : IE X W b fb) (hm : behindInMarks .In b = false := by rfl) : IT X W (.Compare a [.In] [b] pos) (test (bin (inV' false) fa fb)) := it_cmp op_inD_in er_in bl_in ha hb hm
theorem it_notin (ha : IE X W a fa) (hb : IE X W b fb) (hm : behindInMarks .NotIn b = false := by rfl) : IT X W (.Compare a [.NotIn] [b] pos) (test (bin (inV' true) fa fb)) := it_cmp op_inD_not er_in bl_in ha hb hm
theorem it_is (ha : IE X W a fa) (hb : IE X W b fb) : IT X W (.Compare a [.Is] [b] pos) (test (bin (isN false) fa fb)) := it_cmp op_isN_is er_isN bl_isN ha hb (nomark _)
theorem it_isnot (ha : IE X W a fa) (hb : IE X W b fb) : IT X W (.Compare a [.IsNot] [b] pos) (test (bin (isN true) fa fb)) := it_cmp op_isN_not er_isN bl_isN ha hb (nomark _)
/-- a op b op' c -/
theorem chain_to {g g' : D → D → Store → Res D} (hg : ∀ x y st z st', g x y st ≠ .er z st') (hg' : ∀ x y st z st', g' x y st ≠ .er z st')
    {σ : L2.St} {H : Hp} {Q : VK} (h : tV X.K W (chain g g' fa fb fc) σ H Q) : tChain (rG X.K g) (rG X.K g') (tV X.K W fa) (tV X.K W fb) (tV X.K W fc) σ H Q := by
  obtain ⟨io, r, st, A, q⟩ := h
  refine bindV A q fun i1 H1 x d st1 g1 A1 r1 q1 => ?_
  refine bindV A1 q1 fun i2 H2 y e st2 g2 A2 r2 q2 => ?_
  refine ⟨i2, st2, d, e, A2.sim, r1.mono g2, r2, ?_⟩
  cases z : g d e st2 with
  | er x st3 => exact (hg d e st2 x st3 z).elim
  | bad =>
    rw [z] at q2
    exact q2.elim
  | ok w st3 =>
    rw [z] at q2
    intro i3 H3 v g3 S3 r3
    have q3 := PostV.mono g3 q2
    cases w with
    | bl k =>
      cases r3
      refine ⟨k, rfl, ?_⟩
      cases k with
      | false =>
        rw [if_neg Bool.false_ne_true]
        exact q3 i3 H3 _ Ge.refl S3 rfl
      | true =>
        rw [if_pos rfl]
        refine bindV ⟨S3, A2.env.mono g3⟩ q3 fun i4 H4 u w st4 g4 A4 r4 q4 => ?_
        exact ⟨i4, st4, e, w, A4.sim, (r2.mono g3).mono g4, r4, postN_of (hg' e w st4) q4⟩
    | _ => exact q3.elim
theorem ie_chain_of {op op' : CmpOp} {g g' : D → D → Store → Res D} (ho : OpR X (compareOp op) (rG X.K g)) (ho' : OpR X (compareOp op') (rG X.K g')) (hg : ∀ x y st z st', g x y st ≠ .er z st') (hg' : ∀ x y st z st', g' x y st ≠ .er z st')
    (ha : IE X W a fa) (hb : IE X W b fb) (hc : IE X W c fc) (hm : lastMarks [op, op'] [b, c] = false) : IE X W (.Compare a [op, op'] [b, c] pos) (chain g g' fa fb fc) :=
  pe_imp (pe_chain ho ho' ha hb hc hm) fun σ H Q h => chain_to hg hg' h
theorem it_chain_of {op op' : CmpOp} {g g' : D → D → Store → Res D} (ho : OpR X (compareOp op) (rG X.K g)) (ho' : OpR X (compareOp op') (rG X.K g')) (hg : ∀ x y st z st', g x y st ≠ .er z st') (hg' : ∀ x y st z st', g' x y st ≠ .er z st') (hb1 : ∀ x y st z st', g' x y st = .ok z st' → ∃ k, z = .bl k)
    (ha : IE X W a fa) (hb : IE X W b fb) (hc : IE X W c fc) (hm : lastMarks [op, op'] [b, c] = false) : IT X W (.Compare a [op, op'] [b, c] pos) (test (chain g g' fa fb fc)) :=
  pt_imp (pt_chain ho ho' ha hb hc hm) fun σ H Q h => by
    obtain ⟨io, r, st, A, q⟩ := h
    refine chain_to hg hg' ⟨io, r, st, A, ?_⟩
    unfold test at q
    cases e : chain g g' fa fb fc r st with
    | ok d st1 =>
      rw [e] at q
      intro i1 H1 v g1 S1 rd
      have hd : ∃ k, d = .bl k := by
        have e2 := e
        unfold chain at e2
        cases e3 : fa r st with
        | ok x s1 =>
          rw [e3] at e2
          have e4 : ((fb r s1).bind fun y st2 => (g x y st2).bind fun z st3 => match z with
            | .bl true => (fc r st3).bind fun w st4 => g' y w st4
            | .bl false => .ok (.bl false) st3
            | _ => .bad) = .ok d st1 := e2
          cases e5 : fb r s1 with
          | ok y s2 =>
            rw [e5] at e4
            have e6 : ((g x y s2).bind fun z st3 => match z with
              | .bl true => (fc r st3).bind fun w st4 => g' y w st4
              | .bl false => .ok (.bl false) st3
              | _ => .bad) = .ok d st1 := e4
            cases e7 : g x y s2 with
            | ok z s3 =>
              rw [e7] at e6
              cases z with
              | bl k =>
                cases k with
                | true =>
                  have e8 : ((fc r s3).bind fun w st4 => g' y w st4) = .ok d st1 := e6
                  cases e9 : fc r s3 with
                  | ok w s4 =>
                    rw [e9] at e8
                    exact hb1 _ _ _ _ _ e8
                  | er _ _ => rw [e9] at e8; cases e8
                  | bad => rw [e9] at e8; cases e8
                | false =>
                  cases e6
                  exact ⟨_, rfl⟩
              | _ => cases e6
            | er _ _ => rw [e7] at e6; cases e6
            | bad => rw [e7] at e6; cases e6
          | er _ _ => rw [e5] at e4; cases e4
          | bad => rw [e5] at e4; cases e4
        | er _ _ => rw [e3] at e2; cases e2
        | bad => rw [e3] at e2; cases e2
      obtain ⟨k, rfl⟩ := hd
      cases rd
      exact ⟨k, rfl, q i1 H1 g1 S1⟩
    | er x st1 =>
      rw [e] at q
      exact q
    | bad =>
      rw [e] at q
      exact q
theorem it_lele (ha : IE X W a fa) (hb : IE X W b fb) (hc : IE X W c fc) (hm : lastMarks [.LtE, .LtE] [b, c] = false := by with_unfolding_all rfl) : IT X W (.Compare a [.LtE, .LtE] [b, c] pos) (test (chain leD leD fa fb fc)) := it_chain_of op_leD op_leD er_cmp er_cmp bl_cmp ha hb hc hm
theorem ie_lele (ha : IE X W a fa) (hb : IE X W b fb) (hc : IE X W c fc) (hm : lastMarks [.LtE, .LtE] [b, c] = false := by with_unfolding_all rfl) : IE X W (.Compare a [.LtE, .LtE] [b, c] pos) (chain leD leD fa fb fc) := ie_chain_of op_leD op_leD er_cmp er_cmp ha hb hc hm
/-! ### and, or, not -/
theorem iw_and1 (ha : IT X W a ta) : IW X W (.BoolOp .And [a] pos) ta := pw_and1 ha
theorem iw_or1 (ha : IT X W a ta) : IW X W (.BoolOp .Or [a] pos) ta := pw_or1 ha
theorem iw_and (ha : IT X W a ta) (hb : IW X W (.BoolOp .And (b :: rest) pos) tb) : IW X W (.BoolOp .And (a :: b :: rest) pos) (andT ta tb) := by
  refine pw_imp (pw_and ha hb) fun σ H Q h => ?_
  obtain ⟨io, r, st, A, q⟩ := h
  refine bindTB A q fun i1 H1 x st1 g1 A1 q1 => ?_
  cases x with
  | true => exact ⟨i1, r, st1, A1, q1⟩
  | false => exact q1 i1 H1 Ge.refl A1.sim
theorem iw_or (ha : IT X W a ta) (hb : IW X W (.BoolOp .Or (b :: rest) pos) tb) : IW X W (.BoolOp .Or (a :: b :: rest) pos) (orT ta tb) := by
  refine pw_imp (pw_or ha hb) fun σ H Q h => ?_
  obtain ⟨io, r, st, A, q⟩ := h
  refine bindTB A q fun i1 H1 x st1 g1 A1 q1 => ?_
  cases x with
  | true => exact q1 i1 H1 Ge.refl A1.sim
  | false => exact ⟨i1, r, st1, A1, q1⟩
theorem it_w (h : IW X W a ta) : IT X W a ta := PW.pt h
theorem it_not (ha : IT X W a ta) : IT X W (.UnaryOp .Not a pos) (notT ta) := by
  refine pt_imp (pt_not ha) fun σ H Q h => ?_
  obtain ⟨io, r, st, A, q⟩ := h
  exact bindTB A q fun i1 H1 x st1 g1 A1 q1 => q1 i1 H1 Ge.refl A1.sim
theorem ie_one {op} (h : IE X W a fa) : IE X W (.BoolOp op [a] pos) fa := pe_one h
theorem ie_and (ha : IE X W a fa) (hb : IE X W (.BoolOp .And (b :: rest) pos) fb) : IE X W (.BoolOp .And (a :: b :: rest) pos) (andE fa fb) := by
  refine pe_imp (pe_andT ha hb) fun σ H Q h => ?_
  obtain ⟨io, r, st, A, q⟩ := h
  refine bindV A q fun i1 H1 x d st1 g1 A1 rd q1 => ?_
  cases e : truD st1 d with
  | none =>
    rw [e] at q1
    exact q1.elim
  | some k =>
    rw [e] at q1
    refine ⟨k, tru_of A1.sim e rd, ?_⟩
    cases k with
    | true => exact ⟨i1, r, st1, A1, q1⟩
    | false => exact q1 i1 H1 x Ge.refl A1.sim rd
theorem ie_or (ha : IE X W a fa) (hb : IE X W (.BoolOp .Or (b :: rest) pos) fb) : IE X W (.BoolOp .Or (a :: b :: rest) pos) (orE fa fb) := by
  refine pe_imp (pe_orT ha hb) fun σ H Q h => ?_
  obtain ⟨io, r, st, A, q⟩ := h
  refine bindV A q fun i1 H1 x d st1 g1 A1 rd q1 => ?_
  cases e : truD st1 d with
  | none =>
    rw [e] at q1
    exact q1.elim
  | some k =>
    rw [e] at q1
    refine ⟨k, tru_of A1.sim e rd, ?_⟩
    cases k with
    | true => exact q1 i1 H1 x Ge.refl A1.sim rd
    | false => exact ⟨i1, r, st1, A1, q1⟩
theorem ie_not (ha : IE X W a fa) : IE X W (.UnaryOp .Not a pos) (notE fa) := by
  refine pe_imp (pe_notT ha) fun σ H Q h => ?_
  obtain ⟨io, r, st, A, q⟩ := h
  refine bindV A q fun i1 H1 x d st1 g1 A1 rd q1 => ?_
  cases e : truD st1 d with
  | none =>
    rw [e] at q1
    exact q1.elim
  | some k =>
    rw [e] at q1
    exact ⟨k, tru_of A1.sim e rd, q1 i1 H1 _ Ge.refl A1.sim rfl⟩
theorem ie_if (hc : IT X W c ta) (ha : IE X W a fa) (hb : IE X W b fb) : IE X W (.IfExp c a b pos) (ifE ta fa fb) := by
  refine pe_imp (pe_ifExp hc ha hb) fun σ H Q h => ?_
  obtain ⟨io, r, st, A, q⟩ := h
  refine bindT A q fun i1 H1 x st1 g1 A1 q1 => ?_
  cases x with
  | true => exact ⟨i1, r, st1, A1, q1⟩
  | false => exact ⟨i1, r, st1, A1, q1⟩
/-! ### displays -/
theorem ia_nil : IA X W [] nilA := pa_imp pa_nil fun σ H Q h => by
  obtain ⟨io, r, st, A, q⟩ := h
  exact q io H [] Ge.refl A.sim rfl
variable {es : List Expr} {fs : MA}
theorem ia_cons (ha : IE X W a fa) (hr : IA X W es fs) (hs : starEach (a :: es) X.env = (false, eval a X.env) :: starEach es X.env := by rfl) : IA X W (a :: es) (consA fa fs) := pa_imp (pa_cons ha hr hs) fun σ H Q h => by
  obtain ⟨io, r, st, A, q⟩ := h
  refine bindVA A q fun i1 H1 x d st1 g1 A1 r1 q1 => ?_
  refine bindLA A1 q1 fun i2 H2 xs ds st2 g2 A2 r2 q2 => ?_
  exact q2 i2 H2 _ Ge.refl A2.sim ⟨x, xs, rfl, r1.mono g2, r2⟩
theorem ia_star {p : Pos} (ha : IE X W a fa) (hr : IA X W es fs) (hs : starEach (.Starred a p :: es) X.env = (true, eval a X.env) :: starEach es X.env := by rfl) : IA X W (.Starred a p :: es) (starA fa fs) := pa_imp (StX.pa_star ha hr hs) fun σ H Q h => by
  obtain ⟨io, r, st, A, q⟩ := h
  refine bindVA A q fun i1 H1 x d st1 g1 A1 r1 q1 => ?_
  cases e : seqD st1 d with
  | none =>
    rw [e] at q1
    exact q1.elim
  | some ds =>
    rw [e] at q1
    obtain ⟨p, vs, rfl, h1, h2⟩ := rd_seq A1.sim e r1
    refine ⟨p, vs, rfl, h1.symm, ?_⟩
    refine bindLA A1 q1 fun i2 H2 xs es st2 g2 A2 r2 q2 => ?_
    exact q2 i2 H2 _ Ge.refl A2.sim ((h2.mono g2).append r2)
theorem ie_tup {x1} (h : IA X W es fs) : IE X W (.Tuple es x1 pos) (tupE fs) := pe_imp (pe_tup h) fun σ H Q h => by
  obtain ⟨io, r, st, A, q⟩ := h
  refine bindL A q fun i1 H1 xs ds st1 g1 A1 r1 q1 => ?_
  by_cases c : ds.length ≤ LIM
  · rw [if_pos c] at q1
    exact ⟨lim_ok (by rw [← r1.length]; exact c), fun p hp => newT A1.sim r1 hp q1⟩
  · rw [if_neg c] at q1
    exact q1.elim
theorem ie_lst (h : IA X W es fs) : IE X W (.List es pos) (lstE fs) := pe_imp (pe_lst h) fun σ H Q h => by
  obtain ⟨io, r, st, A, q⟩ := h
  refine bindL A q fun i1 H1 xs ds st1 g1 A1 r1 q1 => ?_
  by_cases c : ds.length ≤ LIM
  · rw [if_pos c] at q1
    exact ⟨lim_ok (by rw [← r1.length]; exact c), fun p hp => newL A1.sim r1 hp q1⟩
  · rw [if_neg c] at q1
    exact q1.elim
/-! ### subscripts -/
theorem atI_rd {ds : List D} {vs : List V} {i : Int} {x : D} (r : RDs K io H ds vs) (h : atI ds i = some x) : ∃ v, atI vs i = some v ∧ RD K io H x v := by
  unfold atI at h ⊢
  rw [r.length] at h
  obtain ⟨j, h1, h2⟩ := Option.bind_eq_some_iff.mp h
  obtain ⟨v, h3, h4⟩ := r.get h2
  exact ⟨v, Option.bind_eq_some_iff.mpr ⟨j, h1, h3⟩, h4⟩
theorem er_item : ∀ x y st z st', itemD x y st ≠ .er z st' := by
  intro x y st z st' h
  unfold itemD at h
  repeat' split at h
  all_goals cases h
theorem ix_itemD : IxR X (rG X.K itemD) := by
  intro value slice pins s σ H x y v u Q I rx ry h hs
  obtain ⟨io, st, d, e, S, rd, re, q⟩ := h
  unfold itemD at q
  split at q
  · cases rd
    cases re
    split at q
    · rename_i hl
      split at q
      · rename_i c hc
        exact ix_str value slice pins s σ H _ _ v u Q I rx ry ⟨_, _, c, rfl, rfl, lim_ok hl, hc, q io H _ Ge.refl S rfl⟩ hs
      · exact q.elim
    · exact q.elim
  · cases re
    split at q
    · rename_i ds hd
      split at q
      · rename_i z hz
        obtain ⟨p, vs, rfl, h1, h2⟩ := rd_seq S hd rd
        obtain ⟨w, h3, h4⟩ := atI_rd h2 hz
        rcases h1 with h1 | h1
        · exact ix_list value slice pins s σ H _ _ v u Q I rx ry ⟨p, vs, _, w, rfl, rfl, h1, h3, q io H _ Ge.refl S h4⟩ hs
        · exact ix_tup value slice pins s σ H _ _ v u Q I rx ry ⟨p, vs, _, w, rfl, rfl, h1, h3, q io H _ Ge.refl S h4⟩ hs
      · exact q.elim
    · exact q.elim
  · exact q.elim
theorem ie_item (ha : IE X W a fa) (hb : IE X W b fb) (hs : PlainIx b := by exact fun _ _ => rfl) : IE X W (.Subscript a b pos) (bin itemD fa fb) :=
  ie_bin_of er_item (fun _ _ pa pb => pe_ix ix_itemD pa pb hs) ha hb
/-- a part of a slice -/
def IO (X : Cx) (W : WX) (e : Option Expr) (f : MO) : Prop := PO X e (fun σ H Q => ∃ io r st, At X.K io r st σ H ∧ match f r st with
  | .ok o st1 => ∀ io' H', Ge io H io' H' → Sim X.K io' H' st1 → Q o H'
  | .er x st1 => ∀ io' H' cls dx, Ge io H io' H' → Sim X.K io' H' st1 → RX X.K io' H' x cls dx → W cls dx σ H'
  | .bad => False)
theorem po_imp {X : Cx} {e : Option Expr} {t u : TO} (h : PO X e t) (k : ∀ σ H Q, u σ H Q → t σ H Q) : PO X e u := ⟨fun pins s σ H Q I q => h.run pins s σ H Q I (k σ H Q q)⟩
theorem io_no : IO X W none noO := po_imp po_none fun σ H Q h => by
  obtain ⟨io, r, st, A, q⟩ := h
  exact q io H Ge.refl A.sim
theorem io_some (ha : IE X W a fa) : IO X W (some a) (someO fa) := po_imp (po_some ha) fun σ H Q h => by
  obtain ⟨io, r, st, A, q⟩ := h
  refine tV_then A ?_
  unfold someO at q
  cases e : fa r st with
  | ok d st1 =>
    rw [e] at q
    intro i1 H1 v g1 A1 rd
    cases d with
    | int i =>
      cases rd
      exact ⟨i, rfl, q i1 H1 g1 A1.sim⟩
    | _ => exact q.elim
  | er x st1 =>
    rw [e] at q
    exact q
  | bad =>
    rw [e] at q
    exact q
theorem cut_rd {ds : List D} {vs : List V} {lo hi : Option Int} (r : RDs K io H ds vs) : RDs K io H (cut ds lo hi) (cutV vs lo hi) := by
  unfold cut cutV
  rw [r.length]
  exact (r.drop _).take _
theorem cut_all {ds : List D} {lo hi : Option Int} (h : HT.sIx ds.length 0 lo = 0 ∧ HT.sIx ds.length ds.length hi = ds.length) : cut ds lo hi = ds := by
  unfold cut
  rw [h.1, h.2]
  simp
theorem er_slice : ∀ d lo hi st z st', sliceD d lo hi st ≠ .er z st' := by
  intro d lo hi st z st' h
  unfold sliceD at h
  repeat' split at h
  all_goals cases h
theorem sl_sliceD : SlR X (fun x lo hi H Q => ∃ io st d, Sim X.K io H st ∧ RD X.K io H d x ∧ PostN X.K Q io H (sliceD d lo hi st)) := by
  intro pins s σ H x v vl vu lo hi sl Q I rx hs pl pu h
  obtain ⟨io, st, d, S, rd, q⟩ := h
  unfold sliceD at q
  split at q
  · cases rd
    split at q
    · rename_i hl
      exact sl_str pins s σ H _ v vl vu lo hi sl Q I rx hs pl pu ⟨_, rfl, lim_ok hl, q io H _ Ge.refl S rfl⟩
    · exact q.elim
  · rename_i ds
    obtain ⟨a, vs, rfl, h1, h2⟩ := id rd
    refine sl_tupA pins s σ H _ v vl vu lo hi sl Q I rx hs pl pu ⟨a, vs, rfl, h1, fun z => ?_, fun _ p hp => newT S (cut_rd h2) hp q⟩
    refine q io H _ Ge.refl S ?_
    rw [cut_all (by rw [h2.length]; exact z)]
    exact rd
  · rename_i ds
    obtain ⟨a, vs, rfl, h1, h2⟩ := id rd
    exact sl_list pins s σ H _ v vl vu lo hi sl Q I rx hs pl pu ⟨a, vs, rfl, h1.sqL, fun p hp => newL S (cut_rd h2) hp q⟩
  · rename_i n
    split at q
    · rename_i ds hd
      obtain ⟨a, vs, rfl, _, h1, h2⟩ := rd_cell S hd rd
      exact sl_list pins s σ H _ v vl vu lo hi sl Q I rx hs pl pu ⟨a, vs, rfl, SqL.of h1, fun p hp => newL S (cut_rd h2) hp q⟩
    · exact q.elim
  · exact q.elim
theorem ie_slice {lo hi : Option Expr} {fl fh : MO} {p2 : Pos} (ha : IE X W a fa) (hl : IO X W lo fl) (hh : IO X W hi fh) : IE X W (.Subscript a (.Slice lo hi none p2) pos) (slice fa fl fh) := by
  refine pe_imp (pe_slice sl_sliceD ha hl hh) fun σ H Q h => ?_
  obtain ⟨io, r, st, A, q⟩ := h
  refine bindV A q fun i1 H1 x d st1 g1 A1 r1 q1 => ?_
  refine ⟨i1, r, st1, A1, ?_⟩
  cases e : fl r st1 with
  | ok l st2 =>
    rw [e] at q1
    intro i2 H2 g2 S2
    refine ⟨i2, r, st2, ⟨S2, A1.env.mono g2⟩, ?_⟩
    cases e2 : fh r st2 with
    | ok u st3 =>
      have q2 : PostV X.K W σ Q i1 H1 ((fh r st2).bind fun h st3 => sliceD d l h st3) := q1
      rw [e2] at q2
      intro i3 H3 g3 S3
      have q3 : PostV X.K W σ Q i1 H1 (sliceD d l u st3) := q2
      exact ⟨i3, st3, d, S3, (r1.mono g2).mono g3, postN_of (fun z st' => er_slice d l u st3 z st') (PostV.mono (g2.trans g3) q3)⟩
    | er x st3 =>
      have q2 : PostV X.K W σ Q i1 H1 ((fh r st2).bind fun h st3 => sliceD d l h st3) := q1
      rw [e2] at q2
      exact fun i3 H3 cls dx g3 => q2 i3 H3 cls dx (g2.trans g3)
    | bad =>
      have q2 : PostV X.K W σ Q i1 H1 ((fh r st2).bind fun h st3 => sliceD d l h st3) := q1
      rw [e2] at q2
      exact q2
  | er x st2 =>
    rw [e] at q1
    exact q1
  | bad =>
    rw [e] at q1
    exact q1
/-! ### built-ins by name, methods of built-in types -/
def rC (K : PySem.W.Frag) (g : List D → Store → Res D) : List V → Hp → VK → Prop := fun vs H Q => ∃ io st ds, Sim K io H st ∧ RDs K io H ds vs ∧ PostN K Q io H (g ds st)
def rM (K : PySem.W.Frag) (g : D → List D → Store → Res D) : V → List V → Hp → VK → Prop := fun x vs H Q => ∃ io st d ds, Sim K io H st ∧ RD K io H d x ∧ RDs K io H ds vs ∧ PostN K Q io H (g d ds st)
theorem ie_app_of {e : Expr} {g : List D → Store → Res D} {es : List Expr} {fs : MA} (hg : ∀ ds st z st', g ds st ≠ .er z st') (hp : ∀ t, PA X es t → PE X e (tCB (rC X.K g) t)) (h : IA X W es fs) : IE X W e (app g fs) := pe_imp (hp _ h) fun σ H Q h => by
  obtain ⟨io, r, st, A, q⟩ := h
  refine bindL A q fun i1 H1 xs ds st1 g1 A1 r1 q1 => ?_
  exact ⟨i1, st1, ds, A1.sim, r1, postN_of (fun z st' => hg ds st1 z st') q1⟩
variable {x : Str} {id : String} {p : Pos}
theorem ie_callB {g : List D → Store → Res D} (hc : CallR X (.builtin id) (rC X.K g)) (he : ∀ ds st z st', g ds st ≠ .er z st') (hg : Gl X x) (hm : X.mg x = none) (hv : bootBuiltins x = some (.builtin id)) (ha : IA X W (a :: es) fs)
    (hs : starEach (a :: es) X.env = (false, eval a X.env) :: starEach es X.env := by rfl) (hpl : (backTo pos (starEach es X.env)).any (·.1) = false := by rfl) (hn : x ≠ "__name__" := by decide) (hd : (x == ("__debug__" : Str)) = false := by decide) :
    IE X W (.Call (.Name x p) (a :: es) [] pos) (app g fs) := ie_app_of he (fun t ht => pe_callB hc hg hm hv ht hn hd hs hpl) ha
theorem ie_callTy {g : List D → Store → Res D} {T : String} (hc : CallR X (.type T) (rC X.K g)) (he : ∀ ds st z st', g ds st ≠ .er z st') (hg : Gl X x) (hm : X.mg x = none) (hv : bootBuiltins x = some (.type T)) (ha : IA X W (a :: es) fs)
    (hs : starEach (a :: es) X.env = (false, eval a X.env) :: starEach es X.env := by rfl) (hpl : (backTo pos (starEach es X.env)).any (·.1) = false := by rfl) (hn : x ≠ "__name__" := by decide) (hd : (x == ("__debug__" : Str)) = false := by decide) :
    IE X W (.Call (.Name x p) (a :: es) [] pos) (app g fs) := ie_app_of he (fun t ht => pe_callTy hc hg hm hv ht hn hd hs hpl) ha
end
end Dn


set_option Elab.async false
set_option linter.all false
set_option maxRecDepth 100000
set_option maxHeartbeats 4000000
set_option autoImplicit false
/-! Dn, part E: defs and their promises, calls, instances and their fields. -/
namespace Dn
open PySem PySem.Spec PyProof.Rows L2

/-! ### a def that may be called where no repr runs -/
structure RoomG (k : Nat) (A : Around) : Prop where
  r : Room k A
  g : A.guards = some []
theorem RoomG.mono {j k : Nat} {A : Around} (r : RoomG k A) (h : j ≤ k) : RoomG j A := ⟨r.r.mono h, r.g⟩
theorem RoomG.deeper {k : Nat} {A : Around} (r : RoomG (k + 1) A) (env : PySem.Env) : RoomG k (A.deeper env) := ⟨r.r.deeper env, r.g⟩
theorem make_guards {A : Around} {C : Addr} {us : List Value} {kw : List (Str × Value)} : (A.under (.builtin "type.__call__" ⟨.ref C :: us, kw⟩)).guards = A.guards := by
  show pushGuards (Code.guards (.builtin "type.__call__" ⟨.ref C :: us, kw⟩)) A.guards = A.guards
  have e : Code.guards (.builtin "type.__call__" ⟨.ref C :: us, kw⟩) = [] := by
    unfold Code.guards
    rw [if_neg (by show ¬ (guardIds.contains "type.__call__" = true); decide)]
  rw [e]
  rfl
theorem RoomG.make {k : Nat} {A : Around} (r : RoomG (k + 1) A) (C : Addr) (us : List Value) (kw : List (Str × Value)) : RoomG k (A.under (.builtin "type.__call__" ⟨.ref C :: us, kw⟩)) :=
  ⟨r.r.make C us kw, by rw [make_guards]; exact r.g⟩
structure FnG (P : Program) (w : World) (K : PySem.W.Frag) (mg : Str → Option Value) (base : Heap) (k : Nat) (f : Addr) (fd : FuncData) (ps : List Str) (sp : Sp) : Prop where
  len : ∀ vs H Q E, sp vs H Q E → vs.length = ps.length
  run : ∀ (A : Around) (outer : List PySem.Env) (s : Shared) (H : Hp) (args : Args) (us : List Value) (vs : List V) (Q : VK) (E : XK), RoomG k A → Env0 P w K mg base A outer s H → BindsTo s fd args (ps.zip us) → Vals vs us → sp vs H Q E →
    codeAny (model P w) A (.call (.ref f) args) (CR (L2.CX P w) outer P w H s Q E) s
theorem fn_ofG {P : Program} {w : World} {K : PySem.W.Frag} {mg : Str → Option Value} {base : Heap} {k : Nat} {f : Addr} {name qual : Str} {params : Arguments} {body : List Stmt} {scope : Scope} {dV kV doc pm cdv ct oc : Value} {an od : Option Addr}
    {osl : Array (Option Value)} {N ps : List Str} {sp : Sp} (lk : K.lookup f = some ⟨oc, od, .func (PySem.W.fnOf name qual params body scope dV kV doc pm an cdv ct), osl⟩) (hcd : PySem.W.codeIn K cdv qual = true) (S : FnScope N ps scope)
    (len : ∀ vs H Q E, sp vs H Q E → vs.length = ps.length)
    (hbody : ∀ (A : Around) (outer : List PySem.Env) (s : Shared) (H : Hp) (vs : List V) (Q : VK) (E : XK), RoomG k (A.deeper (envOfC qual scope s.heap.objs.size f cdv)) → sp vs H Q E →
      ∃ t, PSs (cxOf (L2.CX P w) P w K mg base N qual scope f cdv A outer s H E) body t ∧ t { nx := fun _ H' => Q .non H', rt := Q } (start N vs) H) :
    FnG P w K mg base (k + 1) f (PySem.W.fnOf name qual params body scope dV kV doc pm an cdv ct) ps sp := by
  refine ⟨len, fun A outer s H args us vs Q E room ent bnd rel want => ?_⟩
  have hlen := len vs H Q E want
  have inK : K.In s.heap := ent.mod.kin.keeps fun b o e => (ent.bs b o e).1
  have noLim : s.heap.NoLimit := ent.mod.nolimit.keeps fun b o e => (ent.bs b o e).1
  have kinds : ∀ y ∈ ps.zip us, scope.names.lookup y.1 = some .local ∨ (scope.names.lookup y.1 = some .cell ∧ ((cellsFrom (s.heap.objs.size + 1) scope.names []).lookup y.1).isSome = true) := by
    rintro ⟨nm, val⟩ hy
    rcases S.par nm (List.of_mem_zip hy).1 with loc | cel
    · exact .inl loc
    · exact .inr ⟨cel, PySem.W.cellsFrom_some _ _ _ (.inl cel)⟩
  refine codeAny_call_function room.r.depth (inK _ _ lk) rfl S.co S.gen rfl (PySem.W.codeRec_of inK hcd) (bnd _ _ _ _ ?_)
  refine wpAny_newFunctionEnv_cells S.kind kinds fun ev hev s1 laid => ?_
  subst hev
  refine ⟨noLim.keeps laid.toInCall.keep, codeAny_func ?_⟩
  obtain ⟨t, body_ok, reading⟩ := hbody A outer s H vs Q E (room.deeper _) want
  have inv0 : L2.Inv (cxOf (L2.CX P w) P w K mg base N qual scope f cdv A outer s H E) [] (start N vs) H s1 := inv_start S room.r.hd ent hlen rel laid
  refine wpAny_mono (body_ok.run [] s1 (start N vs) H _ inv0 reading) (fun fl s' got => ?_) fun e s' got => got
  cases fl with
  | ret u =>
    obtain ⟨v, σ', H', J, rv, q⟩ := got
    exact ⟨v, H', J.os, J.bare, J.base, J.hok, rv, q⟩
  | next =>
    obtain ⟨σ', H', J, q⟩ := got
    exact ⟨.non, H', J.os, J.bare, J.base, J.hok, rfl, q⟩
  | brk =>
    obtain ⟨_, _, _, q⟩ := got
    exact q.elim
  | cont =>
    obtain ⟨_, _, _, q⟩ := got
    exact q.elim
/-- a def that a datum says: from data and a store to a datum and a store -/
def spI (K : PySem.W.Frag) (n : Nat) (F : List D → Store → Res D) : Sp := fun vs H Q E => ∃ io st ds, Sim K io H st ∧ RDs K io H ds vs ∧ vs.length = n ∧ PostV K (fun c d _ H => E c d H) [] Q io H (F ds st)
/-- what a body says, run at its arguments -/
def outS : SR → Res D
  | .nx _ st => .ok .non st
  | .rt d st => .ok d st
  | .er x _ st => .er x st
  | _ => .bad
def envOf (n : Nat) (ds : List D) : Env := ds.map some ++ List.replicate (n - ds.length) none
def run (n : Nat) (F : MS) (ds : List D) (st : Store) : Res D := outS (F (envOf n ds) st)
section
variable {P : Program} {w : World} {K : PySem.W.Frag} {mg : Str → Option Value} {base : Heap}
theorem re_start {N : List Str} {io : List Addr} {H : Hp} {ds : List D} {vs : List V} (r : RDs K io H ds vs) : RE K io H (envOf N.length ds) (L2.start N vs) := by
  have hl := r.length
  refine ⟨by unfold envOf L2.start; simp [hl], fun i d h => ?_⟩
  unfold envOf at h
  by_cases c : i < ds.length
  · rw [List.getElem?_append_left (by simpa using c), List.getElem?_map] at h
    obtain ⟨d', h1, h2⟩ := Option.map_eq_some_iff.mp h
    cases h2
    obtain ⟨v, h3, h4⟩ := r.get h1
    refine ⟨v, ?_, h4⟩
    unfold L2.start
    rw [List.getElem?_append_left (by simpa [← hl] using c), List.getElem?_map, h3]
    rfl
  · rw [List.getElem?_append_right (by simpa using c)] at h
    have := List.mem_of_getElem? h
    have e := List.eq_of_mem_replicate this
    cases e
/-- what is known of a context: it lets out what W takes, there is room -/
structure CtxOk (X : Cx) (W : WX) (k : Nat) : Prop where
  calm : X.calm = true
  nd : X.N.Nodup
  tk : Takes X W
  rm : RoomG k X.A
/-- THE RULE for a def -/
theorem fn_ok {x qual : Str} {params : Arguments} {body : List Stmt} {scope : Scope} {dvs : List V} {kws : List (Str × V)} {f : Addr} {fd : FuncData} {N ps : List Str} {k : Nat} {F : MS} (D0 : FunD K x qual params body scope dvs kws f fd) (S : FnScope N ps scope)
    (hb : ∀ (cdv : Value) (A : Around) (outer : List PySem.Env) (s : Shared) (H : Hp) (E : XK),
      CtxOk (cxOf (L2.CX P w) P w K mg base N qual scope f cdv A outer s H E) (fun c d _ H => E c d H) k → PassesOwn (model P w) (cxOf (L2.CX P w) P w K mg base N qual scope f cdv A outer s H E).A (cxOf (L2.CX P w) P w K mg base N qual scope f cdv A outer s H E).env (cxOf (L2.CX P w) P w K mg base N qual scope f cdv A outer s H E).xe →
      ISs (cxOf (L2.CX P w) P w K mg base N qual scope f cdv A outer s H E) (fun c d _ H => E c d H) body F) : FnG P w K mg base (k + 1) f fd ps (spI K ps.length (run N.length F)) := by
  obtain ⟨oc, od, dV, kV, doc, pm, an, cdv, ct, osl, rfl, lk, hcd, _, _⟩ := D0.ex
  refine fn_ofG lk hcd S (fun vs H Q E h => ?_) fun A outer s H vs Q E hr h => ?_
  · obtain ⟨_, _, _, _, _, hl, _⟩ := h
    exact hl
  · obtain ⟨io, st, ds, sim, rd, hl, q⟩ := h
    refine ⟨_, hb cdv A outer s H E ⟨rfl, S.nd, takes_of rfl rfl rfl rfl, hr⟩ (passes_of rfl), io, envOf N.length ds, st, ⟨sim, re_start rd⟩, ?_⟩
    unfold run at q
    cases e : F (envOf N.length ds) st with
    | nx r st1 =>
      rw [e] at q
      exact fun i1 H1 σ g S1 _ => q i1 H1 _ g S1 rfl
    | rt d st1 =>
      rw [e] at q
      exact q
    | er x r st1 =>
      rw [e] at q
      exact fun i1 H1 σ cls dx g S1 _ rx => q i1 H1 cls dx g S1 rx
    | bk r st1 =>
      rw [e] at q
      exact q.elim
    | ct r st1 =>
      rw [e] at q
      exact q.elim
    | bad =>
      rw [e] at q
      exact q.elim
theorem FnG.mono {j k : Nat} {f : Addr} {fd : FuncData} {ps : List Str} {sp : Sp} (F : FnG P w K mg base j f fd ps sp) (h : j ≤ k) : FnG P w K mg base k f fd ps sp :=
  ⟨F.len, fun A outer s H args us vs Q E hr => F.run A outer s H args us vs Q E (hr.mono h)⟩
theorem FnG.imp {k : Nat} {f : Addr} {fd : FuncData} {ps : List Str} {sp sp' : Sp} (F : FnG P w K mg base k f fd ps sp) (h : ∀ vs H Q E, sp' vs H Q E → sp vs H Q E) : FnG P w K mg base k f fd ps sp' :=
  ⟨fun vs H Q E q => F.len _ _ _ _ (h _ _ _ _ q), fun A outer s H args us vs Q E hr e hb hv q => F.run A outer s H args us vs Q E hr e hb hv (h _ _ _ _ q)⟩
end
/-! ### calls -/
section
variable {X : Cx} {W : WX} {k : Nat} {f : Addr} {fd : FuncData} {ps : List Str} {x : Str} {p pos : Pos} {e : Expr} {es : List Expr} {fa : MA} {F : List D → Store → Res D}
/-- the callee runs -/
theorem run_G {pins : List (Addr × Obj)} {σ : L2.St} {H : Hp} {s : Shared} {Q : VK} {us : List Value} {vs : List V} {sp : Sp} (G : FnG X.prog X.w X.K X.mg X.base k f fd ps sp) (hr : RoomG k X.A) (hb : Binds X.K fd ps []) (tk : Takes X W)
    (I : L2.Inv X pins σ H s) (rel : Vals vs us) (h : sp vs H Q (WE W σ)) : wpAny (model X.prog X.w) X.A (call (.ref f) us) (EP X pins σ Q) X.xe s := by
  have hl : us.length = ps.length := by rw [← rel.length]; exact G.len _ _ _ _ h
  have bnd := hb s us I.kIn (by rw [List.append_nil]; exact hl)
  rw [List.append_nil] at bnd
  refine wpAny_call (codeAny_mono (G.run X.A X.stack s H ⟨us, []⟩ us vs Q (WE W σ) hr I.env0 bnd rel h) fun r s' got => ?_)
  cases r with
  | error e => exact passAt tk σ pins H s e s' I got
  | ok fl =>
    cases fl with
    | ret u => exact I.after got
    | next => exact got.elim
    | brk => exact got.elim
    | cont => exact got.elim
theorem pe_callG {sp : Sp} {t : TA} (G : FnG X.prog X.w X.K X.mg X.base k f fd ps sp) (hr : RoomG k X.A) (hg : Gl X x) (hm : X.mg x = some (.ref f)) (hk : PySem.W.keepIn X.K (.ref f) = true) (hb : Binds X.K fd ps []) (tk : Takes X W) (ha : PA X (e :: es) t)
    (hdb : (x == ("__debug__" : Str)) = false) (hs : starEach (e :: es) X.env = (false, eval e X.env) :: starEach es X.env) (hpl : (backTo pos (starEach es X.env)).any (·.1) = false) : PE X (.Call (.Name x p) (e :: es) [] pos) (tCallS sp (WE W) t) := by
  refine ⟨fun pins s σ H Q I h => wpAny_Call_Name_kw (ld_glob I hg hm ?_ hdb)⟩
  refine PySem.W.callWith_K (h₀ := X.base) I.ok.mod.kin hk (thn (ha.run pos pins s σ H _ I h) fun us s1 got => ?_) hs hpl
  obtain ⟨vs, H1, I1, rel, q⟩ := got
  exact ⟨I1.kIn, run_G G hr hb tk I1 rel q⟩
theorem spI_of {σ : L2.St} {H : Hp} {Q : VK} {io : List Addr} {st : Store} {ds : List D} {vs : List V} {n : Nat} (S : Sim X.K io H st) (rd : RDs X.K io H ds vs) (hl : ds.length = n) (q : PostV X.K W σ Q io H (F ds st)) : spI X.K n F vs H Q (WE W σ) := by
  refine ⟨io, st, ds, S, rd, by rw [← rd.length]; exact hl, ?_⟩
  cases e : F ds st with
  | ok d st1 =>
    rw [e] at q
    exact q
  | er z st1 =>
    rw [e] at q
    exact q
  | bad =>
    rw [e] at q
    exact q.elim
/-- f(e, ..): Fa says how many arguments are given -/
def appN (n : Nat) (F : List D → Store → Res D) (fa : MA) : ME := fun r st => (fa r st).bind fun ds st1 => if ds.length = n then F ds st1 else .bad
theorem ie_call (G : FnG X.prog X.w X.K X.mg X.base k f fd ps (spI X.K ps.length F)) (hr : RoomG k X.A) (hg : Gl X x) (hm : X.mg x = some (.ref f)) (hk : PySem.W.keepIn X.K (.ref f) = true) (hb : Binds X.K fd ps []) (tk : Takes X W) (ha : IA X W (e :: es) fa)
    (hdb : (x == ("__debug__" : Str)) = false := by decide) (hs : starEach (e :: es) X.env = (false, eval e X.env) :: starEach es X.env := by rfl) (hpl : (backTo pos (starEach es X.env)).any (·.1) = false := by rfl) :
    IE X W (.Call (.Name x p) (e :: es) [] pos) (appN ps.length F fa) := pe_imp (pe_callG G hr hg hm hk hb tk ha hdb hs hpl) fun σ H Q h => by
  obtain ⟨io, r, st, A, q⟩ := h
  refine bindL A q fun i1 H1 vs ds st1 g1 A1 r1 q1 => ?_
  by_cases c : ds.length = ps.length
  · rw [if_pos c] at q1
    exact spI_of A1.sim r1 c q1
  · rw [if_neg c] at q1
    exact q1.elim
/-! ### instances -/
/-- o.f -/
def fldE (C f : Str) (o : ME) : ME := fun r st => (o r st).bind fun d st1 => match d with
  | .loc n => match st1[n]? with
    | some (.ins C' fs) => if C' = C then (match fs.lookup f with
      | some z => .ok z st1
      | none => .bad) else .bad
    | _ => .bad
  | _ => .bad
variable {o : Expr} {fo fv : ME} {C m g : Str} {apos : Pos}
theorem rd_ins {K : PySem.W.Frag} {io : List Addr} {H : Hp} {st : Store} {n : Nat} {fs : List (Str × D)} {v : V} (S : Sim K io H st) (h : st[n]? = some (.ins C fs)) (r : RD K io H (.loc n) v) :
    ∃ a dx vs, v = .ref a ∧ io[n]? = some a ∧ H a = some (.ins (He.ga K C) dx vs) ∧ RFs K io H fs vs := by
  obtain ⟨a, h1, h2⟩ := r
  obtain ⟨a', q1, dx, vs, q2, q3⟩ := S.get h
  rw [h1] at q1
  cases q1
  exact ⟨a, dx, vs, h2, h1, q2, q3⟩
theorem ie_fld (c : Cls X.K (He.ga X.K C)) (hn : NoAttr X.K (He.ga X.K C) g) (ho : IE X W o fo) (hb : attributeBase o g X.env (eval o X.env) = eval o X.env := by rfl) : IE X W (.Attribute o g pos) (fldE C g fo) := pe_imp (pe_fld ho hb) fun σ H Q h => by
  obtain ⟨io, r, st, A, q⟩ := h
  refine bindV A q fun i1 H1 v d st1 g1 A1 rd q1 => ?_
  cases d with
  | loc n =>
    cases e : st1[n]? with
    | none =>
      simp only [e] at q1
      exact q1.elim
    | some cl =>
      simp only [e] at q1
      cases cl with
      | ins C' fs =>
        by_cases hC : C' = C
        · subst hC
          simp only [if_pos] at q1
          cases hl : fs.lookup g with
          | none =>
            simp only [hl] at q1
            exact q1.elim
          | some z =>
            simp only [hl] at q1
            obtain ⟨a, dx, vs, rfl, _, h2, h3⟩ := rd_ins A1.sim e rd
            obtain ⟨u, h4, h5⟩ := (RFs.lookup (f := g) h3).1 z hl
            exact ⟨a, _, dx, vs, u, rfl, h2, c, hn, h4, q1 i1 H1 u Ge.refl A1.sim h5⟩
        · simp only [if_neg hC] at q1
          exact q1.elim
      | _ => exact q1.elim
  | _ => exact q1.elim
/-- o.f = e -/
def setF (C f : Str) (o v : ME) : MS := fun r st => stE r (v r st) fun y st1 => stE r (o r st1) fun d st2 => match d with
  | .loc n => match st2[n]? with
    | some (.ins C' fs) => if C' = C ∧ fs.length < 900 then .nx r (st2.set n (.ins C (putD f y fs))) else .bad
    | _ => .bad
  | _ => .bad
theorem is_setF {value : Expr} {pos' : Pos} (c : Cls X.K (He.ga X.K C)) (hn : NoAttr X.K (He.ga X.K C) g) (ho : IE X W o fo) (hv : IE X W value fv) (hs : swapsWith value (some (.Attribute o g pos')) pos.line X.env = pure false := by rfl) :
    IS X W (.Assign [.Attribute o g pos'] value pos) (setF C g fo fv) := ps_imp (ps_fld ho hv hs) fun D0 σ H h => by
  obtain ⟨io, r, st, A, q⟩ := h
  refine bindVS A q fun i1 H1 v y st1 g1 A1 ry q1 => ?_
  refine bindVS A1 q1 fun i2 H2 u d st2 g2 A2 rd q2 => ?_
  cases d with
  | loc n =>
    cases e : st2[n]? with
    | none =>
      simp only [e] at q2
      exact q2.elim
    | some cl =>
      simp only [e] at q2
      cases cl with
      | ins C' fs =>
        by_cases hC : C' = C ∧ fs.length < 900
        · simp only [if_pos hC] at q2
          obtain ⟨rfl, hl⟩ := hC
          obtain ⟨a, dx, vs, rfl, ha, h2, h3⟩ := rd_ins A2.sim e rd
          have gg := Ge.upd_ (o := .ins (He.ga X.K C') dx (putF g v vs)) A2.sim e ha
          refine ⟨a, _, dx, vs, rfl, h2, c, hn, by rw [← h3.length]; omega, ?_⟩
          exact q2 i2 _ σ gg (A2.sim.upd_ e ha ⟨dx, _, upd_same, (RFs.put (ry.mono g2) h3).mono gg⟩) (A2.env.mono gg)
        · simp only [if_neg hC] at q2
          exact q2.elim
      | _ => exact q2.elim
  | _ => exact q2.elim
/-- o.m(e, ..), m a def of the class -/
def recvD (C m : Str) (st : Store) (d : D) (k : Nat → Res D) : Res D := match d with
  | .loc i => match st[i]? with
    | some (.ins C' fs) => if C' = C ∧ fs.lookup m = none then k i else .bad
    | _ => .bad
  | _ => .bad
def methC (C m : Str) (n : Nat) (F : List D → Store → Res D) (o : ME) (fa : MA) : ME := fun r st => (o r st).bind fun d st1 => recvD C m st1 d fun i =>
  (fa r st1).bind fun ds st2 => if (D.loc i :: ds).length = n then F (.loc i :: ds) st2 else .bad
theorem pe_methG {pl : Sem Bool} {sp : Sp} {ta : TE} {t : TA} {Ca : Addr} (he : PE X o ta) (c : Cls X.K Ca) (hm : Meth X.K Ca m f) (G : FnG X.prog X.w X.K X.mg X.base k f fd ps sp) (hr : RoomG k X.A) (hb : Binds X.K fd ps []) (tk : Takes X W) (ha : PA X (e :: es) t)
    (hst : starEach (e :: es) X.env = (false, eval e X.env) :: starEach es X.env) (hpl : (backTo pos (starEach es X.env)).any (·.1) = false)
    (ht : eval (.Call (.Attribute o m apos) (e :: es) [] pos) X.env = (do
      let obj ← eval o X.env
      standAt apos.atName
      let (fn, ahead) ← holding [obj] (getMethod obj m pl)
      callWith pos fn ahead (backTo pos (starEach (e :: es) X.env)) (backToKw pos (keywordEach [] X.env)))) :
    PE X (.Call (.Attribute o m apos) (e :: es) [] pos) (fun σ H Q => ta σ H fun x H1 => ∃ a dx fs, x = .ref a ∧ H1 a = some (.ins Ca dx fs) ∧ fs.lookup m = none ∧ t σ H1 fun vs H2 => sp (x :: vs) H2 Q (WE W σ)) := by
  refine ⟨fun pins s σ H Q I h => PySem.W.methodCall_KW (pl := pl) (thn (he.run pins s σ H _ I h) fun u s1 got => ?_) ht⟩
  obtain ⟨x, H1, I1, rx, a, dx, fs, rfl, ea, l, q⟩ := got
  obtain rfl : u = Value.ref a := rx
  refine getmeth_ok I1 ea c hm l ?_
  refine PySem.W.callWith_K (first := [.ref a]) (h₀ := X.base) I.ok.mod.kin hm.kp (thn (ha.run pos pins s1 σ H1 _ I1 q) fun us s2 got2 => ?_) hst hpl
  obtain ⟨vs, H2, I2, rel, q2⟩ := got2
  exact ⟨I2.kIn, run_G (us := .ref a :: us) (vs := .ref a :: vs) G hr hb tk I2 (.cons rfl rel) q2⟩
theorem pe_methG0 {pl : Sem Bool} {sp : Sp} {ta : TE} {Ca : Addr} (he : PE X o ta) (c : Cls X.K Ca) (hm : Meth X.K Ca m f) (G : FnG X.prog X.w X.K X.mg X.base k f fd ps sp) (hr : RoomG k X.A) (hb : Binds X.K fd ps []) (tk : Takes X W)
    (ht : eval (.Call (.Attribute o m apos) [] [] pos) X.env = (do
      let obj ← eval o X.env
      standAt apos.atName
      let (fn, ahead) ← holding [obj] (getMethod obj m pl)
      callWith pos fn ahead (backTo pos (starEach [] X.env)) (backToKw pos (keywordEach [] X.env)))) :
    PE X (.Call (.Attribute o m apos) [] [] pos) (fun σ H Q => ta σ H fun x H1 => ∃ a dx fs, x = .ref a ∧ H1 a = some (.ins Ca dx fs) ∧ fs.lookup m = none ∧ sp [x] H1 Q (WE W σ)) := by
  refine ⟨fun pins s σ H Q I h => PySem.W.methodCall_KW (pl := pl) (thn (he.run pins s σ H _ I h) fun u s1 got => ?_) ht⟩
  obtain ⟨x, H1, I1, rx, a, dx, fs, rfl, ea, l, q⟩ := got
  obtain rfl : u = Value.ref a := rx
  refine getmeth_ok I1 ea c hm l ?_
  exact PySem.W.callWith_K0 (first := [.ref a]) I1.kIn hm.kp (run_G (us := [.ref a]) (vs := [.ref a]) G hr hb tk I1 (.cons rfl .nil) q)
/-- the receiver, by cases -/
theorem recv {io : List Addr} {H : Hp} {st : Store} {r : Env} {σ : L2.St} {Q : VK} {d : D} {v : V} {k' : Nat → Res D} {P : Prop} (A : At X.K io r st σ H) (rd : RD X.K io H d v)
    (q : PostV X.K W σ Q io H (recvD C m st d k'))
    (c : ∀ i a dx fs, d = .loc i → v = .ref a → H a = some (.ins (He.ga X.K C) dx fs) → fs.lookup m = none → PostV X.K W σ Q io H (k' i) → P) : P := by
  unfold recvD at q
  cases d with
  | loc n =>
    cases e : st[n]? with
    | none =>
      simp only [e] at q
      exact q.elim
    | some cl =>
      simp only [e] at q
      cases cl with
      | ins C' fs =>
        by_cases hC : C' = C ∧ fs.lookup m = none
        · simp only [if_pos hC] at q
          obtain ⟨rfl, hl⟩ := hC
          obtain ⟨a, dx, vs, rfl, ha, h2, h3⟩ := rd_ins A.sim e rd
          exact c n a dx vs rfl rfl h2 ((RFs.lookup (f := m) h3).2 hl) q
        · simp only [if_neg hC] at q
          exact q.elim
      | _ => exact q.elim
  | _ => exact q.elim
theorem ie_meth {pl : Sem Bool} (ho : IE X W o fo) (c : Cls X.K (He.ga X.K C)) (hm : Meth X.K (He.ga X.K C) m f) (G : FnG X.prog X.w X.K X.mg X.base k f fd ps (spI X.K ps.length F)) (hr : RoomG k X.A) (hb : Binds X.K fd ps []) (tk : Takes X W) (ha : IA X W (e :: es) fa)
    (hst : starEach (e :: es) X.env = (false, eval e X.env) :: starEach es X.env := by rfl) (hpl : (backTo pos (starEach es X.env)).any (·.1) = false := by rfl)
    (ht : eval (.Call (.Attribute o m apos) (e :: es) [] pos) X.env = (do
      let obj ← eval o X.env
      standAt apos.atName
      let (fn, ahead) ← holding [obj] (getMethod obj m pl)
      callWith pos fn ahead (backTo pos (starEach (e :: es) X.env)) (backToKw pos (keywordEach [] X.env))) := by rfl) :
    IE X W (.Call (.Attribute o m apos) (e :: es) [] pos) (methC C m ps.length F fo fa) := pe_imp (pe_methG ho c hm G hr hb tk ha hst hpl ht) fun σ H Q h => by
  obtain ⟨io, r, st, A, q⟩ := h
  refine bindV A q fun i1 H1 v d st1 g1 A1 rd q1 => ?_
  refine recv A1 rd q1 fun i a dx fs hd hv h1 h2 q2 => ?_
  subst hd hv
  refine ⟨a, dx, fs, rfl, h1, h2, ?_⟩
  refine bindL A1 q2 fun i2 H2 vs ds st2 g2 A2 r2 q3 => ?_
  by_cases hn : (D.loc i :: ds).length = ps.length
  · rw [if_pos hn] at q3
    exact spI_of (ds := .loc i :: ds) A2.sim ⟨_, vs, rfl, rd.mono g2, r2⟩ hn q3
  · rw [if_neg hn] at q3
    exact q3.elim
theorem ie_meth0 {pl : Sem Bool} (ho : IE X W o fo) (c : Cls X.K (He.ga X.K C)) (hm : Meth X.K (He.ga X.K C) m f) (G : FnG X.prog X.w X.K X.mg X.base k f fd ps (spI X.K ps.length F)) (hr : RoomG k X.A) (hb : Binds X.K fd ps []) (tk : Takes X W)
    (ht : eval (.Call (.Attribute o m apos) [] [] pos) X.env = (do
      let obj ← eval o X.env
      standAt apos.atName
      let (fn, ahead) ← holding [obj] (getMethod obj m pl)
      callWith pos fn ahead (backTo pos (starEach [] X.env)) (backToKw pos (keywordEach [] X.env))) := by rfl) :
    IE X W (.Call (.Attribute o m apos) [] [] pos) (methC C m ps.length F fo nilA) := pe_imp (pe_methG0 ho c hm G hr hb tk ht) fun σ H Q h => by
  obtain ⟨io, r, st, A, q⟩ := h
  refine bindV A q fun i1 H1 v d st1 g1 A1 rd q1 => ?_
  refine recv A1 rd q1 fun i a dx fs hd hv h1 h2 q2 => ?_
  subst hd hv
  refine ⟨a, dx, fs, rfl, h1, h2, ?_⟩
  have q3 : PostV X.K W σ Q i1 H1 (if (D.loc i :: []).length = ps.length then F [.loc i] st1 else .bad) := q2
  by_cases hn : (D.loc i :: []).length = ps.length
  · rw [if_pos hn] at q3
    exact spI_of (ds := [.loc i]) A1.sim ⟨_, [], rfl, rd, rfl⟩ hn q3
  · rw [if_neg hn] at q3
    exact q3.elim
/-- C(e, ..): a new instance, then __init__ -/
def makeE (C : Str) (n : Nat) (F : List D → Store → Res D) (fa : MA) : ME := fun r st => (fa r st).bind fun ds st1 => if ds.length + 1 = n then
  (match F (.loc st1.length :: ds) (st1 ++ [.ins C []]) with
    | .ok .non st2 => .ok (.loc st1.length) st2
    | .er x st2 => .er x st2
    | _ => .bad) else .bad
theorem run_makeG {pins : List (Addr × Obj)} {σ : L2.St} {H : Hp} {s : Shared} {Q : VK} {us : List Value} {vs : List V} {sp : Sp} {Ca : Addr} (M : Mk X.K Ca f) (G : FnG X.prog X.w X.K X.mg X.base k f fd ps sp) (hr : RoomG (k + 1) X.A) (hb : Binds X.K fd ps []) (tk : Takes X W)
    (I : L2.Inv X pins σ H s) (rel : Vals vs us)
    (h : ∀ x dx, H x = none → H dx = none → dx ≠ x → sp (.ref x :: vs) (upd (upd H dx (.own x)) x (.ins Ca dx [])) (fun v H2 => v = .non ∧ Q (.ref x) H2) (WE W σ)) :
    wpAny (model X.prog X.w) X.A (call (.ref Ca) us) (EP X pins σ Q) X.xe s := by
  have want := h (s.heap.objs.size + 1) s.heap.objs.size (I.hok.fresh (Nat.le_succ _)) (I.hok.fresh (Nat.le_refl _)) (Nat.ne_of_lt (Nat.lt_succ_self _))
  have I2 := L2.Inv.made (C := Ca) I
  have rel2 : Vals (V.ref (s.heap.objs.size + 1) :: vs) (Value.ref (s.heap.objs.size + 1) :: us) := .cons rfl rel
  have hl : (Value.ref (s.heap.objs.size + 1) :: us).length = ps.length := by rw [← rel2.length]; exact G.len _ _ _ _ want
  have bnd := hb _ (Value.ref (s.heap.objs.size + 1) :: us) I2.kIn (by rw [List.append_nil]; exact hl)
  rw [List.append_nil] at bnd
  refine wpAny_call (make_map (f := f) I.kIn M.makes M.init (beq_iff_eq.mp M.fn) (codeAny_mono (G.run _ X.stack _ _ ⟨Value.ref (s.heap.objs.size + 1) :: us, []⟩ _ _ _ (WE W σ) (hr.make Ca us []) (I2.env0.make Ca us []) bnd rel2 want) fun r s' got => ?_))
  cases r with
  | error e => exact passAt tk σ pins _ _ e s' I2 got
  | ok fl =>
    cases fl with
    | ret u =>
      obtain ⟨v, H', I3, rv, ev, q3⟩ := I2.after got
      subst ev
      exact ⟨rv, ⟨V.ref (s.heap.objs.size + 1), H', I3, rfl, q3⟩⟩
    | next => exact got.elim
    | brk => exact got.elim
    | cont => exact got.elim
theorem ie_make (M : Mk X.K (He.ga X.K C) f) (G : FnG X.prog X.w X.K X.mg X.base k f fd ps (spI X.K ps.length F)) (hr : RoomG (k + 1) X.A) (hg : Gl X x) (hm : X.mg x = some (.ref (He.ga X.K C))) (hb : Binds X.K fd ps []) (tk : Takes X W) (ha : IA X W (e :: es) fa)
    (hdb : (x == ("__debug__" : Str)) = false := by decide) (hs : starEach (e :: es) X.env = (false, eval e X.env) :: starEach es X.env := by rfl) (hpl : (backTo pos (starEach es X.env)).any (·.1) = false := by rfl) :
    IE X W (.Call (.Name x p) (e :: es) [] pos) (makeE C ps.length F fa) := by
  have pe : ∀ t, PA X (e :: es) t → PE X (.Call (.Name x p) (e :: es) [] pos) (fun σ H Q => t σ H fun vs H1 => ∀ x dx, H1 x = none → H1 dx = none → dx ≠ x →
      spI X.K ps.length F (.ref x :: vs) (upd (upd H1 dx (.own x)) x (.ins (He.ga X.K C) dx [])) (fun v H2 => v = .non ∧ Q (.ref x) H2) (WE W σ)) := fun t ht => by
    refine ⟨fun pins s σ H Q I h => wpAny_Call_Name_kw (ld_glob I hg hm ?_ hdb)⟩
    refine PySem.W.callWith_K (h₀ := X.base) I.ok.mod.kin M.kp (thn (ht.run pos pins s σ H _ I h) fun us s1 got => ?_) hs hpl
    obtain ⟨vs, H1, I1, rel, q⟩ := got
    exact ⟨I1.kIn, run_makeG M G hr hb tk I1 rel q⟩
  refine pe_imp (pe _ ha) fun σ H Q h => ?_
  obtain ⟨io, r, st, A, q⟩ := h
  refine bindL A q fun i1 H1 vs ds st1 g1 A1 r1 q1 => ?_
  intro a dx ha hdx hne
  by_cases hn : ds.length + 1 = ps.length
  · rw [if_pos hn] at q1
    have hdx' : upd H1 dx (.own a) a = none := by rw [upd_ne (Ne.symm hne)]; exact ha
    have S1 : Sim X.K i1 (upd H1 dx (.own a)) st1 := A1.sim.other hdx
    have g2 : Ge i1 H1 (i1 ++ [a]) (upd (upd H1 dx (.own a)) a (.ins (He.ga X.K C) dx [])) := (Ge.new hdx).trans (Ge.newL hdx')
    have S2 : Sim X.K (i1 ++ [a]) (upd (upd H1 dx (.own a)) a (.ins (He.ga X.K C) dx [])) (st1 ++ [.ins C []]) := S1.new hdx' ⟨dx, [], upd_same, rfl⟩
    have hi : (i1 ++ [a])[st1.length]? = some a := by rw [← A1.sim.len]; simp
    refine ⟨i1 ++ [a], st1 ++ [.ins C []], .loc st1.length :: ds, S2, ⟨_, vs, rfl, ⟨a, hi, rfl⟩, r1.mono g2⟩, by have := r1.length; simp; omega, ?_⟩
    cases z : F (.loc st1.length :: ds) (st1 ++ [.ins C []]) with
    | ok d st2 =>
      rw [z] at q1
      cases d with
      | non =>
        intro i3 H3 v g3 S3 rd
        exact ⟨rd, q1 i3 H3 _ (g2.trans g3) S3 ⟨a, g3.at_ hi, rfl⟩⟩
      | _ => exact q1.elim
    | er y st2 =>
      rw [z] at q1
      exact fun i3 H3 cls d g3 S3 rx => q1 i3 H3 cls d (g2.trans g3) S3 rx
    | bad =>
      rw [z] at q1
      exact q1.elim
  · rw [if_neg hn] at q1
    exact q1.elim
end
end Dn


set_option Elab.async false
set_option linter.all false
set_option maxRecDepth 100000
set_option maxHeartbeats 4000000
set_option autoImplicit false
/-! Dn, part F: statements, walks, loops, list comprehensions. -/
namespace Dn
open PySem PySem.Spec PyProof.Rows L2

/-! ### statements -/
def skip : MS := fun r st => .nx r st
def seqS (a b : MS) : MS := fun r st => match a r st with
  | .nx r1 st1 => b r1 st1
  | y => y
def retS (a : ME) : MS := fun r st => stE r (a r st) fun d st1 => .rt d st1
def exprS (a : ME) : MS := fun r st => stE r (a r st) fun _ st1 => .nx r st1
def setS (i : Nat) (a : ME) : MS := fun r st => stE r (a r st) fun d st1 => .nx (r.set i (some d)) st1
def ifS (c : MT) (a b : MS) : MS := fun r st => stT r (c r st) fun k st1 => if k = true then a r st1 else b r st1
def never : MS := fun _ _ => .bad
def brkS : MS := fun r st => .bk r st
def ctS : MS := fun r st => .ct r st
/-- a, b = x, y -/
def parS (i j : Nat) (a : MA) : MS := fun r st => stA r (a r st) fun ds st1 => match ds with
  | [x, y] => .nx ((r.set i (some x)).set j (some y)) st1
  | _ => .bad
/-- where something is stored -/
inductive Tg where
  | nm (i : Nat) | tp (is : List Nat)
def putAll : List Nat → List D → Env → Env
  | i :: is, d :: ds, r => putAll is ds (r.set i (some d))
  | _, _, r => r
def Tg.put : Tg → D → Env → Option Env
  | .nm i, d, r => some (r.set i (some d))
  | .tp is, .tup ds, r => if ds.length = is.length then some (putAll is ds r) else none
  | _, _, _ => none
def Tg.slots : Tg → List Nat
  | .nm i => [i]
  | .tp is => is
def asgS (t : Tg) (a : ME) : MS := fun r st => stE r (a r st) fun d st1 => match t.put d r with
  | some r1 => .nx r1 st1
  | none => .bad
/-- o[i] = e, o a list -/
def itemS (o i v : ME) : MS := fun r st => stE r (v r st) fun z st1 => stE r (o r st1) fun d st2 => stE r (i r st2) fun k st3 => match d, k with
  | .loc n, .int j => match cellL st3 n with
    | some ds => (match ixN ds.length j with
      | some p => .nx r (st3.set n (.lst (ds.set p z)))
      | none => .bad)
    | none => .bad
  | _, _ => .bad

section
variable {X : Cx} {W : WX} {K : PySem.W.Frag} {a b e : Expr} {fa fb : ME} {pos : Pos} {k : Nat} {sa sb : MS} {st1 : Stmt} {rest p q : List Stmt} {c : Expr} {fc : MT}
theorem iss_nil : ISs X W [] skip := pss_imp pss_nil fun D0 σ H h => by
  obtain ⟨io, r, st, A, q⟩ := h
  exact q io H σ Ge.refl A.sim A.env
theorem iss_cons (h1 : IS X W st1 sa) (h2 : ISs X W rest sb) : ISs X W (st1 :: rest) (seqS sa sb) := pss_imp (pss_cons h1 h2) fun D0 σ H h => by
  obtain ⟨io, r, st, A, q⟩ := h
  refine ⟨io, r, st, A, ?_⟩
  unfold seqS at q
  cases e : sa r st with
  | nx r1 st1 =>
    rw [e] at q
    exact fun i1 H1 σ1 g S R => ⟨i1, r1, st1, ⟨S, R⟩, PostS.mono g q⟩
  | _ =>
    rw [e] at q
    exact q
theorem iss_one (h1 : IS X W st1 sa) : ISs X W [st1] sa := pss_one h1
theorem is_pass : IS X W (.Pass pos) skip := ps_imp ps_pass fun D0 σ H h => by
  obtain ⟨io, r, st, A, q⟩ := h
  exact q io H σ Ge.refl A.sim A.env
theorem is_break : IS X W (.Break pos) brkS := ps_imp ps_break fun D0 σ H h => by
  obtain ⟨io, r, st, A, q⟩ := h
  exact q io H σ Ge.refl A.sim A.env
theorem is_continue : IS X W (.Continue pos) ctS := ps_imp ps_continue fun D0 σ H h => by
  obtain ⟨io, r, st, A, q⟩ := h
  exact q io H σ Ge.refl A.sim A.env
theorem is_doc {x : Str} {j : Nat} {pos' : Pos} : IS X W (.Expr (.Constant (.str x) j pos) pos') skip := ps_imp ps_doc fun D0 σ H h => by
  obtain ⟨io, r, st, A, q⟩ := h
  exact q io H σ Ge.refl A.sim A.env
theorem is_never : IS X W st1 never := ps_imp ps_never fun D0 σ H h => by
  obtain ⟨io, r, st, A, q⟩ := h
  exact q
theorem iss_never : ISs X W rest never := pss_imp pss_never fun D0 σ H h => by
  obtain ⟨io, r, st, A, q⟩ := h
  exact q
theorem is_ret (h : IE X W a fa) : IS X W (.Return (some a) pos) (retS fa) := ps_imp (ps_ret h) fun D0 σ H h => by
  obtain ⟨io, r, st, A, q⟩ := h
  exact bindVS A q fun i1 H1 v d st1 g1 A1 rd q1 => q1 i1 H1 v Ge.refl A1.sim rd
theorem is_retN : IS X W (.Return none pos) (fun _ st => .rt .non st) := ps_imp ps_retN fun D0 σ H h => by
  obtain ⟨io, r, st, A, q⟩ := h
  exact q io H .non Ge.refl A.sim rfl
theorem is_expr (h : IE X W a fa) (hs : swapsWith a none pos.line X.env = pure false := by rfl) : IS X W (.Expr a pos) (exprS fa) := ps_imp (ps_expr h hs) fun D0 σ H h => by
  obtain ⟨io, r, st, A, q⟩ := h
  exact bindVS A q fun i1 H1 v d st1 g1 A1 rd q1 => q1 i1 H1 σ Ge.refl A1.sim A1.env
theorem is_set {i : Nat} {x : Str} {pos' : Pos} (hN : X.N.Nodup) (h : IE X W a fa) (hi : X.N[i]? = some x := by rfl) (hx : Loc X.env.scope x := by first | exact Or.inl rfl | exact Or.inr rfl) (hs : swapsWith a (some (.Name x pos')) pos.line X.env = pure false := by rfl) (hf : X.fn x = true ∨ X.env.scope.names.lookup x = some .local := by first | exact .inl rfl | exact .inr rfl | assumption) :
    IS X W (.Assign [.Name x pos'] a pos) (setS i fa) := ps_imp (ps_set hN hi hx h hs hf) fun D0 σ H h => by
  obtain ⟨io, r, st, A, q⟩ := h
  exact bindVS A q fun i1 H1 v d st1 g1 A1 rd q1 => q1 i1 H1 _ Ge.refl A1.sim (A1.env.set rd i)
theorem is_if (hc : IT X W c fc) (ha : ISs X W p sa) (hb : ISs X W q sb) : IS X W (.If c p q pos) (ifS fc sa sb) := ps_imp (ps_if hc ha hb) fun D0 σ H h => by
  obtain ⟨io, r, st, A, q⟩ := h
  refine bindTS A q fun i1 H1 b st1 g1 A1 q1 => ?_
  cases b with
  | true => exact ⟨i1, r, st1, A1, q1⟩
  | false => exact ⟨i1, r, st1, A1, q1⟩
theorem is_par {i j : Nat} {x y : Str} {px py pt : Pos} {kt k2 : Nat} {pt2 : Pos} {f : MA} (hc : X.calm = true) (hN : X.N.Nodup) (ha : IA X W [a, b] f) (hi : X.N[i]? = some x := by rfl) (hj : X.N[j]? = some y := by rfl) (hij : i ≠ j := by decide)
    (hx : X.env.scope.names.lookup x = some .local := by rfl) (hy : X.env.scope.names.lookup y = some .local := by rfl)
    (hw : swappedStores [.Tuple [.Name x px, .Name y py] kt pt] (.Tuple [a, b] k2 pt2) X.env = pure (some [x, y]) := by rfl)
    (hs : swapsWithSole [.Tuple [.Name x px, .Name y py] kt pt] (.Tuple [a, b] k2 pt2) pos.line X.env = pure false := by rfl) :
    IS X W (.Assign [.Tuple [.Name x px, .Name y py] kt pt] (.Tuple [a, b] k2 pt2) pos) (parS i j f) := ps_imp (ps_par hc hN hi hj hij hx hy ha hw hs) fun D0 σ H h => by
  obtain ⟨io, r, st, A, q⟩ := h
  refine bindLS A q fun i1 H1 vs ds st1 g1 A1 rd q1 => ?_
  match ds, rd, q1 with
  | [x, y], ⟨v, _, e1, r1, w, _, e2, r2, e3⟩, q1 =>
    have e3 : _ = _ := e3
    subst e1 e2 e3
    exact ⟨v, w, rfl, q1 i1 H1 _ Ge.refl A1.sim ((A1.env.set r1 i).set r2 j)⟩
  | [], _, q1 => exact q1.elim
  | [_], _, q1 => exact q1.elim
  | _ :: _ :: _ :: _, _, q1 => exact q1.elim
/-! ### targets -/
/-- what a target takes -/
structure ITg (X : Cx) (tg : Expr) (t : Tg) : Prop where
  ex : ∃ g, PG X tg g ∧ ∀ (d : D) (v : V) (r r' : Env) (io : List Addr) (H : Hp) (σ : L2.St) (Q : L2.St → Hp → Prop), RD X.K io H d v → RE X.K io H r σ → t.put d r = some r' →
    (∀ σ', RE X.K io H r' σ' → (∀ vs, (∀ i ∈ t.slots, i ∈ vs) → wipe σ' vs = wipe σ vs) → Q σ' H) → g v σ H Q
theorem wipe_set {σ : L2.St} {i : Nat} {x : Option V} : ∀ {vs : List Nat}, i ∈ vs → wipe (σ.set i x) vs = wipe σ vs
  | [], h => by cases h
  | v :: vs, h => by
    unfold wipe
    by_cases hm : i ∈ vs
    · rw [wipe_set hm]
    · have e : i = v := by
        rcases List.mem_cons.mp h with e | e
        · exact e
        · exact absurd e hm
      subst e
      rw [wipe_comm hm, List.set_set]
where
  wipe_comm {σ : L2.St} {i : Nat} {x : Option V} : ∀ {vs : List Nat}, i ∉ vs → wipe (σ.set i x) vs = (wipe σ vs).set i x
    | [], _ => rfl
    | v :: vs, h => by
      unfold wipe
      have h1 : i ≠ v := fun e => h (by rw [e]; exact List.mem_cons_self)
      have h2 : i ∉ vs := fun m => h (List.mem_cons_of_mem _ m)
      rw [wipe_comm h2, List.set_comm _ _ h1]
theorem tg_nm {i : Nat} {x : Str} {pos' : Pos} (hN : X.N.Nodup) (hi : X.N[i]? = some x := by rfl) (hx : Loc X.env.scope x := by first | exact Or.inl rfl | exact Or.inr rfl) (hf : X.fn x = true ∨ X.env.scope.names.lookup x = some .local := by first | exact .inl rfl | exact .inr rfl | assumption) :
    ITg X (.Name x pos') (.nm i) := ⟨_, pg_name hN hi hx hf, fun d v r r' io H σ Q rd re e q => by
  cases e
  exact q _ (re.set rd i) fun vs hv => wipe_set (hv i List.mem_cons_self)⟩
/-- several names -/
structure ITgs (X : Cx) (ts : List Expr) (is : List Nat) : Prop where
  ex : ∃ g, PGs X ts g ∧ ∀ (ds : List D) (us : List V) (r : Env) (io : List Addr) (H : Hp) (σ : L2.St) (Q : L2.St → Hp → Prop), RDs X.K io H ds us → RE X.K io H r σ → ds.length = is.length →
    (∀ σ', RE X.K io H (putAll is ds r) σ' → (∀ vs, (∀ i ∈ is, i ∈ vs) → wipe σ' vs = wipe σ vs) → Q σ' H) → g us σ H Q
theorem tgs_nil : ITgs X [] [] := ⟨_, pgs_nil, fun ds us r io H σ Q rd re hl q => by
  match ds, rd, hl with
  | [], rd, _ => exact ⟨rd, q σ re fun _ _ => rfl⟩⟩
theorem tgs_cons {t : Expr} {ts : List Expr} {i : Nat} {is : List Nat} (h1 : ITg X t (.nm i)) (h2 : ITgs X ts is)
    (hs : (assignEach (t :: ts) X.env).map (·.2) = assign t X.env :: (assignEach ts X.env).map (·.2) := by rfl) : ITgs X (t :: ts) (i :: is) := by
  obtain ⟨g1, p1, k1⟩ := h1.ex
  obtain ⟨g2, p2, k2⟩ := h2.ex
  refine ⟨_, pgs_cons p1 p2 hs, fun ds us r io H σ Q rd re hl q => ?_⟩
  match ds, rd, hl, q with
  | d :: ds, ⟨v, vr, e, rv, rr⟩, hl, q =>
    refine ⟨v, vr, e, k1 d v r _ io H σ _ rv re rfl fun σ1 re1 w1 => k2 ds vr _ io H σ1 Q rr re1 (by simpa using hl) fun σ2 re2 w2 => q σ2 re2 fun vs hv => ?_⟩
    rw [w2 vs fun j hj => hv j (List.mem_cons_of_mem _ hj), w1 vs fun j hj => hv j (by
      have e : j = i := by simpa [Tg.slots] using hj
      rw [e]
      exact List.mem_cons_self)]
theorem tg_tp {ts : List Expr} {is : List Nat} {kk : Nat} (hc : X.calm = true) (h : ITgs X ts is) (hn : (assignEach ts X.env).length = is.length := by rfl) (hst : (assignEach ts X.env).findIdx? (·.1) = none := by rfl) : ITg X (.Tuple ts kk pos) (.tp is) := by
  obtain ⟨g, p, k⟩ := h.ex
  refine ⟨_, pg_tup hc p hn hst, fun d v r r' io H σ Q rd re e q => ?_⟩
  cases d with
  | tup ds =>
    have e : (if ds.length = is.length then some (putAll is ds r) else none) = some r' := e
    by_cases hl : ds.length = is.length
    · rw [if_pos hl] at e
      cases e
      obtain ⟨a, us, rfl, h1, h2⟩ := rd
      exact ⟨a, us, rfl, h1, by rw [← h2.length]; exact hl, k ds us r io H σ Q h2 re hl q⟩
    · rw [if_neg hl] at e
      cases e
  | _ => cases e
theorem is_asg {tg : Expr} {t : Tg} (hg : ITg X tg t) (h : IE X W a fa) (hs : swapsWithSole [tg] a pos.line X.env = pure false := by rfl) (hw : swappedStores [tg] a X.env = pure none := by rfl)
    (h1 : (assignEach [tg] X.env).map (·.2) = [assign tg X.env] := by rfl) : IS X W (.Assign [tg] a pos) (asgS t fa) := by
  obtain ⟨g, p, k⟩ := hg.ex
  refine ps_imp (ps_asg h p hs hw h1) fun D0 σ H h => ?_
  obtain ⟨io, r, st, A, q⟩ := h
  refine bindVS A q fun i1 H1 v d st1 g1 A1 rd q1 => ?_
  cases e : t.put d r with
  | none =>
    rw [e] at q1
    exact q1.elim
  | some r1 =>
    rw [e] at q1
    exact k d v r r1 i1 H1 σ _ rd A1.env e fun σ' re _ => q1 i1 H1 σ' Ge.refl A1.sim re
/-! ### walks -/
abbrev MW := Env → Store → Res (List D × List (Nat × List D))
def Oks (oks : List (Nat × List D)) (st : Store) : Prop := ∀ p ∈ oks, st[p.1]? = some (.lst p.2)
structure Wlk (K : PySem.W.Frag) (io0 : List Addr) (H0 : Hp) (J : It) (vals : List D) (oks : List (Nat × List D)) : Prop where
  go : ∀ (i : Nat) (d : D) (io : List Addr) (H : Hp) (st : Store), vals[i]? = some d → Ge io0 H0 io H → Sim K io H st → Oks oks st → J.go i H
  yld : ∀ (i : Nat) (d : D) (io : List Addr) (H : Hp) (st : Store) (x : V) (H' : Hp), vals[i]? = some d → Ge io0 H0 io H → Sim K io H st → Oks oks st → J.yld i H x H' → Ge io H io H' ∧ Sim K io H' st ∧ RD K io H' d x
  stop : ∀ (i : Nat) (io : List Addr) (H : Hp) (st : Store), vals.length ≤ i → Ge io0 H0 io H → Sim K io H st → Oks oks st → J.stop i H
def tI (K : PySem.W.Frag) (W : WX) (f : MW) : TI := fun σ H R => ∃ io r st, At K io r st σ H ∧ match f r st with
  | .ok (vals, oks) st1 => ∀ io1 H1 J, Ge io H io1 H1 → Sim K io1 H1 st1 → Wlk K io1 H1 J vals oks → R J H1
  | .er x st1 => ∀ io' H' cls dx, Ge io H io' H' → Sim K io' H' st1 → RX K io' H' x cls dx → W cls dx σ H'
  | .bad => False
def II (X : Cx) (W : WX) (tg iter : Expr) (f : MW) : Prop := PI X tg iter (tI X.K W f)
theorem pi_imp {tg iter : Expr} {t u : TI} (h : PI X tg iter t) (k : ∀ σ H R, u σ H R → t σ H R) : PI X tg iter u := ⟨fun pins s σ H R I q => h.run pins s σ H R I (k σ H R q)⟩
theorem pi_or {tg iter : Expr} {t u : TI} (h : PI X tg iter t) (h2 : PI X tg iter u) : PI X tg iter (fun σ H R => t σ H R ∨ u σ H R) := ⟨fun pins s σ H R I q => q.elim (h.run pins s σ H R I) (h2.run pins s σ H R I)⟩
def chars (x : Str) : List D := x.cps.toList.map fun c => .str ⟨#[c]⟩
def seqW (f : ME) : MW := fun r st => (f r st).bind fun d st1 => match d with
  | .str z => .ok (chars z, []) st1
  | .tup ds => .ok (ds, []) st1
  | .rol ds => .ok (ds, []) st1
  | .loc n => match cellL st1 n with
    | some ds => .ok (ds, [(n, ds)]) st1
    | none => .bad
  | _ => .bad
def rngW1 (f : MA) : MW := fun r st => (f r st).bind fun ds st1 => match ds with
  | [.int j] => if -(2 ^ 62) ≤ j ∧ j < 2 ^ 62 then .ok ((List.range j.toNat).map fun i => .int (i : Nat), []) st1 else .bad
  | _ => .bad
def rngW2 (f : MA) : MW := fun r st => (f r st).bind fun ds st1 => match ds with
  | [.int i, .int j] => if -(2 ^ 62) ≤ i ∧ i < 2 ^ 62 ∧ -(2 ^ 62) ≤ j ∧ j < 2 ^ 62 then .ok ((List.range (j - i).toNat).map fun k => .int (i + (k : Nat)), []) st1 else .bad
  | _ => .bad
def pairs : List D → List D → List D
  | x :: xs, y :: ys => .tup [x, y] :: pairs xs ys
  | _, _ => []
/-- zip of two tuples or of two lists -/
def zipW (f : MA) : MW := fun r st => (f r st).bind fun ds st1 => match ds with
  | [.tup xs, .tup ys] => .ok (pairs xs ys, []) st1
  | [.loc m, .loc n] => (match cellL st1 m, cellL st1 n with
    | some xs, some ys => .ok (pairs xs ys, [(m, xs), (n, ys)]) st1
    | _, _ => .bad)
  | _ => .bad
section
variable {tg : Expr}
theorem pairs_get : ∀ {xs ys : List D} {i : Nat} {d : D}, (pairs xs ys)[i]? = some d → ∃ x y, xs[i]? = some x ∧ ys[i]? = some y ∧ d = .tup [x, y]
  | [], _, _, _, h => by simp [pairs] at h
  | _ :: _, [], _, _, h => by simp [pairs] at h
  | x :: xs, y :: ys, 0, d, h => by
    have e : D.tup [x, y] = d := by simpa [pairs] using h
    exact ⟨x, y, rfl, rfl, e.symm⟩
  | x :: xs, y :: ys, i + 1, d, h => by
    have h' : (pairs xs ys)[i]? = some d := by simpa [pairs] using h
    obtain ⟨x', y', h1, h2, h3⟩ := pairs_get h'
    exact ⟨x', y', by simpa using h1, by simpa using h2, h3⟩
theorem pairs_end : ∀ {xs ys : List D} {i : Nat}, (pairs xs ys).length ≤ i → xs.length ≤ i ∨ ys.length ≤ i
  | [], _, _, _ => .inl (Nat.zero_le _)
  | _ :: _, [], _, _ => .inr (Nat.zero_le _)
  | x :: xs, y :: ys, 0, h => by simp [pairs] at h
  | x :: xs, y :: ys, i + 1, h => by
    have h' : (pairs xs ys).length ≤ i := by simpa [pairs] using h
    rcases pairs_end h' with h | h
    · exact .inl (by simpa using h)
    · exact .inr (by simpa using h)
/-- a static list that is walked -/
theorem wlk_list {io0 : List Addr} {H0 : Hp} {ad : Addr} {vs : List V} {ds : List D} {oks : List (Nat × List D)} (hs : ∀ io H st, Ge io0 H0 io H → Sim K io H st → Oks oks st → ∃ vs, SqL K H ad vs ∧ RDs K io H ds vs) : Wlk K io0 H0 (Itl K ad) ds oks where
  go := fun i d io H st hd g S ok => by
    obtain ⟨vs, h1, h2⟩ := hs io H st g S ok
    obtain ⟨v, h3, _⟩ := h2.get hd
    exact ⟨vs, v, h1, h3⟩
  yld := fun i d io H st x H' hd g S ok y => by
    obtain ⟨vs, h1, h2⟩ := hs io H st g S ok
    obtain ⟨v, h3, h4⟩ := h2.get hd
    obtain ⟨e, y⟩ := y
    subst e
    have e := y vs h1
    rw [h3] at e
    cases e
    exact ⟨Ge.refl, S, h4⟩
  stop := fun i io H st hl g S ok => by
    obtain ⟨vs, h1, h2⟩ := hs io H st g S ok
    exact ⟨vs, h1, by rw [← h2.length]; exact hl⟩
theorem wlk_tup {io0 : List Addr} {H0 : Hp} {ad : Addr} {vs : List V} {ds : List D} (h1 : SqT K H0 ad vs) (h2 : RDs K io0 H0 ds vs) : Wlk K io0 H0 (Itt K ad) ds [] where
  go := fun i d io H st hd g S ok => by
    obtain ⟨v, h3, _⟩ := h2.get hd
    exact ⟨vs, v, g.sqT h1, h3⟩
  yld := fun i d io H st x H' hd g S ok y => by
    obtain ⟨v, h3, h4⟩ := h2.get hd
    obtain ⟨e, y⟩ := y
    subst e
    have e := y vs (g.sqT h1)
    rw [h3] at e
    cases e
    exact ⟨Ge.refl, S, h4.mono g⟩
  stop := fun i io H st hl g S ok => ⟨vs, g.sqT h1, by rw [← h2.length]; exact hl⟩
theorem wlk_str {io0 : List Addr} {H0 : Hp} {z : Str} : Wlk K io0 H0 (Its z) (chars z) [] where
  go := fun i d io H st hd g S ok => by
    have hl : i < (chars z).length := (List.getElem?_eq_some_iff.mp hd).1
    show i < z.cps.size
    simpa [chars] using hl
  yld := fun i d io H st x H' hd g S ok y => by
    obtain ⟨e, c, hc, hx⟩ := y
    subst e hx
    have e : D.str ⟨#[c]⟩ = d := by
      unfold chars at hd
      rw [List.getElem?_map] at hd
      have : z.cps.toList[i]? = some c := by simpa using hc
      rw [this] at hd
      exact Option.some.inj hd
    subst e
    exact ⟨Ge.refl, S, rfl⟩
  stop := fun i io H st hl g S ok => by
    show z.cps.size ≤ i
    simpa [chars] using hl
theorem wlk_rng {io0 : List Addr} {H0 : Hp} {lo : Int} {n : Nat} : Wlk K io0 H0 (Itr lo n) ((List.range n).map fun i => .int (lo + (i : Nat))) [] where
  go := fun i d io H st hd g S ok => by
    have hl := (List.getElem?_eq_some_iff.mp hd).1
    show i < n
    simpa using hl
  yld := fun i d io H st x H' hd g S ok y => by
    obtain ⟨e, hx⟩ := y
    subst e hx
    rw [List.getElem?_map] at hd
    have hl : i < n := by
      by_cases c : i < n
      · exact c
      · rw [List.getElem?_eq_none (by simpa using c)] at hd
        cases hd
    rw [List.getElem?_range hl] at hd
    have e := Option.some.inj hd
    subst e
    exact ⟨Ge.refl, S, rfl⟩
  stop := fun i io H st hl g S ok => by
    show n ≤ i
    simpa using hl
theorem wlk_zipT {io0 : List Addr} {H0 : Hp} {a b : Addr} {us vs : List V} {xs ys : List D} (h1 : SqT K H0 a us) (h2 : RDs K io0 H0 xs us) (h3 : SqT K H0 b vs) (h4 : RDs K io0 H0 ys vs) : Wlk K io0 H0 (RZ.ItzT K a b) (pairs xs ys) [] where
  go := fun i d io H st hd g S ok => by
    obtain ⟨x, y, q1, q2, rfl⟩ := pairs_get hd
    obtain ⟨u, q3, _⟩ := h2.get q1
    obtain ⟨v, q4, _⟩ := h4.get q2
    exact ⟨us, vs, u, v, g.sqT h1, g.sqT h3, q3, q4⟩
  yld := fun i d io H st x H' hd g S ok y => by
    obtain ⟨x1, y1, q1, q2, rfl⟩ := pairs_get hd
    obtain ⟨u, q3, k3⟩ := h2.get q1
    obtain ⟨v, q4, k4⟩ := h4.get q2
    obtain ⟨T, u', v', rfl, hT, rfl, w1, w2⟩ := y
    have e1 := w1 us (g.sqT h1)
    rw [q3] at e1
    cases e1
    have e2 := w2 vs (g.sqT h3)
    rw [q4] at e2
    cases e2
    have g2 : Ge io H io (upd H T (.tup [u, v])) := Ge.new hT
    exact ⟨g2, S.other hT, T, [u, v], rfl, .inl (.inl upd_same), u, [v], rfl, (k3.mono g).mono g2, v, [], rfl, (k4.mono g).mono g2, rfl⟩
  stop := fun i io H st hl g S ok => by
    refine ⟨us, vs, g.sqT h1, g.sqT h3, ?_⟩
    rw [← h2.length, ← h4.length]
    exact pairs_end hl
theorem ii_seq (h : IE X W a fa) : II X W tg a (seqW fa) := by
  refine pi_imp (pi_or (pi_str (tg := tg) h) (pi_or (pi_tup (tg := tg) h) (pi_list (tg := tg) h))) fun σ H R h => ?_
  obtain ⟨io, r, st, A, q⟩ := h
  unfold seqW at q
  cases e : fa r st with
  | bad =>
    rw [e] at q
    exact q.elim
  | er x st1 =>
    rw [e] at q
    refine .inl ⟨io, r, st, A, ?_⟩
    rw [e]
    exact q
  | ok d st1 =>
    rw [e] at q
    cases d with
    | str z =>
      refine .inl ⟨io, r, st, A, ?_⟩
      rw [e]
      intro i1 H1 v g S rd
      exact ⟨z, rd, q i1 H1 _ g S wlk_str⟩
    | tup ds =>
      refine .inr (.inl ⟨io, r, st, A, ?_⟩)
      rw [e]
      intro i1 H1 v g S rd
      obtain ⟨ad, vs, rfl, h1, h2⟩ := rd
      exact ⟨ad, rfl, ⟨vs, h1⟩, q i1 H1 _ g S (wlk_tup h1 h2)⟩
    | rol ds =>
      refine .inr (.inr ⟨io, r, st, A, ?_⟩)
      rw [e]
      intro i1 H1 v g S rd
      obtain ⟨ad, vs, rfl, h1, h2⟩ := rd
      exact ⟨ad, rfl, ⟨vs, h1.sqL⟩, q i1 H1 _ g S (wlk_list (vs := vs) fun io' H' st' g' _ _ => ⟨vs, (g'.roL h1).sqL, h2.mono g'⟩)⟩
    | loc n =>
      cases hc : cellL st1 n with
      | none =>
        simp only [Res.bind, hc] at q
      | some ds =>
        simp only [Res.bind, hc] at q
        refine .inr (.inr ⟨io, r, st, A, ?_⟩)
        rw [e]
        intro i1 H1 v g S rd
        obtain ⟨ad, vs, rfl, ha, h1, h2⟩ := rd_cell S hc rd
        refine ⟨ad, rfl, ⟨vs, SqL.of h1⟩, q i1 H1 _ g S (wlk_list (vs := vs) fun io' H' st' g' S' ok => ?_)⟩
        have ec := ok (n, ds) List.mem_cons_self
        obtain ⟨a', ha', vs', k1, k2⟩ := S'.get ec
        rw [g'.at_ ha] at ha'
        cases ha'
        exact ⟨vs', SqL.of k1, k2⟩
    | _ => exact q.elim
end
end
end Dn


set_option Elab.async false
set_option linter.all false
set_option maxRecDepth 100000
set_option maxHeartbeats 4000000
set_option autoImplicit false
/-! Dn, part G: range, zip, enumerate; loops; list comprehensions. -/
namespace Dn
open PySem PySem.Spec PyProof.Rows L2
section
variable {X : Cx} {W : WX} {K : PySem.W.Frag} {a b e : Expr} {fa fb : ME} {pos : Pos} {k : Nat} {sa sb : MS} {st1 : Stmt} {rest p q : List Stmt} {c : Expr} {fc : MT}
section
variable {tg : Expr} {f : MA} {p0 : Pos} {e2 : Expr}
/-- a walk's arguments -/
theorem tL_walk {kf : List D → Store → Res (List D × List (Nat × List D))} {io : List Addr} {H : Hp} {r : Env} {st : Store} {σ : L2.St} {R : It → Hp → Prop} {P : List V → Hp → Prop} (A : At X.K io r st σ H)
    (q : match (f r st).bind kf with
      | .ok (vals, oks) st1 => ∀ io1 H1 J, Ge io H io1 H1 → Sim X.K io1 H1 st1 → Wlk X.K io1 H1 J vals oks → R J H1
      | .er x st1 => ∀ io' H' cls dx, Ge io H io' H' → Sim X.K io' H' st1 → RX X.K io' H' x cls dx → W cls dx σ H'
      | .bad => False)
    (c : ∀ ds st1 vals oks, kf ds st1 = .ok (vals, oks) st1 → (∀ io1 H1 J, Ge io H io1 H1 → Sim X.K io1 H1 st1 → Wlk X.K io1 H1 J vals oks → R J H1) → ∀ i1 H1 vs, Ge io H i1 H1 → Sim X.K i1 H1 st1 → RDs X.K i1 H1 ds vs → P vs H1)
    (k1 : ∀ ds st1 y, kf ds st1 = y → (∃ z, y = .ok z st1) ∨ y = .bad) : tL X.K W f σ H P := by
  refine tL_then A ?_
  cases e : f r st with
  | bad => rw [e] at q; exact q.elim
  | er x st1 => rw [e] at q; exact q
  | ok ds st1 =>
    rw [e] at q
    intro i1 H1 vs g1 A1 rd
    have q' : match kf ds st1 with
      | .ok (vals, oks) st1 => ∀ io1 H1 J, Ge io H io1 H1 → Sim X.K io1 H1 st1 → Wlk X.K io1 H1 J vals oks → R J H1
      | .er x st1 => ∀ io' H' cls dx, Ge io H io' H' → Sim X.K io' H' st1 → RX X.K io' H' x cls dx → W cls dx σ H'
      | .bad => False := q
    rcases k1 ds st1 _ rfl with ⟨⟨vals, oks⟩, e2⟩ | e2
    · rw [e2] at q'
      exact c ds st1 vals oks e2 q' i1 H1 vs g1 A1.sim rd
    · rw [e2] at q'
      exact q'.elim
theorem ii_rng1 (hg : Gl X "range") (hm : X.mg "range" = none) (ha : IA X W [a] f) (hs : starEach [a] X.env = [(false, eval a X.env)] := by rfl) : II X W tg (.Call (.Name "range" p0) [a] [] pos) (rngW1 f) := by
  refine pi_imp (pi_range1 hg hm ha hs) fun σ H R h => ?_
  obtain ⟨io, r, st, A, q⟩ := h
  refine tL_walk A q (fun ds st1 vals oks e q1 i1 H1 vs g1 S1 rd => ?_) fun ds st1 y e => ?_
  · split at e
    · rename_i j
      split at e
      · rename_i hj
        cases e
        obtain ⟨v, _, e1, e2, e3⟩ := rd
        have e2 : _ = _ := e2
        have e3 : _ = _ := e3
        subst e1 e2 e3
        refine ⟨j, rfl, hj.1, hj.2, q1 i1 H1 _ g1 S1 ?_⟩
        have w := wlk_rng (K := X.K) (io0 := i1) (H0 := H1) (lo := 0) (n := j.toNat)
        simpa using w
      · cases e
    · cases e
  · subst e
    repeat' split
    all_goals first | exact .inl ⟨_, rfl⟩ | exact .inr rfl
theorem ii_rng2 (hg : Gl X "range") (hm : X.mg "range" = none) (ha : IA X W [a, e2] f) (hs : starEach [a, e2] X.env = [(false, eval a X.env), (false, eval e2 X.env)] := by rfl) (hs2 : starEach [e2] X.env = [(false, eval e2 X.env)] := by rfl) : II X W tg (.Call (.Name "range" p0) [a, e2] [] pos) (rngW2 f) := by
  refine pi_imp (pi_range2 hg hm ha hs hs2) fun σ H R h => ?_
  obtain ⟨io, r, st, A, q⟩ := h
  refine tL_walk A q (fun ds st1 vals oks e q1 i1 H1 vs g1 S1 rd => ?_) fun ds st1 y e => ?_
  · split at e
    · rename_i i j
      split at e
      · rename_i hj
        cases e
        obtain ⟨v, _, e1, e2, u, _, e3, e4, e5⟩ := rd
        have e2 : _ = _ := e2
        have e4 : _ = _ := e4
        have e5 : _ = _ := e5
        subst e1 e2 e3 e4 e5
        exact ⟨i, j, rfl, hj, q1 i1 H1 _ g1 S1 wlk_rng⟩
      · cases e
    · cases e
  · subst e
    repeat' split
    all_goals first | exact .inl ⟨_, rfl⟩ | exact .inr rfl
theorem wlk_zipL {io0 : List Addr} {H0 : Hp} {a b : Addr} {m n : Nat} {xs ys : List D} (h1 : io0[m]? = some a) (h2 : io0[n]? = some b) : Wlk K io0 H0 (Itz K a b) (pairs xs ys) [(m, xs), (n, ys)] := by
  have get : ∀ {io H st}, Ge io0 H0 io H → Sim K io H st → Oks [(m, xs), (n, ys)] st → ∃ us vs, H a = some (.lst us) ∧ RDs K io H xs us ∧ H b = some (.lst vs) ∧ RDs K io H ys vs := by
    intro io H st g S ok
    obtain ⟨a', ha', us, k1, k2⟩ := S.get (ok (m, xs) List.mem_cons_self)
    rw [g.at_ h1] at ha'
    cases ha'
    obtain ⟨b', hb', vs, k3, k4⟩ := S.get (ok (n, ys) (by simp))
    rw [g.at_ h2] at hb'
    cases hb'
    exact ⟨us, vs, k1, k2, k3, k4⟩
  constructor
  · intro i d io H st hd g S ok
    obtain ⟨us, vs, k1, k2, k3, k4⟩ := get g S ok
    obtain ⟨x, y, q1, q2, rfl⟩ := pairs_get hd
    obtain ⟨u, q3, _⟩ := k2.get q1
    obtain ⟨v, q4, _⟩ := k4.get q2
    exact ⟨us, vs, u, v, SqL.of k1, SqL.of k3, q3, q4⟩
  · intro i d io H st x H' hd g S ok y
    obtain ⟨us, vs, k1, k2, k3, k4⟩ := get g S ok
    obtain ⟨x1, y1, q1, q2, rfl⟩ := pairs_get hd
    obtain ⟨u, q3, t3⟩ := k2.get q1
    obtain ⟨v, q4, t4⟩ := k4.get q2
    obtain ⟨T, u', v', rfl, hT, rfl, w1, w2⟩ := y
    have e1 := w1 us (SqL.of k1)
    rw [q3] at e1
    cases e1
    have e2 := w2 vs (SqL.of k3)
    rw [q4] at e2
    cases e2
    have g2 : Ge io H io (upd H T (.tup [u, v])) := Ge.new hT
    exact ⟨g2, S.other hT, T, [u, v], rfl, .inl (.inl upd_same), u, [v], rfl, t3.mono g2, v, [], rfl, t4.mono g2, rfl⟩
  · intro i io H st hl g S ok
    obtain ⟨us, vs, k1, k2, k3, k4⟩ := get g S ok
    refine ⟨us, vs, SqL.of k1, SqL.of k3, ?_⟩
    rw [← k2.length, ← k4.length]
    exact pairs_end hl
theorem ii_zip {elts : List Expr} {kk : Nat} {tpos : Pos} (hg : Gl X "zip") (hm : X.mg "zip" = none) (ha : IA X W [a, e2] f)
    (hs : starEach [a, e2] X.env = (false, eval a X.env) :: starEach [e2] X.env := by rfl) (hpl : (backTo pos (starEach [e2] X.env)).any (·.1) = false := by rfl) :
    II X W (.Tuple elts kk tpos) (.Call (.Name "zip" p0) [a, e2] [] pos) (zipW f) := by
  refine pi_imp (RZ.pi_zipA hg hm ha hs hpl) fun σ H R h => ?_
  obtain ⟨io, r, st, A, q⟩ := h
  refine tL_walk A q (fun ds st1 vals oks e q1 i1 H1 vs g1 S1 rd => ?_) fun ds st1 y e => ?_
  · split at e
    · rename_i xs ys
      cases e
      obtain ⟨v, _, e1, ⟨a1, us, e2, k1, k2⟩, u, _, e3, ⟨b1, ws, e4, k3, k4⟩, e5⟩ := rd
      have e5 : _ = _ := e5
      subst e1 e2 e3 e4 e5
      exact ⟨a1, b1, us, ws, rfl, .inr ⟨k1, k3, q1 i1 H1 _ g1 S1 (wlk_zipT k1 k2 k3 k4)⟩⟩
    · rename_i m n
      split at e
      · rename_i xs ys hm hn
        cases e
        obtain ⟨v, _, e1, rv, u, _, e3, ru, e5⟩ := rd
        have e5 : _ = _ := e5
        subst e1 e3 e5
        obtain ⟨a1, us, rfl, i1', k1, k2⟩ := rd_cell S1 hm rv
        obtain ⟨b1, ws, rfl, i2', k3, k4⟩ := rd_cell S1 hn ru
        exact ⟨a1, b1, us, ws, rfl, .inl ⟨SqL.of k1, SqL.of k3, q1 i1 H1 _ g1 S1 (wlk_zipL i1' i2')⟩⟩
      · cases e
    · cases e
  · subst e
    repeat' split
    all_goals first | exact .inl ⟨_, rfl⟩ | exact .inr rfl
def numbered : Nat → List D → List D
  | _, [] => []
  | n, d :: ds => .tup [.int (n : Nat), d] :: numbered (n + 1) ds
theorem numbered_get : ∀ {ds : List D} {n i : Nat} {d : D}, (numbered n ds)[i]? = some d → ∃ x, ds[i]? = some x ∧ d = .tup [.int ((n + i : Nat) : Int), x]
  | [], _, _, _, h => by simp [numbered] at h
  | x :: xs, n, 0, d, h => by
    have e : D.tup [.int (n : Nat), x] = d := by simpa [numbered] using h
    exact ⟨x, rfl, e.symm⟩
  | x :: xs, n, i + 1, d, h => by
    have h' : (numbered (n + 1) xs)[i]? = some d := by simpa [numbered] using h
    obtain ⟨x', h1, h2⟩ := numbered_get h'
    exact ⟨x', by simpa using h1, by rw [h2, show n + 1 + i = n + (i + 1) by omega]⟩
theorem numbered_len : ∀ {ds : List D} {n : Nat}, (numbered n ds).length = ds.length
  | [], _ => rfl
  | _ :: ds, n => by simp [numbered, numbered_len]
/-- enumerate of a list -/
def enumW (f : MA) : MW := fun r st => (f r st).bind fun ds st1 => match ds with
  | [.rol xs] => .ok (numbered 0 xs, []) st1
  | [.loc n] => (match cellL st1 n with
    | some xs => .ok (numbered 0 xs, [(n, xs)]) st1
    | none => .bad)
  | _ => .bad
theorem wlk_enum {io0 : List Addr} {H0 : Hp} {ad : Addr} {ds : List D} {oks : List (Nat × List D)} (hs : ∀ io H st, Ge io0 H0 io H → Sim K io H st → Oks oks st → ∃ vs, SqL K H ad vs ∧ RDs K io H ds vs) : Wlk K io0 H0 (Ite K ad) (numbered 0 ds) oks where
  go := fun i d io H st hd g S ok => by
    obtain ⟨vs, h1, h2⟩ := hs io H st g S ok
    obtain ⟨x, hx, rfl⟩ := numbered_get hd
    obtain ⟨v, h3, _⟩ := h2.get hx
    exact ⟨vs, v, h1, h3⟩
  yld := fun i d io H st x H' hd g S ok y => by
    obtain ⟨vs, h1, h2⟩ := hs io H st g S ok
    obtain ⟨z, hx, rfl⟩ := numbered_get hd
    obtain ⟨v, h3, h4⟩ := h2.get hx
    obtain ⟨T, w, rfl, hT, rfl, y⟩ := y
    have e := y vs h1
    rw [h3] at e
    cases e
    have g2 : Ge io H io (upd H T (.tup [.int (i : Nat), v])) := Ge.new hT
    refine ⟨g2, S.other hT, T, [.int (i : Nat), v], rfl, .inl (.inl upd_same), .int (i : Nat), [v], rfl, ?_, v, [], rfl, h4.mono g2, rfl⟩
    show V.int (i : Nat) = V.int ((0 + i : Nat) : Int)
    rw [Nat.zero_add]
  stop := fun i io H st hl g S ok => by
    obtain ⟨vs, h1, h2⟩ := hs io H st g S ok
    rw [numbered_len] at hl
    exact ⟨vs, h1, by rw [← h2.length]; exact hl⟩
theorem ii_enum {elts : List Expr} {kk : Nat} {tpos : Pos} (hg : Gl X "enumerate") (hm : X.mg "enumerate" = none) (ha : IA X W [a] f) (hs : starEach [a] X.env = [(false, eval a X.env)] := by rfl) :
    II X W (.Tuple elts kk tpos) (.Call (.Name "enumerate" p0) [a] [] pos) (enumW f) := by
  refine pi_imp (pi_enum hg hm ha hs) fun σ H R h => ?_
  obtain ⟨io, r, st, A, q⟩ := h
  refine tL_walk A q (fun ds st1 vals oks e q1 i1 H1 vs g1 S1 rd => ?_) fun ds st1 y e => ?_
  · split at e
    · rename_i xs
      cases e
      obtain ⟨v, _, e1, ⟨a1, us, e2, k1, k2⟩, e5⟩ := rd
      have e5 : _ = _ := e5
      subst e1 e2 e5
      exact ⟨a1, us, rfl, k1.sqL, q1 i1 H1 _ g1 S1 (wlk_enum fun io' H' st' g' _ _ => ⟨us, (g'.roL k1).sqL, k2.mono g'⟩)⟩
    · rename_i n
      split at e
      · rename_i xs hn
        cases e
        obtain ⟨v, _, e1, rv, e5⟩ := rd
        have e5 : _ = _ := e5
        subst e1 e5
        obtain ⟨a1, us, rfl, i1', k1, k2⟩ := rd_cell S1 hn rv
        refine ⟨a1, us, rfl, SqL.of k1, q1 i1 H1 _ g1 S1 (wlk_enum fun io' H' st' g' S' ok => ?_)⟩
        obtain ⟨a', ha', vs', k1, k2⟩ := S'.get (ok (n, xs) List.mem_cons_self)
        rw [g'.at_ i1'] at ha'
        cases ha'
        exact ⟨vs', SqL.of k1, k2⟩
      · cases e
    · cases e
  · subst e
    repeat' split
    all_goals first | exact .inl ⟨_, rfl⟩ | exact .inr rfl
end
/-! ### for -/
open Classical in
noncomputable def forN (oks : List (Nat × List D)) (t : Tg) (b : MS) : List D → Env → Store → SR
  | [], r, st => if Oks oks st then .nx r st else .bad
  | d :: ds, r, st => if Oks oks st then (match t.put d r with
    | some r1 => (match b r1 st with
      | .nx r2 st2 => forN oks t b ds r2 st2
      | .ct r2 st2 => forN oks t b ds r2 st2
      | .bk r2 st2 => .nx r2 st2
      | y => y)
    | none => .bad) else .bad
noncomputable def forS (t : Tg) (w : MW) (b : MS) : MS := fun r st => match w r st with
  | .ok (vals, oks) st1 => forN oks t b vals r st1
  | .er x st1 => .er x r st1
  | .bad => .bad
theorem is_for {tg iter : Expr} {t : Tg} {w : MW} {body : List Stmt} {b : MS} (hp : PassesOwn (model X.prog X.w) X.A X.env X.xe) (hc : X.calm = true) (hi : II X W tg iter w) (hg : ITg X tg t) (hb : ISs X W body b)
    (hs : ∀ x, foldedSetIterable iter X.env x = pure x := by intro _; rfl) : IS X W (.For tg iter body [] pos) (forS t w b) := by
  obtain ⟨g, p, kg⟩ := hg.ex
  refine ps_imp (ps_for hp hc hi p hb hs) fun D0 σ H h => ?_
  obtain ⟨io, r, st, A, q⟩ := h
  refine ⟨io, r, st, A, ?_⟩
  unfold forS at q
  cases e : w r st with
  | bad => rw [e] at q; exact q.elim
  | er x st1 =>
    rw [e] at q
    exact fun i1 H1 cls dx g S rx => q i1 H1 σ cls dx g S (A.env.mono g) rx
  | ok vo st1 =>
    obtain ⟨vals, oks⟩ := vo
    rw [e] at q
    intro i1 H1 J g1 S1 wk
    refine ⟨fun i m σ H => m = vals.length - i ∧ i ≤ vals.length ∧ ∃ io r st, Ge i1 H1 io H ∧ At X.K io r st σ H ∧ PostS X.K W D0 io H (forN oks t b (vals.drop i) r st), ⟨vals.length, by simp, Nat.zero_le _, i1, r, st1, Ge.refl, ⟨S1, A.env.mono g1⟩, by simpa using PostS.mono g1 q⟩, ?_⟩
    rintro i m σ2 H2 ⟨rfl, hi, io2, r2, st2, g2, A2, q2⟩
    by_cases hl : i < vals.length
    · have hd : vals[i]? = some vals[i] := by simp [hl]
      have ed : vals.drop i = vals[i] :: vals.drop (i + 1) := by simp
      rw [ed] at q2
      unfold forN at q2
      by_cases ok : Oks oks st2
      · rw [if_pos ok] at q2
        refine .inr ⟨wk.go i _ io2 H2 st2 hd g2 A2.sim ok, fun σ' H' => ∃ m', m' < vals.length - i ∧ (m' = vals.length - (i + 1) ∧ i + 1 ≤ vals.length ∧ ∃ io r st, Ge i1 H1 io H' ∧ At X.K io r st σ' H' ∧ PostS X.K W D0 io H' (forN oks t b (vals.drop (i + 1)) r st)), fun σ' H' h => h, fun x H' y => ?_⟩
        obtain ⟨g3, S3, rd⟩ := wk.yld i _ io2 H2 st2 x H' hd g2 A2.sim ok y
        cases e3 : t.put vals[i] r2 with
        | none =>
          rw [e3] at q2
          exact q2.elim
        | some r3 =>
          rw [e3] at q2
          refine kg vals[i] x r2 r3 io2 H' σ2 _ rd (A2.env.mono g3) e3 fun σ3 re3 _ => ?_
          refine ⟨io2, r3, st2, ⟨S3, re3⟩, ?_⟩
          have q3 := PostS.mono g3 q2
          cases e4 : b r3 st2 with
          | nx r4 st4 =>
            simp only [e4] at q3
            exact fun i5 H5 σ5 g5 S5 R5 => ⟨_, by omega, rfl, hl, i5, r4, st4, (g2.trans g3).trans g5, ⟨S5, R5⟩, PostS.mono g5 q3⟩
          | ct r4 st4 =>
            simp only [e4] at q3
            exact fun i5 H5 σ5 g5 S5 R5 => ⟨_, by omega, rfl, hl, i5, r4, st4, (g2.trans g3).trans g5, ⟨S5, R5⟩, PostS.mono g5 q3⟩
          | bk r4 st4 =>
            simp only [e4] at q3
            exact q3
          | rt d st4 =>
            simp only [e4] at q3
            exact q3
          | er x r4 st4 =>
            simp only [e4] at q3
            exact q3
          | bad =>
            simp only [e4] at q3
            exact q3.elim
      · rw [if_neg ok] at q2
        exact q2.elim
    · have ed : vals.drop i = [] := List.drop_eq_nil_of_le (by omega)
      rw [ed] at q2
      unfold forN at q2
      by_cases ok : Oks oks st2
      · rw [if_pos ok] at q2
        exact .inl ⟨wk.stop i io2 H2 st2 (by omega) g2 A2.sim ok, q2 io2 H2 σ2 Ge.refl A2.sim A2.env⟩
      · rw [if_neg ok] at q2
        exact q2.elim
/-! ### while -/
def whileN (c : MT) (b : MS) : Nat → Env → Store → Option SR
  | 0, _, _ => none
  | n + 1, r, st => match c r st with
    | .ok true st1 => (match b r st1 with
      | .nx r2 st2 => whileN c b n r2 st2
      | .ct r2 st2 => whileN c b n r2 st2
      | .bk r2 st2 => some (.nx r2 st2)
      | y => some y)
    | .ok false st1 => some (.nx r st1)
    | .er x st1 => some (.er x r st1)
    | .bad => some .bad
theorem whileN_up {c : MT} {b : MS} : ∀ {n : Nat} {r : Env} {st : Store} {y : SR}, whileN c b n r st = some y → whileN c b (n + 1) r st = some y
  | 0, _, _, _, h => by cases h
  | n + 1, r, st, y, h => by
    unfold whileN at h ⊢
    cases e1 : c r st with
    | ok k st1 =>
      simp only [e1] at h ⊢
      cases k with
      | false => exact h
      | true =>
        simp only at h ⊢
        cases e2 : b r st1 with
        | nx r2 st2 =>
          simp only [e2] at h ⊢
          exact whileN_up h
        | ct r2 st2 =>
          simp only [e2] at h ⊢
          exact whileN_up h
        | _ =>
          simp only [e2] at h ⊢
          exact h
    | _ =>
      simp only [e1] at h ⊢
      exact h
theorem whileN_mono {c : MT} {b : MS} {n m : Nat} {r : Env} {st : Store} {y : SR} (hl : n ≤ m) (h : whileN c b n r st = some y) : whileN c b m r st = some y := by
  induction hl with
  | refl => exact h
  | step _ ih => exact whileN_up ih
open Classical in
noncomputable def whileS (c : MT) (b : MS) : MS := fun r st => if h : ∃ n y, whileN c b n r st = some y then Classical.choose (Classical.choose_spec h) else .bad
theorem whileS_of {c : MT} {b : MS} {n : Nat} {r : Env} {st : Store} {y : SR} (h : whileN c b n r st = some y) : whileS c b r st = y := by
  have hx : ∃ n y, whileN c b n r st = some y := ⟨n, y, h⟩
  unfold whileS
  rw [dif_pos hx]
  have h2 := Classical.choose_spec (Classical.choose_spec hx)
  have a := whileN_mono (Nat.le_max_left n (Classical.choose hx)) h
  have b := whileN_mono (Nat.le_max_right n (Classical.choose hx)) h2
  rw [a] at b
  exact (Option.some.inj b).symm
theorem whileS_some {c : MT} {b : MS} {r : Env} {st : Store} (h : whileS c b r st ≠ .bad) : ∃ n, whileN c b n r st = some (whileS c b r st) := by
  by_cases hx : ∃ n y, whileN c b n r st = some y
  · obtain ⟨n, y, e⟩ := hx
    exact ⟨n, by rw [whileS_of e]; exact e⟩
  · unfold whileS at h
    rw [dif_neg hx] at h
    exact (h rfl).elim
theorem is_while {body : List Stmt} {b : MS} (hp : PassesOwn (model X.prog X.w) X.A X.env X.xe) (hc : IT X W c fc) (hb : ISs X W body b) : IS X W (.While c body [] pos) (whileS fc b) := ps_imp (ps_while hp hc hb) fun D0 σ H h => by
  obtain ⟨io, r, st, A, q⟩ := h
  have nb : whileS fc b r st ≠ .bad := fun z => by rw [z] at q; exact q
  obtain ⟨n, hn⟩ := whileS_some nb
  refine ⟨fun m σ H => ∃ io r st y, At X.K io r st σ H ∧ whileN fc b m r st = some y ∧ PostS X.K W D0 io H y, ⟨n, io, r, st, _, A, hn, q⟩, ?_⟩
  rintro m σ1 H1 ⟨i1, r1, st1, y, A1, hy, q1⟩
  cases m with
  | zero => cases hy
  | succ m =>
    refine tT_then A1 ?_
    unfold whileN at hy
    cases e1 : fc r1 st1 with
    | bad =>
      simp only [e1] at hy
      cases hy
      exact q1.elim
    | er x st2 =>
      simp only [e1] at hy
      cases hy
      exact fun i2 H2 cls dx g S rx => q1 i2 H2 σ1 cls dx g S (A1.env.mono g) rx
    | ok k st2 =>
      intro i2 H2 g2 A2
      cases k with
      | false =>
        simp only [e1] at hy
        cases hy
        rw [if_neg Bool.false_ne_true]
        exact q1 i2 H2 σ1 g2 A2.sim A2.env
      | true =>
        simp only [e1] at hy
        rw [if_pos rfl]
        refine ⟨fun σ' H' => ∃ io r st y, At X.K io r st σ' H' ∧ whileN fc b m r st = some y ∧ PostS X.K W D0 io H' y, fun σ' H' h => ⟨m, Nat.lt_succ_self _, h⟩, i2, r1, st2, A2, ?_⟩
        cases e2 : b r1 st2 with
        | nx r3 st3 =>
          simp only [e2] at hy
          exact fun i3 H3 σ3 g3 S3 R3 => ⟨i3, r3, st3, y, ⟨S3, R3⟩, hy, PostS.mono (g2.trans g3) q1⟩
        | ct r3 st3 =>
          simp only [e2] at hy
          exact fun i3 H3 σ3 g3 S3 R3 => ⟨i3, r3, st3, y, ⟨S3, R3⟩, hy, PostS.mono (g2.trans g3) q1⟩
        | bk r3 st3 =>
          simp only [e2] at hy
          cases hy
          exact PostS.mono g2 q1
        | rt d st3 =>
          simp only [e2] at hy
          cases hy
          exact PostS.mono g2 q1
        | er x r3 st3 =>
          simp only [e2] at hy
          cases hy
          exact PostS.mono g2 q1
        | bad =>
          simp only [e2] at hy
          cases hy
          exact q1.elim
/-! ### list comprehensions -/
def wipeE (r : Env) : List Nat → Env
  | [] => r
  | v :: vs => (wipeE r vs).set v none
theorem RE.wipe {io : List Addr} {H : Hp} {r : Env} {σ : L2.St} (h : RE K io H r σ) : ∀ vs : List Nat, RE K io H (wipeE r vs) (L2.wipe σ vs)
  | [] => h
  | v :: vs => by
    have ih := h.wipe vs
    unfold wipeE L2.wipe
    refine ⟨by simp [ih.len], fun j e hj => ?_⟩
    by_cases c : v = j
    · subst c
      by_cases hl : v < (wipeE r vs).length
      · rw [List.getElem?_set_self hl] at hj
        cases hj
      · rw [List.getElem?_eq_none (by simpa using hl)] at hj
        cases hj
    · rw [List.getElem?_set_ne c] at hj
      rw [List.getElem?_set_ne c]
      exact ih.at_ j e hj
open Classical in
noncomputable def lcN (oks : List (Nat × List D)) (t : Tg) (c : MT) (e : ME) (r : Env) (n : Nat) : List D → Store → Res D
  | [], st => if Oks oks st then .ok (.loc n) st else .bad
  | d :: ds, st => if Oks oks st then (match t.put d r with
    | some r1 => (match c r1 st with
      | .ok true st2 => (match e r1 st2 with
        | .ok y st3 => (match cellL st3 n with
          | some acc => if acc.length < LIM then lcN oks t c e r n ds (st3.set n (.lst (acc ++ [y]))) else .bad
          | none => .bad)
        | _ => .bad)
      | .ok false st2 => lcN oks t c e r n ds st2
      | _ => .bad)
    | none => .bad) else .bad
noncomputable def lcE (t : Tg) (w : MW) (c : MT) (e : ME) (vs : List Nat) : ME := fun r st => match w r st with
  | .ok (vals, oks) st1 => lcN oks t c e (wipeE r vs) st1.length vals (st1 ++ [.lst []])
  | .er x st1 => .er x st1
  | .bad => .bad
def yes : MT := fun _ st => .ok true st
/-- what the block's parts are -/
structure Blk (X : Cx) (scope : Scope) (tg : Expr) (ifs : List Expr) (elt : Expr) (t : Tg) (c : MT) (e : ME) : Prop where
  tg : ∀ (s : Shared) (H : Hp) (C : Addr) (cl : List (Str × Addr)) (fp : List Addr), ITg (X.blk s H scope (compEnvC scope cl C X.env) fp) tg t
  ifs : (ifs = [] ∧ c = yes) ∨ ∃ q, ifs = [q] ∧ ∀ (s : Shared) (H : Hp) (C : Addr) (cl : List (Str × Addr)) (fp : List Addr), IT (X.blk s H scope (compEnvC scope cl C X.env) fp) (fun _ _ _ _ => False) q c
  elt : ∀ (s : Shared) (H : Hp) (C : Addr) (cl : List (Str × Addr)) (fp : List Addr), IE (X.blk s H scope (compEnvC scope cl C X.env) fp) (fun _ _ _ _ => False) elt e
end
end Dn


set_option Elab.async false
set_option linter.all false
set_option maxRecDepth 100000
set_option maxHeartbeats 4000000
set_option autoImplicit false
/-! Dn, part H: the rule of list comprehensions; methods of built-in types; list stores. -/
namespace Dn
open PySem PySem.Spec PyProof.Rows L2
section
variable {X : Cx} {W : WX} {K : PySem.W.Frag}
theorem rds_of1 {io : List Addr} {H : Hp} {d : D} {v : V} (h : RD K io H d v) : RDs K io H [d] [v] := ⟨v, [], rfl, h, rfl⟩
theorem wipe_at {σ : L2.St} {i : Nat} : ∀ {vs : List Nat}, (L2.wipe σ vs)[i]? = if i ∈ vs then (σ[i]?).map (fun _ => none) else σ[i]?
  | [] => by simp [L2.wipe]
  | v :: vs => by
    unfold L2.wipe
    rw [List.getElem?_set]
    by_cases c : v = i
    · subst c
      rw [if_pos rfl, if_pos List.mem_cons_self, L2.wipe_length]
      by_cases hl : v < σ.length
      · rw [if_pos hl]
        simp [hl]
      · rw [if_neg hl]
        simp [hl]
    · rw [if_neg c, wipe_at (vs := vs)]
      have : i ≠ v := fun e => c e.symm
      simp [this]
theorem wipe_twice {σ : L2.St} {vs : List Nat} : L2.wipe (L2.wipe σ vs) vs = L2.wipe σ vs := by
  apply List.ext_getElem?
  intro i
  rw [wipe_at, wipe_at]
  by_cases c : i ∈ vs
  · rw [if_pos c, if_pos c]
    cases σ[i]? <;> rfl
  · rw [if_neg c]
/-- what a target takes, as one reading -/
def gOf (K : PySem.W.Frag) (t : Tg) : TG := fun v σ H Q => ∃ d r r' io, RD K io H d v ∧ RE K io H r σ ∧ t.put d r = some r' ∧ ∀ σ', RE K io H r' σ' → (∀ vs, (∀ i ∈ t.slots, i ∈ vs) → L2.wipe σ' vs = L2.wipe σ vs) → Q σ' H
theorem ITg.pg {tg : Expr} {t : Tg} (h : ITg X tg t) : PG X tg (gOf X.K t) := by
  obtain ⟨g, p, k⟩ := h.ex
  refine ⟨fun pins s σ H v u Q I rv q => ?_⟩
  obtain ⟨d, r, r', io, rd, re, e, q⟩ := q
  exact p.run pins s σ H v u Q I rv (k d v r r' io H σ Q rd re e q)
theorem pts_yes : PTs X [] (tT X.K W yes) := ⟨fun pins s σ H Q I q => pts_nil.run pins s σ H Q I (by
  obtain ⟨io, r, st, A, q⟩ := q
  exact q io H Ge.refl A.sim)⟩
/-- the comprehension's reading -/
theorem lc_to {t : Tg} {w : MW} {c : MT} {e : ME} {vs : List Nat} {σ : L2.St} {H : Hp} {Q : VK} (hv : ∀ i ∈ t.slots, i ∈ vs) (h : tV X.K W (lcE t w c e vs) σ H Q) :
    tLc (tI X.K W w) (gOf X.K t) (tT X.K (fun _ _ _ _ => False) c) (tV X.K (fun _ _ _ _ => False) e) vs σ H Q := by
  obtain ⟨io, r, st, A, q⟩ := h
  refine ⟨io, r, st, A, ?_⟩
  unfold lcE at q
  cases ew : w r st with
  | bad => rw [ew] at q; exact q.elim
  | er x st1 => rw [ew] at q; exact q
  | ok vo st1 =>
    obtain ⟨vals, oks⟩ := vo
    rw [ew] at q
    intro i1 H1 J g1 S1 wk D hD
    have g0 : Ge i1 H1 (i1 ++ [D]) (upd H1 D (.lst [])) := Ge.newL hD
    have S0 : Sim X.K (i1 ++ [D]) (upd H1 D (.lst [])) (st1 ++ [.lst []]) := S1.new hD ⟨[], upd_same, rfl⟩
    have hiD : (i1 ++ [D])[st1.length]? = some D := by rw [← S1.len]; simp
    have re0 := ((A.env.mono g1).mono g0).wipe vs
    have q0 : PostV X.K W σ Q (i1 ++ [D]) (upd H1 D (.lst [])) (lcN oks t c e (wipeE r vs) st1.length vals (st1 ++ [.lst []])) := PostV.mono (g1.trans g0) q
    refine ⟨fun i m H => m = vals.length - i ∧ i ≤ vals.length ∧ ∃ io st, Ge (i1 ++ [D]) (upd H1 D (.lst [])) io H ∧ Sim X.K io H st ∧ PostV X.K W σ Q io H (lcN oks t c e (wipeE r vs) st1.length (vals.drop i) st), ⟨vals.length, by simp, Nat.zero_le _, _, _, Ge.refl, S0, by simpa using q0⟩, ?_⟩
    rintro i m H2 ⟨rfl, hi, io2, st2, g2, S2, q2⟩
    by_cases hl : i < vals.length
    · have hd : vals[i]? = some vals[i] := by simp [hl]
      have ed : vals.drop i = vals[i] :: vals.drop (i + 1) := by simp
      rw [ed] at q2
      unfold lcN at q2
      by_cases ok : Oks oks st2
      · rw [if_pos ok] at q2
        refine .inr ⟨wk.go i _ io2 H2 st2 hd (g0.trans g2) S2 ok, fun H' => ∃ m', m' < vals.length - i ∧ (m' = vals.length - (i + 1) ∧ i + 1 ≤ vals.length ∧ ∃ io st, Ge (i1 ++ [D]) (upd H1 D (.lst [])) io H' ∧ Sim X.K io H' st ∧ PostV X.K W σ Q io H' (lcN oks t c e (wipeE r vs) st1.length (vals.drop (i + 1)) st)), fun H' h => h, fun x H' y => ?_⟩
        obtain ⟨g3, S3, rd⟩ := wk.yld i _ io2 H2 st2 x H' hd (g0.trans g2) S2 ok y
        cases e3 : t.put vals[i] (wipeE r vs) with
        | none =>
          rw [e3] at q2
          exact q2.elim
        | some r3 =>
          rw [e3] at q2
          refine ⟨vals[i], wipeE r vs, r3, io2, rd, (re0.mono g2).mono g3, e3, fun σ3 re3 hw => ⟨?_, ?_⟩⟩
          · rw [hw vs hv, wipe_twice]
          · have q3 := PostV.mono g3 q2
            refine ⟨io2, r3, st2, ⟨S3, re3⟩, ?_⟩
            cases e4 : c r3 st2 with
            | bad =>
              simp only [e4] at q3
              exact q3.elim
            | er y st4 =>
              simp only [e4] at q3
              exact q3.elim
            | ok k st4 =>
              simp only [e4] at q3
              intro i4 H4 g4 S4
              cases k with
              | false =>
                rw [if_neg Bool.false_ne_true]
                exact ⟨_, by omega, rfl, hl, i4, st4, (g2.trans g3).trans g4, S4, PostV.mono g4 q3⟩
              | true =>
                rw [if_pos rfl]
                refine ⟨i4, r3, st4, ⟨S4, re3.mono g4⟩, ?_⟩
                cases e5 : e r3 st4 with
                | bad =>
                  simp only [e5] at q3
                  exact q3.elim
                | er y st5 =>
                  simp only [e5] at q3
                  exact q3.elim
                | ok y st5 =>
                  simp only [e5] at q3
                  intro i5 H5 v5 g5 S5 rd5
                  cases e6 : cellL st5 st1.length with
                  | none =>
                    simp only [e6] at q3
                    exact q3.elim
                  | some acc =>
                    simp only [e6] at q3
                    by_cases hL : acc.length < LIM
                    · rw [if_pos hL] at q3
                      obtain ⟨a, ha, us, k1, k2⟩ := S5.get (cellL_some e6)
                      have gg := ((g2.trans g3).trans g4).trans g5
                      rw [gg.at_ hiD] at ha
                      cases ha
                      have hu := Ge.upd_ (o := .lst (us ++ [v5])) S5 (cellL_some e6) (gg.at_ hiD)
                      refine ⟨us, k1, by rw [← k2.length]; exact lim_lt (Nat.le_of_lt hL), _, by omega, rfl, hl, i5, st5.set st1.length (.lst (acc ++ [y])), gg.trans hu, ?_, PostV.mono ((g4.trans g5).trans hu) q3⟩
                      exact S5.upd_ (cellL_some e6) (gg.at_ hiD) ⟨_, upd_same, (k2.append (rds_of1 rd5)).mono hu⟩
                    · rw [if_neg hL] at q3
                      exact q3.elim
      · rw [if_neg ok] at q2
        exact q2.elim
    · have ed : vals.drop i = [] := List.drop_eq_nil_of_le (by omega)
      rw [ed] at q2
      unfold lcN at q2
      by_cases ok : Oks oks st2
      · rw [if_pos ok] at q2
        refine .inl ⟨wk.stop i io2 H2 st2 (by omega) (g0.trans g2) S2 ok, q2 io2 H2 _ Ge.refl S2 ⟨D, g2.at_ hiD, rfl⟩⟩
      · rw [if_neg ok] at q2
        exact q2.elim
variable {elt tg iter : Expr} {ifs : List Expr} {scope : Scope} {own : List (Str × Nat)} {pos : Pos} {t : Tg} {w : MW} {c : MT} {e : ME}
theorem Blk.pts (B : Blk X scope tg ifs elt t c e) (s : Shared) (H : Hp) (C : Addr) (cl : List (Str × Addr)) (fp : List Addr) : PTs (X.blk s H scope (compEnvC scope cl C X.env) fp) ifs (tT X.K (fun _ _ _ _ => False) c) := by
  rcases B.ifs with ⟨h1, h2⟩ | ⟨q, h1, h2⟩
  · subst h1 h2
    exact pts_yes
  · subst h1
    exact pts_one (h2 s H C cl fp)
theorem ie_lc (hc : X.calm = true) (hN : X.N.Nodup) (hi : II X W tg iter w) (B : Blk X scope tg ifs elt t c e) (ok : BlkOk X.N X.env.scope scope own) (hv : ∀ i ∈ t.slots, i ∈ own.map (·.2) := by decide) (hs : ∀ x, foldedSetIterable iter X.env x = pure x := by intro _; rfl) :
    IE X W (.ListComp elt [⟨tg, iter, ifs, 0⟩] scope pos) (lcE t w c e (own.map (·.2))) :=
  pe_imp (pe_lc (te := tV X.K (fun _ _ _ _ => False) e) hc hN hi ok (fun s H C cl fp => (B.tg s H C cl fp).pg) (fun s H C cl fp => B.pts s H C cl fp) (fun s H C cl fp => B.elt s H C cl fp) hs) fun σ H Q h => lc_to hv h
theorem is_setLc {i : Nat} {y : Str} {py spos : Pos} (hc : X.calm = true) (hN : X.N.Nodup) (hi : II X W tg iter w) (B : Blk X scope tg ifs elt t c e) (ok : BlkOk X.N X.env.scope scope own)
    (hsw : swapsWith (.ListComp elt [⟨tg, iter, ifs, 0⟩] scope pos) (some (.Name y py)) spos.line X.env = pure true)
    (hy : X.N[i]? = some y := by rfl) (hyl : X.env.scope.names.lookup y = some .local := by rfl) (hv : ∀ i ∈ t.slots, i ∈ own.map (·.2) := by decide) (hs : ∀ x, foldedSetIterable iter X.env x = pure x := by intro _; rfl) :
    IS X W (.Assign [.Name y py] (.ListComp elt [⟨tg, iter, ifs, 0⟩] scope pos) spos) (setS i (lcE t w c e (own.map (·.2)))) :=
  ps_imp (ps_setLc (te := tV X.K (fun _ _ _ _ => False) e) hc hN hy hyl hsw hi ok (fun s H C cl fp => (B.tg s H C cl fp).pg) (fun s H C cl fp => B.pts s H C cl fp) (fun s H C cl fp => B.elt s H C cl fp) hs) fun D0 σ H h => by
    obtain ⟨io, r, st, A, q⟩ := h
    exact lc_to hv (bindVS A q fun i1 H1 v d st1 g1 A1 rd q1 => q1 i1 H1 _ Ge.refl A1.sim (A1.env.set rd i))

/-! ### o[i] = e, o a list -/
variable {o i v : Expr} {fo fi fv : ME} {pos' : Pos}
theorem is_item (ho : IE X W o fo) (hi : IE X W i fi) (hv : IE X W v fv) (hs : swapsWithSole [.Subscript o i pos'] v pos.line X.env = pure false := by rfl) (hw : swappedStores [.Subscript o i pos'] v X.env = pure none := by rfl)
    (h1 : (assignEach [.Subscript o i pos'] X.env).map (·.2) = [assign (.Subscript o i pos') X.env] := by rfl)
    (ha : ∀ v, assign (.Subscript o i pos') X.env v = (do
      let ov ← holding [v] (eval o X.env)
      let iv ← holding [v, ov] (eval i X.env)
      standAt pos'
      holding [v, ov, iv] (setItem ov iv v)
      release [v, ov, iv] []) := by intro _; rfl) : IS X W (.Assign [.Subscript o i pos'] v pos) (itemS fo fi fv) :=
  ps_imp (ps_asg hv (pg_sub ho hi set_list ha) hs hw h1) fun D0 σ H h => by
    obtain ⟨io, r, st, A, q⟩ := h
    refine bindVS A q fun i1 H1 u z st1 g1 A1 rz q1 => ?_
    refine bindVS A1 q1 fun i2 H2 u2 d st2 g2 A2 rd q2 => ?_
    refine bindVS A2 q2 fun i3 H3 u3 k st3 g3 A3 rk q3 => ?_
    split at q3
    · rename_i n j
      split at q3
      · rename_i ds hc
        split at q3
        · rename_i p hp
          obtain ⟨a, vs, rfl, ha', h1, h2⟩ := rd_cell A3.sim hc (rd.mono g3)
          have gg := Ge.upd_ (o := .lst (vs.set p u)) A3.sim (cellL_some hc) ha'
          refine ⟨a, vs, j, p, rfl, rk, h1, by rw [← h2.length]; exact hp, ?_⟩
          exact q3 i3 _ σ gg (A3.sim.upd_ (cellL_some hc) ha' ⟨_, upd_same, (RDs.set ((rz.mono g2).mono g3) p h2).mono gg⟩) (A3.env.mono gg)
        · exact q3.elim
      · exact q3.elim
    · exact q3.elim
/-! ### methods of built-in types -/
variable {e1 : Expr} {es : List Expr} {fs : MA} {name : Str} {apos cpos : Pos} {T id : String} {g : D → List D → Store → Res D}
theorem meth_to {io : List Addr} {H : Hp} {r : Env} {st : Store} {σ : L2.St} {Q : VK} (he : ∀ x ds st z st', g x ds st ≠ .er z st') (A : At X.K io r st σ H) (q : PostV X.K W σ Q io H (meth T g fo fs r st)) :
    tV X.K W fo σ H fun x H1 => tyV X.K T x H1 ∧ tL X.K W fs σ H1 fun xs H2 => rM X.K g x xs H2 Q := by
  refine bindV A q fun i1 H1 v d st1 g1 A1 rd q1 => ?_
  have fin : PostV X.K W σ Q i1 H1 ((fs r st1).bind fun ds st2 => g d ds st2) → tL X.K W fs σ H1 fun xs H2 => rM X.K g v xs H2 Q := fun q2 =>
    bindL A1 q2 fun i2 H2 vs ds st2 g2 A2 r2 q3 => ⟨i2, st2, d, ds, A2.sim, rd.mono g2, r2, postN_of (fun z st' => he d ds st2 z st') q3⟩
  cases d with
  | str z =>
    by_cases c : T = "str"
    · rw [if_pos c] at q1
      cases rd
      exact ⟨c, fin q1⟩
    · rw [if_neg c] at q1
      exact q1.elim
  | loc n =>
    by_cases c : T = "list"
    · simp only [if_pos c] at q1
      cases hc : cellL st1 n with
      | none =>
        simp only [hc] at q1
        exact q1.elim
      | some ds =>
        simp only [hc] at q1
        obtain ⟨a, vs, rfl, ha, h1, h2⟩ := rd_cell A1.sim hc rd
        exact ⟨.inl ⟨c, vs, SqL.of h1⟩, fin q1⟩
    · simp only [if_neg c] at q1
      exact q1.elim
  | _ => exact q1.elim
theorem ie_bm (pa : PlainAttrs T) (slot : Slot T name id) (hty : typeOf (.builtin id) = pure (.type "method_descriptor")) (hm : MtR X id (rM X.K g)) (he : ∀ x ds st z st', g x ds st ≠ .er z st') (ho : IE X W o fo) (ha : IA X W (e1 :: es) fs)
    (hbase : attributeBase o name X.env (eval o X.env) = eval o X.env := by rfl)
    (hfew : ((backTo cpos (starEach (e1 :: es) X.env)).all (fun x => !x.1) && (backToKw cpos (keywordEach [] X.env)).all (fun x => x.1.isSome)
      && decide ((e1 :: es).length + ([] : List Keyword).length + (if ([] : List Keyword).isEmpty then 0 else 1) < 30)) = true := by rfl)
    (hline : (apos.endLine == cpos.line) = true := by rfl) (hs : starEach (e1 :: es) X.env = (false, eval e1 X.env) :: starEach es X.env := by rfl) (hplain : (backTo cpos (starEach es X.env)).any (·.1) = false := by rfl) :
    IE X W (.Call (.Attribute o name apos) (e1 :: es) [] cpos) (meth T g fo fs) := pe_imp (pe_bm pa slot hty hm ho ha hbase hfew hline hs hplain) fun σ H Q h => by
  obtain ⟨io, r, st, A, q⟩ := h
  exact meth_to he A q
theorem ie_bm0 (pa : PlainAttrs T) (slot : Slot T name id) (hty : typeOf (.builtin id) = pure (.type "method_descriptor")) (hm : MtR X id (rM X.K g)) (he : ∀ x ds st z st', g x ds st ≠ .er z st') (ho : IE X W o fo)
    (hbase : attributeBase o name X.env (eval o X.env) = eval o X.env := by rfl) (hline : (apos.endLine == cpos.line) = true := by rfl) : IE X W (.Call (.Attribute o name apos) [] [] cpos) (meth T g fo nilA) := pe_imp (pe_bm0 pa slot hty hm ho hbase hline) fun σ H Q h => by
  obtain ⟨io, r, st, A, q⟩ := h
  have z := meth_to he A q
  obtain ⟨io', r', st', A', q'⟩ := z
  refine ⟨io', r', st', A', ?_⟩
  cases e : fo r' st' with
  | ok d st1 =>
    rw [e] at q'
    intro i1 H1 v g1 S1 rd
    obtain ⟨h1, io2, r2, st2, A2, h2⟩ := q' i1 H1 v g1 S1 rd
    exact ⟨h1, h2 io2 H1 [] Ge.refl A2.sim rfl⟩
  | er x st1 =>
    rw [e] at q'
    exact q'
  | bad =>
    rw [e] at q'
    exact q'
/-! ### list.append, list.pop(i), str.join, str.startswith -/
def appendD : D → List D → Store → Res D
  | .loc n, [y], st => match cellL st n with
    | some ds => if ds.length < LIM then .ok .non (st.set n (.lst (ds ++ [y]))) else .bad
    | none => .bad
  | _, _, _ => .bad
def popAtD : D → List D → Store → Res D
  | .loc n, [.int i], st => match cellL st n with
    | some ds => if -(2 ^ 63) ≤ i ∧ i < 2 ^ 63 then (match seqIndex? i ds.length with
      | some k => (match ds[k]? with
        | some y => .ok y (st.set n (.lst (ds.eraseIdx k)))
        | none => .bad)
      | none => .bad) else .bad
    | none => .bad
  | _, _, _ => .bad
def txts : List D → Option (List Str)
  | [] => some []
  | .str x :: ds => (txts ds).map (x :: ·)
  | _ => none
def joinD : D → List D → Store → Res D
  | .str a, [x], st => match seqD st x with
    | some ds => (match txts ds with
      | some ys => if (ys.map (·.length)).sum + ys.length * a.length ≤ LIM then .ok (.str (Txt.join a ys)) st else .bad
      | none => .bad)
    | none => .bad
  | _, _, _ => .bad
def startsD : D → List D → Store → Res D
  | .str a, [.str b], st => .ok (.bl (Txt.startswith a b)) st
  | _, _, _ => .bad
theorem er_append : ∀ x ds st z st', appendD x ds st ≠ .er z st' := by
  intro x ds st z st' h
  unfold appendD at h
  repeat' split at h
  all_goals cases h
theorem er_popAt : ∀ x ds st z st', popAtD x ds st ≠ .er z st' := by
  intro x ds st z st' h
  unfold popAtD at h
  repeat' split at h
  all_goals cases h
theorem er_join : ∀ x ds st z st', joinD x ds st ≠ .er z st' := by
  intro x ds st z st' h
  unfold joinD at h
  repeat' split at h
  all_goals cases h
theorem er_starts : ∀ x ds st z st', startsD x ds st ≠ .er z st' := by
  intro x ds st z st' h
  unfold startsD at h
  repeat' split at h
  all_goals cases h
theorem rds_one {io : List Addr} {H : Hp} {d : D} {vs : List V} (r : RDs K io H [d] vs) : ∃ v, vs = [v] ∧ RD K io H d v := by
  obtain ⟨v, _, e1, h, e2⟩ := r
  have e2 : _ = _ := e2
  subst e1 e2
  exact ⟨v, rfl, h⟩
theorem rds_two {io : List Addr} {H : Hp} {d d' : D} {vs : List V} (r : RDs K io H [d, d'] vs) : ∃ v v', vs = [v, v'] ∧ RD K io H d v ∧ RD K io H d' v' := by
  obtain ⟨v, r', e1, h, h2⟩ := r
  obtain ⟨v', e2, h'⟩ := rds_one h2
  subst e1 e2
  exact ⟨v, v', rfl, h, h'⟩
theorem txts_rd {io : List Addr} {H : Hp} : ∀ {ds : List D} {ys : List Str} {vs : List V}, txts ds = some ys → RDs K io H ds vs → vs = ys.map V.str
  | [], _, _, h, r => by
    cases h
    exact r
  | .str x :: ds, ys, vs, h, r => by
    obtain ⟨v, r', e1, h1, h2⟩ := r
    obtain ⟨zs, h3, h4⟩ := Option.map_eq_some_iff.mp h
    cases h1
    subst e1 h4
    rw [txts_rd h3 h2]
    rfl
  | .non :: _, _, _, h, _ => by cases h
  | .bl _ :: _, _, _, h, _ => by cases h
  | .int _ :: _, _, _, h, _ => by cases h
  | .ty _ :: _, _, _, h, _ => by cases h
  | .glo _ :: _, _, _, h, _ => by cases h
  | .loc _ :: _, _, _, h, _ => by cases h
  | .rol _ :: _, _, _, h, _ => by cases h
  | .tup _ :: _, _, _, h, _ => by cases h
theorem mt_appendD : MtR X "list.append" (rM X.K appendD) := by
  intro pins s σ H x xs v us Q I rx rs h
  obtain ⟨io, st, d, ds, S, rd, r2, q⟩ := h
  unfold appendD at q
  split at q
  · rename_i n y
    split at q
    · rename_i es hc
      split at q
      · rename_i hl
        obtain ⟨u, rfl, ry⟩ := rds_one r2
        obtain ⟨a, vs, rfl, ha, h1, h2⟩ := rd_cell S hc rd
        have gg := Ge.upd_ (o := .lst (vs ++ [u])) S (cellL_some hc) ha
        exact mt_append pins s σ H _ _ v us Q I rx rs ⟨a, vs, u, rfl, rfl, h1, by rw [← h2.length]; exact lim_lt (Nat.le_of_lt hl), q io _ _ gg (S.upd_ (cellL_some hc) ha ⟨_, upd_same, (h2.append (rds_of1 ry)).mono gg⟩) rfl⟩
      · exact q.elim
    · exact q.elim
  · exact q.elim
theorem rds_erase {io : List Addr} {H : Hp} : ∀ {ds : List D} {vs : List V} (k : Nat), RDs K io H ds vs → RDs K io H (ds.eraseIdx k) (vs.eraseIdx k)
  | [], _, _, h => by
    have e : _ = _ := h
    subst e
    exact rfl
  | d :: ds, _, 0, h => by
    obtain ⟨v, r, e, h1, h2⟩ := h
    subst e
    exact h2
  | d :: ds, _, k + 1, h => by
    obtain ⟨v, r, e, h1, h2⟩ := h
    subst e
    exact ⟨v, r.eraseIdx k, rfl, h1, rds_erase k h2⟩
theorem mt_popAtD : MtR X "list.pop" (rM X.K popAtD) := by
  intro pins s σ H x xs v us Q I rx rs h
  obtain ⟨io, st, d, ds, S, rd, r2, q⟩ := h
  unfold popAtD at q
  split at q
  · rename_i n i
    split at q
    · rename_i es hc
      split at q
      · rename_i hl
        split at q
        · rename_i k hk
          split at q
          · rename_i y hy
            obtain ⟨u, rfl, ry⟩ := rds_one r2
            cases ry
            obtain ⟨a, vs, rfl, ha, h1, h2⟩ := rd_cell S hc rd
            obtain ⟨z, hz, rz⟩ := h2.get hy
            have gg := Ge.upd_ (o := .lst (vs.eraseIdx k)) S (cellL_some hc) ha
            refine mt_popAt pins s σ H _ _ v us Q I rx rs ⟨a, vs, i, k, z, rfl, rfl, h1, hl.1, hl.2, by rw [← h2.length]; exact hk, hz, q io _ _ gg (S.upd_ (cellL_some hc) ha ⟨_, upd_same, (rds_erase k h2).mono gg⟩) (rz.mono gg)⟩
          · exact q.elim
        · exact q.elim
      · exact q.elim
    · exact q.elim
  · exact q.elim
theorem mt_joinD : MtR X "str.join" (rM X.K joinD) := by
  intro pins s σ H x xs v us Q I rx rs h
  obtain ⟨io, st, d, ds, S, rd, r2, q⟩ := h
  unfold joinD at q
  split at q
  · rename_i a y
    split at q
    · rename_i es hc
      split at q
      · rename_i ys hy
        split at q
        · rename_i hl
          cases rd
          obtain ⟨u, rfl, ry⟩ := rds_one r2
          obtain ⟨p, vs, rfl, h1, h2⟩ := rd_seq S hc ry
          rw [txts_rd hy h2] at h1
          exact mt_join pins s σ H _ _ v us Q I rx rs ⟨a, p, ys, rfl, rfl, h1, by have := lim_ok hl; rw [sizeLine_eq] at this; exact this, q io H _ Ge.refl S rfl⟩
        · exact q.elim
      · exact q.elim
    · exact q.elim
  · exact q.elim
theorem mt_startsD : MtR X "str.startswith" (rM X.K startsD) := by
  intro pins s σ H x xs v us Q I rx rs h
  obtain ⟨io, st, d, ds, S, rd, r2, q⟩ := h
  unfold startsD at q
  split at q
  · cases rd
    obtain ⟨u, rfl, ry⟩ := rds_one r2
    cases ry
    exact mt_startswith pins s σ H _ _ v us Q I rx rs ⟨_, _, rfl, rfl, q io H _ Ge.refl S rfl⟩
  · exact q.elim
theorem ie_append (ho : IE X W o fo) (ha : IA X W [e1] fs) (hbase : attributeBase o "append" X.env (eval o X.env) = eval o X.env := by rfl)
    (hfew : ((backTo cpos (starEach [e1] X.env)).all (fun x => !x.1) && (backToKw cpos (keywordEach [] X.env)).all (fun x => x.1.isSome)
      && decide ([e1].length + ([] : List Keyword).length + (if ([] : List Keyword).isEmpty then 0 else 1) < 30)) = true := by rfl)
    (hline : (apos.endLine == cpos.line) = true := by rfl) (hs : starEach [e1] X.env = (false, eval e1 X.env) :: starEach [] X.env := by rfl) : IE X W (.Call (.Attribute o "append" apos) [e1] [] cpos) (meth "list" appendD fo fs) :=
  ie_bm PySem.F.plainAttrs_list PySem.F.slot_list_append rfl mt_appendD er_append ho ha hbase hfew hline hs rfl
theorem ie_pop1 (ho : IE X W o fo) (ha : IA X W [e1] fs) (hbase : attributeBase o "pop" X.env (eval o X.env) = eval o X.env := by rfl)
    (hfew : ((backTo cpos (starEach [e1] X.env)).all (fun x => !x.1) && (backToKw cpos (keywordEach [] X.env)).all (fun x => x.1.isSome)
      && decide ([e1].length + ([] : List Keyword).length + (if ([] : List Keyword).isEmpty then 0 else 1) < 30)) = true := by rfl)
    (hline : (apos.endLine == cpos.line) = true := by rfl) (hs : starEach [e1] X.env = (false, eval e1 X.env) :: starEach [] X.env := by rfl) : IE X W (.Call (.Attribute o "pop" apos) [e1] [] cpos) (meth "list" popAtD fo fs) :=
  ie_bm PySem.F.plainAttrs_list PySem.F.slot_list_pop rfl mt_popAtD er_popAt ho ha hbase hfew hline hs rfl
theorem ie_join (ho : IE X W o fo) (ha : IA X W [e1] fs) (hbase : attributeBase o "join" X.env (eval o X.env) = eval o X.env := by rfl)
    (hfew : ((backTo cpos (starEach [e1] X.env)).all (fun x => !x.1) && (backToKw cpos (keywordEach [] X.env)).all (fun x => x.1.isSome)
      && decide ([e1].length + ([] : List Keyword).length + (if ([] : List Keyword).isEmpty then 0 else 1) < 30)) = true := by rfl)
    (hline : (apos.endLine == cpos.line) = true := by rfl) (hs : starEach [e1] X.env = (false, eval e1 X.env) :: starEach [] X.env := by rfl) : IE X W (.Call (.Attribute o "join" apos) [e1] [] cpos) (meth "str" joinD fo fs) :=
  ie_bm PySem.F.plainAttrs_str PySem.F.slot_str_join rfl mt_joinD er_join ho ha hbase hfew hline hs rfl
theorem ie_starts (ho : IE X W o fo) (ha : IA X W [e1] fs) (hbase : attributeBase o "startswith" X.env (eval o X.env) = eval o X.env := by rfl)
    (hfew : ((backTo cpos (starEach [e1] X.env)).all (fun x => !x.1) && (backToKw cpos (keywordEach [] X.env)).all (fun x => x.1.isSome)
      && decide ([e1].length + ([] : List Keyword).length + (if ([] : List Keyword).isEmpty then 0 else 1) < 30)) = true := by rfl)
    (hline : (apos.endLine == cpos.line) = true := by rfl) (hs : starEach [e1] X.env = (false, eval e1 X.env) :: starEach [] X.env := by rfl) : IE X W (.Call (.Attribute o "startswith" apos) [e1] [] cpos) (meth "str" startsD fo fs) :=
  ie_bm PySem.F.plainAttrs_str PySem.F.slot_str_startswith rfl mt_startsD er_starts ho ha hbase hfew hline hs rfl
end
end Dn


set_option Elab.async false
set_option linter.all false
set_option maxRecDepth 100000
set_option maxHeartbeats 4000000
set_option autoImplicit false
/-! Dn, part I: built-in functions. -/
namespace Dn
open PySem PySem.Spec PyProof.Rows L2
def lenD : List D → Store → Res D
  | [.str z], st => if z.length ≤ LIM then .ok (.int (z.length : Nat)) st else .bad
  | [x], st => match seqD st x with
    | some ds => .ok (.int (ds.length : Nat)) st
    | none => .bad
  | _, _ => .bad
def absD : List D → Store → Res D
  | [.int i], st => .ok (.int (if i < 0 then -i else i)) st
  | _, _ => .bad
def minD : List D → Store → Res D
  | [.int i, .int j], st => .ok (.int (if j < i then j else i)) st
  | _, _ => .bad
def maxD : List D → Store → Res D
  | [.int i, .int j], st => .ok (.int (if j > i then j else i)) st
  | _, _ => .bad
def intD : List D → Store → Res D
  | [.int i], st => .ok (.int i) st
  | [.bl b], st => .ok (.int (if b then 1 else 0)) st
  | [.str a], st => if a.length ≤ 640 then (match PySem.intText? a with
    | some n => .ok (.int n) st
    | none => .bad) else .bad
  | _, _ => .bad
def strD : List D → Store → Res D
  | [.int i], st => if i.natAbs.log2 < 1920 then .ok (.str (toString i)) st else .bad
  | [.str a], st => .ok (.str a) st
  | _, _ => .bad
def tupleD : List D → Store → Res D
  | [x], st => match seqD st x with
    | some ds => .ok (.tup ds) st
    | none => .bad
  | _, _ => .bad
def listD : List D → Store → Res D
  | [.str z], st => if z.length ≤ LIM then .ok (.loc st.length) (st ++ [.lst (chars z)]) else .bad
  | [x], st => match seqD st x with
    | some ds => .ok (.loc st.length) (st ++ [.lst ds])
    | none => .bad
  | _, _ => .bad
def tyD (st : Store) : D → Option String
  | .non => some "NoneType"
  | .bl _ => some "bool"
  | .int _ => some "int"
  | .str _ => some "str"
  | .tup _ => some "tuple"
  | .rol _ => some "list"
  | .loc n => match cellL st n with
    | some _ => some "list"
    | none => none
  | _ => none
def isiD : List D → Store → Res D
  | [x, .ty T], st => match tyD st x with
    | some T' => (match kitB T' T with
      | some b => .ok (.bl b) st
      | none => .bad)
    | none => .bad
  | _, _ => .bad
def isSeqD : D → Bool
  | .tup _ => true | .rol _ => true | .loc _ => true | _ => false
def reprD : List D → Store → Res D
  | [x], st => match pyD st 60 x with
    | some p => if isSeqD x = true ∧ p.showable = true ∧ p.hasDict = false ∧ p.depth ≤ 60 ∧ p.shown.length ≤ LIM then .ok (.str p.shown) st else .bad
    | none => .bad
  | _, _ => .bad
def encD (st : Store) (d : D) : PyData := (pyD st 60 d).getD .none
open Classical in
noncomputable def sortedD : List D → Store → Res D
  | [x], st => (match x with
    | .tup _ => .bad
    | _ => match seqD st x with
      | some ds => if (∀ d ∈ ds, ∃ p, pyD st 60 d = some p) ∧ PySem.W.AllAlike (ds.map (encD st)) ∧ PySem.W.Sortable (ds.map (encD st)) ∧ ds.length ≤ LIM ∧ (∀ d ∈ ds, (encD st d).depth ≤ 60)
          then .ok (.loc st.length) (st ++ [.lst (ds.mergeSort (PySem.W.dataLe false (encD st)))]) else .bad
      | none => .bad)
  | _, _ => .bad
section
variable {X : Cx} {W : WX} {K : PySem.W.Frag} {io : List Addr} {H : Hp} {st : Store} {k : Nat}
theorem er_len : ∀ ds st z st', lenD ds st ≠ .er z st' := by
  intro ds st z st' h
  unfold lenD at h
  repeat' split at h
  all_goals cases h
theorem er_abs : ∀ ds st z st', absD ds st ≠ .er z st' := by
  intro ds st z st' h
  unfold absD at h
  repeat' split at h
  all_goals cases h
theorem er_min : ∀ ds st z st', minD ds st ≠ .er z st' := by
  intro ds st z st' h
  unfold minD at h
  repeat' split at h
  all_goals cases h
theorem er_max : ∀ ds st z st', maxD ds st ≠ .er z st' := by
  intro ds st z st' h
  unfold maxD at h
  repeat' split at h
  all_goals cases h
theorem er_int : ∀ ds st z st', intD ds st ≠ .er z st' := by
  intro ds st z st' h
  unfold intD at h
  repeat' split at h
  all_goals cases h
theorem er_str : ∀ ds st z st', strD ds st ≠ .er z st' := by
  intro ds st z st' h
  unfold strD at h
  repeat' split at h
  all_goals cases h
theorem er_tuple : ∀ ds st z st', tupleD ds st ≠ .er z st' := by
  intro ds st z st' h
  unfold tupleD at h
  repeat' split at h
  all_goals cases h
theorem er_list : ∀ ds st z st', listD ds st ≠ .er z st' := by
  intro ds st z st' h
  unfold listD at h
  repeat' split at h
  all_goals cases h
theorem er_isi : ∀ ds st z st', isiD ds st ≠ .er z st' := by
  intro ds st z st' h
  unfold isiD at h
  repeat' split at h
  all_goals cases h
theorem er_repr : ∀ ds st z st', reprD ds st ≠ .er z st' := by
  intro ds st z st' h
  unfold reprD at h
  repeat' split at h
  all_goals cases h
theorem er_sorted : ∀ ds st z st', sortedD ds st ≠ .er z st' := by
  intro ds st z st' h
  unfold sortedD at h
  repeat' split at h
  all_goals cases h
theorem cr_lenD : CallR X (.builtin "len") (rC X.K lenD) := by
  intro pins s σ H xs us Q I r h
  obtain ⟨io, st, ds, S, rd, q⟩ := h
  unfold lenD at q
  split at q
  · split at q
    · rename_i hl
      obtain ⟨v, rfl, rv⟩ := rds_one rd
      cases rv
      exact call_len pins s σ H _ us Q I r ⟨_, _, rfl, ⟨lim_ok hl, rfl⟩, q io H _ Ge.refl S rfl⟩
    · exact q.elim
  · rename_i x
    split at q
    · rename_i ds hd
      obtain ⟨v, rfl, rv⟩ := rds_one rd
      obtain ⟨a, vs, rfl, h1, h2⟩ := rd_seq S hd rv
      have hl := h2.length
      refine call_len pins s σ H _ us Q I r ⟨_, ds.length, rfl, ?_, q io H _ Ge.refl S rfl⟩
      rcases h1 with h1 | h1
      · exact .inl ⟨vs, h1, hl⟩
      · exact .inr ⟨vs, h1, hl⟩
    · exact q.elim
  · exact q.elim
theorem cr_absD : CallR X (.builtin "abs") (rC X.K absD) := by
  intro pins s σ H xs us Q I r h
  obtain ⟨io, st, ds, S, rd, q⟩ := h
  unfold absD at q
  split at q
  · obtain ⟨v, rfl, rv⟩ := rds_one rd
    cases rv
    exact call_abs pins s σ H _ us Q I r ⟨_, rfl, q io H _ Ge.refl S rfl⟩
  · exact q.elim
theorem cr_minD (hc : X.calm = true) : CallR X (.builtin "min") (rC X.K minD) := by
  intro pins s σ H xs us Q I r h
  obtain ⟨io, st, ds, S, rd, q⟩ := h
  unfold minD at q
  split at q
  · obtain ⟨v, v', rfl, rv, rv'⟩ := rds_two rd
    cases rv
    cases rv'
    exact call_min2 hc pins s σ H _ us Q I r ⟨_, _, rfl, q io H _ Ge.refl S rfl⟩
  · exact q.elim
theorem cr_maxD (hc : X.calm = true) : CallR X (.builtin "max") (rC X.K maxD) := by
  intro pins s σ H xs us Q I r h
  obtain ⟨io, st, ds, S, rd, q⟩ := h
  unfold maxD at q
  split at q
  · obtain ⟨v, v', rfl, rv, rv'⟩ := rds_two rd
    cases rv
    cases rv'
    exact call_max2 hc pins s σ H _ us Q I r ⟨_, _, rfl, q io H _ Ge.refl S rfl⟩
  · exact q.elim
theorem cr_intD : CallR X (.type "int") (rC X.K intD) := by
  intro pins s σ H xs us Q I r h
  obtain ⟨io, st, ds, S, rd, q⟩ := h
  unfold intD at q
  split at q
  · obtain ⟨v, rfl, rv⟩ := rds_one rd
    cases rv
    exact call_int1 pins s σ H _ us Q I r (.inl ⟨_, rfl, q io H _ Ge.refl S rfl⟩)
  · obtain ⟨v, rfl, rv⟩ := rds_one rd
    cases rv
    exact call_int1 pins s σ H _ us Q I r (.inr ⟨_, rfl, q io H _ Ge.refl S rfl⟩)
  · split at q
    · rename_i hl
      split at q
      · rename_i n hn
        obtain ⟨v, rfl, rv⟩ := rds_one rd
        cases rv
        exact call_int_str pins s σ H _ us Q I r ⟨_, n, rfl, hn, hl, q io H _ Ge.refl S rfl⟩
      · exact q.elim
    · exact q.elim
  · exact q.elim
theorem cr_strD : CallR X (.type "str") (rC X.K strD) := by
  intro pins s σ H xs us Q I r h
  obtain ⟨io, st, ds, S, rd, q⟩ := h
  unfold strD at q
  split at q
  · split at q
    · rename_i hl
      obtain ⟨v, rfl, rv⟩ := rds_one rd
      cases rv
      exact call_str_int pins s σ H _ us Q I r ⟨_, rfl, hl, q io H _ Ge.refl S rfl⟩
    · exact q.elim
  · obtain ⟨v, rfl, rv⟩ := rds_one rd
    cases rv
    exact SkE.call_str_str pins s σ H _ us Q I r ⟨_, rfl, q io H _ Ge.refl S rfl⟩
  · exact q.elim
theorem cr_tupleD : CallR X (.type "tuple") (rC X.K tupleD) := by
  intro pins s σ H xs us Q I r h
  obtain ⟨io, st, ds, S, rd, q⟩ := h
  unfold tupleD at q
  split at q
  · rename_i x
    split at q
    · rename_i ds hd
      obtain ⟨v, rfl, rv⟩ := rds_one rd
      obtain ⟨a, vs, rfl, h1, h2⟩ := rd_seq S hd rv
      refine call_tuple_of pins s σ H _ us Q I r ⟨a, vs, rfl, ?_⟩
      rcases h1 with h1 | h1
      · exact .inl ⟨h1, fun l hl => newT S h2 hl q⟩
      · exact .inr ⟨h1, q io H _ Ge.refl S ⟨a, vs, rfl, h1, h2⟩⟩
    · exact q.elim
  · exact q.elim
theorem vals_chars {x : Str} : ∀ {l : List Value} {cs : List Nat}, l.length = cs.length → (∀ (j : Nat) (v : Value), l[j]? = some v → ∃ (c : Nat) (u : Tok), cs[j]? = some c ∧ v = Value.str ⟨#[c]⟩ u) → Vals (cs.map fun c => V.str ⟨#[c]⟩) l
  | [], [], _, _ => .nil
  | [], _ :: _, h, _ => by simp at h
  | _ :: _, [], h, _ => by simp at h
  | v :: l, c :: cs, h, k => by
    obtain ⟨c', u, e1, e2⟩ := k 0 v rfl
    have e3 : c = c' := by simpa using e1
    subst e3 e2
    exact .cons ⟨u, rfl⟩ (vals_chars (x := x) (by simpa using h) fun j v hv => by simpa using k (j + 1) v (by simpa using hv))
theorem rds_chars {cs : List Nat} : RDs K io H (cs.map fun c => D.str ⟨#[c]⟩) (cs.map fun c => V.str ⟨#[c]⟩) := by
  induction cs with
  | nil => exact rfl
  | cons c cs ih => exact ⟨_, _, rfl, rfl, ih⟩
theorem cr_listStr (hc : X.calm = true) : CallR X (.type "list") (fun xs H Q => ∃ z, xs = [.str z] ∧ z.length ≤ sizeLine ∧ ∀ p, H p = none → Q (.ref p) (upd H p (.lst (z.cps.toList.map fun c => V.str ⟨#[c]⟩)))) := by
  intro pins s σ H xs us Q I r h
  obtain ⟨z, rfl, hz, q⟩ := h
  obtain ⟨u, rfl, t, rfl⟩ := vals1 r
  refine call_list_str (I.ok.hd hc) z t (hn := hz) fun h' tk acc' c' hk hS' hacc => ?_
  have hv : Vals (z.cps.toList.map fun c => V.str ⟨#[c]⟩) acc'.toList := vals_chars (x := z) (by simp [hacc.1]) fun j v hj => by
    obtain ⟨c, u, h1, h2⟩ := hacc.2 j v (by simpa using hj)
    exact ⟨c, u, by simpa using h1, h2⟩
  exact ⟨.ref s.heap.objs.size, upd H s.heap.objs.size (.lst (z.cps.toList.map fun c => V.str ⟨#[c]⟩)), I.laid (t' := tk) hk (Nat.le_refl _) ⟨by simpa [Str.length] using hz, acc'.toList, c', hv, by simpa using hS'⟩, rfl, q _ (I.hok.fresh (Nat.le_refl _))⟩
theorem cr_listD (hc : X.calm = true) : CallR X (.type "list") (rC X.K listD) := by
  intro pins s σ H xs us Q I r h
  obtain ⟨io, st, ds, S, rd, q⟩ := h
  unfold listD at q
  split at q
  · split at q
    · rename_i hl
      obtain ⟨v, rfl, rv⟩ := rds_one rd
      cases rv
      exact cr_listStr hc pins s σ H _ us Q I r ⟨_, rfl, lim_ok hl, fun p hp => newL S rds_chars hp q⟩
    · exact q.elim
  · rename_i x
    split at q
    · rename_i ds hd
      obtain ⟨v, rfl, rv⟩ := rds_one rd
      obtain ⟨a, vs, rfl, h1, h2⟩ := rd_seq S hd rv
      exact call_list_of pins s σ H _ us Q I r ⟨a, vs, rfl, h1, fun p hp => newL S h2 hp q⟩
    · exact q.elim
  · exact q.elim
theorem ty_of (S : Sim K io H st) {d : D} {v : V} {T : String} (h : tyD st d = some T) (r : RD K io H d v) : TyX K H v (.type T) := by
  cases d with
  | non => cases r; cases h; exact .base .non
  | bl b => cases r; cases h; exact .base (.bl b)
  | int i => cases r; cases h; exact .base (.int i)
  | str x => cases r; cases h; exact .base (.str x)
  | tup ds =>
    cases h
    obtain ⟨a, vs, rfl, h1, h2⟩ := r
    rcases h1 with (h1 | ⟨o, h1⟩) | ⟨o, its, n, h1, h2, _⟩
    · exact .base (.tup h1)
    · exact .fTuple h1
    · exact .kTuple h1 h2
  | rol ds =>
    cases h
    obtain ⟨a, vs, rfl, h1, h2⟩ := r
    rcases h1 with ⟨o, h1⟩ | ⟨o, its, n, h1, h2, _⟩
    · exact .base (.frz h1)
    · exact .kList h1 h2
  | loc n =>
    have h : (match cellL st n with
      | some _ => some "list"
      | none => none) = some T := h
    cases hd : cellL st n with
    | some ds =>
      rw [hd] at h
      cases h
      obtain ⟨a, vs, rfl, _, h1, h2⟩ := rd_cell S hd r
      exact .base (.lst h1)
    | none =>
      rw [hd] at h
      cases h
  | _ => cases h
theorem cr_isiD : CallR X (.builtin "isinstance") (rC X.K isiD) := by
  intro pins s σ H xs us Q I r h
  obtain ⟨io, st, ds, S, rd, q⟩ := h
  unfold isiD at q
  split at q
  · rename_i x T
    split at q
    · rename_i T' hT
      split at q
      · rename_i b hb
        obtain ⟨v, v', rfl, rv, rv'⟩ := rds_two rd
        cases rv'
        exact call_isi pins s σ H _ us Q I r ⟨v, .ty T, .type T', .type T, b, rfl, .ty T, ty_of S hT rv, kit_ty hb, q io H _ Ge.refl S rfl⟩
      · exact q.elim
    · exact q.elim
  · exact q.elim
theorem room_u {A : Around} (h : Room k A) {n : Nat} (hn : n ≤ 62) : A.units + (n + 1) < cLine := by
  have := h.units
  omega
theorem cr_reprD (hr : RoomG k X.A) : CallR X (.builtin "repr") (rC X.K reprD) := by
  intro pins s σ H xs us Q I r h
  obtain ⟨io, st, ds, S, rd, q⟩ := h
  unfold reprD at q
  split at q
  · rename_i x
    split at q
    · rename_i p hp
      split at q
      · rename_i hq
        obtain ⟨h1, h2, h3, h4, h5⟩ := hq
        obtain ⟨v, rfl, rv⟩ := rds_one rd
        obtain ⟨u, rfl, ru⟩ := vals1 r
        have dp := dp_of S 60 x v p rv hp
        obtain ⟨as, rr⟩ := Dp.reads I p v u dp ru
        have isr : ∃ a, u = Value.ref a := by
          cases x with
          | tup _ => obtain ⟨a, _, rfl, _⟩ := rv; exact ⟨a, ru⟩
          | rol _ => obtain ⟨a, _, rfl, _⟩ := rv; exact ⟨a, ru⟩
          | loc _ => obtain ⟨a, _, rfl⟩ := rv; exact ⟨a, ru⟩
          | _ => cases h1
        obtain ⟨a, rfl⟩ := isr
        exact repr_of_reads' rr h2 (fun z => by rw [h3] at z; cases z) hr.g (room_u hr.r (by omega)) (fun _ _ e => e)
          (fun h' u tk hk => ⟨.str p.shown, H, I.kept (t' := tk) hk, ⟨u, rfl⟩, q io H _ Ge.refl S rfl⟩) (lim_ok h5)
      · exact q.elim
    · exact q.elim
  · exact q.elim
/-- what a value stands for -/
def Stands (K : PySem.W.Frag) (io : List Addr) (H : Hp) (v : Value) (d : D) : Prop := ∃ x, RelV x v ∧ RD K io H d x
theorem stands_all : ∀ {ds : List D} {xs : List V} {us : List Value}, RDs K io H ds xs → Vals xs us → PySem.W.EachIs (Stands K io H) us ds
  | [], _, _, h, r => by
    have e : _ = _ := h
    subst e
    cases r
    exact .nil
  | d :: ds, _, _, h, r => by
    obtain ⟨v, r', e, h1, h2⟩ := h
    subst e
    cases r with
    | cons r1 r2 => exact .cons ⟨v, r1, h1⟩ (stands_all h2 r2)
theorem all_stands : ∀ {us : List Value} {ds : List D}, PySem.W.EachIs (Stands K io H) us ds → ∃ xs, RDs K io H ds xs ∧ Vals xs us
  | _, _, .nil => ⟨[], rfl, .nil⟩
  | _, _, .cons ⟨x, r1, h1⟩ t => by
    obtain ⟨xs, h2, r2⟩ := all_stands t
    exact ⟨x :: xs, ⟨x, xs, rfl, h1, h2⟩, .cons r1 r2⟩
theorem each_reads {pins : List (Addr × Obj)} {σ : L2.St} {s : Shared} (I : L2.Inv X pins σ H s) (S : Sim X.K io H st) : ∀ {us : List Value} {ds : List D}, PySem.W.EachIs (Stands X.K io H) us ds → (∀ d ∈ ds, ∃ p, pyD st 60 d = some p) →
    PySem.W.EachIs (fun v b => ∃ as, Reads s.heap v (encD st b) as) us ds
  | _, _, .nil, _ => .nil
  | _, d :: _, .cons ⟨x, r1, h1⟩ t, hp => by
    obtain ⟨p, e⟩ := hp d List.mem_cons_self
    obtain ⟨as, rr⟩ := Dp.reads I p x _ (dp_of S 60 d x p h1 e) r1
    refine .cons ⟨as, ?_⟩ (each_reads I S t fun d hd => hp d (List.mem_cons_of_mem _ hd))
    unfold encD
    rw [e]
    exact rr
theorem cr_sortedD (hr : Room k X.A) : CallR X (.builtin "sorted") (rC X.K sortedD) := by
  intro pins s σ H xs us Q I r h
  obtain ⟨io, st, ds, S, rd, q⟩ := h
  unfold sortedD at q
  split at q
  · rename_i x
    split at q
    · exact q.elim
    · rename_i hx
      split at q
      · rename_i ds hd
        split at q
        · rename_i hq
          obtain ⟨h1, h2, h3, h4, h5⟩ := hq
          obtain ⟨v, rfl, rv⟩ := rds_one rd
          obtain ⟨a, vs, rfl, k1, k2⟩ := rd_seq S hd rv
          have k1' : SqL X.K H a vs := by
            cases x with
            | tup _ => exact (hx _ rfl).elim
            | rol _ =>
              cases hd
              obtain ⟨a', vs', e, k3, k4⟩ := rv
              cases e
              rcases k1 with k1 | k1
              · exact k1
              · obtain ⟨i1, _, p1, _⟩ := I.list k3.sqL
                obtain ⟨i2, _, p2, _⟩ := I.tuple k1
                obtain ⟨o, n, e1, c1, _⟩ := p1
                obtain ⟨o2, e2, c2, _⟩ := p2
                rw [e1] at e2
                cases e2
                rw [c1] at c2
                simp at c2
            | loc _ =>
              obtain ⟨a', vs', e, _, k3, k4⟩ := rd_cell S hd rv
              cases e
              rcases k1 with k1 | k1
              · exact k1
              · obtain ⟨i1, _, p1, _⟩ := I.list (SqL.of k3)
                obtain ⟨i2, _, p2, _⟩ := I.tuple k1
                obtain ⟨o, n, e1, c1, _⟩ := p1
                obtain ⟨o2, e2, c2, _⟩ := p2
                rw [e1] at e2
                cases e2
                rw [c1] at c2
                simp at c2
            | _ => cases hd
          obtain ⟨its, rw1, pl, hz⟩ := I.list k1'
          obtain ⟨u, rfl, ru⟩ := vals1 r
          obtain rfl : u = Value.ref a := ru
          have es := stands_all k2 rw1
          refine PySem.W.sorted_data (vs := its) pl.isList es (each_reads I S es h1) h2 h3 (lim_ok h4) (fun b hb => ?_) fun out hl eo => ?_
          · have := h5 b hb
            have := hr.units
            omega
          · obtain ⟨ws, w1, w2⟩ := all_stands eo
            obtain ⟨ep, he'⟩ := PyProof.Rows.sortedAll_at s.heap its out.toArray
            have hwl : ws.length ≤ sizeLine := by
              rw [w2.length, hl]
              exact lim_ok h4
            exact ⟨.ref _, upd H (s.heap.objs.size + 1) (.lst ws), I.laid (t' := s.toks) (fun _ _ => PyProof.Rows.sortedAll_old) (Nat.le_succ _) ⟨hwl, out, ep, w2, he'⟩, rfl, newL S w1 (I.hok.fresh (Nat.le_succ _)) q⟩
        · exact q.elim
      · exact q.elim
  · exact q.elim
end
end Dn


set_option Elab.async false
set_option linter.all false
set_option maxRecDepth 100000
set_option maxHeartbeats 4000000
set_option autoImplicit false
/-! Dn, part J: constants of the module, tables, the Hook with further checks, promises of defs, the end. -/
namespace Dn
open PySem PySem.Spec PyProof.Rows L2
/-! ### constants -/
mutual
def relKB (K : PySem.W.Frag) : D → Value → Bool
  | .non, .none => true
  | .bl b, .bool c => b == c
  | .int i, .int j _ => decide (i = j)
  | .str x, .str y _ => decide (x = y)
  | .tup ds, .ref a => match K.lookup a with
    | some ⟨.type c, _, .seq its _, _⟩ => decide (c = "tuple") && (decide (its.size ≤ sizeLine) && relKBs K ds its.toList)
    | _ => false
  | _, _ => false
def relKBs (K : PySem.W.Frag) : List D → List Value → Bool
  | [], [] => true
  | d :: ds, v :: vs => relKB K d v && relKBs K ds vs
  | _, _ => false
end
section
variable {K : PySem.W.Frag}
mutual
theorem relKB_ok : ∀ {d : D} {u : Value}, relKB K d u = true → ∃ v, RelV v u ∧ ∀ io H, RD K io H d v
  | .non, u, h => by
    cases u with
    | none => exact ⟨.non, rfl, fun _ _ => rfl⟩
    | _ => simp [relKB] at h
  | .bl b, u, h => by
    cases u with
    | bool c =>
      have e : b = c := by simpa [relKB] using h
      subst e
      exact ⟨.bl b, rfl, fun _ _ => rfl⟩
    | _ => simp [relKB] at h
  | .int b, u, h => by
    cases u with
    | int c t =>
      have e : b = c := by simpa [relKB] using h
      subst e
      exact ⟨.int b, ⟨t, rfl⟩, fun _ _ => rfl⟩
    | _ => simp [relKB] at h
  | .str b, u, h => by
    cases u with
    | str c t =>
      have e : b = c := by simpa [relKB] using h
      subst e
      exact ⟨.str b, ⟨t, rfl⟩, fun _ _ => rfl⟩
    | _ => simp [relKB] at h
  | .tup ds, u, h => by
    cases u with
    | ref a =>
      unfold relKB at h
      split at h
      · rename_i c od its n sl hl
        obtain ⟨h1, h2⟩ := He.ba h
        obtain ⟨h3, h4⟩ := He.ba h2
        obtain ⟨vs, r1, r2⟩ := relKBs_ok h4
        have e : c = "tuple" := of_decide_eq_true h1
        subst e
        exact ⟨.ref a, rfl, fun io H => ⟨a, vs, rfl, .inr ⟨_, its, n, hl, rfl, rfl, of_decide_eq_true h3, r1⟩, r2 io H⟩⟩
      · cases h
    | _ => simp [relKB] at h
  | .ty _, _, h => by simp [relKB] at h
  | .glo _, _, h => by simp [relKB] at h
  | .loc _, _, h => by simp [relKB] at h
  | .rol _, _, h => by simp [relKB] at h
theorem relKBs_ok : ∀ {ds : List D} {us : List Value}, relKBs K ds us = true → ∃ vs, Vals vs us ∧ ∀ io H, RDs K io H ds vs
  | [], [], _ => ⟨[], .nil, fun _ _ => rfl⟩
  | d :: ds, u :: us, h => by
    obtain ⟨h1, h2⟩ := He.ba (show (relKB K d u && relKBs K ds us) = true by simpa [relKBs] using h)
    obtain ⟨v, r1, r2⟩ := relKB_ok h1
    obtain ⟨vs, r3, r4⟩ := relKBs_ok h2
    exact ⟨v :: vs, .cons r1 r3, fun io H => ⟨v, vs, rfl, r2 io H, r4 io H⟩⟩
  | [], _ :: _, h => by simp [relKBs] at h
  | _ :: _, [], h => by simp [relKBs] at h
end
/-- the module's name x stands for the datum d -/
def conK (x : Str) (d : D) (K : PySem.W.Frag) : Bool := match PySem.W.nsIn K mainGlobals x with
  | some (some u) => relKB K d u
  | _ => false
/-- the table x has these values -/
def tabK (x : Str) (kvs : List (Str × D)) (K : PySem.W.Frag) : Bool := kvs.all fun q => match PySem.W.nsIn K (He.ga K x) q.1 with
  | some (some u) => relKB K q.2 u
  | _ => false
/-! ### the Hook -/
abbrev AlX : Type := He.AlT × List Bool
def obsX (n : Nat) (fa : List He.Fa) (fn : List He.DefD) (ts : List He.Tab) (ex : List (PySem.W.Frag → Bool)) (g : Addr → Option Obj) : AlX := (He.obsTG n fa fn ts g, ex.map fun e => e (He.frG g (He.asD g n)))
def hookX (n : Nat) (fa : List He.Fa) (fn : List He.DefD) (ts : List He.Tab) (ex : List (PySem.W.Frag → Bool)) : PySem.W.Hook where
  α := AlX
  obs := fun s => obsX n fa fn ts ex s.heap.get?
  val := fun w => (He.valT fn ts w, ex.map fun _ => true)
  says := fun w h => ∃ K : PySem.W.Frag, K.In h ∧ He.SaysT fa fn ts w K ∧ ∀ e ∈ ex, e K = true
  of := fun _ _ e => by
    obtain ⟨e1, e2⟩ := Prod.mk.inj e
    refine ⟨_, He.frG_in, e1, fun f hf => ?_⟩
    exact List.map_inj_left.mp e2 f hf
  keeps := fun _ _ _ ⟨K, hK, c⟩ k => ⟨K, PySem.W.Frag.In.keeps hK k, c⟩
theorem obsX_eq {n : Nat} {fa : List He.Fa} {fn : List He.DefD} {ts : List He.Tab} {ex : List (PySem.W.Frag → Bool)} {g : Addr → Option Obj} {s : Shared} (h : ∀ a, g a = s.heap.get? a) : obsX n fa fn ts ex g = (hookX n fa fn ts ex).obs s := by
  have e : g = s.heap.get? := funext h
  rw [e] <;> rfl
/-- what the head tells, at the module's names -/
structure GF (fa : List He.Fa) (fn : List He.DefD) (ts : List He.Tab) (ex : List (PySem.W.Frag → Bool)) (w : World) (K : PySem.W.Frag) (mg : Str → Option Value) : Prop where
  c : He.SaysT fa fn ts w K
  x : ∀ e ∈ ex, e K = true
  h : ∃ h : Heap, K.In h ∧ h.Ns mainGlobals mg
section
variable {fa : List He.Fa} {fn : List He.DefD} {ts : List He.Tab} {ex : List (PySem.W.Frag → Bool)} {w : World} {mg : Str → Option Value}
theorem GF.fact (G : GF fa fn ts ex w K mg) (i : Nat) {f : He.Fa} (h : fa[i]? = some f := by rfl) : f.ok K = true := G.c.d.fact i h
theorem GF.glo (G : GF fa fn ts ex w K mg) (i : Nat) {x : Str} (h : fa[i]? = some (.glo x) := by rfl) : mg x = some (.ref (He.ga K x)) := let ⟨_, h1, h2⟩ := G.h; He.glo_ok h1 h2 (G.fact i h)
theorem GF.free (G : GF fa fn ts ex w K mg) (i : Nat) {x : Str} (h : fa[i]? = some (.free x) := by rfl) : mg x = none := let ⟨_, h1, h2⟩ := G.h; He.free_ok h1 h2 (G.fact i h)
theorem GF.con (G : GF fa fn ts ex w K mg) (i : Nat) {x : Str} {d : D} (h : ex[i]? = some (conK x d) := by rfl) : ∃ u v, mg x = some u ∧ RelV v u ∧ ∀ io H, RD K io H d v := by
  obtain ⟨h0, h1, h2⟩ := G.h
  have q := G.x _ (List.mem_of_getElem? h)
  unfold conK at q
  split at q
  · rename_i u hu
    obtain ⟨v, r1, r2⟩ := relKB_ok q
    exact ⟨u, v, PySem.W.mg_of h1 h2 hu, r1, r2⟩
  · cases q
theorem GF.tab (G : GF fa fn ts ex w K mg) (i : Nat) {x : Str} {kvs : List (Str × D)} (h : ex[i]? = some (tabK x kvs) := by rfl) : ∀ k d, kvs.lookup k = some d → ∃ u v, PySem.W.nsIn K (He.ga K x) k = some (some u) ∧ RelV v u ∧ ∀ io H, RD K io H d v := by
  intro k d hk
  have q := G.x _ (List.mem_of_getElem? h)
  have hm : (k, d) ∈ kvs := by
    clear q h
    induction kvs with
    | nil => cases hk
    | cons y ys ih =>
      obtain ⟨k', d'⟩ := y
      rw [List.lookup_cons] at hk
      cases e : k == k' with
      | true =>
        rw [e] at hk
        have e1 : k = k' := by simpa using e
        cases hk
        rw [e1]
        exact List.mem_cons_self
      | false =>
        rw [e] at hk
        exact List.mem_cons_of_mem _ (ih hk)
  have q2 := List.all_eq_true.mp q _ hm
  split at q2
  · rename_i u hu
    obtain ⟨v, r1, r2⟩ := relKB_ok q2
    exact ⟨u, v, hu, r1, r2⟩
  · cases q2
end
/-! ### names of the module, tables -/
section
variable {X : Cx} {W : WX} {x : Str} {d : D} {pos p : Pos} {b : Expr} {fb : ME}
theorem ie_gc (h : ∃ u v, X.mg x = some u ∧ RelV v u ∧ ∀ io H, RD X.K io H d v) (hg : Gl X x := by rfl) (hd : (x == ("__debug__" : Str)) = false := by decide) : IE X W (.Name x pos) (con d) := by
  obtain ⟨u, v, h1, h2, h3⟩ := h
  exact ie_glob hg ⟨u, h1, h2⟩ h3 hd
theorem ie_ty {T : String} (hm : X.mg x = none) (hv : bootBuiltins x = some (.type T)) (hg : Gl X x := by rfl) (hn : x ≠ "__name__" := by decide) (hd : (x == ("__debug__" : Str)) = false := by decide) : IE X W (.Name x pos) (con (.ty T)) :=
  ie_con (pe_bltn (v := .ty T) hg hm hv rfl hn hd) fun _ _ => rfl
/-- TABLE[e] -/
def kdE (kvs : List (Str × D)) (a : ME) : ME := fun r st => (a r st).bind fun k st1 => match k with
  | .str z => (match kvs.lookup z with
    | some d => .ok d st1
    | none => .bad)
  | _ => .bad
theorem ie_kd {kvs : List (Str × D)} {a : Addr} (hm : X.mg x = some (.ref a)) (hk : ∃ es n, KDict X.K X.w a es n) (ht : ∀ k d, kvs.lookup k = some d → ∃ u v, PySem.W.nsIn X.K a k = some (some u) ∧ RelV v u ∧ ∀ io H, RD X.K io H d v)
    (hb : IE X W b fb) (hs : PlainIx b := by exact fun _ _ => rfl) (hg : Gl X x := by rfl) (hd : (x == ("__debug__" : Str)) = false := by decide) : IE X W (.Subscript (.Name x p) b pos) (kdE kvs fb) := by
  obtain ⟨es, n, kd⟩ := hk
  have p1 : PE X (.Name x p) (tC (.ref a)) := pe_glob hg hm (show RelV (.ref a) (.ref a) from rfl) hd
  refine pe_imp (pe_ix (r := rIxD X.K X.w) ix_kdict p1 hb hs) fun σ H Q h => ?_
  obtain ⟨io, r, st, A, q⟩ := h
  refine bindV A q fun i1 H1 v d st1 g1 A1 rd q1 => ?_
  cases d with
  | str z =>
    cases rd
    cases hl : kvs.lookup z with
    | none =>
      simp only [hl] at q1
      exact q1.elim
    | some d =>
      simp only [hl] at q1
      obtain ⟨u, v, h1, h2, h3⟩ := ht z d hl
      exact ⟨a, z, v, rfl, rfl, ⟨es, n, u, kd.at_, kd.lit, h1, h2⟩, q1 i1 H1 v Ge.refl A1.sim (h3 i1 H1)⟩
  | _ => exact q1.elim
end
end
end Dn


set_option Elab.async false
set_option linter.all false
set_option maxRecDepth 100000
set_option maxHeartbeats 4000000
set_option autoImplicit false
/-! Dn, part K: promises of defs by their names, three names at once, the end. -/
namespace Dn
open PySem PySem.Spec PyProof.Rows L2
structure OkF (P : Program) (w : World) (K : PySem.W.Frag) (mg : Str → Option Value) (base : Heap) (k : Nat) (f : Addr) (ps : List Str) (F : List D → Store → Res D) : Prop where
  ex : ∃ fd, FnG P w K mg base k f fd ps (spI K ps.length F) ∧ Binds K fd ps [] ∧ ∀ (s : Shared) (us : List Value), us.length = ps.length → BindsTo s fd ⟨us, []⟩ (ps.zip us)
  kp : PySem.W.keepIn K (.ref f) = true
section
variable {P : Program} {w : World} {K : PySem.W.Frag} {mg : Str → Option Value} {base : Heap}
theorem OkF.mono {j k : Nat} {f : Addr} {ps : List Str} {F : List D → Store → Res D} (G : OkF P w K mg base j f ps F) (h : j ≤ k) : OkF P w K mg base k f ps F := by
  obtain ⟨⟨fd, g, b⟩, kp⟩ := G
  exact ⟨⟨fd, g.mono h, b⟩, kp⟩
/-- a def of the module or of a class -/
theorem okF {x qual : Str} {params : Arguments} {body : List Stmt} {scope : Scope} {f : Addr} {N ps : List Str} {k : Nat} {F : MS} (D0 : ∃ fd, FunD K x qual params body scope [] [] f fd) (S : FnScope N ps scope)
    (hbd : ∀ (kV doc pm : Value) (an : Option Addr) (cdv ct : Value) (us : List Value), us.length = ps.length → bindArgs (PySem.W.fnOf x qual params body scope .none kV doc pm an cdv ct) ⟨us, []⟩ = pure (ps.zip us))
    (hb : ∀ (cdv : Value) (A : Around) (outer : List PySem.Env) (s : Shared) (H : Hp) (E : XK),
      CtxOk (cxOf (L2.CX P w) P w K mg base N qual scope f cdv A outer s H E) (fun c d _ H => E c d H) k → PassesOwn (model P w) (cxOf (L2.CX P w) P w K mg base N qual scope f cdv A outer s H E).A (cxOf (L2.CX P w) P w K mg base N qual scope f cdv A outer s H E).env (cxOf (L2.CX P w) P w K mg base N qual scope f cdv A outer s H E).xe →
      ISs (cxOf (L2.CX P w) P w K mg base N qual scope f cdv A outer s H E) (fun c d _ H => E c d H) body F) : OkF P w K mg base (k + 1) f ps (run N.length F) := by
  obtain ⟨fd, D1⟩ := D0
  exact ⟨⟨fd, fn_ok D1 S hb, D1.bindsN hbd, fun s us hl => D1.bindsA hbd s us hl⟩, D1.kp⟩
/-- .. of which nothing is said yet -/
theorem okF0 {x qual : Str} {params : Arguments} {body : List Stmt} {scope : Scope} {f : Addr} {ps : List Str} {k : Nat} (D0 : ∃ fd, FunD K x qual params body scope [] [] f fd)
    (hbd : ∀ (kV doc pm : Value) (an : Option Addr) (cdv ct : Value) (us : List Value), us.length = ps.length → bindArgs (PySem.W.fnOf x qual params body scope .none kV doc pm an cdv ct) ⟨us, []⟩ = pure (ps.zip us)) : OkF P w K mg base k f ps (fun _ _ => .bad) := by
  obtain ⟨fd, D1⟩ := D0
  refine ⟨⟨fd, ⟨fun vs H Q E h => ?_, fun A outer s H args us vs Q E hr e hb hv h => ?_⟩, D1.bindsN hbd, fun s us hl => D1.bindsA hbd s us hl⟩, D1.kp⟩
  · obtain ⟨_, _, _, _, _, _, z⟩ := h
    exact z.elim
  · obtain ⟨_, _, _, _, _, _, z⟩ := h
    exact z.elim
/-- the same promise by another name -/
theorem OkF.to {k : Nat} {f : Addr} {ps : List Str} {F F' : List D → Store → Res D} (G : OkF P w K mg base k f ps F) (h : ∀ ds st, F' ds st = .bad ∨ F' ds st = F ds st) : OkF P w K mg base k f ps F' := by
  obtain ⟨⟨fd, g, b⟩, kp⟩ := G
  refine ⟨⟨fd, g.imp fun vs H Q E q => ?_, b⟩, kp⟩
  obtain ⟨io, st, ds, S, rd, hl, q⟩ := q
  refine ⟨io, st, ds, S, rd, hl, ?_⟩
  rcases h ds st with e | e
  · rw [e] at q
    exact q.elim
  · rw [e] at q
    exact q
end
section
variable {X : Cx} {W : WX} {k : Nat} {f : Addr} {ps : List Str} {x : Str} {p pos : Pos} {e : Expr} {es : List Expr} {fa : MA} {F : List D → Store → Res D} {o : Expr} {fo : ME} {C m : Str} {apos : Pos} {n : Nat}
theorem ie_callF (G : OkF X.prog X.w X.K X.mg X.base k f ps F) (hr : RoomG k X.A) (hm : X.mg x = some (.ref f)) (tk : Takes X W) (ha : IA X W (e :: es) fa) (hg : Gl X x := by rfl)
    (hdb : (x == ("__debug__" : Str)) = false := by decide) (hs : starEach (e :: es) X.env = (false, eval e X.env) :: starEach es X.env := by rfl) (hpl : (backTo pos (starEach es X.env)).any (·.1) = false := by rfl) (hn : ps.length = n := by rfl) :
    IE X W (.Call (.Name x p) (e :: es) [] pos) (appN n F fa) := by
  subst hn
  obtain ⟨⟨fd, g, hb, _⟩, kp⟩ := G
  exact ie_call g hr hg hm kp hb tk ha hdb hs hpl
theorem ie_methF {pl : Sem Bool} (G : OkF X.prog X.w X.K X.mg X.base k f ps F) (c : Cls X.K (He.ga X.K C)) (hm : Meth X.K (He.ga X.K C) m f) (hr : RoomG k X.A) (tk : Takes X W) (ho : IE X W o fo) (ha : IA X W (e :: es) fa)
    (hst : starEach (e :: es) X.env = (false, eval e X.env) :: starEach es X.env := by rfl) (hpl : (backTo pos (starEach es X.env)).any (·.1) = false := by rfl)
    (ht : eval (.Call (.Attribute o m apos) (e :: es) [] pos) X.env = (do
      let obj ← eval o X.env
      standAt apos.atName
      let (fn, ahead) ← holding [obj] (getMethod obj m pl)
      callWith pos fn ahead (backTo pos (starEach (e :: es) X.env)) (backToKw pos (keywordEach [] X.env))) := by rfl) (hn : ps.length = n := by rfl) :
    IE X W (.Call (.Attribute o m apos) (e :: es) [] pos) (methC C m n F fo fa) := by
  subst hn
  obtain ⟨⟨fd, g, hb, _⟩, kp⟩ := G
  exact ie_meth ho c hm g hr hb tk ha hst hpl ht
theorem ie_methF0 {pl : Sem Bool} (G : OkF X.prog X.w X.K X.mg X.base k f ps F) (c : Cls X.K (He.ga X.K C)) (hm : Meth X.K (He.ga X.K C) m f) (hr : RoomG k X.A) (tk : Takes X W) (ho : IE X W o fo)
    (ht : eval (.Call (.Attribute o m apos) [] [] pos) X.env = (do
      let obj ← eval o X.env
      standAt apos.atName
      let (fn, ahead) ← holding [obj] (getMethod obj m pl)
      callWith pos fn ahead (backTo pos (starEach [] X.env)) (backToKw pos (keywordEach [] X.env))) := by rfl) (hn : ps.length = n := by rfl) :
    IE X W (.Call (.Attribute o m apos) [] [] pos) (methC C m n F fo nilA) := by
  subst hn
  obtain ⟨⟨fd, g, hb, _⟩, kp⟩ := G
  exact ie_meth0 ho c hm g hr hb tk ht
theorem ie_makeF (M : Mk X.K (He.ga X.K C) f) (G : OkF X.prog X.w X.K X.mg X.base k f ps F) (hr : RoomG (k + 1) X.A) (hm : X.mg x = some (.ref (He.ga X.K C))) (tk : Takes X W) (ha : IA X W (e :: es) fa) (hg : Gl X x := by rfl)
    (hdb : (x == ("__debug__" : Str)) = false := by decide) (hs : starEach (e :: es) X.env = (false, eval e X.env) :: starEach es X.env := by rfl) (hpl : (backTo pos (starEach es X.env)).any (·.1) = false := by rfl) (hn : ps.length = n := by rfl) :
    IE X W (.Call (.Name x p) (e :: es) [] pos) (makeE C n F fa) := by
  subst hn
  obtain ⟨⟨fd, g, hb, _⟩, kp⟩ := G
  exact ie_make M g hr hg hm hb tk ha hdb hs hpl
/-- a, b, c = x, y, z -/
def parS3 (i j l : Nat) (a : MA) : MS := fun r st => stA r (a r st) fun ds st1 => match ds with
  | [x, y, z] => .nx (((r.set i (some x)).set j (some y)).set l (some z)) st1
  | _ => .bad
theorem is_par3 {i j l : Nat} {x y z : Str} {a b c : Expr} {px py pz pt : Pos} {kt k2 : Nat} {pt2 : Pos} {f : MA} (hc : X.calm = true) (hN : X.N.Nodup) (ha : IA X W [a, b, c] f) (hi : X.N[i]? = some x := by rfl) (hj : X.N[j]? = some y := by rfl) (hl : X.N[l]? = some z := by rfl)
    (hij : i ≠ j := by decide) (hil : i ≠ l := by decide) (hjl : j ≠ l := by decide)
    (hx : X.env.scope.names.lookup x = some .local := by rfl) (hy : X.env.scope.names.lookup y = some .local := by rfl) (hz : X.env.scope.names.lookup z = some .local := by rfl)
    (hw : swappedStores [.Tuple [.Name x px, .Name y py, .Name z pz] kt pt] (.Tuple [a, b, c] k2 pt2) X.env = pure (some [x, y, z]) := by rfl)
    (hs : swapsWithSole [.Tuple [.Name x px, .Name y py, .Name z pz] kt pt] (.Tuple [a, b, c] k2 pt2) pos.line X.env = pure false := by rfl) :
    IS X W (.Assign [.Tuple [.Name x px, .Name y py, .Name z pz] kt pt] (.Tuple [a, b, c] k2 pt2) pos) (parS3 i j l f) := ps_imp (ps_par3 hc hN hi hj hl hij hil hjl hx hy hz ha hw hs) fun D0 σ H h => by
  obtain ⟨io, r, st, A, q⟩ := h
  refine bindLS A q fun i1 H1 vs ds st1 g1 A1 rd q1 => ?_
  match ds, rd, q1 with
  | [x, y, z], ⟨v, _, e1, r1, w, _, e2, r2, u, _, e3, r3, e4⟩, q1 =>
    have e4 : _ = _ := e4
    subst e1 e2 e3 e4
    exact ⟨v, w, u, rfl, q1 i1 H1 _ Ge.refl A1.sim (((A1.env.set r1 i).set r2 j).set r3 l)⟩
  | [], _, q1 => exact q1.elim
  | [_], _, q1 => exact q1.elim
  | [_, _], _, q1 => exact q1.elim
  | _ :: _ :: _ :: _ :: _, _, q1 => exact q1.elim
end
/-! ### the end -/
def intsD (ns : List Int) : List D := ns.map .int
theorem rds_intsD {K : PySem.W.Frag} {io : List Addr} {H : Hp} : ∀ ns : List Int, RDs K io H (intsD ns) (ns.map V.int)
  | [] => rfl
  | n :: ns => ⟨.int n, ns.map V.int, rfl, rfl, rds_intsD ns⟩
/-- the abstract heap that the law's def is entered with: the script alone, if at all -/
def onlyS (b : Bool) (a : Addr) (vs : List Value) (ns : List Int) : Hp := fun c => if b = true ∧ c = a then some (.frz { cls := .type "list", data := .seq vs.toArray } (.lst (ns.map V.int))) else none
theorem onlyS_no {b : Bool} {a c : Addr} {vs : List Value} {ns : List Int} (h : c ≠ a) : onlyS b a vs ns c = none := if_neg fun z => h z.2
theorem onlyS_off {a : Addr} {vs : List Value} {ns : List Int} (c : Addr) : onlyS false a vs ns c = none := if_neg fun z => Bool.false_ne_true z.1
theorem only_some {b : Bool} {a c : Addr} {vs : List Value} {ns : List Int} {u : HO} (h : onlyS b a vs ns c = some u) : c = a ∧ b = true ∧ u = .frz { cls := .type "list", data := .seq vs.toArray } (.lst (ns.map V.int)) := by
  unfold onlyS at h
  by_cases z : b = true ∧ c = a
  · rw [if_pos z] at h
    exact ⟨z.2, z.1, (Option.some.inj h).symm⟩
  · rw [if_neg z] at h
    cases h
theorem law_run {P : Program} {w : World} {K : PySem.W.Frag} {mg mb : Str → Option Value} {k : Nat} {fa a : Addr} {x : Str} {F : List D → Store → Res D} {s1 : Shared} {vs : List Value} {ns : List Int}
    (KX : K.In s1.heap) (hns : s1.heap.Ns mainGlobals mg) (hb : s1.heap.Ns builtinsNs mb) (hbb : ∀ x : Str, x ≠ "__name__" → mb x = bootBuiltins x) (hlim : s1.heap.NoLimit) (hg : s1.gens = #[])
    (ha : s1.heap.get? a = some { cls := .type "list", data := .seq vs.toArray }) (hi : IntsAre vs ns) (hl : ns.length ≤ sizeLine) (hr : RoomG k callerA)
    (G : ∀ base : Heap, K.In base → base.Ns mainGlobals mg → OkF P w K mg base k fa [x] F) (hF : ∃ st, F [.rol (intsD ns)] [] = .ok (.bl true) st) :
    codeAny (model P w) callerA (.call (.ref fa) ⟨[.ref a], []⟩) (fun r s' => r = .ok (.ret (.bool true)) ∧ OldK s1.heap s'.heap ∧ s'.os = s1.os ∧ AllBare s'.gens) s1 := by
  have rv := vals_ints hi
  have lenV := hi.length
  obtain ⟨st, hF⟩ := hF
  -- whether the script is one of the module's own objects
  obtain ⟨b, hkb⟩ : ∃ b : Bool, (b = true → K.lookup a = none) ∧ (b = false → ∃ o, K.lookup a = some o) := by
    cases e : K.lookup a with
    | none => exact ⟨true, fun _ => rfl, fun z => Bool.noConfusion z⟩
    | some o => exact ⟨false, fun z => Bool.noConfusion z, fun _ => ⟨o, rfl⟩⟩
  obtain ⟨hk1, hk2⟩ := hkb
  have hRo : RoL K (onlyS b a vs ns) a (ns.map V.int) := by
    cases b with
    | true => exact .inl ⟨_, if_pos ⟨rfl, rfl⟩⟩
    | false =>
      obtain ⟨o, ho⟩ := hk2 rfl
      have e1 := KX a o ho
      rw [ha] at e1
      have e2 := Option.some.inj e1
      subst e2
      refine .inr ⟨_, vs.toArray, _, ho, rfl, rfl, rfl, ?_, ?_⟩
      · rw [List.size_toArray, lenV]
        exact hl
      · rw [List.toList_toArray]
        exact rv
  have hok : HOk P w (onlyS b a vs ns) s1.heap := fun c u hu => by
    obtain ⟨rfl, -, rfl⟩ := only_some hu
    exact ⟨ha, by rw [List.length_map]; exact hl, vs, _, rv, ha⟩
  have bot : ∀ {c : Addr} {o : Obj}, s1.heap.get? c = some o → onlyS b a vs ns c = none → (hidT s1.heap (onlyS b a vs ns)).get? c = some o := fun e n => hidT_get e n
  have nod : ∀ {c : Addr} {o : Obj} {es : Array DictEntry} {ep : Nat}, s1.heap.get? c = some o → o.data = .dict es ep → onlyS b a vs ns c = none := fun {c o es ep} e d => by
    refine onlyS_no fun z => ?_
    subst z
    rw [ha] at e
    have e2 := Option.some.inj e
    subst e2
    have d2 : Data.seq vs.toArray _ = Data.dict es ep := d
    cases d2
  have nsb : ∀ {c : Addr} {m : Str → Option Value}, s1.heap.Ns c m → (hidT s1.heap (onlyS b a vs ns)).Ns c m := by
    rintro c m ⟨o, es, ep, e, d, q⟩
    exact ⟨o, es, ep, bot e (nod e d), d, q⟩
  have KB : K.In (hidT s1.heap (onlyS b a vs ns)) := fun c o e => bot (KX c o e) (by
    cases q : onlyS b a vs ns c with
    | none => rfl
    | some u =>
      obtain ⟨e1, e2, -⟩ := only_some q
      rw [e1, hk1 e2] at e
      cases e)
  have lim : (hidT s1.heap (onlyS b a vs ns)).NoLimit := by
    obtain ⟨mc, h1, h2⟩ := hlim
    exact ⟨mc, nsb h1, h2⟩
  have md : Mod K mg (hidT s1.heap (onlyS b a vs ns)) := ⟨KB, nsb hns, ⟨mb, nsb hb, hbb⟩, lim⟩
  have en : Env0 P w K mg (hidT s1.heap (onlyS b a vs ns)) callerA [] s1 (onlyS b a vs ns) := by
    refine ⟨rfl, md, fun c o e => of_hidT e, Nat.le_of_eq (hidT_size _ _), trivial, fun c hc => ?_, hok, AllBare.of_eq hg⟩
    cases (show c ∈ ([] : List Addr) from hc)
  obtain ⟨⟨fd, g, -, hbi⟩, -⟩ := G _ KB (nsb hns)
  have want : spI K 1 F [.ref a] (onlyS b a vs ns) (fun v _ => v = .bl true) fun _ _ _ => False := by
    refine ⟨[], [], [.rol (intsD ns)], ⟨rfl, List.nodup_nil, fun n c a2 h => by simp at h⟩, ⟨.ref a, [], rfl, ⟨a, ns.map V.int, rfl, hRo, rds_intsD ns⟩, rfl⟩, rfl, ?_⟩
    rw [hF]
    exact fun _ _ v _ _ h => h
  refine codeAny_mono (g.run callerA [] s1 (onlyS b a vs ns) ⟨[.ref a], []⟩ [.ref a] [.ref a] (fun v _ => v = .bl true) (fun _ _ _ => False) hr en (hbi s1 [.ref a] rfl) (.cons rfl .nil) want) fun r s2 h => ?_
  cases r with
  | error e => exact (cx_none h).elim
  | ok fl =>
    cases fl with
    | ret u =>
      obtain ⟨v, H2, h1, h2, un, hok2, rel, q⟩ := h
      have q2 : v = .bl true := q
      subst q2
      have eu : u = Value.bool true := rel
      subst eu
      refine ⟨rfl, OldK.of_keep fun c o e => ?_, h1, h2⟩
      cases z : onlyS b a vs ns c with
      | none => exact un.keep c o e z (fun y => by cases (show c ∈ ([] : List Addr) from y)) (by simp)
      | some y =>
        obtain ⟨e1, -, rfl⟩ := only_some z
        obtain ⟨k1, -⟩ := hok c _ z
        obtain ⟨k2, -⟩ := hok2 c _ (un.frzs c _ _ z)
        rw [e] at k1
        rw [k2]
        exact k1.symm ▸ rfl
    | _ => exact False.elim h
where
  cx_none {P : Program} {w : World} {H : Hp} {s s' : Shared} {e : Value} (h : CR (L2.CX P w) [] P w H s (fun v _ => v = .bl true) (fun _ _ _ => False) (.error e) s') : False := by
    obtain ⟨_, _, _, _, _, _, _, _, _, _, _, _, z⟩ := (show L2.CX P w [] H s (fun _ _ _ => False) e s' from h)
    exact z.elim
/-- the goal that the head leaves -/
theorem walk_G {l : PySem.W.OpenLaw} {n k : Nat} {q : Program} {loose : List Str} {XP : (Str → Option Value) → Heap → Prop} {YP : World → Heap → Prop} {d : DefRec} {x : Str} {F : List D → Store → Res D}
    (hn : l.most = some n) (hn2 : n ≤ sizeLine) (hdf : d.params.defaults = []) (hr : RoomG k callerA)
    (H : ∀ (w : World) (mg : Str → Option Value) (fa : Addr) (h : Heap), YP w h → h.Ns mainGlobals mg → mg d.name = some (.ref fa) →
      ∃ K : PySem.W.Frag, K.In h ∧ ∀ base : Heap, K.In base → base.Ns mainGlobals mg → OkF l.prog w K mg base k fa [x] F)
    (law : ∀ ns : List Int, ns.length ≤ n → ∃ st, F [.rol (intsD ns)] [] = .ok (.bl true) st) :
    PySem.W.WalkO q loose XP YP l.row.toRowW d [] (fun f vs => PySem.call f vs) :=
  Att.attach_call hn hdf fun w s0 s1 mg mb fa o pm cd doc a vs ns G Y ho hd hcd hmg hobj hints hlen hg => by
    obtain ⟨K, KX, hF⟩ := H w mg fa _ Y G.T.g hmg
    exact law_run KX G.T.g G.T.b G.T.builtins G.T.nolimit hg hobj hints (Nat.le_trans hlen hn2) hr hF (law ns hlen)
end Dn


set_option Elab.async false
set_option linter.all false
set_option maxRecDepth 100000
set_option maxHeartbeats 4000000
set_option autoImplicit false
/-! Dn, part M: what denotations come to (no program in sight): wp of results. -/
namespace Dn
open PySem PySem.Spec PyProof.Rows L2
def wp {α : Type} (x : Res α) (Q : α → Store → Prop) : Prop := match x with
  | .ok a st => Q a st
  | _ => False
def wpS (x : SR) (K : SR → Prop) : Prop := match x with
  | .bad => False
  | .er _ _ _ => False
  | y => K y
/-- go on with b -/
def thenK (b : MS) (K : SR → Prop) : SR → Prop
  | .nx r st => wpS (b r st) K
  | .bad => False
  | .er _ _ _ => False
  | y => K y
def outK (Q : D → Store → Prop) : SR → Prop
  | .nx _ st => Q .non st
  | .rt d st => Q d st
  | _ => False
/-- a loop's turn -/
def turnK (I : Env → Store → Prop) (K : SR → Prop) : SR → Prop
  | .nx r st => I r st
  | .ct r st => I r st
  | .bk r st => K (.nx r st)
  | .rt d st => K (.rt d st)
  | _ => False
section
variable {α β : Type} {Q : α → Store → Prop} {st : Store} {r : Env} {K : SR → Prop} {a b : MS} {f : ME} {i j l : Nat}
theorem wp_ok {x : α} : wp (.ok x st) Q = Q x st := rfl
theorem wp_bad : wp (.bad : Res α) Q = False := rfl
theorem wp_er {x : Exn} : wp (.er x st : Res α) Q = False := rfl
theorem wp_bind {x : Res β} {k : β → Store → Res α} : wp (x.bind k) Q = wp x (fun y st1 => wp (k y st1) Q) := by cases x <;> rfl
theorem wp_mono {x : Res α} {Q' : α → Store → Prop} (h : wp x Q) (k : ∀ y st, Q y st → Q' y st) : wp x Q' := by
  cases x with
  | ok y st => exact k y st h
  | er _ _ => exact h
  | bad => exact h
theorem wp_ex {x : Res α} (h : wp x Q) : ∃ y st, x = .ok y st ∧ Q y st := by
  cases x with
  | ok y st => exact ⟨y, st, rfl, h⟩
  | er _ _ => exact h.elim
  | bad => exact h.elim
theorem wp_of {x : Res α} {y : α} {st : Store} (e : x = .ok y st) (h : Q y st) : wp x Q := by rw [e]; exact h
theorem wp_ite {c : Prop} [Decidable c] {x y : Res α} : wp (if c then x else y) Q = if c then wp x Q else wp y Q := by split <;> rfl
theorem wpS_nx : wpS (.nx r st) K = K (.nx r st) := rfl
theorem wpS_rt {d : D} : wpS (.rt d st) K = K (.rt d st) := rfl
theorem wpS_bk : wpS (.bk r st) K = K (.bk r st) := rfl
theorem wpS_ct : wpS (.ct r st) K = K (.ct r st) := rfl
theorem wpS_bad : wpS .bad K = False := rfl
theorem wpS_mono {x : SR} {K' : SR → Prop} (h : wpS x K) (k : ∀ y, K y → K' y) : wpS x K' := by
  cases x <;> first | exact h | exact k _ h
theorem thenK_nx : thenK b K (.nx r st) = wpS (b r st) K := rfl
theorem thenK_rt {d : D} : thenK b K (.rt d st) = K (.rt d st) := rfl
theorem thenK_bk : thenK b K (.bk r st) = K (.bk r st) := rfl
theorem thenK_ct : thenK b K (.ct r st) = K (.ct r st) := rfl
theorem outK_nx {Q : D → Store → Prop} : outK Q (.nx r st) = Q .non st := rfl
theorem outK_rt {Q : D → Store → Prop} {d : D} : outK Q (.rt d st) = Q d st := rfl
theorem turnK_nx {I : Env → Store → Prop} : turnK I K (.nx r st) = I r st := rfl
theorem turnK_ct {I : Env → Store → Prop} : turnK I K (.ct r st) = I r st := rfl
theorem turnK_bk {I : Env → Store → Prop} : turnK I K (.bk r st) = K (.nx r st) := rfl
theorem turnK_rt {I : Env → Store → Prop} {d : D} : turnK I K (.rt d st) = K (.rt d st) := rfl
theorem wpS_seq : wpS (seqS a b r st) K = wpS (a r st) (thenK b K) := by
  unfold seqS
  cases a r st <;> rfl
theorem wpS_stE {x : Res D} {k : D → Store → SR} : wpS (stE r x k) K = wp x (fun d st1 => wpS (k d st1) K) := by cases x <;> rfl
theorem wpS_stT {x : Res Bool} {k : Bool → Store → SR} : wpS (stT r x k) K = wp x (fun d st1 => wpS (k d st1) K) := by cases x <;> rfl
theorem wpS_stA {x : Res (List D)} {k : List D → Store → SR} : wpS (stA r x k) K = wp x (fun d st1 => wpS (k d st1) K) := by cases x <;> rfl
theorem wpS_ret : wpS (retS f r st) K = wp (f r st) (fun d st1 => K (.rt d st1)) := wpS_stE
theorem wpS_set : wpS (setS i f r st) K = wp (f r st) (fun d st1 => K (.nx (r.set i (some d)) st1)) := wpS_stE
theorem wpS_expr : wpS (exprS f r st) K = wp (f r st) (fun _ st1 => K (.nx r st1)) := wpS_stE
theorem wpS_if {c : MT} : wpS (ifS c a b r st) K = wp (c r st) (fun k st1 => if k = true then wpS (a r st1) K else wpS (b r st1) K) := by
  unfold ifS
  rw [wpS_stT]
  congr 1
  funext k st1
  split <;> rfl
theorem wpS_skip : wpS (skip r st) K = K (.nx r st) := rfl
theorem wpS_never : wpS (never r st) K = False := rfl
theorem wpS_par {g : MA} : wpS (parS i j g r st) K = wp (g r st) (fun ds st1 => wpS (match ds with
  | [x, y] => .nx ((r.set i (some x)).set j (some y)) st1
  | _ => .bad) K) := wpS_stA
theorem wpS_par3 {g : MA} : wpS (parS3 i j l g r st) K = wp (g r st) (fun ds st1 => wpS (match ds with
  | [x, y, z] => .nx (((r.set i (some x)).set j (some y)).set l (some z)) st1
  | _ => .bad) K) := wpS_stA
theorem wpS_asg {t : Tg} : wpS (asgS t f r st) K = wp (f r st) (fun d st1 => wpS (match t.put d r with
  | some r1 => .nx r1 st1
  | none => .bad) K) := wpS_stE
theorem wpS_item {o k v : ME} : wpS (itemS o k v r st) K = wp (v r st) (fun z st1 => wp (o r st1) fun d st2 => wp (k r st2) fun k st3 => wpS (match d, k with
  | .loc n, .int j => match cellL st3 n with
    | some ds => (match ixN ds.length j with
      | some p => .nx r (st3.set n (.lst (ds.set p z)))
      | none => .bad)
    | none => .bad
  | _, _ => .bad) K) := by
  unfold itemS
  rw [wpS_stE]
  congr 1
  funext z st1
  rw [wpS_stE]
  congr 1
  funext d st2
  rw [wpS_stE]
  try rfl
theorem wpS_setF {C g : Str} {o v : ME} : wpS (setF C g o v r st) K = wp (v r st) (fun y st1 => wp (o r st1) fun d st2 => wpS (match d with
  | .loc n => match st2[n]? with
    | some (.ins C' fs) => if C' = C ∧ fs.length < 900 then .nx r (st2.set n (.ins C (putD g y fs))) else .bad
    | _ => .bad
  | _ => .bad) K) := by
  unfold setF
  rw [wpS_stE]
  congr 1
  funext z st1
  rw [wpS_stE]
  try rfl
theorem wp_run {n : Nat} {F : MS} {ds : List D} {Q : D → Store → Prop} : wp (run n F ds st) Q = wpS (F (envOf n ds) st) (outK Q) := by
  unfold run
  cases F (envOf n ds) st <;> rfl
/-! ### loops -/
theorem wpS_for {t : Tg} {w : MW} : wpS (forS t w b r st) K = wp (w r st) (fun p st1 => wpS (forN p.2 t b p.1 r st1) K) := by
  unfold forS
  cases w r st <;> rfl
theorem wpS_forN {oks : List (Nat × List D)} {t : Tg} (I : List D → Env → Store → Prop) (hok : ∀ l r st, I l r st → Oks oks st) (hend : ∀ r st, I [] r st → K (.nx r st))
    (hstep : ∀ d l r st, I (d :: l) r st → ∃ r1, t.put d r = some r1 ∧ wpS (b r1 st) (turnK (I l) K)) : ∀ (vals : List D) (r : Env) (st : Store), I vals r st → wpS (forN oks t b vals r st) K
  | [], r, st, h => by
    unfold forN
    rw [if_pos (hok _ _ _ h)]
    exact hend r st h
  | d :: l, r, st, h => by
    unfold forN
    rw [if_pos (hok _ _ _ h)]
    obtain ⟨r1, e1, h1⟩ := hstep d l r st h
    rw [e1]
    simp only
    cases e2 : b r1 st with
    | nx r2 st2 =>
      rw [e2] at h1
      exact wpS_forN I hok hend hstep l r2 st2 h1
    | ct r2 st2 =>
      rw [e2] at h1
      exact wpS_forN I hok hend hstep l r2 st2 h1
    | bk r2 st2 =>
      rw [e2] at h1
      exact h1
    | rt d2 st2 =>
      rw [e2] at h1
      exact h1
    | er x r2 st2 =>
      rw [e2] at h1
      exact h1
    | bad =>
      rw [e2] at h1
      exact h1
theorem oks_nil {st : Store} : Oks [] st := fun _ h => by cases h
theorem wpS_while {c : MT} (I : Nat → Env → Store → Prop)
    (step : ∀ k r st, I k r st → wp (c r st) fun v st1 => if v = true then wpS (b r st1) (turnK (fun r2 st2 => ∃ k', k' < k ∧ I k' r2 st2) K) else K (.nx r st1)) : ∀ (k : Nat) (r : Env) (st : Store), I k r st → wpS (whileS c b r st) K := by
  have go : ∀ (k : Nat) (r : Env) (st : Store), I k r st → ∃ n y, whileN c b n r st = some y ∧ wpS y K := by
    intro k
    induction k using Nat.strongRecOn with
    | _ k ih =>
      intro r st h
      obtain ⟨v, st1, e1, h1⟩ := wp_ex (step k r st h)
      cases v with
      | false =>
        rw [if_neg Bool.false_ne_true] at h1
        refine ⟨1, .nx r st1, ?_, h1⟩
        unfold whileN
        rw [e1]
      | true =>
        rw [if_pos rfl] at h1
        cases e2 : b r st1 with
        | nx r2 st2 =>
          rw [e2] at h1
          obtain ⟨k', hk, h2⟩ := h1
          obtain ⟨n, y, e3, h3⟩ := ih k' hk r2 st2 h2
          refine ⟨n + 1, y, ?_, h3⟩
          unfold whileN
          simp only [e1, e2, e3]
        | ct r2 st2 =>
          rw [e2] at h1
          obtain ⟨k', hk, h2⟩ := h1
          obtain ⟨n, y, e3, h3⟩ := ih k' hk r2 st2 h2
          refine ⟨n + 1, y, ?_, h3⟩
          unfold whileN
          simp only [e1, e2, e3]
        | bk r2 st2 =>
          rw [e2] at h1
          refine ⟨1, .nx r2 st2, ?_, h1⟩
          unfold whileN
          simp only [e1, e2]
        | rt d st2 =>
          rw [e2] at h1
          refine ⟨1, .rt d st2, ?_, h1⟩
          unfold whileN
          simp only [e1, e2]
        | er x r2 st2 =>
          rw [e2] at h1
          exact h1.elim
        | bad =>
          rw [e2] at h1
          exact h1.elim
  intro k r st h
  obtain ⟨n, y, e, h1⟩ := go k r st h
  rw [whileS_of e]
  exact h1
theorem wp_lc {t : Tg} {w : MW} {c : MT} {e : ME} {vs : List Nat} {Q : D → Store → Prop} : wp (lcE t w c e vs r st) Q = wp (w r st) (fun p st1 => wp (lcN p.2 t c e (wipeE r vs) st1.length p.1 (st1 ++ [.lst []])) Q) := by
  unfold lcE
  cases w r st <;> rfl
theorem wp_lcN {oks : List (Nat × List D)} {t : Tg} {c : MT} {e : ME} {n : Nat} {Q : D → Store → Prop} (I : List D → Store → Prop) (hok : ∀ l st, I l st → Oks oks st) (hend : ∀ st, I [] st → Q (.loc n) st)
    (hstep : ∀ d l st, I (d :: l) st → ∃ r1, t.put d r = some r1 ∧ wp (c r1 st) fun k st2 => if k = true then wp (e r1 st2) (fun y st3 => ∃ acc, cellL st3 n = some acc ∧ acc.length < LIM ∧ I l (st3.set n (.lst (acc ++ [y])))) else I l st2) :
    ∀ (vals : List D) (st : Store), I vals st → wp (lcN oks t c e r n vals st) Q
  | [], st, h => by
    unfold lcN
    rw [if_pos (hok _ _ h)]
    exact hend st h
  | d :: l, st, h => by
    unfold lcN
    rw [if_pos (hok _ _ h)]
    obtain ⟨r1, e1, h1⟩ := hstep d l st h
    rw [e1]
    obtain ⟨k, st2, e2, h2⟩ := wp_ex h1
    simp only [e2]
    cases k with
    | false =>
      rw [if_neg Bool.false_ne_true] at h2
      exact wp_lcN I hok hend hstep l st2 h2
    | true =>
      rw [if_pos rfl] at h2
      obtain ⟨y, st3, e3, acc, h4, h5, h6⟩ := wp_ex h2
      simp only [e3, h4, if_pos h5]
      exact wp_lcN I hok hend hstep l _ h6
end
end Dn


set_option Elab.async false
set_option linter.all false
set_option maxRecDepth 100000
set_option maxHeartbeats 4000000
set_option autoImplicit false
/-! Dn, part O: what operations come to, by the forms of their data. -/
namespace Dn
open PySem PySem.Spec PyProof.Rows L2
section
variable {st : Store} {Q : D → Store → Prop} {K : SR → Prop} {r : Env} {i j : Int} {a b : Str} {ds es : List D} {m n p : Nat} {d e x y z : D}
theorem wp_cond {α : Type} {c : Prop} [Decidable c] {x : Res α} {Q : α → Store → Prop} : wp (if c then x else .bad) Q = (c ∧ wp x Q) := by
  by_cases h : c
  · rw [if_pos h]
    simp [h]
  · rw [if_neg h]
    simp [h, wp]
theorem wp_addI : wp (addD (.int i) (.int j) st) Q = Q (.int (i + j)) st := rfl
theorem wp_addS : wp (addD (.str a) (.str b) st) Q = (a.length + b.length ≤ LIM ∧ Q (.str (a ++ b)) st) := wp_cond
theorem wp_addT : wp (addD (.tup ds) (.tup es) st) Q = (ds.length + es.length ≤ LIM ∧ Q (.tup (ds ++ es)) st) := wp_cond
theorem wp_addL (h1 : cellL st m = some ds) (h2 : cellL st n = some es) : wp (addD (.loc m) (.loc n) st) Q = (ds.length + es.length ≤ LIM ∧ Q (.loc st.length) (st ++ [.lst (ds ++ es)])) := by
  unfold addD
  simp only [h1, h2]
  exact wp_cond
theorem wp_subI : wp (subD (.int i) (.int j) st) Q = Q (.int (i - j)) st := rfl
theorem wp_mulI : wp (mulD (.int i) (.int j) st) Q = (((-(2 ^ 64) < i ∧ i < 2 ^ 64) ∨ (-(2 ^ 64) < j ∧ j < 2 ^ 64)) ∧ Q (.int (i * j)) st) := wp_cond
theorem wp_mulS : wp (mulD (.str a) (.int i) st) Q = (((a.length ≤ 1000 ∧ i ≤ 1000 ∧ -1000 ≤ i) ∨ (a.length ≤ LIM ∧ i ≤ 4 ∧ -1000 ≤ i)) ∧ Q (.str (Txt.mul a i)) st) := wp_cond
theorem wp_mulL (h1 : cellL st m = some ds) : wp (mulD (.loc m) (.int i) st) Q = ((ds.length ≤ 1000 ∧ i ≤ 3000 ∧ -1000 ≤ i) ∧ Q (.loc st.length) (st ++ [.lst (List.replicate i.toNat ds).flatten])) := by
  unfold mulD
  simp only [h1]
  exact wp_cond
theorem wp_fdivI : wp (fdivD (.int i) (.int j) st) Q = ((0 < j ∧ j < 2 ^ 64) ∧ Q (.int (i / j)) st) := wp_cond
theorem wp_modI : wp (modD (.int i) (.int j) st) Q = (0 < j ∧ Q (.int (i % j)) st) := wp_cond
theorem wp_powI : wp (powD (.int i) (.int j) st) Q = ((0 ≤ j ∧ j ≤ 1000 ∧ i.natAbs < 2 ^ 64) ∧ Q (.int (i ^ j.toNat)) st) := wp_cond
theorem ltD_int : ltD (.int i) (.int j) st = .ok (.bl (decide (i < j))) st := rfl
theorem leD_int : leD (.int i) (.int j) st = .ok (.bl (decide (i ≤ j))) st := rfl
theorem gtD_int : gtD (.int i) (.int j) st = .ok (.bl (decide (j < i))) st := rfl
theorem geD_int : geD (.int i) (.int j) st = .ok (.bl (decide (j ≤ i))) st := rfl
theorem eqV_int {neg : Bool} : eqV' neg (.int i) (.int j) st = .ok (.bl (if neg then !(i == j) else i == j)) st := rfl
theorem eqV_str {neg : Bool} : eqV' neg (.str a) (.str b) st = .ok (.bl (if neg then !(a == b) else a == b)) st := rfl
theorem wp_itemT : wp (itemD (.tup ds) (.int i) st) Q = (∃ x, atI ds i = some x ∧ Q x st) := by
  show wp (match seqD st (.tup ds) with
    | some ds => (match atI ds i with
      | some x => .ok x st
      | none => .bad)
    | none => .bad) Q = _
  simp only [seqD]
  cases atI ds i <;> simp [wp]
theorem wp_itemR : wp (itemD (.rol ds) (.int i) st) Q = (∃ x, atI ds i = some x ∧ Q x st) := by
  show wp (match seqD st (.rol ds) with
    | some ds => (match atI ds i with
      | some x => .ok x st
      | none => .bad)
    | none => .bad) Q = _
  simp only [seqD]
  cases atI ds i <;> simp [wp]
theorem wp_itemL (h : cellL st n = some ds) : wp (itemD (.loc n) (.int i) st) Q = (∃ x, atI ds i = some x ∧ Q x st) := by
  show wp (match seqD st (.loc n) with
    | some ds => (match atI ds i with
      | some x => .ok x st
      | none => .bad)
    | none => .bad) Q = _
  simp only [seqD, h]
  cases atI ds i <;> simp [wp]
theorem wp_itemX (h : seqD st x = some ds) (hi : atI ds i = some y) (hq : Q y st) : wp (itemD x (.int i) st) Q := by
  cases x with
  | tup es => cases h; rw [wp_itemT]; exact ⟨y, hi, hq⟩
  | rol es => cases h; rw [wp_itemR]; exact ⟨y, hi, hq⟩
  | loc es => rw [wp_itemL h]; exact ⟨y, hi, hq⟩
  | _ => cases h
theorem wp_itemS : wp (itemD (.str a) (.int i) st) Q = (a.length ≤ LIM ∧ ∃ c, atI a.cps.toList i = some c ∧ Q (.str ⟨#[c]⟩) st) := by
  show wp (if a.length ≤ LIM then (match atI a.cps.toList i with
    | some c => .ok (.str ⟨#[c]⟩) st
    | none => .bad) else .bad) Q = _
  rw [wp_cond]
  cases atI a.cps.toList i <;> simp [wp]
theorem atI_zero : atI (d :: ds) 0 = some d := by simp [atI, ixN]
theorem atI_one : atI (d :: e :: ds) 1 = some e := by
  unfold atI ixN
  rw [if_pos (by omega), if_pos (by simp only [List.length_cons]; omega)]
  rfl
theorem atI_two {x : D} : atI (d :: e :: x :: ds) 2 = some x := by
  unfold atI ixN
  rw [if_pos (by omega), if_pos (by simp only [List.length_cons]; omega)]
  rfl
theorem atI_of {α : Type} {xs : List α} {k : Nat} {x : α} (h : xs[k]? = some x) : atI xs (k : Int) = some x := by
  have hl : k < xs.length := (List.getElem?_eq_some_iff.mp h).1
  unfold atI ixN
  rw [if_pos (by omega), if_pos (by omega)]
  simpa using h
theorem lenD_tup : lenD [.tup ds] st = .ok (.int (ds.length : Nat)) st := rfl
theorem lenD_rol : lenD [.rol ds] st = .ok (.int (ds.length : Nat)) st := rfl
theorem lenD_loc (h : cellL st n = some ds) : lenD [.loc n] st = .ok (.int (ds.length : Nat)) st := by
  show (match seqD st (.loc n) with
    | some ds => Res.ok (D.int (ds.length : Nat)) st
    | none => .bad) = _
  simp only [seqD, h]
theorem lenD_seq (h : seqD st x = some ds) : lenD [x] st = .ok (.int (ds.length : Nat)) st := by
  cases x with
  | tup es => cases h; rfl
  | rol es => cases h; rfl
  | loc es => exact lenD_loc h
  | _ => cases h
theorem wp_lenS : wp (lenD [.str a] st) Q = (a.length ≤ LIM ∧ Q (.int (a.length : Nat)) st) := wp_cond
theorem intD_int : intD [.int i] st = .ok (.int i) st := rfl
theorem intD_bl {b : Bool} : intD [.bl b] st = .ok (.int (if b then 1 else 0)) st := rfl
theorem wp_intS : wp (intD [.str a] st) Q = (a.length ≤ 640 ∧ ∃ n, PySem.intText? a = some n ∧ Q (.int n) st) := by
  show wp (if a.length ≤ 640 then (match PySem.intText? a with
    | some n => .ok (.int n) st
    | none => .bad) else .bad) Q = _
  rw [wp_cond]
  cases PySem.intText? a <;> simp [wp]
theorem absD_int : absD [.int i] st = .ok (.int (if i < 0 then -i else i)) st := rfl
theorem minD_int : minD [.int i, .int j] st = .ok (.int (if j < i then j else i)) st := rfl
theorem strD_str : strD [.str a] st = .ok (.str a) st := rfl
theorem wp_strI : wp (strD [.int i] st) Q = (i.natAbs.log2 < 1920 ∧ Q (.str (toString i)) st) := wp_cond
theorem tupleD_seq (h : seqD st x = some ds) : tupleD [x] st = .ok (.tup ds) st := by
  show (match seqD st x with
    | some ds => Res.ok (D.tup ds) st
    | none => .bad) = _
  rw [h]
theorem wp_listS : wp (listD [.str a] st) Q = (a.length ≤ LIM ∧ Q (.loc st.length) (st ++ [.lst (chars a)])) := wp_cond
theorem seqD_loc : seqD st (.loc n) = cellL st n := rfl
theorem seqD_tup : seqD st (.tup ds) = some ds := rfl
theorem seqD_rol : seqD st (.rol ds) = some ds := rfl
theorem truR_bl {b : Bool} : truR (.bl b) st = .ok b st := rfl
theorem sliceD_tup {lo hi : Option Int} : sliceD (.tup ds) lo hi st = .ok (.tup (cut ds lo hi)) st := rfl
theorem sliceD_rol {lo hi : Option Int} : sliceD (.rol ds) lo hi st = .ok (.loc st.length) (st ++ [.lst (cut ds lo hi)]) := rfl
theorem sliceD_loc {lo hi : Option Int} (h : cellL st n = some ds) : sliceD (.loc n) lo hi st = .ok (.loc st.length) (st ++ [.lst (cut ds lo hi)]) := by
  show (match cellL st n with
    | some ds => Res.ok (D.loc st.length) (st ++ [Cell.lst (cut ds lo hi)])
    | none => .bad) = _
  rw [h]
theorem wp_sliceS {lo hi : Option Int} : wp (sliceD (.str a) lo hi st) Q = (a.length ≤ LIM ∧ Q (.str (cutS a lo hi)) st) := wp_cond
theorem wp_tup {f : MA} {r : Env} : wp (tupE f r st) Q = wp (f r st) (fun ds st1 => ds.length ≤ LIM ∧ Q (.tup ds) st1) := by
  unfold tupE
  rw [wp_bind]
  congr 1
  funext ds st1
  exact wp_cond
theorem wp_lst {f : MA} {r : Env} : wp (lstE f r st) Q = wp (f r st) (fun ds st1 => ds.length ≤ LIM ∧ Q (.loc st1.length) (st1 ++ [.lst ds])) := by
  unfold lstE
  rw [wp_bind]
  congr 1
  funext ds st1
  exact wp_cond
theorem wp_ifE {c : MT} {f g : ME} : wp (ifE c f g r st) Q = wp (c r st) (fun k st1 => if k = true then wp (f r st1) Q else wp (g r st1) Q) := by
  unfold ifE
  rw [wp_bind]
  congr 1
  funext k st1
  split <;> rfl
theorem wp_andT {c c' : MT} {Q : Bool → Store → Prop} : wp (andT c c' r st) Q = wp (c r st) (fun k st1 => if k = true then wp (c' r st1) Q else Q false st1) := by
  unfold andT
  rw [wp_bind]
  congr 1
  funext k st1
  split <;> rfl
theorem wp_orT {c c' : MT} {Q : Bool → Store → Prop} : wp (orT c c' r st) Q = wp (c r st) (fun k st1 => if k = true then Q true st1 else wp (c' r st1) Q) := by
  unfold orT
  rw [wp_bind]
  congr 1
  funext k st1
  split <;> rfl
theorem wp_notT {c : MT} {Q : Bool → Store → Prop} : wp (notT c r st) Q = wp (c r st) (fun k st1 => Q (!k) st1) := by
  unfold notT
  rw [wp_bind]
  rfl
theorem wp_appN {F : List D → Store → Res D} {f : MA} : wp (appN n F f r st) Q = wp (f r st) (fun ds st1 => if ds.length = n then wp (F ds st1) Q else False) := by
  unfold appN
  rw [wp_bind]
  congr 1
  funext ds st1
  split <;> rfl
theorem wp_methS {g : D → List D → Store → Res D} {o : ME} {f : MA} (h : o r st = .ok (.str a) st) : wp (meth "str" g o f r st) Q = wp (f r st) (fun ds st2 => wp (g (.str a) ds st2) Q) := by
  unfold meth
  rw [h]
  show wp (if "str" = "str" then (f r st).bind fun ds st2 => g (.str a) ds st2 else .bad) Q = _
  rw [if_pos rfl, wp_bind]
theorem wp_methL {g : D → List D → Store → Res D} {o : ME} {f : MA} {st1 : Store} (h : o r st = .ok (.loc n) st1) (hc : cellL st1 n = some ds) : wp (meth "list" g o f r st) Q = wp (f r st1) (fun ds st2 => wp (g (.loc n) ds st2) Q) := by
  unfold meth
  rw [h]
  show wp (if "list" = "list" then (match cellL st1 n with
    | some _ => (f r st1).bind fun ds st2 => g (.loc n) ds st2
    | none => .bad) else .bad) Q = _
  rw [if_pos rfl, hc]
  simp only [wp_bind]
theorem wp_append (h : cellL st n = some ds) : wp (appendD (.loc n) [y] st) Q = (ds.length < LIM ∧ Q .non (st.set n (.lst (ds ++ [y])))) := by
  show wp (match cellL st n with
    | some ds => if ds.length < LIM then .ok .non (st.set n (.lst (ds ++ [y]))) else .bad
    | none => .bad) Q = _
  rw [h]
  exact wp_cond
theorem wp_pop0 (h : cellL st n = some (y :: ds)) (hq : Q y (st.set n (.lst ds))) : wp (popAtD (.loc n) [.int 0] st) Q := by
  show wp (match cellL st n with
    | some ds => if -(2 ^ 63) ≤ (0 : Int) ∧ (0 : Int) < 2 ^ 63 then (match seqIndex? 0 ds.length with
      | some k => (match ds[k]? with
        | some y => .ok y (st.set n (.lst (ds.eraseIdx k)))
        | none => .bad)
      | none => .bad) else .bad
    | none => .bad) Q
  have e : seqIndex? 0 (y :: ds).length = some 0 := (ixN_seq (by simp [ixN])).1
  rw [h]
  simp only [e]
  rw [if_pos (by decide)]
  exact hq
theorem wp_join {x : D} {ys : List Str} (h : seqD st x = some ds) (hy : txts ds = some ys) : wp (joinD (.str a) [x] st) Q = ((ys.map (·.length)).sum + ys.length * a.length ≤ LIM ∧ Q (.str (Txt.join a ys)) st) := by
  show wp (match seqD st x with
    | some ds => (match txts ds with
      | some ys => if (ys.map (·.length)).sum + ys.length * a.length ≤ LIM then .ok (.str (Txt.join a ys)) st else .bad
      | none => .bad)
    | none => .bad) Q = _
  rw [h]
  simp only [hy]
  exact wp_cond
theorem startsD_str : startsD (.str a) [.str b] st = .ok (.bl (Txt.startswith a b)) st := rfl
/-! ### stores -/
def itemAt (r : Env) (z d k : D) (st : Store) : SR := match d, k with
  | .loc n, .int j => match cellL st n with
    | some ds => (match ixN ds.length j with
      | some p => .nx r (st.set n (.lst (ds.set p z)))
      | none => .bad)
    | none => .bad
  | _, _ => .bad
theorem wpS_itemS {o k v : ME} : wpS (itemS o k v r st) K = wp (v r st) (fun z st1 => wp (o r st1) fun d st2 => wp (k r st2) fun k st3 => wpS (itemAt r z d k st3) K) := wpS_item
theorem wpS_itemAt (h : cellL st n = some ds) (hp : ixN ds.length i = some p) : wpS (itemAt r z (.loc n) (.int i) st) K = K (.nx r (st.set n (.lst (ds.set p z)))) := by
  unfold itemAt
  simp only [h, hp, wpS_nx]
def fldAt (C g : Str) (r : Env) (y d : D) (st : Store) : SR := match d with
  | .loc n => match st[n]? with
    | some (.ins C' fs) => if C' = C ∧ fs.length < 900 then .nx r (st.set n (.ins C (putD g y fs))) else .bad
    | _ => .bad
  | _ => .bad
theorem wpS_fldS {C g : Str} {o v : ME} : wpS (setF C g o v r st) K = wp (v r st) (fun y st1 => wp (o r st1) fun d st2 => wpS (fldAt C g r y d st2) K) := wpS_setF
theorem wpS_fldAt {C g : Str} {fs : List (Str × D)} (h : st[n]? = some (.ins C fs)) (hl : fs.length < 900) : wpS (fldAt C g r y (.loc n) st) K = K (.nx r (st.set n (.ins C (putD g y fs)))) := by
  unfold fldAt
  simp only [h, hl, and_self, if_true, wpS_nx]
theorem wp_fld {C g : Str} {o : ME} {fs : List (Str × D)} {st1 : Store} (ho : o r st = .ok (.loc n) st1) (h : st1[n]? = some (.ins C fs)) (hl : fs.lookup g = some z) : wp (fldE C g o r st) Q = Q z st1 := by
  unfold fldE
  rw [ho]
  show wp (match st1[n]? with
    | some (.ins C' fs) => if C' = C then (match fs.lookup g with
      | some z => .ok z st1
      | none => .bad) else .bad
    | _ => .bad) Q = _
  rw [h]
  simp only [if_true, hl, wp_ok]
theorem wp_methC {C mm : Str} {F : List D → Store → Res D} {o : ME} {f : MA} {fs : List (Str × D)} {st1 : Store} (ho : o r st = .ok (.loc p) st1) (h : st1[p]? = some (.ins C fs)) (hl : fs.lookup mm = none) :
    wp (methC C mm n F o f r st) Q = wp (f r st1) (fun ds st2 => if ds.length + 1 = n then wp (F (.loc p :: ds) st2) Q else False) := by
  unfold methC
  rw [ho]
  show wp (match st1[p]? with
    | some (.ins C' fs) => if C' = C ∧ fs.lookup mm = none then (f r st1).bind fun ds st2 => if (D.loc p :: ds).length = n then F (.loc p :: ds) st2 else .bad else .bad
    | _ => .bad) Q = _
  rw [h]
  simp only [hl, and_self, if_true, wp_bind]
  congr 1
  funext ds st2
  show wp (if ds.length + 1 = n then F (.loc p :: ds) st2 else .bad) Q = _
  split <;> rfl
theorem wp_make {C : Str} {F : List D → Store → Res D} {f : MA} (q : wp (f r st) (fun ds st1 => ds.length + 1 = n ∧ wp (F (.loc st1.length :: ds) (st1 ++ [.ins C []])) fun d st2 => d = .non ∧ Q (.loc st1.length) st2)) : wp (makeE C n F f r st) Q := by
  unfold makeE
  rw [wp_bind]
  refine wp_mono q fun ds st1 h => ?_
  obtain ⟨h1, h2⟩ := h
  rw [if_pos h1]
  obtain ⟨d, st2, e, h3, h4⟩ := wp_ex h2
  rw [e]
  subst h3
  exact h4
theorem wp_kd {kvs : List (Str × D)} {f : ME} {st1 : Store} (h : f r st = .ok (.str a) st1) (hl : kvs.lookup a = some d) : wp (kdE kvs f r st) Q = Q d st1 := by
  unfold kdE
  rw [h]
  show wp (match kvs.lookup a with
    | some d => .ok d st1
    | none => .bad) Q = _
  rw [hl]
  rfl
theorem seqW_tup {f : ME} {st1 : Store} (h : f r st = .ok (.tup ds) st1) : seqW f r st = .ok (ds, []) st1 := by
  unfold seqW
  rw [h]
  rfl
end
end Dn


set_option Elab.async false
set_option linter.all false
set_option maxRecDepth 100000
set_option maxHeartbeats 4000000
set_option autoImplicit false
/-! Dn, part N: the laws' spring. -/
namespace Dn
open PySem PySem.Spec PyProof.Rows L2
noncomputable def b_drop : MS := (seqS (whileS (test (bin (eqV' true) (bin itemD (var 0) (con (.int 0))) (lstE nilA))) (seqS (setS 2 (app intD (consA (bin itemD (bin itemD (var 0) (con (.int 0))) (con (.int 0))) nilA))) (seqS (ifS (test (bin gtD (var 2) (con (.int 0)))) (seqS (itemS (bin itemD (var 0) (con (.int 0))) (con (.int 0)) (bin fdivD (var 2) (var 1))) (retS (bin modD (app intD (consA (var 2) nilA)) (var 1)))) skip) (exprS (meth "list" popAtD (bin itemD (var 0) (con (.int 0))) (consA (con (.int 0)) nilA)))))) (seqS (itemS (var 0) (con (.int 1)) (bin modD (app intD (consA (bin addD (bin mulD (bin itemD (var 0) (con (.int 1))) (con (.int 6364136223846793005))) (con (.int 1442695040888963407))) nilA)) (con (.int 18446744073709551616)))) (retS (bin modD (app intD (consA (bin fdivD (bin itemD (var 0) (con (.int 1))) (con (.int 4294967296))) nilA)) (var 1)))))
noncomputable def F_drop : List D → Store → Res D := run 3 b_drop
noncomputable def b_pick : MS := (retS (bin itemD (var 1) (appN 2 F_drop (consA (var 0) (consA (app lenD (consA (var 1) nilA)) nilA)))))
noncomputable def F_pick : List D → Store → Res D := run 2 b_pick
/-! ### the spring: cell n, its great cells in cell m -/
structure Sp (n m : Nat) (st : Store) : Prop where
  ex : ∃ (cs : List Int) (x : Int), st[n]? = some (.lst [.loc m, .int x]) ∧ st[m]? = some (.lst (cs.map D.int)) ∧ (∀ c ∈ cs, 0 ≤ c) ∧ 0 ≤ x
  ne : n ≠ m
structure Gr (n m : Nat) (st st' : Store) : Prop where
  keep : ∀ i c, i ≠ n → i ≠ m → st[i]? = some c → st'[i]? = some c
  sp : Sp n m st'
section
variable {n m : Nat} {st st' st2 : Store}
theorem Gr.refl (h : Sp n m st) : Gr n m st st := ⟨fun _ _ _ _ h => h, h⟩
theorem Gr.trans (a : Gr n m st st') (b : Gr n m st' st2) : Gr n m st st2 := ⟨fun i c h1 h2 h => b.keep i c h1 h2 (a.keep i c h1 h2 h), b.sp⟩
theorem get_app {c : Cell} {i : Nat} {d : Cell} (h : st[i]? = some c) : (st ++ [d])[i]? = some c := by
  have hl : i < st.length := (List.getElem?_eq_some_iff.mp h).1
  rw [List.getElem?_append_left hl]
  exact h
theorem get_last {d : Cell} : (st ++ [d])[st.length]? = some d := by simp
theorem Sp.push (h : Sp n m st) (d : Cell) : Sp n m (st ++ [d]) := by
  obtain ⟨⟨cs, x, h1, h2, h3⟩, ne⟩ := h
  exact ⟨⟨cs, x, get_app h1, get_app h2, h3⟩, ne⟩
theorem Gr.push (h : Sp n m st) (d : Cell) : Gr n m st (st ++ [d]) := ⟨fun i c _ _ h => get_app h, h.push d⟩
theorem Sp.lt (h : Sp n m st) : n < st.length ∧ m < st.length := by
  obtain ⟨⟨cs, x, h1, h2, h3⟩, ne⟩ := h
  exact ⟨(List.getElem?_eq_some_iff.mp h1).1, (List.getElem?_eq_some_iff.mp h2).1⟩
theorem Sp.ne_len (h : Sp n m st) : st.length ≠ n ∧ st.length ≠ m := by
  have := h.lt
  omega
/-- a cell of one's own is changed -/
theorem Sp.set (h : Sp n m st) {i : Nat} (h1 : i ≠ n) (h2 : i ≠ m) (c : Cell) : Sp n m (st.set i c) := by
  obtain ⟨⟨cs, x, k1, k2, k3⟩, ne⟩ := h
  exact ⟨⟨cs, x, by rw [List.getElem?_set_ne h1]; exact k1, by rw [List.getElem?_set_ne h2]; exact k2, k3⟩, ne⟩
theorem cell_get {i : Nat} {ds : List D} (h : st[i]? = some (.lst ds)) : cellL st i = some ds := cellL_of h
theorem set_get {i : Nat} {c d : Cell} (h : st[i]? = some c) : (st.set i d)[i]? = some d := by
  have hl : i < st.length := (List.getElem?_eq_some_iff.mp h).1
  rw [List.getElem?_set_self hl]
/-! ### data that compare -/
theorem py_ints {k : Nat} (hk : 0 < k) : ∀ cs : List Int, pyDs st k (cs.map D.int) = some (cs.map PyData.int)
  | [] => by simp [pyDs]
  | c :: cs => by
    obtain ⟨j, rfl⟩ : ∃ j, k = j + 1 := ⟨k - 1, by omega⟩
    rw [List.map_cons, pyDs, py_ints hk cs]
    simp [pyD]
theorem lay_ints : ∀ cs : List Int, PyData.canLayAll0 (cs.map PyData.int) = true
  | [] => by simp [PyData.canLayAll0]
  | c :: cs => by
    rw [List.map_cons, PyData.canLayAll0, lay_ints cs]
    simp [PyData.canLay0]
theorem depth_ints : ∀ cs : List Int, PyData.depthAll (cs.map PyData.int) = 0
  | [] => by simp [PyData.depthAll]
  | c :: cs => by
    rw [List.map_cons, PyData.depthAll, depth_ints cs]
    simp [PyData.depth]
theorem shaped_ints (cs : List Int) : SeqAt.shaped (.list (cs.map PyData.int)) = true := by
  unfold SeqAt.shaped
  rw [PyData.canLay0, lay_ints, PyData.depth, depth_ints]
  decide
theorem shaped_nil : SeqAt.shaped (.list []) = true := shaped_ints []
/-- xs != [] -/
theorem ne_empty {i j : Nat} {cs : List Int} (h1 : st[i]? = some (.lst (cs.map D.int))) (h2 : st[j]? = some (.lst [])) : eqV' true (.loc i) (.loc j) st = .ok (.bl (!cs.isEmpty)) st := by
  have e1 : pyD st 60 (.loc i) = some (.list (cs.map PyData.int)) := by
    rw [pyD, cell_get h1]
    simp only [py_ints (k := 59) (by decide), Option.map_some]
  have e2 : pyD st 60 (.loc j) = some (.list []) := by
    rw [pyD, cell_get h2]
    simp only [pyDs, Option.map_some]
  unfold eqV' blR eqD
  rw [if_neg (by simp [scalD]), e1, e2]
  simp only [shaped_ints, shaped_nil, and_self, if_true]
  cases cs <;> simp [PyData.eqv, PyData.eqvAll]
theorem set_at {i : Nat} {c : Cell} {j : Nat} : (st.set i c)[j]? = if i = j then (if i < st.length then some c else none) else st[j]? := by
  rw [List.getElem?_set]
theorem Gr.set (h : Sp n m st) {x : Int} {cs : List Int} (h1 : (∃ y, st[n]? = some (.lst [.loc m, .int y]) ∧ 0 ≤ y) ) (hc : ∀ c ∈ cs, 0 ≤ c) : Gr n m st (st.set m (.lst (cs.map D.int))) := by
  obtain ⟨y, h1, h2⟩ := h1
  refine ⟨fun i c k1 k2 k => by rw [List.getElem?_set_ne (Ne.symm k2)]; exact k, ⟨⟨cs, y, by rw [List.getElem?_set_ne (Ne.symm h.ne)]; exact h1, ?_, hc, h2⟩, h.ne⟩⟩
  rw [List.getElem?_set_self h.lt.2]
theorem wp_drop {k : Int} {Q : D → Store → Prop} (hS : Sp n m st) (h0 : 0 < k) (h1 : k < 2 ^ 64) (h : ∀ j st', 0 ≤ j → j < k → Gr n m st st' → Q (.int j) st') : wp (F_drop [.loc n, .int k] st) Q := by
  unfold F_drop b_drop
  simp only [wp_run, wp_bind, wp_ok, wp_bad, wpS_seq, Dn.wpS_set, wpS_ret, wpS_if, wpS_expr, wpS_skip, wpS_par, wpS_par3, wpS_asg, wpS_itemS, wpS_fldS, wpS_for, wpS_nx, wpS_rt, wpS_bk, wpS_ct, wpS_bad, wp_lc, wpS_never, thenK_nx, thenK_rt, thenK_bk, thenK_ct, outK_nx, outK_rt, turnK_nx, turnK_rt, turnK_bk, turnK_ct,
  wp_addI, wp_addS, wp_addT, wp_subI, wp_mulI, wp_mulS, wp_fdivI, wp_modI, wp_powI, ltD_int, leD_int, gtD_int, geD_int, eqV_int, eqV_str, wp_itemT, wp_itemR, wp_itemS, lenD_tup, lenD_rol, wp_lenS, intD_int, intD_bl, wp_intS, absD_int, minD_int, strD_str, wp_strI, wp_listS, truR_bl, sliceD_tup, sliceD_rol, wp_sliceS, wp_tup, wp_lst, wp_ifE, wp_andT, wp_orT, wp_notT, wp_appN, startsD_str,
  Dn.envOf, var, con, Dn.bin, app, consA, nilA, test, slice, noO, someO, List.map_cons, List.map_nil, List.cons_append, List.nil_append, List.replicate_succ, List.replicate_zero, List.length_cons, List.length_nil, List.getElem?_cons_zero, List.getElem?_cons_succ, List.set_cons_zero, List.set_cons_succ, List.append_nil,
  Nat.add_one_sub_one, Nat.reduceAdd, Nat.reduceSub, Nat.reduceLeDiff, Nat.sub_zero, Nat.zero_add, if_true, if_false, ite_true, ite_false, Bool.false_eq_true, reduceIte, Bool.not_true, Bool.not_false, Bool.not_eq_true', Nat.zero_le, true_and, and_true, decide_eq_true_eq, Nat.reduceEqDiff, Option.some.injEq, exists_eq_left', reduceCtorEq, atI_zero, atI_one, atI_two, List.set_cons_zero, List.set_cons_succ]
  obtain ⟨⟨cs0, x0, a1, a2, a3, a4⟩, ne⟩ := hS
  refine wpS_while (fun j r s => ∃ (cs : List Int) (x : Int) (o : Option D), r = [some (.loc n), some (.int k), o] ∧ j = cs.length ∧ s[n]? = some (.lst [.loc m, .int x]) ∧ s[m]? = some (.lst (cs.map D.int)) ∧ (∀ c ∈ cs, 0 ≤ c) ∧ 0 ≤ x ∧ ∀ i c, i ≠ n → i ≠ m → st[i]? = some c → s[i]? = some c) ?_ _ _ _ ⟨cs0, x0, none, rfl, rfl, a1, a2, a3, a4, fun _ _ _ _ h => h⟩
  rintro j r s ⟨cs, x, o, rfl, rfl, e1, e2, e3, e4, e5⟩
  have S : Sp n m s := ⟨⟨cs, x, e1, e2, e3, e4⟩, ne⟩
  have hne := S.ne_len
  simp only [wp_run, wp_bind, wp_ok, wp_bad, wpS_seq, Dn.wpS_set, wpS_ret, wpS_if, wpS_expr, wpS_skip, wpS_par, wpS_par3, wpS_asg, wpS_itemS, wpS_fldS, wpS_for, wpS_nx, wpS_rt, wpS_bk, wpS_ct, wpS_bad, wp_lc, wpS_never, thenK_nx, thenK_rt, thenK_bk, thenK_ct, outK_nx, outK_rt, turnK_nx, turnK_rt, turnK_bk, turnK_ct,
  wp_addI, wp_addS, wp_addT, wp_subI, wp_mulI, wp_mulS, wp_fdivI, wp_modI, wp_powI, ltD_int, leD_int, gtD_int, geD_int, eqV_int, eqV_str, wp_itemT, wp_itemR, wp_itemS, lenD_tup, lenD_rol, wp_lenS, intD_int, intD_bl, wp_intS, absD_int, minD_int, strD_str, wp_strI, wp_listS, truR_bl, sliceD_tup, sliceD_rol, wp_sliceS, wp_tup, wp_lst, wp_ifE, wp_andT, wp_orT, wp_notT, wp_appN, startsD_str,
  Dn.envOf, var, con, Dn.bin, app, consA, nilA, test, slice, noO, someO, List.map_cons, List.map_nil, List.cons_append, List.nil_append, List.replicate_succ, List.replicate_zero, List.length_cons, List.length_nil, List.getElem?_cons_zero, List.getElem?_cons_succ, List.set_cons_zero, List.set_cons_succ, List.append_nil,
  Nat.add_one_sub_one, Nat.reduceAdd, Nat.reduceSub, Nat.reduceLeDiff, Nat.sub_zero, Nat.zero_add, if_true, if_false, ite_true, ite_false, Bool.false_eq_true, reduceIte, Bool.not_true, Bool.not_false, Bool.not_eq_true', Nat.zero_le, true_and, and_true, decide_eq_true_eq, Nat.reduceEqDiff, Option.some.injEq, exists_eq_left', reduceCtorEq, atI_zero, atI_one, atI_two, List.set_cons_zero, List.set_cons_succ, wp_itemL (cell_get e1), atI_zero, Option.some.injEq, exists_eq_left', ne_empty (get_app e2) get_last, cell_get (get_app e1)]
  have f1 : (s ++ [Cell.lst []])[n]? = some (.lst [.loc m, .int x]) := get_app e1
  have f2 : (s ++ [Cell.lst []])[m]? = some (.lst (cs.map D.int)) := get_app e2
  have f5 : ∀ i c, i ≠ n → i ≠ m → st[i]? = some c → (s ++ [Cell.lst []])[i]? = some c := fun i c h1 h2 h => get_app (e5 i c h1 h2 h)
  generalize s ++ [Cell.lst []] = s1 at f1 f2 f5 ⊢
  have S1 : Sp n m s1 := ⟨⟨cs, x, f1, f2, e3, e4⟩, ne⟩
  cases cs with
  | nil =>
    simp only [wp_run, wp_bind, wp_ok, wp_bad, wpS_seq, Dn.wpS_set, wpS_ret, wpS_if, wpS_expr, wpS_skip, wpS_par, wpS_par3, wpS_asg, wpS_itemS, wpS_fldS, wpS_for, wpS_nx, wpS_rt, wpS_bk, wpS_ct, wpS_bad, wp_lc, wpS_never, thenK_nx, thenK_rt, thenK_bk, thenK_ct, outK_nx, outK_rt, turnK_nx, turnK_rt, turnK_bk, turnK_ct,
  wp_addI, wp_addS, wp_addT, wp_subI, wp_mulI, wp_mulS, wp_fdivI, wp_modI, wp_powI, ltD_int, leD_int, gtD_int, geD_int, eqV_int, eqV_str, wp_itemT, wp_itemR, wp_itemS, lenD_tup, lenD_rol, wp_lenS, intD_int, intD_bl, wp_intS, absD_int, minD_int, strD_str, wp_strI, wp_listS, truR_bl, sliceD_tup, sliceD_rol, wp_sliceS, wp_tup, wp_lst, wp_ifE, wp_andT, wp_orT, wp_notT, wp_appN, startsD_str,
  Dn.envOf, var, con, Dn.bin, app, consA, nilA, test, slice, noO, someO, List.map_cons, List.map_nil, List.cons_append, List.nil_append, List.replicate_succ, List.replicate_zero, List.length_cons, List.length_nil, List.getElem?_cons_zero, List.getElem?_cons_succ, List.set_cons_zero, List.set_cons_succ, List.append_nil,
  Nat.add_one_sub_one, Nat.reduceAdd, Nat.reduceSub, Nat.reduceLeDiff, Nat.sub_zero, Nat.zero_add, if_true, if_false, ite_true, ite_false, Bool.false_eq_true, reduceIte, Bool.not_true, Bool.not_false, Bool.not_eq_true', Nat.zero_le, true_and, and_true, decide_eq_true_eq, Nat.reduceEqDiff, Option.some.injEq, exists_eq_left', reduceCtorEq, atI_zero, atI_one, atI_two, List.set_cons_zero, List.set_cons_succ, List.isEmpty_nil, wp_itemL (cell_get f1)]
    refine ⟨.inr (by decide), by decide, ?_⟩
    rw [wpS_itemAt (cell_get f1) (p := 1) (by simp [ixN])]
    have hy : 0 ≤ (x * 6364136223846793005 + 1442695040888963407) % 18446744073709551616 := Int.emod_nonneg _ (by decide)
    generalize (x * 6364136223846793005 + 1442695040888963407) % 18446744073709551616 = y at hy ⊢
    have g1 : (s1.set n (.lst ([D.loc m, D.int x].set 1 (.int y))))[n]? = some (.lst [.loc m, .int y]) := set_get f1
    have g2 : (s1.set n (.lst ([D.loc m, D.int x].set 1 (.int y))))[m]? = some (.lst []) := by
      rw [List.getElem?_set_ne ne]
      exact f2
    have g5 : ∀ i c, i ≠ n → i ≠ m → st[i]? = some c → (s1.set n (.lst ([D.loc m, D.int x].set 1 (.int y))))[i]? = some c := fun i c h1 h2 h => by
      rw [List.getElem?_set_ne (Ne.symm h1)]
      exact f5 i c h1 h2 h
    generalize s1.set n (.lst ([D.loc m, D.int x].set 1 (.int y))) = s2 at g1 g2 g5 ⊢
    simp only [wp_run, wp_bind, wp_ok, wp_bad, wpS_seq, Dn.wpS_set, wpS_ret, wpS_if, wpS_expr, wpS_skip, wpS_par, wpS_par3, wpS_asg, wpS_itemS, wpS_fldS, wpS_for, wpS_nx, wpS_rt, wpS_bk, wpS_ct, wpS_bad, wp_lc, wpS_never, thenK_nx, thenK_rt, thenK_bk, thenK_ct, outK_nx, outK_rt, turnK_nx, turnK_rt, turnK_bk, turnK_ct,
  wp_addI, wp_addS, wp_addT, wp_subI, wp_mulI, wp_mulS, wp_fdivI, wp_modI, wp_powI, ltD_int, leD_int, gtD_int, geD_int, eqV_int, eqV_str, wp_itemT, wp_itemR, wp_itemS, lenD_tup, lenD_rol, wp_lenS, intD_int, intD_bl, wp_intS, absD_int, minD_int, strD_str, wp_strI, wp_listS, truR_bl, sliceD_tup, sliceD_rol, wp_sliceS, wp_tup, wp_lst, wp_ifE, wp_andT, wp_orT, wp_notT, wp_appN, startsD_str,
  Dn.envOf, var, con, Dn.bin, app, consA, nilA, test, slice, noO, someO, List.map_cons, List.map_nil, List.cons_append, List.nil_append, List.replicate_succ, List.replicate_zero, List.length_cons, List.length_nil, List.getElem?_cons_zero, List.getElem?_cons_succ, List.set_cons_zero, List.set_cons_succ, List.append_nil,
  Nat.add_one_sub_one, Nat.reduceAdd, Nat.reduceSub, Nat.reduceLeDiff, Nat.sub_zero, Nat.zero_add, if_true, if_false, ite_true, ite_false, Bool.false_eq_true, reduceIte, Bool.not_true, Bool.not_false, Bool.not_eq_true', Nat.zero_le, true_and, and_true, decide_eq_true_eq, Nat.reduceEqDiff, Option.some.injEq, exists_eq_left', reduceCtorEq, atI_zero, atI_one, atI_two, List.set_cons_zero, List.set_cons_succ, wp_itemL (cell_get g1)]
    refine ⟨⟨by decide, by decide⟩, h0, ?_⟩
    refine h _ s2 (Int.emod_nonneg _ (by omega)) (Int.emod_lt_of_pos _ h0) ⟨g5, ⟨⟨[], y, g1, g2, (fun _ h => (nomatch h)), hy⟩, ne⟩⟩
  | cons c cs =>
    have hc : 0 ≤ c := e3 c List.mem_cons_self
    simp only [wp_run, wp_bind, wp_ok, wp_bad, wpS_seq, Dn.wpS_set, wpS_ret, wpS_if, wpS_expr, wpS_skip, wpS_par, wpS_par3, wpS_asg, wpS_itemS, wpS_fldS, wpS_for, wpS_nx, wpS_rt, wpS_bk, wpS_ct, wpS_bad, wp_lc, wpS_never, thenK_nx, thenK_rt, thenK_bk, thenK_ct, outK_nx, outK_rt, turnK_nx, turnK_rt, turnK_bk, turnK_ct,
  wp_addI, wp_addS, wp_addT, wp_subI, wp_mulI, wp_mulS, wp_fdivI, wp_modI, wp_powI, ltD_int, leD_int, gtD_int, geD_int, eqV_int, eqV_str, wp_itemT, wp_itemR, wp_itemS, lenD_tup, lenD_rol, wp_lenS, intD_int, intD_bl, wp_intS, absD_int, minD_int, strD_str, wp_strI, wp_listS, truR_bl, sliceD_tup, sliceD_rol, wp_sliceS, wp_tup, wp_lst, wp_ifE, wp_andT, wp_orT, wp_notT, wp_appN, startsD_str,
  Dn.envOf, var, con, Dn.bin, app, consA, nilA, test, slice, noO, someO, List.map_cons, List.map_nil, List.cons_append, List.nil_append, List.replicate_succ, List.replicate_zero, List.length_cons, List.length_nil, List.getElem?_cons_zero, List.getElem?_cons_succ, List.set_cons_zero, List.set_cons_succ, List.append_nil,
  Nat.add_one_sub_one, Nat.reduceAdd, Nat.reduceSub, Nat.reduceLeDiff, Nat.sub_zero, Nat.zero_add, if_true, if_false, ite_true, ite_false, Bool.false_eq_true, reduceIte, Bool.not_true, Bool.not_false, Bool.not_eq_true', Nat.zero_le, true_and, and_true, decide_eq_true_eq, Nat.reduceEqDiff, Option.some.injEq, exists_eq_left', reduceCtorEq, atI_zero, atI_one, atI_two, List.set_cons_zero, List.set_cons_succ, List.isEmpty_cons, wp_itemL (cell_get f1), wp_itemL (cell_get f2)]
    by_cases hp : 0 < c
    · rw [if_pos hp]
      refine ⟨⟨h0, h1⟩, ?_⟩
      rw [wpS_itemAt (cell_get f2) (p := 0) (by simp [ixN])]
      simp only [wp_run, wp_bind, wp_ok, wp_bad, wpS_seq, Dn.wpS_set, wpS_ret, wpS_if, wpS_expr, wpS_skip, wpS_par, wpS_par3, wpS_asg, wpS_itemS, wpS_fldS, wpS_for, wpS_nx, wpS_rt, wpS_bk, wpS_ct, wpS_bad, wp_lc, wpS_never, thenK_nx, thenK_rt, thenK_bk, thenK_ct, outK_nx, outK_rt, turnK_nx, turnK_rt, turnK_bk, turnK_ct,
  wp_addI, wp_addS, wp_addT, wp_subI, wp_mulI, wp_mulS, wp_fdivI, wp_modI, wp_powI, ltD_int, leD_int, gtD_int, geD_int, eqV_int, eqV_str, wp_itemT, wp_itemR, wp_itemS, lenD_tup, lenD_rol, wp_lenS, intD_int, intD_bl, wp_intS, absD_int, minD_int, strD_str, wp_strI, wp_listS, truR_bl, sliceD_tup, sliceD_rol, wp_sliceS, wp_tup, wp_lst, wp_ifE, wp_andT, wp_orT, wp_notT, wp_appN, startsD_str,
  Dn.envOf, var, con, Dn.bin, app, consA, nilA, test, slice, noO, someO, List.map_cons, List.map_nil, List.cons_append, List.nil_append, List.replicate_succ, List.replicate_zero, List.length_cons, List.length_nil, List.getElem?_cons_zero, List.getElem?_cons_succ, List.set_cons_zero, List.set_cons_succ, List.append_nil,
  Nat.add_one_sub_one, Nat.reduceAdd, Nat.reduceSub, Nat.reduceLeDiff, Nat.sub_zero, Nat.zero_add, if_true, if_false, ite_true, ite_false, Bool.false_eq_true, reduceIte, Bool.not_true, Bool.not_false, Bool.not_eq_true', Nat.zero_le, true_and, and_true, decide_eq_true_eq, Nat.reduceEqDiff, Option.some.injEq, exists_eq_left', reduceCtorEq, atI_zero, atI_one, atI_two, List.set_cons_zero, List.set_cons_succ]
      refine ⟨h0, ?_⟩
      have hq : 0 ≤ c / k := Int.ediv_nonneg hc (by omega)
      refine h _ _ (Int.emod_nonneg _ (by omega)) (Int.emod_lt_of_pos _ h0) ⟨fun i d h1 h2 h => ?_, ⟨⟨c / k :: cs, x, ?_, ?_, fun y hy => ?_, e4⟩, ne⟩⟩
      · rw [List.getElem?_set_ne (Ne.symm h2)]
        exact f5 i d h1 h2 h
      · rw [List.getElem?_set_ne (Ne.symm ne)]
        exact f1
      · exact set_get f2
      · rcases List.mem_cons.mp hy with e | e
        · rw [e]
          exact hq
        · exact e3 y (List.mem_cons_of_mem _ e)
    · rw [if_neg hp]
      rw [wp_methL (o := bin itemD (var 0) (con (D.int 0))) (n := m) (ds := .int c :: cs.map D.int) (st1 := s1) ?_ (cell_get f2)]
      · simp only [wp_run, wp_bind, wp_ok, wp_bad, wpS_seq, Dn.wpS_set, wpS_ret, wpS_if, wpS_expr, wpS_skip, wpS_par, wpS_par3, wpS_asg, wpS_itemS, wpS_fldS, wpS_for, wpS_nx, wpS_rt, wpS_bk, wpS_ct, wpS_bad, wp_lc, wpS_never, thenK_nx, thenK_rt, thenK_bk, thenK_ct, outK_nx, outK_rt, turnK_nx, turnK_rt, turnK_bk, turnK_ct,
  wp_addI, wp_addS, wp_addT, wp_subI, wp_mulI, wp_mulS, wp_fdivI, wp_modI, wp_powI, ltD_int, leD_int, gtD_int, geD_int, eqV_int, eqV_str, wp_itemT, wp_itemR, wp_itemS, lenD_tup, lenD_rol, wp_lenS, intD_int, intD_bl, wp_intS, absD_int, minD_int, strD_str, wp_strI, wp_listS, truR_bl, sliceD_tup, sliceD_rol, wp_sliceS, wp_tup, wp_lst, wp_ifE, wp_andT, wp_orT, wp_notT, wp_appN, startsD_str,
  Dn.envOf, var, con, Dn.bin, app, consA, nilA, test, slice, noO, someO, List.map_cons, List.map_nil, List.cons_append, List.nil_append, List.replicate_succ, List.replicate_zero, List.length_cons, List.length_nil, List.getElem?_cons_zero, List.getElem?_cons_succ, List.set_cons_zero, List.set_cons_succ, List.append_nil,
  Nat.add_one_sub_one, Nat.reduceAdd, Nat.reduceSub, Nat.reduceLeDiff, Nat.sub_zero, Nat.zero_add, if_true, if_false, ite_true, ite_false, Bool.false_eq_true, reduceIte, Bool.not_true, Bool.not_false, Bool.not_eq_true', Nat.zero_le, true_and, and_true, decide_eq_true_eq, Nat.reduceEqDiff, Option.some.injEq, exists_eq_left', reduceCtorEq, atI_zero, atI_one, atI_two, List.set_cons_zero, List.set_cons_succ]
        refine wp_pop0 (cell_get f2) ⟨cs.length, by omega, cs, x, _, rfl, rfl, ?_, set_get f2, fun y hy => e3 y (List.mem_cons_of_mem _ hy), e4, fun i d h1 h2 h => ?_⟩
        · rw [List.getElem?_set_ne (Ne.symm ne)]
          exact f1
        · rw [List.getElem?_set_ne (Ne.symm h2)]
          exact f5 i d h1 h2 h
      · simp only [bin, var, con, List.getElem?_cons_zero]
        show itemD (.loc n) (.int 0) s1 = _
        show (match seqD s1 (.loc n) with
          | some ds => (match atI ds 0 with
            | some x => Res.ok x s1
            | none => .bad)
          | none => .bad) = _
        simp only [seqD, cell_get f1, atI_zero]
theorem wp_pick {Q : D → Store → Prop} {x : D} {ds : List D} (hS : Sp n m st) (hd : seqD st x = some ds) (hne : ds ≠ []) (hl : ds.length ≤ LIM) (hx : ∀ q, x = .loc q → q ≠ n ∧ q ≠ m) (h : ∀ d st', d ∈ ds → Gr n m st st' → Q d st') : wp (F_pick [.loc n, x] st) Q := by
  unfold F_pick b_pick
  simp only [wp_run, wp_bind, wp_ok, wp_bad, wpS_seq, Dn.wpS_set, wpS_ret, wpS_if, wpS_expr, wpS_skip, wpS_par, wpS_par3, wpS_asg, wpS_itemS, wpS_fldS, wpS_for, wpS_nx, wpS_rt, wpS_bk, wpS_ct, wpS_bad, wp_lc, wpS_never, thenK_nx, thenK_rt, thenK_bk, thenK_ct, outK_nx, outK_rt, turnK_nx, turnK_rt, turnK_bk, turnK_ct,
  wp_addI, wp_addS, wp_addT, wp_subI, wp_mulI, wp_mulS, wp_fdivI, wp_modI, wp_powI, ltD_int, leD_int, gtD_int, geD_int, eqV_int, eqV_str, wp_itemT, wp_itemR, wp_itemS, lenD_tup, lenD_rol, wp_lenS, intD_int, intD_bl, wp_intS, absD_int, minD_int, strD_str, wp_strI, wp_listS, truR_bl, sliceD_tup, sliceD_rol, wp_sliceS, wp_tup, wp_lst, wp_ifE, wp_andT, wp_orT, wp_notT, wp_appN, startsD_str,
  Dn.envOf, var, con, Dn.bin, app, consA, nilA, test, slice, noO, someO, List.map_cons, List.map_nil, List.cons_append, List.nil_append, List.replicate_succ, List.replicate_zero, List.length_cons, List.length_nil, List.getElem?_cons_zero, List.getElem?_cons_succ, List.set_cons_zero, List.set_cons_succ, List.append_nil,
  Nat.add_one_sub_one, Nat.reduceAdd, Nat.reduceSub, Nat.reduceLeDiff, Nat.sub_zero, Nat.zero_add, if_true, if_false, ite_true, ite_false, Bool.false_eq_true, reduceIte, Bool.not_true, Bool.not_false, Bool.not_eq_true', Nat.zero_le, true_and, and_true, decide_eq_true_eq, Nat.reduceEqDiff, Option.some.injEq, exists_eq_left', reduceCtorEq, atI_zero, atI_one, atI_two, List.set_cons_zero, List.set_cons_succ, lenD_seq hd]
  have hpos : 0 < ds.length := List.length_pos_iff.mpr hne
  refine wp_drop hS (by omega) (by have : LIM < 2 ^ 64 := by decide
                                   omega) fun j st' h0 h1 g => ?_
  have hd' : seqD st' x = some ds := by
    cases x with
    | tup es => exact hd
    | rol es => exact hd
    | loc q =>
      obtain ⟨k1, k2⟩ := hx q rfl
      exact cell_get (g.keep q _ k1 k2 (cellL_some hd))
    | _ => cases hd
  obtain ⟨k, rfl⟩ : ∃ k : Nat, j = k := ⟨j.toNat, by omega⟩
  have hk : k < ds.length := by omega
  exact wp_itemX hd' (atI_of (by simp [hk])) (h _ st' (List.getElem_mem hk) g)
end
end Dn


set_option Elab.async false
set_option linter.all false
set_option maxRecDepth 100000
set_option maxHeartbeats 4000000
set_option autoImplicit false
/-! Dn, part P: tables, fields and methods as rewriting; stores that grow; texts. -/
namespace Dn
open PySem PySem.Spec PyProof.Rows L2
section
variable {st st1 st2 : Store} {Q : D → Store → Prop} {K : SR → Prop} {r : Env} {i j : Int} {a b : Str} {ds es : List D} {m n p : Nat} {d e x y z : D} {C g : Str} {fs : List (Str × D)} {o : ME} {f : MA}
def kdAt (kvs : List (Str × D)) (k : D) (st : Store) : Res D := match k with
  | .str z => (match kvs.lookup z with
    | some d => .ok d st
    | none => .bad)
  | _ => .bad
theorem wp_kdE {kvs : List (Str × D)} {f : ME} : wp (kdE kvs f r st) Q = wp (f r st) (fun k st1 => wp (kdAt kvs k st1) Q) := wp_bind
theorem wp_kdAt {kvs : List (Str × D)} : wp (kdAt kvs (.str a) st) Q = (∃ d, kvs.lookup a = some d ∧ Q d st) := by
  unfold kdAt
  cases e : kvs.lookup a with
  | none => simp [e, wp]
  | some d => simp [e, wp]
def fldR (C g : Str) (d : D) (st : Store) : Res D := match d with
  | .loc n => match st[n]? with
    | some (.ins C' fs) => if C' = C then (match fs.lookup g with
      | some z => .ok z st
      | none => .bad) else .bad
    | _ => .bad
  | _ => .bad
theorem wp_fldE : wp (fldE C g o r st) Q = wp (o r st) (fun d st1 => wp (fldR C g d st1) Q) := wp_bind
theorem wp_fldR (h : st[n]? = some (.ins C fs)) : wp (fldR C g (.loc n) st) Q = (∃ z, fs.lookup g = some z ∧ Q z st) := by
  unfold fldR
  simp only [h, if_true]
  cases fs.lookup g <;> simp [wp]
theorem wp_methE {mm : Str} {F : List D → Store → Res D} : wp (methC C mm n F o f r st) Q = wp (o r st) (fun d st1 => wp (recvD C mm st1 d fun i => (f r st1).bind fun ds st2 => if (D.loc i :: ds).length = n then F (.loc i :: ds) st2 else .bad) Q) := wp_bind
theorem wp_recv {mm : Str} {k : Nat → Res D} (h : st[p]? = some (.ins C fs)) (hl : fs.lookup mm = none) : wp (recvD C mm st (.loc p) k) Q = wp (k p) Q := by
  unfold recvD
  simp only [h, hl, and_self, if_true]
def methR (T : String) (x : D) (st : Store) (k : Res D) : Res D := match x with
  | .str _ => if T = "str" then k else .bad
  | .loc n => if T = "list" then (match cellL st n with
    | some _ => k
    | none => .bad) else .bad
  | _ => .bad
theorem wp_meth {T : String} {g : D → List D → Store → Res D} {o : ME} : wp (meth T g o f r st) Q = wp (o r st) (fun x st1 => wp (methR T x st1 ((f r st1).bind fun ds st2 => g x ds st2)) Q) := by
  unfold meth
  rw [wp_bind]
  rfl
theorem wp_methRs {k : Res D} : wp (methR "str" (.str a) st k) Q = wp k Q := by
  show wp (if "str" = "str" then k else .bad) Q = _
  rw [if_pos rfl]
theorem wp_methRl {k : Res D} (h : cellL st n = some ds) : wp (methR "list" (.loc n) st k) Q = wp k Q := by
  show wp (if "list" = "list" then (match cellL st n with
    | some _ => k
    | none => .bad) else .bad) Q = _
  rw [if_pos rfl, h]
theorem wp_ifL {c : Prop} [Decidable c] {x : Res D} : wp (if c then x else .bad) Q = (c ∧ wp x Q) := wp_cond
def rngAt (ds : List D) (st : Store) : Res (List D × List (Nat × List D)) := match ds with
  | [.int j] => if -(2 ^ 62) ≤ j ∧ j < 2 ^ 62 then .ok ((List.range j.toNat).map fun i => .int (i : Nat), []) st else .bad
  | _ => .bad
theorem wp_rng1 {Q : List D × List (Nat × List D) → Store → Prop} : wp (rngW1 f r st) Q = wp (f r st) (fun ds st1 => wp (rngAt ds st1) Q) := wp_bind
theorem wp_rngAt {Q : List D × List (Nat × List D) → Store → Prop} : wp (rngAt [.int j] st) Q = ((-4611686018427387904 ≤ j ∧ j < 4611686018427387904) ∧ Q ((List.range j.toNat).map fun i => .int (i : Nat), []) st) := by
  unfold rngAt
  rw [wp_cond]
  rfl
def starAt (x : D) (st : Store) (k : Res (List D)) : Res (List D) := match seqD st x with
  | some ds => k.bind fun xs st2 => .ok (ds ++ xs) st2
  | none => .bad
theorem wp_star {a : ME} {g : MA} {Q : List D → Store → Prop} : wp (starA a g r st) Q = wp (a r st) (fun x st1 => wp (starAt x st1 (g r st1)) Q) := wp_bind
theorem wp_starT {k : Res (List D)} {Q : List D → Store → Prop} : wp (starAt (.tup ds) st k) Q = wp k (fun xs st2 => Q (ds ++ xs) st2) := by
  show wp (k.bind fun xs st2 => .ok (ds ++ xs) st2) Q = _
  rw [wp_bind]
  rfl
/-! ### a store that has grown -/
def Ext (st st' : Store) : Prop := st <+: st'
theorem Ext.refl : Ext st st := List.prefix_refl st
theorem Ext.trans (h : Ext st st1) (k : Ext st1 st2) : Ext st st2 := List.IsPrefix.trans h k
theorem Ext.push {c : Cell} : Ext st (st ++ [c]) := List.prefix_append _ _
theorem Ext.get {c : Cell} {i : Nat} (h : Ext st st1) (k : st[i]? = some c) : st1[i]? = some c := by
  obtain ⟨l, rfl⟩ := h
  have hl : i < st.length := (List.getElem?_eq_some_iff.mp k).1
  rw [List.getElem?_append_left hl]
  exact k
theorem Ext.le (h : Ext st st1) : st.length ≤ st1.length := List.IsPrefix.length_le h
theorem Ext.set {i : Nat} {c : Cell} (h : Ext st st1) (hi : st.length ≤ i) : Ext st (st1.set i c) := by
  obtain ⟨l, rfl⟩ := h
  refine ⟨l.set (i - st.length) c, ?_⟩
  rw [List.set_append_right _ _ hi]
theorem Ext.cell (h : Ext st st1) (k : cellL st n = some ds) : cellL st1 n = some ds := cellL_of (h.get (cellL_some k))
theorem Ext.push_cell {c : Cell} (h : Ext st st1) (k : cellL st1 n = some ds) : cellL (st1 ++ [c]) n = some ds := cellL_of (get_app (cellL_some k))
theorem Ext.sp (h : Ext st st1) (S : Sp m n st) : Sp m n st1 := by
  obtain ⟨⟨cs, x, h1, h2, h3⟩, ne⟩ := S
  exact ⟨⟨cs, x, h.get h1, h.get h2, h3⟩, ne⟩
theorem Ext.gr (h : Ext st st1) (S : Sp m n st) : Gr m n st st1 := ⟨fun i c _ _ k => h.get k, h.sp S⟩
theorem cut_tail {d : D} {ds : List D} : cut (d :: ds) (some 1) none = ds := by
  unfold cut HT.sIx
  simp
/-! ### texts -/
abbrev T (l : List Nat) : D := .str (SX.S l)
theorem txts_T : ∀ l : List (List Nat), txts (l.map T) = some (l.map SX.S)
  | [] => rfl
  | x :: l => by
    show (txts (l.map T)).map (SX.S x :: ·) = _
    rw [txts_T l]
    rfl
theorem wp_joinT {x : D} {s : List Nat} {l : List (List Nat)} (h : seqD st x = some (l.map T)) : wp (joinD (T s) [x] st) Q = ((l.map List.length).sum + l.length * s.length ≤ LIM ∧ Q (T (TL.joinL s l)) st) := by
  rw [wp_join h (txts_T l), SX.join_S, SX.lens, List.length_map, SX.S_len]
theorem wp_addTx {a b : List Nat} : wp (addD (T a) (T b) st) Q = (a.length + b.length ≤ LIM ∧ Q (T (a ++ b)) st) := by
  rw [wp_addS, SX.S_len, SX.S_len, SX.S_cat]
theorem eqV_T {neg : Bool} {a b : List Nat} : eqV' neg (T a) (T b) st = .ok (.bl (if neg then !(SX.S a == SX.S b) else SX.S a == SX.S b)) st := rfl
/-- a text whose signs may stand in a str -/
def Tok' (l : List Nat) : Prop := ∀ c ∈ l, c < 1114112
theorem strOk_S {l : List Nat} (h : Tok' l) : PyData.strOk (SX.S l) = true := by
  unfold PyData.strOk
  rw [← Array.all_toList]
  simpa [Tok'] using h
theorem py_T {k : Nat} (hk : 0 < k) : ∀ l : List (List Nat), pyDs st k (l.map T) = some (l.map fun x => PyData.str (SX.S x))
  | [] => by simp [pyDs]
  | c :: cs => by
    obtain ⟨j, rfl⟩ : ∃ j, k = j + 1 := ⟨k - 1, by omega⟩
    rw [List.map_cons, pyDs, py_T hk cs]
    simp [pyD]
theorem lay_T : ∀ l : List (List Nat), (∀ x ∈ l, Tok' x) → PyData.canLayAll0 (l.map fun x => PyData.str (SX.S x)) = true
  | [], _ => by simp [PyData.canLayAll0]
  | c :: cs, h => by
    rw [List.map_cons, PyData.canLayAll0, lay_T cs fun x hx => h x (List.mem_cons_of_mem _ hx)]
    simp [PyData.canLay0, strOk_S (h c List.mem_cons_self)]
theorem depth_T : ∀ l : List (List Nat), PyData.depthAll (l.map fun x => PyData.str (SX.S x)) = 0
  | [] => by simp [PyData.depthAll]
  | c :: cs => by
    rw [List.map_cons, PyData.depthAll, depth_T cs]
    simp [PyData.depth]
theorem shaped_T (l : List (List Nat)) (h : ∀ x ∈ l, Tok' x) : SeqAt.shaped (.list (l.map fun x => PyData.str (SX.S x))) = true := by
  unfold SeqAt.shaped
  rw [PyData.canLay0, lay_T l h, PyData.depth, depth_T]
  decide
theorem eqv_T : ∀ l k : List (List Nat), PyData.eqvAll (l.map fun x => PyData.str (SX.S x)) (k.map fun x => PyData.str (SX.S x)) = decide (l = k)
  | [], [] => by simp [PyData.eqvAll]
  | [], _ :: _ => by simp [PyData.eqvAll]
  | _ :: _, [] => by simp [PyData.eqvAll]
  | x :: l, y :: k => by
    rw [List.map_cons, List.map_cons, PyData.eqvAll, eqv_T l k, PyData.eqv]
    by_cases h : x = y
    · subst h
      simp
    · have : ¬ SX.S x = SX.S y := fun e => h (SX.S_inj e)
      simp [h, this]
/-- two lists of texts compared -/
theorem eq_T {neg : Bool} {l k : List (List Nat)} (h1 : cellL st m = some (l.map T)) (h2 : cellL st n = some (k.map T)) (hl : ∀ x ∈ l, Tok' x) (hk : ∀ x ∈ k, Tok' x) :
    eqV' neg (.loc m) (.loc n) st = .ok (.bl (if neg then !decide (l = k) else decide (l = k))) st := by
  have e1 : pyD st 60 (.loc m) = some (.list (l.map fun x => PyData.str (SX.S x))) := by
    rw [pyD, h1]
    simp only [py_T (k := 59) (by decide), Option.map_some]
  have e2 : pyD st 60 (.loc n) = some (.list (k.map fun x => PyData.str (SX.S x))) := by
    rw [pyD, h2]
    simp only [py_T (k := 59) (by decide), Option.map_some]
  unfold eqV' blR eqD
  rw [if_neg (by simp [scalD]), e1, e2]
  simp only [shaped_T l hl, shaped_T k hk, and_self, if_true, PyData.eqv, eqv_T]
theorem eq_T0 {neg : Bool} {l : List (List Nat)} (h1 : cellL st m = some (l.map T)) (h2 : cellL st n = some []) (hl : ∀ x ∈ l, Tok' x) : eqV' neg (.loc m) (.loc n) st = .ok (.bl (if neg then !l.isEmpty else l.isEmpty)) st := by
  rw [eq_T (k := []) h1 h2 hl fun _ h => by cases h]
  cases l <;> rfl
end
end Dn


set_option Elab.async false
set_option linter.all false
set_option maxRecDepth 100000
set_option maxHeartbeats 4000000
set_option autoImplicit false
/-! Dn, part W: words about states as data and as texts. -/
namespace Dn
open PySem PySem.Spec PyProof.Rows L2
inductive H9 where
  | all | left | mode | top | bottom | has | on | count | deep
inductive Sr where
  | mode | screen | sign | number
  deriving DecidableEq
inductive It where
  | nm (l : List Nat) | sg (c : Nat) | no (n : Nat)
inductive Wd where
  | sim (h : H9) (its : List It)
  | is (m : List Nat) (k : List (List Nat))
  | un (w : Wd)
  | bi (o : Bool) (a b : Wd)
def H9.t : H9 → List Nat
  | .all => [97, 108, 108]
  | .left => [108, 101, 102, 116]
  | .mode => [109, 111, 100, 101]
  | .top => [116, 111, 112]
  | .bottom => [98, 111, 116, 116, 111, 109]
  | .has => [104, 97, 115]
  | .on => [111, 110]
  | .count => [99, 111, 117, 110, 116]
  | .deep => [100, 101, 101, 112]
def H9.srt : H9 → List Sr
  | .all => []
  | .left => []
  | .mode => [.mode]
  | .top => [.screen]
  | .bottom => [.screen]
  | .has => [.screen]
  | .on => [.screen, .screen]
  | .count => [.screen, .sign, .number]
  | .deep => [.sign, .number]
def Sr.t : Sr → List Nat
  | .mode => [109, 111, 100, 101]
  | .screen => [115, 99, 114, 101, 101, 110]
  | .sign => [115, 105, 103, 110]
  | .number => [110, 117, 109, 98, 101, 114]
abbrev l_is : List Nat := [105, 115]
abbrev l_not : List Nat := [110, 111, 116]
abbrev l_and : List Nat := [97, 110, 100]
abbrev l_or : List Nat := [111, 114]
abbrev l_words : List Nat := [119, 111, 114, 100, 115]
def It.d : It → D
  | .nm l => T l
  | .sg c => T [c]
  | .no n => .int (n : Nat)
def It.t : It → List Nat
  | .nm l => l
  | .sg c => [c]
  | .no n => TL.numL n
/-- a name -/
def Nm (l : List Nat) : Prop := l ≠ [] ∧ l.length ≤ 8 ∧ ∀ c ∈ l, 97 ≤ c ∧ c ≤ 122
def ItOk : Sr → It → Prop
  | .mode, .nm l => Nm l
  | .screen, .nm l => Nm l
  | .sign, .sg c => c = 60 ∨ c = 61 ∨ c = 62
  | .number, .no n => n < 10 ^ 9
  | _, _ => False
inductive ItsOk : List Sr → List It → Prop
  | nil : ItsOk [] []
  | cons {s : Sr} {i : It} {ss : List Sr} {is : List It} : ItOk s i → ItsOk ss is → ItsOk (s :: ss) (i :: is)
def Wd.d : Wd → D
  | .sim h its => .tup (T h.t :: its.map It.d)
  | .is m k => .tup [T l_is, T m, .tup (k.map T)]
  | .un w => .tup [T l_not, w.d]
  | .bi o a b => .tup [T (if o then l_and else l_or), a.d, b.d]
/-- the brackets that are open at once -/
def Wd.dep : Wd → Nat
  | .sim _ its => if its.isEmpty then 0 else 1
  | .is _ _ => 1
  | .un w => w.dep + 1
  | .bi _ a b => max a.dep b.dep + 1
def Wd.ok : Wd → Prop
  | .sim h its => ItsOk h.srt its
  | .is m k => Nm m ∧ ∀ x ∈ k, Nm x
  | .un w => w.ok
  | .bi _ a b => a.ok ∧ b.ok
/-- the text of words -/
def Wd.t : Wd → List Nat
  | .sim h its => if its.isEmpty then h.t else h.t ++ (40 :: (TL.joinL [32] (its.map It.t) ++ [41]))
  | .is m k => l_is ++ (40 :: (m ++ (58 :: (TL.joinL [46] k ++ [41]))))
  | .un w => l_not ++ (40 :: (w.t ++ [41]))
  | .bi o a b => (if o then l_and else l_or) ++ (40 :: (a.t ++ (32 :: (b.t ++ [41]))))
def Wd.ht : Wd → Nat
  | .sim _ _ => 0
  | .is _ _ => 0
  | .un w => w.ht + 1
  | .bi _ a b => max a.ht b.ht + 1
/-- how long they are -/
def Wd.sz : Wd → Nat
  | .sim _ _ => 60
  | .is _ k => 20 + 9 * k.length
  | .un w => w.sz + 10
  | .bi _ a b => a.sz + b.sz + 10
theorem numS (n : Nat) : Str.ofString (toString ((n : Nat) : Int)) = SX.S (TL.numL n) := TL.ext_tl (TL.tl_num n)
theorem nm_tok {l : List Nat} (h : Nm l) : Tok' l := fun c hc => by
  have := (h.2.2 c hc).2
  omega
theorem num_tok (n : Nat) : Tok' (TL.numL n) := fun c hc => by
  have := TL.numL_digits n c hc
  omega
theorem it_tok {s : Sr} {i : It} (h : ItOk s i) : Tok' i.t := by
  cases s <;> cases i <;> first
    | exact h.elim
    | exact nm_tok h
    | exact num_tok _
    | (intro c hc
       have e := List.mem_singleton.mp hc
       rcases h with h | h | h <;> omega)
theorem its_tok : ∀ {ss : List Sr} {is : List It}, ItsOk ss is → ∀ x ∈ is.map It.t, Tok' x
  | _, _, .nil => fun _ h => by cases h
  | _, _, .cons h t => fun x hx => by
    rcases List.mem_cons.mp hx with e | e
    · rw [e]
      exact it_tok h
    · exact its_tok t x e
theorem its_get : ∀ {ss : List Sr} {is : List It} {j : Nat} {s : Sr} {i : It}, ItsOk ss is → ss[j]? = some s → is[j]? = some i → ItOk s i
  | _, _, 0, _, _, .cons h t, e1, e2 => by
    cases e1
    cases e2
    exact h
  | _, _, j + 1, _, _, .cons h t, e1, e2 => its_get (j := j) t (by simpa using e1) (by simpa using e2)
theorem it_len {s : Sr} {i : It} (h : ItOk s i) : i.t.length ≤ 9 := by
  cases s <;> cases i <;> first
    | exact h.elim
    | exact Nat.le_trans h.2.1 (by decide)
    | exact TL.numL_len (by decide) h
    | simp [It.t]
theorem its_len : ∀ {ss : List Sr} {is : List It}, ItsOk ss is → ((is.map It.t).map List.length).sum ≤ 9 * is.length ∧ is.length = ss.length
  | _, _, .nil => ⟨Nat.le_refl _, rfl⟩
  | _, _, .cons h t => by
    obtain ⟨h1, h2⟩ := its_len t
    have h3 := it_len h
    simp only [List.map_cons, List.sum_cons, List.length_cons]
    omega
theorem join_len (s : List Nat) : ∀ l : List (List Nat), (TL.joinL s l).length ≤ (l.map List.length).sum + l.length * s.length
  | [] => by simp [TL.joinL]
  | [x] => by simp [TL.joinL]
  | x :: y :: r => by
    have h := join_len s (y :: r)
    simp only [TL.joinL, List.length_append, List.map_cons, List.sum_cons, List.length_cons] at h ⊢
    rw [Nat.add_mul, Nat.one_mul]
    omega
theorem joinL_tok {s : List Nat} (hs : Tok' s) : ∀ {l : List (List Nat)}, (∀ x ∈ l, Tok' x) → Tok' (TL.joinL s l)
  | [], _ => fun _ h => by cases h
  | [x], h => h x List.mem_cons_self
  | x :: y :: r, h => fun c hc => by
    have hr := joinL_tok hs (l := y :: r) fun z hz => h z (List.mem_cons_of_mem _ hz)
    rcases List.mem_append.mp hc with e | e
    · exact h x List.mem_cons_self c e
    · rcases List.mem_append.mp e with e | e
      · exact hs c e
      · exact hr c e
theorem h9_len (h : H9) : h.t.length ≤ 6 ∧ h.srt.length ≤ 3 := by cases h <;> decide
theorem h9_tok (h : H9) : Tok' h.t := by cases h <;> (unfold Tok'; decide)
theorem names_len : ∀ {k : List (List Nat)}, (∀ x ∈ k, Nm x) → (k.map List.length).sum ≤ 8 * k.length
  | [], _ => Nat.le_refl _
  | x :: k, h => by
    have h1 := names_len (k := k) fun y hy => h y (List.mem_cons_of_mem _ hy)
    have h2 := (h x List.mem_cons_self).2.1
    simp only [List.map_cons, List.sum_cons, List.length_cons]
    omega
theorem tok_app {a b : List Nat} (ha : Tok' a) (hb : Tok' b) : Tok' (a ++ b) := fun c hc => (List.mem_append.mp hc).elim (ha c) (hb c)
theorem tok_cons {x : Nat} {b : List Nat} (ha : x < 1114112) (hb : Tok' b) : Tok' (x :: b) := fun c hc => by
  rcases List.mem_cons.mp hc with e | e
  · rw [e]
    exact ha
  · exact hb c e
theorem tok_lit {l : List Nat} (h : l.all (fun c => decide (c < 1114112)) = true) : Tok' l := fun c hc => by simpa using List.all_eq_true.mp h c hc
theorem Wd.tok : ∀ {w : Wd}, w.ok → Tok' w.t
  | .sim h its, k => by
    unfold Wd.t
    split
    · exact h9_tok h
    · exact tok_app (h9_tok h) (tok_cons (by decide) (tok_app (joinL_tok (tok_lit rfl) (its_tok k)) (tok_lit rfl)))
  | .is m k, h => by
    unfold Wd.t
    exact tok_app (tok_lit rfl) (tok_cons (by decide) (tok_app (nm_tok h.1) (tok_cons (by decide) (tok_app (joinL_tok (tok_lit rfl) fun x hx => nm_tok (h.2 x hx)) (tok_lit rfl)))))
  | .un w, h => by
    unfold Wd.t
    exact tok_app (tok_lit rfl) (tok_cons (by decide) (tok_app (Wd.tok (w := w) h) (tok_lit rfl)))
  | .bi o a b, h => by
    unfold Wd.t
    refine tok_app ?_ (tok_cons (by decide) (tok_app (Wd.tok (w := a) h.1) (tok_cons (by decide) (tok_app (Wd.tok (w := b) h.2) (tok_lit rfl)))))
    cases o <;> exact tok_lit rfl
theorem Wd.len : ∀ {w : Wd}, w.ok → w.t.length ≤ w.sz
  | .sim h its, k => by
    obtain ⟨h1, h2⟩ := h9_len h
    obtain ⟨h3, h4⟩ := its_len k
    have h5 := join_len [32] (its.map It.t)
    unfold Wd.t Wd.sz
    split
    · omega
    · simp only [List.length_append, List.length_cons, List.length_nil, List.length_map] at h5 ⊢
      omega
  | .is m k, h => by
    have h1 := names_len h.2
    have h2 := h.1.2.1
    have h5 := join_len [46] k
    unfold Wd.t Wd.sz
    simp only [List.length_append, List.length_cons, List.length_nil] at h5 ⊢
    omega
  | .un w, h => by
    have := Wd.len (w := w) h
    unfold Wd.t Wd.sz
    simp only [List.length_append, List.length_cons, List.length_nil]
    omega
  | .bi o a b, h => by
    have h1 := Wd.len (w := a) h.1
    have h2 := Wd.len (w := b) h.2
    unfold Wd.t Wd.sz
    cases o <;> (simp only [List.length_append, List.length_cons, List.length_nil, if_true, if_false, Bool.false_eq_true]; omega)
end Dn


set_option Elab.async false
set_option linter.all false
set_option maxRecDepth 100000
set_option maxHeartbeats 0
set_option autoImplicit false
namespace T91
open PySem PySem.Spec PyProof.Rows L2 Dn

def top (i : Nat) : Stmt := PySem.Challenge.pw_backstacks_k91_words_written_and_read.main.body.getD i (.Pass ⟨0, 0, 0, 0⟩)
def dG (n : Str) (i : Nat) : He.DefD := ⟨(n, none), n, n, defArgs (top i), defBody (top i), defScope (top i), [], []⟩
def dM (C m q : Str) (i j : Nat) : He.DefD := ⟨(C, some m), m, q, defArgs (inClass (top i) j), defBody (inClass (top i) j), defScope (inClass (top i) j), [], []⟩
abbrev c_MOST_OPEN : D := .int 9
abbrev c_LETTERS : D := .str "abcdefghijklmnopqrstuvwxyz"
abbrev c_LONGEST : D := .int 8
abbrev c_DIGITS : D := .str "0123456789"
abbrev c_MOST_DIGITS : D := .int 9
abbrev c_SIGNS : D := .tup [.str "<", .str "=", .str ">"]
abbrev c_HEADS : D := .tup [.str "all", .str "and", .str "bottom", .str "count", .str "deep", .str "has", .str "is", .str "left", .str "mode", .str "not", .str "on", .str "or", .str "top"]
abbrev t_SHAPES : List (Str × D) := [("all", .tup []), ("left", .tup []), ("mode", .tup [.str "mode"]), ("top", .tup [.str "screen"]), ("bottom", .tup [.str "screen"]), ("has", .tup [.str "screen"]), ("on", .tup [.str "screen", .str "screen"]), ("count", .tup [.str "screen", .str "sign", .str "number"]), ("deep", .tup [.str "sign", .str "number"]), ("is", .tup [.str "mode", .str "stack"]), ("and", .tup [.str "words", .str "words"]), ("or", .tup [.str "words", .str "words"]), ("not", .tup [.str "words"])]
noncomputable def b_law_spring  : MS := (seqS (setS 1 (bin addD (con (.int 61331)) (app lenD (consA (var 0) nilA)))) (seqS (forS (.nm 2) (seqW (slice (var 0) noO (someO (con (.int 60))))) (setS 1 (bin modD (app intD (consA (bin addD (bin addD (bin mulD (var 1) (con (.int 6906969069))) (app absD (consA (var 2) nilA))) (bin mulD (con (.int 3)) (app intD (consA (bin ltD (var 2) (con (.int 0))) nilA)))) nilA)) (con (.int 9223372036854775783))))) (retS (lstE (consA (lcE (.nm 2) (seqW (slice (var 0) noO (someO (con (.int 60))))) (test (bin geD (app absD (consA (var 2) nilA)) (bin powD (con (.int 10)) (con (.int 18))))) (app absD (consA (var 2) nilA)) [2]) (consA (var 1) nilA))))))
noncomputable def F_law_spring : List D → Store → Res D := run 3 b_law_spring
noncomputable def b_law_drop  : MS := (seqS (whileS (test (bin (eqV' true) (bin itemD (var 0) (con (.int 0))) (lstE nilA))) (seqS (setS 2 (app intD (consA (bin itemD (bin itemD (var 0) (con (.int 0))) (con (.int 0))) nilA))) (seqS (ifS (test (bin gtD (var 2) (con (.int 0)))) (seqS (itemS (bin itemD (var 0) (con (.int 0))) (con (.int 0)) (bin fdivD (var 2) (var 1))) (retS (bin modD (app intD (consA (var 2) nilA)) (var 1)))) skip) (exprS (meth "list" popAtD (bin itemD (var 0) (con (.int 0))) (consA (con (.int 0)) nilA)))))) (seqS (itemS (var 0) (con (.int 1)) (bin modD (app intD (consA (bin addD (bin mulD (bin itemD (var 0) (con (.int 1))) (con (.int 6364136223846793005))) (con (.int 1442695040888963407))) nilA)) (con (.int 18446744073709551616)))) (retS (bin modD (app intD (consA (bin fdivD (bin itemD (var 0) (con (.int 1))) (con (.int 4294967296))) nilA)) (var 1)))))
noncomputable def F_law_drop : List D → Store → Res D := run 3 b_law_drop
noncomputable def b_law_pick  : MS := (retS (bin itemD (var 1) (appN 2 F_law_drop (consA (var 0) (consA (app lenD (consA (var 1) nilA)) nilA)))))
noncomputable def F_law_pick : List D → Store → Res D := run 2 b_law_pick
noncomputable def b_law_act  : MS := (seqS (setS 3 (appN 2 F_law_drop (consA (var 0) (consA (con (.int 7)) nilA)))) (seqS (ifS (test (bin ltD (var 3) (con (.int 3)))) (retS (tupE (consA (con (.str "open")) (consA (appN 2 F_law_pick (consA (var 0) (consA (var 1) nilA))) nilA)))) skip) (seqS (ifS (test (bin (eqV' false) (var 3) (con (.int 3)))) (retS (tupE (consA (con (.str "put")) (consA (appN 2 F_law_pick (consA (var 0) (consA (var 1) nilA))) nilA)))) skip) (retS (ifE (test (bin ltD (var 3) (con (.int 6)))) (tupE (consA (con (.str "back")) nilA)) (tupE (consA (con (.str "to")) (consA (appN 2 F_law_pick (consA (var 0) (consA (var 2) nilA))) nilA))))))))
noncomputable def F_law_act : List D → Store → Res D := run 4 b_law_act
noncomputable def b_law_app  : MS := (seqS (setS 2 (appN 2 F_law_pick (consA (var 0) (consA (lstE (consA (tupE (consA (con (.str "guest")) (consA (con (.str "member")) nilA))) (consA (tupE (consA (con (.str "a")) nilA)) (consA (tupE (consA (con (.str "day")) (consA (con (.str "night")) (consA (con (.str "zzzzzzzz")) nilA)))) (consA (tupE (consA (con (.str "a")) (consA (con (.str "ab")) nilA))) nilA))))) nilA)))) (seqS (setS 3 (lstE (consA (tupE (consA (con (.str "cart")) (consA (con (.str "home")) (consA (con (.str "list")) nilA)))) (consA (tupE (consA (con (.str "x")) nilA)) (consA (tupE (consA (con (.str "a")) (consA (con (.str "b")) nilA))) (consA (tupE (consA (con (.str "b")) (consA (con (.str "bb")) nilA))) (consA (tupE (consA (con (.str "a")) (consA (con (.str "aa")) (consA (con (.str "b")) (consA (con (.str "longname")) nilA))))) nilA))))))) (seqS (setS 4 (appN 2 F_law_pick (consA (var 0) (consA (var 3) nilA)))) (seqS (parS 5 6 (consA (lstE (consA (appN 2 F_law_pick (consA (var 0) (consA (var 4) nilA))) (consA (appN 2 F_law_pick (consA (var 0) (consA (var 4) nilA))) nilA))) (consA (lstE nilA) nilA))) (seqS (forS (.nm 7) (seqW (var 2)) (forS (.nm 8) (seqW (var 4)) (forS (.nm 9) (seqW (slice (lstE (consA (con (.str "back")) (consA (con (.str "go")) (consA (con (.str "more")) (consA (con (.str "x")) (consA (con (.str "zzzzzzzz")) nilA)))))) noO (someO (appN 2 F_law_drop (consA (var 0) (consA (var 1) nilA)))))) (exprS (meth "list" appendD (var 6) (consA (tupE (consA (var 9) (consA (var 7) (consA (var 8) (consA (appN 3 F_law_act (consA (var 0) (consA (var 4) (consA (var 5) nilA)))) (consA (appN 2 F_law_pick (consA (var 0) (consA (var 2) nilA))) nilA)))))) nilA)))))) (seqS (setS 10 (tupE (consA (appN 2 F_law_pick (consA (var 0) (consA (var 2) nilA))) (consA (appN 2 F_law_pick (consA (var 0) (consA (var 4) nilA))) nilA)))) (retS (tupE (consA (con (.str "app")) (consA (var 2) (consA (var 4) (consA (var 10) (consA (app tupleD (consA (slice (app sortedD (consA (var 6) nilA)) noO (someO (con (.int 24)))) nilA)) nilA)))))))))))))
noncomputable def F_law_app : List D → Store → Res D := run 11 b_law_app
noncomputable def b_law_basic  : MS := (seqS (asgS (.tp [3, 4]) (tupE (consA (appN 2 F_law_pick (consA (var 0) (consA (bin itemD (var 1) (con (.int 2))) nilA))) (consA (appN 2 F_law_pick (consA (var 0) (consA (bin itemD (var 1) (con (.int 2))) nilA))) nilA)))) (seqS (parS 5 6 (consA (appN 2 F_law_pick (consA (var 0) (consA (lstE (consA (con (.str "<")) (consA (con (.str "=")) (consA (con (.str ">")) nilA)))) nilA))) (consA (appN 2 F_law_drop (consA (var 0) (consA (bin addD (var 2) (con (.int 1))) nilA))) nilA))) (seqS (setS 7 (lstE (consA (tupE (consA (con (.str "all")) nilA)) (consA (tupE (consA (con (.str "left")) nilA)) (consA (tupE (consA (con (.str "mode")) (consA (appN 2 F_law_pick (consA (var 0) (consA (bin itemD (var 1) (con (.int 1))) nilA))) nilA))) (consA (tupE (consA (con (.str "top")) (consA (var 3) nilA))) (consA (tupE (consA (con (.str "bottom")) (consA (var 3) nilA))) (consA (tupE (consA (con (.str "has")) (consA (var 3) nilA))) nilA)))))))) (seqS (setS 7 (bin addD (var 7) (lstE (consA (tupE (consA (con (.str "on")) (consA (var 3) (consA (var 4) nilA)))) (consA (tupE (consA (con (.str "on")) (consA (var 3) (consA (var 4) nilA)))) (consA (tupE (consA (con (.str "count")) (consA (var 3) (consA (var 5) (consA (var 6) nilA))))) (consA (tupE (consA (con (.str "count")) (consA (var 3) (consA (var 5) (consA (var 6) nilA))))) (consA (tupE (consA (con (.str "deep")) (consA (var 5) (consA (var 6) nilA)))) nilA)))))))) (seqS (setS 8 (app tupleD (consA (lcE (.nm 9) (rngW1 (consA (appN 2 F_law_drop (consA (var 0) (consA (bin addD (var 2) (con (.int 1))) nilA))) nilA)) yes (appN 2 F_law_pick (consA (var 0) (consA (lstE (consA (var 3) (consA (var 3) (consA (var 4) nilA)))) nilA))) [9]) nilA))) (retS (appN 2 F_law_pick (consA (var 0) (consA (bin addD (var 7) (lstE (consA (tupE (consA (con (.str "is")) (consA (appN 2 F_law_pick (consA (var 0) (consA (bin itemD (var 1) (con (.int 1))) nilA))) (consA (var 8) nilA)))) nilA))) nilA)))))))))
noncomputable def F_law_basic : List D → Store → Res D := run 10 b_law_basic
noncomputable def b_law_words (f_law_words : List D → Store → Res D) : MS := (seqS (setS 4 (ifE (test (bin gtD (var 2) (con (.int 1)))) (appN 2 F_law_drop (consA (var 0) (consA (con (.int 5)) nilA))) (con (.int 4)))) (seqS (ifS (test (bin gtD (var 4) (con (.int 2)))) (retS (appN 3 F_law_basic (consA (var 0) (consA (var 1) (consA (var 3) nilA))))) skip) (seqS (setS 5 (appN 4 f_law_words (consA (var 0) (consA (var 1) (consA (bin subD (var 2) (con (.int 1))) (consA (var 3) nilA)))))) (seqS (ifS (test (bin (eqV' false) (var 4) (con (.int 2)))) (retS (tupE (consA (con (.str "not")) (consA (var 5) nilA)))) skip) (retS (tupE (consA (bin itemD (lstE (consA (con (.str "and")) (consA (con (.str "or")) nilA))) (var 4)) (consA (var 5) (consA (appN 4 f_law_words (consA (var 0) (consA (var 1) (consA (bin subD (var 2) (con (.int 1))) (consA (var 3) nilA))))) nilA)))))))))
noncomputable def G_law_words : Nat → (List D → Store → Res D)
  | 0 => fun _ _ => .bad
  | n + 1 => let p := G_law_words n
    run 6 (b_law_words (p))
noncomputable def F_law_words (n : Nat) : List D → Store → Res D := (G_law_words n)
theorem F_law_words_succ (n : Nat) : F_law_words (n + 1) = run 6 (b_law_words (F_law_words n)) := rfl
noncomputable def b_law_name  : MS := (seqS (setS 1 (lstE (consA (con (.str "a")) (consA (con (.str "z")) (consA (con (.str "home")) (consA (con (.str "list")) (consA (con (.str "zzzzzzzz")) (consA (con (.str "all")) (consA (con (.str "not")) (consA (con (.str "is")) (consA (con (.str "left")) (consA (con (.str "abcdefgh")) (consA (con (.str "to")) (consA (con (.str "deep")) nilA)))))))))))))) (seqS (setS 2 (lcE (.nm 3) (rngW1 (consA (bin addD (con (.int 1)) (appN 2 F_law_drop (consA (var 0) (consA (con (.int 8)) nilA)))) nilA)) yes (appN 2 F_law_pick (consA (var 0) (consA (app listD (consA (con (.str "abyz")) nilA)) nilA))) [3])) (retS (appN 2 F_law_pick (consA (var 0) (consA (bin addD (var 1) (lstE (consA (meth "str" joinD (con (.str "")) (consA (var 2) nilA)) nilA))) nilA))))))
noncomputable def F_law_name : List D → Store → Res D := run 4 b_law_name
noncomputable def b_law_far (f_law_far : List D → Store → Res D) : MS := (seqS (ifS (test (bin (eqV' false) (var 1) (con (.int 0)))) (retS (appN 2 F_law_pick (consA (var 0) (consA (lstE (consA (tupE (consA (con (.str "all")) nilA)) (consA (tupE (consA (con (.str "left")) nilA)) nilA))) nilA)))) skip) (seqS (setS 2 (ifE (test (bin gtD (var 1) (con (.int 1)))) (appN 2 F_law_drop (consA (var 0) (consA (con (.int 4)) nilA))) (con (.int 3)))) (seqS (ifS (test (bin (eqV' false) (var 2) (con (.int 2)))) (retS (tupE (consA (con (.str "not")) (consA (appN 2 f_law_far (consA (var 0) (consA (bin subD (var 1) (con (.int 1))) nilA))) nilA)))) skip) (seqS (ifS (test (bin ltD (var 2) (con (.int 2)))) (seqS (setS 3 (appN 2 f_law_far (consA (var 0) (consA (appN 2 F_law_drop (consA (var 0) (consA (app minD (consA (con (.int 3)) (consA (var 1) nilA))) nilA))) nilA)))) (seqS (setS 4 (appN 2 f_law_far (consA (var 0) (consA (bin subD (var 1) (con (.int 1))) nilA)))) (retS (appN 2 F_law_pick (consA (var 0) (consA (lstE (consA (tupE (consA (con (.str "and")) (consA (var 4) (consA (var 3) nilA)))) (consA (tupE (consA (con (.str "or")) (consA (var 3) (consA (var 4) nilA)))) (consA (tupE (consA (con (.str "and")) (consA (var 3) (consA (var 4) nilA)))) nilA)))) nilA)))))) skip) (seqS (parS3 5 6 7 (consA (appN 1 F_law_name (consA (var 0) nilA)) (consA (appN 1 F_law_name (consA (var 0) nilA)) (consA (appN 2 F_law_pick (consA (var 0) (consA (lstE (consA (con (.str "<")) (consA (con (.str "=")) (consA (con (.str ">")) nilA)))) nilA))) nilA)))) (seqS (setS 8 (appN 2 F_law_pick (consA (var 0) (consA (lstE (consA (con (.int 0)) (consA (con (.int 7)) (consA (con (.int 10)) (consA (con (.int 999999999)) (consA (appN 2 F_law_drop (consA (var 0) (consA (bin powD (con (.int 10)) (con (.int 9))) nilA))) nilA)))))) nilA)))) (seqS (setS 9 (app tupleD (consA (lcE (.nm 10) (rngW1 (consA (appN 2 F_law_drop (consA (var 0) (consA (con (.int 13)) nilA))) nilA)) yes (appN 1 F_law_name (consA (var 0) nilA)) [10]) nilA))) (seqS (setS 11 (lstE (consA (tupE (consA (con (.str "mode")) (consA (var 5) nilA))) (consA (tupE (consA (con (.str "top")) (consA (var 5) nilA))) (consA (tupE (consA (con (.str "bottom")) (consA (var 5) nilA))) (consA (tupE (consA (con (.str "has")) (consA (var 6) nilA))) (consA (tupE (consA (con (.str "on")) (consA (var 5) (consA (var 6) nilA)))) (consA (tupE (consA (con (.str "count")) (consA (var 5) (consA (var 7) (consA (var 8) nilA))))) nilA)))))))) (retS (appN 2 F_law_pick (consA (var 0) (consA (bin addD (var 11) (lstE (consA (tupE (consA (con (.str "deep")) (consA (var 7) (consA (var 8) nilA)))) (consA (tupE (consA (con (.str "all")) nilA)) (consA (tupE (consA (con (.str "is")) (consA (var 5) (consA (var 9) nilA)))) (consA (tupE (consA (con (.str "is")) (consA (var 6) (consA (var 9) nilA)))) nilA)))))) nilA))))))))))))
noncomputable def G_law_far : Nat → (List D → Store → Res D)
  | 0 => fun _ _ => .bad
  | n + 1 => let p := G_law_far n
    run 12 (b_law_far (p))
noncomputable def F_law_far (n : Nat) : List D → Store → Res D := (G_law_far n)
theorem F_law_far_succ (n : Nat) : F_law_far (n + 1) = run 12 (b_law_far (F_law_far n)) := rfl
noncomputable def b_law_long  : MS := (seqS (setS 2 (tupE (consA (con (.str "left")) nilA))) (seqS (forS (.nm 3) (rngW1 (consA (var 1) nilA)) (setS 2 (tupE (consA (appN 2 F_law_pick (consA (var 0) (consA (lstE (consA (con (.str "and")) (consA (con (.str "or")) nilA))) nilA))) (consA (appN 2 (F_law_far 60) (consA (var 0) (consA (con (.int 1)) nilA))) (consA (var 2) nilA)))))) (retS (var 2))))
noncomputable def F_law_long : List D → Store → Res D := run 4 b_law_long
noncomputable def b_law_state_text  : MS := (retS (bin addD (bin addD (bin itemD (var 0) (con (.int 0))) (con (.str ":"))) (meth "str" joinD (con (.str ".")) (consA (bin itemD (var 0) (con (.int 1))) nilA))))
noncomputable def F_law_state_text : List D → Store → Res D := run 1 b_law_state_text
noncomputable def b_law_words_text (f_law_words_text : List D → Store → Res D) : MS := (seqS (ifS (test (bin (eqV' false) (bin itemD (var 0) (con (.int 0))) (con (.str "is")))) (retS (bin addD (bin addD (con (.str "is(")) (appN 1 F_law_state_text (consA (slice (var 0) (someO (con (.int 1))) noO) nilA))) (con (.str ")")))) skip) (seqS (setS 1 (lstE nilA)) (seqS (forS (.nm 2) (seqW (slice (var 0) (someO (con (.int 1))) noO)) (exprS (meth "list" appendD (var 1) (consA (ifE (test (app isiD (consA (var 2) (consA (con (.ty "tuple")) nilA)))) (appN 1 f_law_words_text (consA (var 2) nilA)) (app strD (consA (var 2) nilA))) nilA)))) (retS (bin addD (bin itemD (var 0) (con (.int 0))) (bin mulD (bin addD (bin addD (con (.str "(")) (meth "str" joinD (con (.str " ")) (consA (var 1) nilA))) (con (.str ")"))) (app intD (consA (bin (eqV' true) (var 1) (lstE nilA)) nilA))))))))
noncomputable def G_law_words_text : Nat → (List D → Store → Res D)
  | 0 => fun _ _ => .bad
  | n + 1 => let p := G_law_words_text n
    run 3 (b_law_words_text (p))
noncomputable def F_law_words_text (n : Nat) : List D → Store → Res D := (G_law_words_text n)
theorem F_law_words_text_succ (n : Nat) : F_law_words_text (n + 1) = run 3 (b_law_words_text (F_law_words_text n)) := rfl
noncomputable def b_stack_text  : MS := (retS (meth "str" joinD (con (.str ".")) (consA (var 0) nilA)))
noncomputable def F_stack_text : List D → Store → Res D := run 1 b_stack_text
noncomputable def b_plain_text  : MS := (retS (bin addD (bin addD (bin itemD (var 0) (con (.int 0))) (con (.str ":"))) (appN 1 F_stack_text (consA (bin itemD (var 0) (con (.int 1))) nilA))))
noncomputable def F_plain_text : List D → Store → Res D := run 1 b_plain_text
noncomputable def b_item_text (f_item_text : List D → Store → Res D) (f_words_text : List D → Store → Res D) : MS := (retS (ifE (test (bin (eqV' false) (var 0) (con (.str "words")))) (appN 1 f_words_text (consA (var 1) nilA)) (app strD (consA (var 1) nilA))))
noncomputable def b_words_text (f_item_text : List D → Store → Res D) (f_words_text : List D → Store → Res D) : MS := (seqS (ifS (test (bin (eqV' false) (bin itemD (var 0) (con (.int 0))) (con (.str "is")))) (retS (bin addD (bin addD (con (.str "is(")) (appN 1 F_plain_text (consA (slice (var 0) (someO (con (.int 1))) noO) nilA))) (con (.str ")")))) skip) (seqS (setS 1 (lcE (.tp [2, 3]) (zipW (consA (kdE t_SHAPES (bin itemD (var 0) (con (.int 0)))) (consA (slice (var 0) (someO (con (.int 1))) noO) nilA))) yes (appN 2 f_item_text (consA (var 2) (consA (var 3) nilA))) [2, 3])) (retS (ifE (test (bin (eqV' false) (var 1) (lstE nilA))) (bin itemD (var 0) (con (.int 0))) (bin addD (bin addD (bin addD (bin itemD (var 0) (con (.int 0))) (con (.str "("))) (meth "str" joinD (con (.str " ")) (consA (var 1) nilA))) (con (.str ")")))))))
noncomputable def G_item_text : Nat → (List D → Store → Res D) × (List D → Store → Res D)
  | 0 => (fun _ _ => .bad, fun _ _ => .bad)
  | n + 1 => let p := G_item_text n
    (run 2 (b_item_text (p.1) (p.2)), run 4 (b_words_text (p.1) (p.2)))
noncomputable def F_item_text (n : Nat) : List D → Store → Res D := (G_item_text n).1
noncomputable def F_words_text (n : Nat) : List D → Store → Res D := (G_item_text n).2
theorem F_item_text_succ (n : Nat) : F_item_text (n + 1) = run 2 (b_item_text (F_item_text n) (F_words_text n)) := rfl
theorem F_words_text_succ (n : Nat) : F_words_text (n + 1) = run 4 (b_words_text (F_item_text n) (F_words_text n)) := rfl
noncomputable def b_Reader___init__  : MS := (seqS (setF "Reader" "text" (var 0) (var 1)) (seqS (setF "Reader" "position" (var 0) (con (.int 0))) (setF "Reader" "depth" (var 0) (con (.int 0)))))
noncomputable def F_Reader___init__ : List D → Store → Res D := run 2 b_Reader___init__
noncomputable def b_Reader_is_at  : MS := (seqS (setS 2 (slice (fldE "Reader" "text" (var 0)) (someO (fldE "Reader" "position" (var 0))) (someO (bin addD (fldE "Reader" "position" (var 0)) (con (.int 1)))))) (retS (andE (bin (eqV' true) (var 2) (con (.str ""))) (bin (inV' false) (var 2) (var 1)))))
noncomputable def F_Reader_is_at : List D → Store → Res D := run 3 b_Reader_is_at
noncomputable def b_Reader_take  : MS := (seqS (ifS (notT (test (methC "Reader" "is_at" 2 F_Reader_is_at (var 0) (consA (var 1) nilA)))) never skip) (seqS (setF "Reader" "position" (var 0) (bin addD (fldE "Reader" "position" (var 0)) (con (.int 1)))) (retS (bin itemD (fldE "Reader" "text" (var 0)) (bin subD (fldE "Reader" "position" (var 0)) (con (.int 1)))))))
noncomputable def F_Reader_take : List D → Store → Res D := run 2 b_Reader_take
noncomputable def b_Reader_read_word  : MS := (seqS (setS 2 (con (.str ""))) (seqS (whileS (test (bin (inV' true) (var 2) (var 1))) (setS 2 (bin addD (var 2) (methC "Reader" "take" 2 F_Reader_take (var 0) (consA (lcE (.nm 3) (seqW (var 1)) (test (meth "str" startsD (var 3) (consA (var 2) nilA))) (bin itemD (var 3) (app lenD (consA (var 2) nilA))) [3]) nilA))))) (retS (var 2))))
noncomputable def F_Reader_read_word : List D → Store → Res D := run 4 b_Reader_read_word
noncomputable def b_Reader_begin  : MS := (seqS (ifS (test (bin (eqV' false) (fldE "Reader" "depth" (var 0)) (con c_MOST_OPEN))) never skip) (seqS (exprS (methC "Reader" "take" 2 F_Reader_take (var 0) (consA (con (.str "(")) nilA))) (setF "Reader" "depth" (var 0) (bin addD (fldE "Reader" "depth" (var 0)) (con (.int 1))))))
noncomputable def F_Reader_begin : List D → Store → Res D := run 1 b_Reader_begin
noncomputable def b_Reader_finish  : MS := (seqS (exprS (methC "Reader" "take" 2 F_Reader_take (var 0) (consA (con (.str ")")) nilA))) (setF "Reader" "depth" (var 0) (bin subD (fldE "Reader" "depth" (var 0)) (con (.int 1)))))
noncomputable def F_Reader_finish : List D → Store → Res D := run 1 b_Reader_finish
noncomputable def b_Reader_read_name  : MS := (seqS (setS 1 (methC "Reader" "take" 2 F_Reader_take (var 0) (consA (con c_LETTERS) nilA))) (seqS (whileS (andT (test (bin ltD (app lenD (consA (var 1) nilA)) (con c_LONGEST))) (test (methC "Reader" "is_at" 2 F_Reader_is_at (var 0) (consA (con c_LETTERS) nilA)))) (setS 1 (bin addD (var 1) (methC "Reader" "take" 2 F_Reader_take (var 0) (consA (con c_LETTERS) nilA))))) (retS (var 1))))
noncomputable def F_Reader_read_name : List D → Store → Res D := run 2 b_Reader_read_name
noncomputable def b_Reader_read_state  : MS := (seqS (setS 1 (methC "Reader" "read_name" 1 F_Reader_read_name (var 0) nilA)) (seqS (exprS (methC "Reader" "take" 2 F_Reader_take (var 0) (consA (con (.str ":")) nilA))) (seqS (setS 2 (ifE (test (methC "Reader" "is_at" 2 F_Reader_is_at (var 0) (consA (con c_LETTERS) nilA))) (tupE (consA (methC "Reader" "read_name" 1 F_Reader_read_name (var 0) nilA) nilA)) (tupE nilA))) (seqS (whileS (andT (test (bin (eqV' true) (var 2) (tupE nilA))) (test (methC "Reader" "is_at" 2 F_Reader_is_at (var 0) (consA (con (.str ".")) nilA)))) (seqS (exprS (methC "Reader" "take" 2 F_Reader_take (var 0) (consA (con (.str ".")) nilA))) (setS 2 (tupE (starA (var 2) (consA (methC "Reader" "read_name" 1 F_Reader_read_name (var 0) nilA) nilA)))))) (retS (tupE (consA (var 1) (consA (var 2) nilA))))))))
noncomputable def F_Reader_read_state : List D → Store → Res D := run 3 b_Reader_read_state
noncomputable def b_Reader_read_number  : MS := (seqS (setS 1 (methC "Reader" "take" 2 F_Reader_take (var 0) (consA (con c_DIGITS) nilA))) (seqS (whileS (andT (test (bin (eqV' true) (var 1) (con (.str "0")))) (andT (test (bin ltD (app lenD (consA (var 1) nilA)) (con c_MOST_DIGITS))) (test (methC "Reader" "is_at" 2 F_Reader_is_at (var 0) (consA (con c_DIGITS) nilA))))) (setS 1 (bin addD (var 1) (methC "Reader" "take" 2 F_Reader_take (var 0) (consA (con c_DIGITS) nilA))))) (retS (app intD (consA (var 1) nilA)))))
noncomputable def F_Reader_read_number : List D → Store → Res D := run 2 b_Reader_read_number
noncomputable def b_read_item (f_read_item : List D → Store → Res D) (f_read_items : List D → Store → Res D) (f_read_words : List D → Store → Res D) : MS := (seqS (ifS (test (bin (eqV' false) (var 1) (con (.str "words")))) (retS (appN 1 f_read_words (consA (var 0) nilA))) skip) (seqS (ifS (test (bin (eqV' false) (var 1) (con (.str "sign")))) (retS (methC "Reader" "take" 2 F_Reader_take (var 0) (consA (con c_SIGNS) nilA))) skip) (retS (ifE (test (bin (eqV' false) (var 1) (con (.str "number")))) (methC "Reader" "read_number" 1 F_Reader_read_number (var 0) nilA) (methC "Reader" "read_name" 1 F_Reader_read_name (var 0) nilA)))))
noncomputable def b_read_items (f_read_item : List D → Store → Res D) (f_read_items : List D → Store → Res D) (f_read_words : List D → Store → Res D) : MS := (seqS (setS 2 (tupE nilA)) (seqS (forS (.nm 3) (seqW (var 1)) (seqS (ifS (test (bin (eqV' true) (var 2) (tupE nilA))) (exprS (methC "Reader" "take" 2 F_Reader_take (var 0) (consA (con (.str " ")) nilA))) skip) (setS 2 (tupE (starA (var 2) (consA (appN 2 f_read_item (consA (var 0) (consA (var 3) nilA))) nilA)))))) (retS (var 2))))
noncomputable def b_read_words (f_read_item : List D → Store → Res D) (f_read_items : List D → Store → Res D) (f_read_words : List D → Store → Res D) : MS := (seqS (setS 1 (methC "Reader" "read_word" 2 F_Reader_read_word (var 0) (consA (con c_HEADS) nilA))) (seqS (ifS (test (bin (eqV' false) (kdE t_SHAPES (var 1)) (tupE nilA))) (retS (tupE (consA (var 1) nilA))) skip) (seqS (exprS (methC "Reader" "begin" 1 F_Reader_begin (var 0) nilA)) (seqS (setS 2 (ifE (test (bin (eqV' false) (var 1) (con (.str "is")))) (methC "Reader" "read_state" 1 F_Reader_read_state (var 0) nilA) (appN 2 f_read_items (consA (var 0) (consA (kdE t_SHAPES (var 1)) nilA))))) (seqS (exprS (methC "Reader" "finish" 1 F_Reader_finish (var 0) nilA)) (retS (tupE (consA (var 1) (starA (var 2) nilA)))))))))
noncomputable def G_read_item : Nat → (List D → Store → Res D) × (List D → Store → Res D) × (List D → Store → Res D)
  | 0 => (fun _ _ => .bad, fun _ _ => .bad, fun _ _ => .bad)
  | n + 1 => let p := G_read_item n
    (run 2 (b_read_item (p.1) (p.2.1) (p.2.2)), run 4 (b_read_items (p.1) (p.2.1) (p.2.2)), run 3 (b_read_words (p.1) (p.2.1) (p.2.2)))
noncomputable def F_read_item (n : Nat) : List D → Store → Res D := (G_read_item n).1
noncomputable def F_read_items (n : Nat) : List D → Store → Res D := (G_read_item n).2.1
noncomputable def F_read_words (n : Nat) : List D → Store → Res D := (G_read_item n).2.2
theorem F_read_item_succ (n : Nat) : F_read_item (n + 1) = run 2 (b_read_item (F_read_item n) (F_read_items n) (F_read_words n)) := rfl
theorem F_read_items_succ (n : Nat) : F_read_items (n + 1) = run 4 (b_read_items (F_read_item n) (F_read_items n) (F_read_words n)) := rfl
theorem F_read_words_succ (n : Nat) : F_read_words (n + 1) = run 3 (b_read_words (F_read_item n) (F_read_items n) (F_read_words n)) := rfl
noncomputable def b_Reader_end  : MS := (ifS (test (bin ltD (fldE "Reader" "position" (var 0)) (app lenD (consA (fldE "Reader" "text" (var 0)) nilA)))) never skip)
noncomputable def F_Reader_end : List D → Store → Res D := run 1 b_Reader_end
noncomputable def b_parse_words  : MS := (seqS (ifS (notT (test (app isiD (consA (var 0) (consA (con (.ty "str")) nilA))))) never skip) (seqS (setS 1 (makeE "Reader" 2 F_Reader___init__ (consA (var 0) nilA))) (seqS (setS 2 (appN 1 (F_read_words 60) (consA (var 1) nilA))) (seqS (exprS (methC "Reader" "end" 1 F_Reader_end (var 1) nilA)) (retS (var 2))))))
noncomputable def F_parse_words : List D → Store → Res D := run 3 b_parse_words
noncomputable def b_law  : MS := (seqS (setS 1 (appN 1 F_law_spring (consA (var 0) nilA))) (seqS (forS (.nm 2) (rngW1 (consA (con (.int 20)) nilA)) (seqS (setS 3 (appN 2 F_law_app (consA (var 1) (consA (con (.int 2)) nilA)))) (seqS (setS 4 (lstE (consA (appN 4 (F_law_words 60) (consA (var 1) (consA (var 3) (consA (bin addD (con (.int 1)) (appN 2 F_law_drop (consA (var 1) (consA (con (.int 5)) nilA)))) (consA (con (.int 9)) nilA))))) (consA (appN 2 F_law_long (consA (var 1) (consA (appN 2 F_law_drop (consA (var 1) (consA (con (.int 9)) nilA))) nilA))) nilA)))) (seqS (setS 4 (bin addD (var 4) (lstE (consA (appN 2 (F_law_far 60) (consA (var 1) (consA (bin addD (con (.int 1)) (appN 2 F_law_drop (consA (var 1) (consA (con (.int 9)) nilA)))) nilA))) (consA (appN 2 (F_law_far 60) (consA (var 1) (consA (con (.int 9)) nilA))) nilA))))) (seqS (setS 5 (app tupleD (consA (bin mulD (lcE (.nm 6) (rngW1 (consA (con (.int 7)) nilA)) yes (appN 2 F_law_pick (consA (var 1) (consA (lstE (consA (con (.str "a")) (consA (con (.str "b")) (consA (con (.str "z")) nilA)))) nilA))) [6]) (con (.int 200))) nilA))) (seqS (setS 4 (bin addD (var 4) (bin mulD (lstE (consA (tupE (consA (con (.str "not")) (consA (tupE (consA (con (.str "is")) (consA (con (.str "q")) (consA (var 5) nilA)))) nilA))) nilA)) (app intD (consA (bin (eqV' false) (var 2) (con (.int 2))) nilA))))) (forS (.nm 7) (seqW (var 4)) (seqS (parS 8 9 (consA (app reprD (consA (var 7) nilA)) (consA (appN 1 (F_law_words_text 60) (consA (var 7) nilA)) nilA))) (seqS (ifS (test (bin (eqV' true) (lstE (consA (appN 1 (F_words_text 60) (consA (var 7) nilA)) (consA (appN 1 (F_words_text 60) (consA (var 7) nilA)) nilA))) (lstE (consA (var 9) (consA (var 9) nilA))))) (retS (con (.bl false))) skip) (ifS (orT (test (bin (eqV' true) (lstE (consA (app reprD (consA (appN 1 F_parse_words (consA (var 9) nilA)) nilA)) (consA (app reprD (consA (appN 1 F_parse_words (consA (var 9) nilA)) nilA)) nilA))) (lstE (consA (var 8) (consA (var 8) nilA))))) (test (bin (eqV' true) (app reprD (consA (var 7) nilA)) (var 8)))) (retS (con (.bl false))) skip)))))))))) (retS (con (.bl true)))))
noncomputable def F_law : List D → Store → Res D := run 10 b_law
def fn : List He.DefD := [dG "_law_spring" 23, dG "_law_drop" 24, dG "_law_pick" 25, dG "_law_act" 26, dG "_law_app" 27, dG "_law_basic" 28, dG "_law_words" 29, dG "_law_name" 33, dG "_law_far" 34, dG "_law_long" 35, dG "_law_state_text" 30, dG "_law_words_text" 31, dG "stack_text" 13, dG "plain_text" 14, dG "item_text" 15, dG "words_text" 16, dM "Reader" "__init__" "Reader.__init__" 17 0, dM "Reader" "is_at" "Reader.is_at" 17 1, dM "Reader" "take" "Reader.take" 17 2, dM "Reader" "read_word" "Reader.read_word" 17 7, dM "Reader" "begin" "Reader.begin" 17 4, dM "Reader" "finish" "Reader.finish" 17 5, dM "Reader" "read_name" "Reader.read_name" 17 8, dM "Reader" "read_state" "Reader.read_state" 17 9, dM "Reader" "read_number" "Reader.read_number" 17 6, dG "read_item" 18, dG "read_items" 19, dG "read_words" 20, dM "Reader" "end" "Reader.end" 17 3, dG "parse_words" 21, dG "law" 36]
def fa : List He.Fa := [.free "len", .free "abs", .free "int", .glo "_law_drop", .glo "_law_pick", .glo "_law_act", .free "sorted", .free "tuple", .free "range", .glo "_law_basic", .glo "_law_words", .free "list", .glo "_law_far", .free "min", .glo "_law_name", .glo "_law_state_text", .free "isinstance", .glo "_law_words_text", .free "str", .glo "stack_text", .glo "words_text", .glo "plain_text", .glo "SHAPES", .free "zip", .glo "item_text", .cls "Reader", .noat "Reader" "text", .noat "Reader" "position", .noat "Reader" "depth", .meth "Reader" "is_at", .meth "Reader" "take", .meth "Reader" "read_name", .glo "read_words", .meth "Reader" "read_number", .glo "read_item", .meth "Reader" "read_word", .meth "Reader" "begin", .meth "Reader" "read_state", .glo "read_items", .meth "Reader" "finish", .glo "Reader", .mkr "Reader", .meth "Reader" "end", .glo "_law_spring", .glo "_law_app", .glo "_law_long", .free "repr", .glo "parse_words", .glo "law"]
abbrev tb_SHAPES : He.Tab := ((fun K => He.ga K "SHAPES"), ["all", "left", "mode", "top", "bottom", "has", "on", "count", "deep", "is", "and", "or", "not"])
def ts : List He.Tab := [tb_SHAPES]
def ex : List (PySem.W.Frag → Bool) := [tabK "SHAPES" t_SHAPES, conK "MOST_OPEN" c_MOST_OPEN, conK "LETTERS" c_LETTERS, conK "LONGEST" c_LONGEST, conK "DIGITS" c_DIGITS, conK "MOST_DIGITS" c_MOST_DIGITS, conK "SIGNS" c_SIGNS, conK "HEADS" c_HEADS]
abbrev GFx (w : World) (K : PySem.W.Frag) (mg : Str → Option Value) : Prop := GF fa fn ts ex w K mg
end T91


set_option Elab.async false
set_option linter.all false
set_option maxRecDepth 100000
set_option maxHeartbeats 0
set_option autoImplicit false
namespace T91
open PySem PySem.Spec PyProof.Rows L2 Dn

theorem sc_law_spring : FnScope ["_law_script", "_law_mixed", "_law_cell"] ["_law_script"] (dG "_law_spring" 23).scope := ⟨rfl, rfl, rfl, by decide +kernel, rfl, by decide +kernel, by decide +kernel⟩
theorem ok_law_spring {P : Program} {w : World} {K : PySem.W.Frag} {mg : Str → Option Value} {base : Heap} (G : GFx w K mg) : OkF P w K mg base 1 (He.ga K "_law_spring") ["_law_script"] F_law_spring :=
  okF (k := 0) (G.c.d.def_ 0 (d := dG "_law_spring" 23) rfl) sc_law_spring (fun _ _ _ _ _ _ us hl => match us, hl with | [_], _ => rfl) fun cdv A outer s H E c hp =>
    (iss_cons (is_set (i := 1) c.nd (ie_add ie_int (ie_callB (cr_lenD) er_len rfl (G.free 0) boot_len (ia_cons (ie_var 0) ia_nil)))) (iss_cons (is_for hp c.calm (ii_seq (ie_slice (ie_var 0) io_no (io_some ie_int))) (tg_nm c.nd) (iss_one (is_set (i := 1) c.nd (ie_mod (ie_callTy (cr_intD) er_int rfl (G.free 2) boot_int (ia_cons (ie_add (ie_add (ie_mul (ie_var 1) ie_int) (ie_callB (cr_absD) er_abs rfl (G.free 1) (by decide +kernel) (ia_cons (ie_var 2) ia_nil))) (ie_mul ie_int (ie_callTy (cr_intD) er_int rfl (G.free 2) boot_int (ia_cons (ie_lt (ie_var 2) ie_int) ia_nil)))) ia_nil)) ie_int)))) (iss_one (is_ret (ie_lst (ia_cons (ie_lc (own := [("_law_cell", 2)]) c.calm c.nd (ii_seq (ie_slice (ie_var 0) io_no (io_some ie_int))) ⟨fun _ _ _ _ _ => (tg_nm c.nd), .inr ⟨_, rfl, fun _ _ _ _ _ => (it_ge (ie_callB (cr_absD) er_abs rfl (G.free 1) (by decide +kernel) (ia_cons (ie_var 2) ia_nil)) (ie_pow ie_int ie_int))⟩, fun _ _ _ _ _ => (ie_callB (cr_absD) er_abs rfl (G.free 1) (by decide +kernel) (ia_cons (ie_var 2) ia_nil))⟩ (blkOk_by (N := ["_law_script", "_law_mixed", "_law_cell"]) (sc := (dG "_law_spring" 23).scope) (by decide +kernel))) (ia_cons (ie_var 1) ia_nil)))))))
theorem sc_law_drop : FnScope ["_law_spring_here", "_law_many", "_law_cell"] ["_law_spring_here", "_law_many"] (dG "_law_drop" 24).scope := ⟨rfl, rfl, rfl, by decide +kernel, rfl, by decide +kernel, by decide +kernel⟩
theorem ok_law_drop {P : Program} {w : World} {K : PySem.W.Frag} {mg : Str → Option Value} {base : Heap} (G : GFx w K mg) : OkF P w K mg base 1 (He.ga K "_law_drop") ["_law_spring_here", "_law_many"] F_law_drop :=
  okF (k := 0) (G.c.d.def_ 1 (d := dG "_law_drop" 24) rfl) sc_law_drop (fun _ _ _ _ _ _ us hl => match us, hl with | [_, _], _ => rfl) fun cdv A outer s H E c hp =>
    (iss_cons (is_while hp (it_ne c.rm.r (ie_item (ie_var 0) ie_int) (ie_lst ia_nil)) (iss_cons (is_set (i := 2) c.nd (ie_callTy (cr_intD) er_int rfl (G.free 2) boot_int (ia_cons (ie_item (ie_item (ie_var 0) ie_int) ie_int) ia_nil))) (iss_cons (is_if (it_gt (ie_var 2) ie_int) (iss_cons (is_item (ie_item (ie_var 0) ie_int) ie_int (ie_fdiv (ie_var 2) (ie_var 1))) (iss_one (is_ret (ie_mod (ie_callTy (cr_intD) er_int rfl (G.free 2) boot_int (ia_cons (ie_var 2) ia_nil)) (ie_var 1))))) iss_nil) (iss_one (is_expr (ie_pop1 (ie_item (ie_var 0) ie_int) (ia_cons ie_int ia_nil))))))) (iss_cons (is_item (ie_var 0) ie_int (ie_mod (ie_callTy (cr_intD) er_int rfl (G.free 2) boot_int (ia_cons (ie_add (ie_mul (ie_item (ie_var 0) ie_int) ie_int) ie_int) ia_nil)) ie_int)) (iss_one (is_ret (ie_mod (ie_callTy (cr_intD) er_int rfl (G.free 2) boot_int (ia_cons (ie_fdiv (ie_item (ie_var 0) ie_int) ie_int) ia_nil)) (ie_var 1))))))
theorem sc_law_pick : FnScope ["_law_spring_here", "_law_items"] ["_law_spring_here", "_law_items"] (dG "_law_pick" 25).scope := ⟨rfl, rfl, rfl, by decide +kernel, rfl, by decide +kernel, by decide +kernel⟩
theorem ok_law_pick {P : Program} {w : World} {K : PySem.W.Frag} {mg : Str → Option Value} {base : Heap} (G : GFx w K mg) : OkF P w K mg base 2 (He.ga K "_law_pick") ["_law_spring_here", "_law_items"] F_law_pick :=
  okF (k := 1) (G.c.d.def_ 2 (d := dG "_law_pick" 25) rfl) sc_law_pick (fun _ _ _ _ _ _ us hl => match us, hl with | [_, _], _ => rfl) fun cdv A outer s H E c hp =>
    (iss_one (is_ret (ie_item (ie_var 1) (ie_callF ((ok_law_drop G).mono (by omega)) c.rm (G.glo 3) c.tk (ia_cons (ie_var 0) (ia_cons (ie_callB (cr_lenD) er_len rfl (G.free 0) boot_len (ia_cons (ie_var 1) ia_nil)) ia_nil))))))
theorem sc_law_act : FnScope ["_law_spring_here", "_law_screens", "_law_aims", "_law_way"] ["_law_spring_here", "_law_screens", "_law_aims"] (dG "_law_act" 26).scope := ⟨rfl, rfl, rfl, by decide +kernel, rfl, by decide +kernel, by decide +kernel⟩
theorem ok_law_act {P : Program} {w : World} {K : PySem.W.Frag} {mg : Str → Option Value} {base : Heap} (G : GFx w K mg) : OkF P w K mg base 3 (He.ga K "_law_act") ["_law_spring_here", "_law_screens", "_law_aims"] F_law_act :=
  okF (k := 2) (G.c.d.def_ 3 (d := dG "_law_act" 26) rfl) sc_law_act (fun _ _ _ _ _ _ us hl => match us, hl with | [_, _, _], _ => rfl) fun cdv A outer s H E c hp =>
    (iss_cons (is_set (i := 3) c.nd (ie_callF ((ok_law_drop G).mono (by omega)) c.rm (G.glo 3) c.tk (ia_cons (ie_var 0) (ia_cons ie_int ia_nil)))) (iss_cons (is_if (it_lt (ie_var 3) ie_int) (iss_one (is_ret (ie_tup (ia_cons ie_str (ia_cons (ie_callF ((ok_law_pick G).mono (by omega)) c.rm (G.glo 4) c.tk (ia_cons (ie_var 0) (ia_cons (ie_var 1) ia_nil))) ia_nil))))) iss_nil) (iss_cons (is_if (it_eq c.rm.r (ie_var 3) ie_int) (iss_one (is_ret (ie_tup (ia_cons ie_str (ia_cons (ie_callF ((ok_law_pick G).mono (by omega)) c.rm (G.glo 4) c.tk (ia_cons (ie_var 0) (ia_cons (ie_var 1) ia_nil))) ia_nil))))) iss_nil) (iss_one (is_ret (ie_if (it_lt (ie_var 3) ie_int) (ie_tup (ia_cons ie_str ia_nil)) (ie_tup (ia_cons ie_str (ia_cons (ie_callF ((ok_law_pick G).mono (by omega)) c.rm (G.glo 4) c.tk (ia_cons (ie_var 0) (ia_cons (ie_var 2) ia_nil))) ia_nil)))))))))
theorem sc_law_app : FnScope ["_law_spring_here", "_law_most", "_law_modes", "_law_some", "_law_screens", "_law_aims", "_law_taps", "_law_mode", "_law_screen", "_law_name_here", "_law_start"] ["_law_spring_here", "_law_most"] (dG "_law_app" 27).scope := ⟨rfl, rfl, rfl, by decide +kernel, rfl, by decide +kernel, by decide +kernel⟩
theorem ok_law_app {P : Program} {w : World} {K : PySem.W.Frag} {mg : Str → Option Value} {base : Heap} (G : GFx w K mg) : OkF P w K mg base 4 (He.ga K "_law_app") ["_law_spring_here", "_law_most"] F_law_app :=
  okF (k := 3) (G.c.d.def_ 4 (d := dG "_law_app" 27) rfl) sc_law_app (fun _ _ _ _ _ _ us hl => match us, hl with | [_, _], _ => rfl) fun cdv A outer s H E c hp =>
    (iss_cons (is_set (i := 2) c.nd (ie_callF ((ok_law_pick G).mono (by omega)) c.rm (G.glo 4) c.tk (ia_cons (ie_var 0) (ia_cons (ie_lst (ia_cons (ie_tup (ia_cons ie_str (ia_cons ie_str ia_nil))) (ia_cons (ie_tup (ia_cons ie_str ia_nil)) (ia_cons (ie_tup (ia_cons ie_str (ia_cons ie_str (ia_cons ie_str ia_nil)))) (ia_cons (ie_tup (ia_cons ie_str (ia_cons ie_str ia_nil))) ia_nil))))) ia_nil)))) (iss_cons (is_set (i := 3) c.nd (ie_lst (ia_cons (ie_tup (ia_cons ie_str (ia_cons ie_str (ia_cons ie_str ia_nil)))) (ia_cons (ie_tup (ia_cons ie_str ia_nil)) (ia_cons (ie_tup (ia_cons ie_str (ia_cons ie_str ia_nil))) (ia_cons (ie_tup (ia_cons ie_str (ia_cons ie_str ia_nil))) (ia_cons (ie_tup (ia_cons ie_str (ia_cons ie_str (ia_cons ie_str (ia_cons ie_str ia_nil))))) ia_nil))))))) (iss_cons (is_set (i := 4) c.nd (ie_callF ((ok_law_pick G).mono (by omega)) c.rm (G.glo 4) c.tk (ia_cons (ie_var 0) (ia_cons (ie_var 3) ia_nil)))) (iss_cons (is_par (i := 5) (j := 6) c.calm c.nd (ia_cons (ie_lst (ia_cons (ie_callF ((ok_law_pick G).mono (by omega)) c.rm (G.glo 4) c.tk (ia_cons (ie_var 0) (ia_cons (ie_var 4) ia_nil))) (ia_cons (ie_callF ((ok_law_pick G).mono (by omega)) c.rm (G.glo 4) c.tk (ia_cons (ie_var 0) (ia_cons (ie_var 4) ia_nil))) ia_nil))) (ia_cons (ie_lst ia_nil) ia_nil))) (iss_cons (is_for hp c.calm (ii_seq (ie_var 2)) (tg_nm c.nd) (iss_one (is_for hp c.calm (ii_seq (ie_var 4)) (tg_nm c.nd) (iss_one (is_for hp c.calm (ii_seq (ie_slice (ie_lst (ia_cons ie_str (ia_cons ie_str (ia_cons ie_str (ia_cons ie_str (ia_cons ie_str ia_nil)))))) io_no (io_some (ie_callF ((ok_law_drop G).mono (by omega)) c.rm (G.glo 3) c.tk (ia_cons (ie_var 0) (ia_cons (ie_var 1) ia_nil)))))) (tg_nm c.nd) (iss_one (is_expr (ie_append (ie_var 6) (ia_cons (ie_tup (ia_cons (ie_var 9) (ia_cons (ie_var 7) (ia_cons (ie_var 8) (ia_cons (ie_callF ((ok_law_act G).mono (by omega)) c.rm (G.glo 5) c.tk (ia_cons (ie_var 0) (ia_cons (ie_var 4) (ia_cons (ie_var 5) ia_nil)))) (ia_cons (ie_callF ((ok_law_pick G).mono (by omega)) c.rm (G.glo 4) c.tk (ia_cons (ie_var 0) (ia_cons (ie_var 2) ia_nil))) ia_nil)))))) ia_nil))))))))) (iss_cons (is_set (i := 10) c.nd (ie_tup (ia_cons (ie_callF ((ok_law_pick G).mono (by omega)) c.rm (G.glo 4) c.tk (ia_cons (ie_var 0) (ia_cons (ie_var 2) ia_nil))) (ia_cons (ie_callF ((ok_law_pick G).mono (by omega)) c.rm (G.glo 4) c.tk (ia_cons (ie_var 0) (ia_cons (ie_var 4) ia_nil))) ia_nil)))) (iss_one (is_ret (ie_tup (ia_cons ie_str (ia_cons (ie_var 2) (ia_cons (ie_var 4) (ia_cons (ie_var 10) (ia_cons (ie_callTy (cr_tupleD) er_tuple rfl (G.free 7) boot_tuple (ia_cons (ie_slice (ie_callB (cr_sortedD c.rm.r) er_sorted rfl (G.free 6) boot_sorted (ia_cons (ie_var 6) ia_nil)) io_no (io_some ie_int)) ia_nil)) ia_nil))))))))))))))
theorem sc_law_basic : FnScope ["_law_spring_here", "_law_app_here", "_law_most", "_law_s", "_law_t", "_law_sign", "_law_n", "_law_some", "_law_stack", "_law_k"] ["_law_spring_here", "_law_app_here", "_law_most"] (dG "_law_basic" 28).scope := ⟨rfl, rfl, rfl, by decide +kernel, rfl, by decide +kernel, by decide +kernel⟩
theorem ok_law_basic {P : Program} {w : World} {K : PySem.W.Frag} {mg : Str → Option Value} {base : Heap} (G : GFx w K mg) : OkF P w K mg base 3 (He.ga K "_law_basic") ["_law_spring_here", "_law_app_here", "_law_most"] F_law_basic :=
  okF (k := 2) (G.c.d.def_ 5 (d := dG "_law_basic" 28) rfl) sc_law_basic (fun _ _ _ _ _ _ us hl => match us, hl with | [_, _, _], _ => rfl) fun cdv A outer s H E c hp =>
    (iss_cons (is_asg (tg_tp c.calm (tgs_cons (tg_nm c.nd) (tgs_cons (tg_nm c.nd) tgs_nil))) (ie_tup (ia_cons (ie_callF ((ok_law_pick G).mono (by omega)) c.rm (G.glo 4) c.tk (ia_cons (ie_var 0) (ia_cons (ie_item (ie_var 1) ie_int) ia_nil))) (ia_cons (ie_callF ((ok_law_pick G).mono (by omega)) c.rm (G.glo 4) c.tk (ia_cons (ie_var 0) (ia_cons (ie_item (ie_var 1) ie_int) ia_nil))) ia_nil)))) (iss_cons (is_par (i := 5) (j := 6) c.calm c.nd (ia_cons (ie_callF ((ok_law_pick G).mono (by omega)) c.rm (G.glo 4) c.tk (ia_cons (ie_var 0) (ia_cons (ie_lst (ia_cons ie_str (ia_cons ie_str (ia_cons ie_str ia_nil)))) ia_nil))) (ia_cons (ie_callF ((ok_law_drop G).mono (by omega)) c.rm (G.glo 3) c.tk (ia_cons (ie_var 0) (ia_cons (ie_add (ie_var 2) ie_int) ia_nil))) ia_nil))) (iss_cons (is_set (i := 7) c.nd (ie_lst (ia_cons (ie_tup (ia_cons ie_str ia_nil)) (ia_cons (ie_tup (ia_cons ie_str ia_nil)) (ia_cons (ie_tup (ia_cons ie_str (ia_cons (ie_callF ((ok_law_pick G).mono (by omega)) c.rm (G.glo 4) c.tk (ia_cons (ie_var 0) (ia_cons (ie_item (ie_var 1) ie_int) ia_nil))) ia_nil))) (ia_cons (ie_tup (ia_cons ie_str (ia_cons (ie_var 3) ia_nil))) (ia_cons (ie_tup (ia_cons ie_str (ia_cons (ie_var 3) ia_nil))) (ia_cons (ie_tup (ia_cons ie_str (ia_cons (ie_var 3) ia_nil))) ia_nil)))))))) (iss_cons (is_set (i := 7) c.nd (ie_add (ie_var 7) (ie_lst (ia_cons (ie_tup (ia_cons ie_str (ia_cons (ie_var 3) (ia_cons (ie_var 4) ia_nil)))) (ia_cons (ie_tup (ia_cons ie_str (ia_cons (ie_var 3) (ia_cons (ie_var 4) ia_nil)))) (ia_cons (ie_tup (ia_cons ie_str (ia_cons (ie_var 3) (ia_cons (ie_var 5) (ia_cons (ie_var 6) ia_nil))))) (ia_cons (ie_tup (ia_cons ie_str (ia_cons (ie_var 3) (ia_cons (ie_var 5) (ia_cons (ie_var 6) ia_nil))))) (ia_cons (ie_tup (ia_cons ie_str (ia_cons (ie_var 5) (ia_cons (ie_var 6) ia_nil)))) ia_nil)))))))) (iss_cons (is_set (i := 8) c.nd (ie_callTy (cr_tupleD) er_tuple rfl (G.free 7) boot_tuple (ia_cons (ie_lc (own := [("_law_k", 9)]) c.calm c.nd (ii_rng1 rfl (G.free 8) (ia_cons (ie_callF ((ok_law_drop G).mono (by omega)) c.rm (G.glo 3) c.tk (ia_cons (ie_var 0) (ia_cons (ie_add (ie_var 2) ie_int) ia_nil))) ia_nil)) ⟨fun _ _ _ _ _ => (tg_nm c.nd), .inl ⟨rfl, rfl⟩, fun _ _ _ _ _ => (ie_callF ((ok_law_pick G).mono (by omega)) c.rm (G.glo 4) takes0 (ia_cons (ie_var 0) (ia_cons (ie_lst (ia_cons (ie_var 3) (ia_cons (ie_var 3) (ia_cons (ie_var 4) ia_nil)))) ia_nil)))⟩ (blkOk_by (N := ["_law_spring_here", "_law_app_here", "_law_most", "_law_s", "_law_t", "_law_sign", "_law_n", "_law_some", "_law_stack", "_law_k"]) (sc := (dG "_law_basic" 28).scope) (by decide +kernel))) ia_nil))) (iss_one (is_ret (ie_callF ((ok_law_pick G).mono (by omega)) c.rm (G.glo 4) c.tk (ia_cons (ie_var 0) (ia_cons (ie_add (ie_var 7) (ie_lst (ia_cons (ie_tup (ia_cons ie_str (ia_cons (ie_callF ((ok_law_pick G).mono (by omega)) c.rm (G.glo 4) c.tk (ia_cons (ie_var 0) (ia_cons (ie_item (ie_var 1) ie_int) ia_nil))) (ia_cons (ie_var 8) ia_nil)))) ia_nil))) ia_nil))))))))))
theorem sc_law_words : FnScope ["_law_spring_here", "_law_app_here", "_law_deep", "_law_most", "_law_way", "_law_one"] ["_law_spring_here", "_law_app_here", "_law_deep", "_law_most"] (dG "_law_words" 29).scope := ⟨rfl, rfl, rfl, by decide +kernel, rfl, by decide +kernel, by decide +kernel⟩
theorem st_law_words {P : Program} {w : World} {K : PySem.W.Frag} {mg : Str → Option Value} {base : Heap} (G : GFx w K mg) (n : Nat) (h_law_words : OkF P w K mg base (3 + n) (He.ga K "_law_words") ["_law_spring_here", "_law_app_here", "_law_deep", "_law_most"] (F_law_words n)) : OkF P w K mg base (3 + (n + 1)) (He.ga K "_law_words") ["_law_spring_here", "_law_app_here", "_law_deep", "_law_most"] (F_law_words (n + 1)) :=
  okF (k := 3 + n) (G.c.d.def_ 6 (d := dG "_law_words" 29) rfl) sc_law_words (fun _ _ _ _ _ _ us hl => match us, hl with | [_, _, _, _], _ => rfl) fun cdv A outer s H E c hp =>
    (iss_cons (is_set (i := 4) c.nd (ie_if (it_gt (ie_var 2) ie_int) (ie_callF ((ok_law_drop G).mono (by omega)) c.rm (G.glo 3) c.tk (ia_cons (ie_var 0) (ia_cons ie_int ia_nil))) ie_int)) (iss_cons (is_if (it_gt (ie_var 4) ie_int) (iss_one (is_ret (ie_callF ((ok_law_basic G).mono (by omega)) c.rm (G.glo 9) c.tk (ia_cons (ie_var 0) (ia_cons (ie_var 1) (ia_cons (ie_var 3) ia_nil)))))) iss_nil) (iss_cons (is_set (i := 5) c.nd (ie_callF ((h_law_words).mono (by omega)) c.rm (G.glo 10) c.tk (ia_cons (ie_var 0) (ia_cons (ie_var 1) (ia_cons (ie_sub (ie_var 2) ie_int) (ia_cons (ie_var 3) ia_nil)))))) (iss_cons (is_if (it_eq c.rm.r (ie_var 4) ie_int) (iss_one (is_ret (ie_tup (ia_cons ie_str (ia_cons (ie_var 5) ia_nil))))) iss_nil) (iss_one (is_ret (ie_tup (ia_cons (ie_item (ie_lst (ia_cons ie_str (ia_cons ie_str ia_nil))) (ie_var 4)) (ia_cons (ie_var 5) (ia_cons (ie_callF ((h_law_words).mono (by omega)) c.rm (G.glo 10) c.tk (ia_cons (ie_var 0) (ia_cons (ie_var 1) (ia_cons (ie_sub (ie_var 2) ie_int) (ia_cons (ie_var 3) ia_nil))))) ia_nil))))))))))
theorem og_law_words {P : Program} {w : World} {K : PySem.W.Frag} {mg : Str → Option Value} {base : Heap} (G : GFx w K mg) : ∀ n : Nat, OkF P w K mg base (3 + n) (He.ga K "_law_words") ["_law_spring_here", "_law_app_here", "_law_deep", "_law_most"] (F_law_words n)
  | 0 => okF0 (G.c.d.def_ 6 (d := dG "_law_words" 29) rfl) (fun _ _ _ _ _ _ us hl => match us, hl with | [_, _, _, _], _ => rfl)
  | n + 1 => by
    have h0 := og_law_words (P := P) (base := base) G n
    exact st_law_words G n h0
theorem ok_law_words {P : Program} {w : World} {K : PySem.W.Frag} {mg : Str → Option Value} {base : Heap} (G : GFx w K mg) (n : Nat) : OkF P w K mg base (3 + n) (He.ga K "_law_words") ["_law_spring_here", "_law_app_here", "_law_deep", "_law_most"] (F_law_words n) := (og_law_words G n)
theorem sc_law_name : FnScope ["_law_spring_here", "_law_some", "_law_letters", "_law_k"] ["_law_spring_here"] (dG "_law_name" 33).scope := ⟨rfl, rfl, rfl, by decide +kernel, rfl, by decide +kernel, by decide +kernel⟩
theorem ok_law_name {P : Program} {w : World} {K : PySem.W.Frag} {mg : Str → Option Value} {base : Heap} (G : GFx w K mg) : OkF P w K mg base 3 (He.ga K "_law_name") ["_law_spring_here"] F_law_name :=
  okF (k := 2) (G.c.d.def_ 7 (d := dG "_law_name" 33) rfl) sc_law_name (fun _ _ _ _ _ _ us hl => match us, hl with | [_], _ => rfl) fun cdv A outer s H E c hp =>
    (iss_cons (is_set (i := 1) c.nd (ie_lst (ia_cons ie_str (ia_cons ie_str (ia_cons ie_str (ia_cons ie_str (ia_cons ie_str (ia_cons ie_str (ia_cons ie_str (ia_cons ie_str (ia_cons ie_str (ia_cons ie_str (ia_cons ie_str (ia_cons ie_str ia_nil)))))))))))))) (iss_cons (is_setLc (own := [("_law_k", 3)]) c.calm c.nd (ii_rng1 rfl (G.free 8) (ia_cons (ie_add ie_int (ie_callF ((ok_law_drop G).mono (by omega)) c.rm (G.glo 3) c.tk (ia_cons (ie_var 0) (ia_cons ie_int ia_nil)))) ia_nil)) ⟨fun _ _ _ _ _ => (tg_nm c.nd), .inl ⟨rfl, rfl⟩, fun _ _ _ _ _ => (ie_callF ((ok_law_pick G).mono (by omega)) c.rm (G.glo 4) takes0 (ia_cons (ie_var 0) (ia_cons (ie_callTy (cr_listD c.calm) er_list rfl (G.free 11) boot_list (ia_cons ie_str ia_nil)) ia_nil)))⟩ (blkOk_by (N := ["_law_spring_here", "_law_some", "_law_letters", "_law_k"]) (sc := (dG "_law_name" 33).scope) (by decide +kernel)) (sw_true rfl rfl rfl (by decide +kernel))) (iss_one (is_ret (ie_callF ((ok_law_pick G).mono (by omega)) c.rm (G.glo 4) c.tk (ia_cons (ie_var 0) (ia_cons (ie_add (ie_var 1) (ie_lst (ia_cons (ie_join ie_str (ia_cons (ie_var 2) ia_nil)) ia_nil))) ia_nil)))))))
theorem sc_law_far : FnScope ["_law_spring_here", "_law_brackets", "_law_way", "_law_side", "_law_one", "_law_s", "_law_t", "_law_sign", "_law_n", "_law_stack", "_law_k", "_law_some"] ["_law_spring_here", "_law_brackets"] (dG "_law_far" 34).scope := ⟨rfl, rfl, rfl, by decide +kernel, rfl, by decide +kernel, by decide +kernel⟩
theorem st_law_far {P : Program} {w : World} {K : PySem.W.Frag} {mg : Str → Option Value} {base : Heap} (G : GFx w K mg) (n : Nat) (h_law_far : OkF P w K mg base (3 + n) (He.ga K "_law_far") ["_law_spring_here", "_law_brackets"] (F_law_far n)) : OkF P w K mg base (3 + (n + 1)) (He.ga K "_law_far") ["_law_spring_here", "_law_brackets"] (F_law_far (n + 1)) :=
  okF (k := 3 + n) (G.c.d.def_ 8 (d := dG "_law_far" 34) rfl) sc_law_far (fun _ _ _ _ _ _ us hl => match us, hl with | [_, _], _ => rfl) fun cdv A outer s H E c hp =>
    (iss_cons (is_if (it_eq c.rm.r (ie_var 1) ie_int) (iss_one (is_ret (ie_callF ((ok_law_pick G).mono (by omega)) c.rm (G.glo 4) c.tk (ia_cons (ie_var 0) (ia_cons (ie_lst (ia_cons (ie_tup (ia_cons ie_str ia_nil)) (ia_cons (ie_tup (ia_cons ie_str ia_nil)) ia_nil))) ia_nil))))) iss_nil) (iss_cons (is_set (i := 2) c.nd (ie_if (it_gt (ie_var 1) ie_int) (ie_callF ((ok_law_drop G).mono (by omega)) c.rm (G.glo 3) c.tk (ia_cons (ie_var 0) (ia_cons ie_int ia_nil))) ie_int)) (iss_cons (is_if (it_eq c.rm.r (ie_var 2) ie_int) (iss_one (is_ret (ie_tup (ia_cons ie_str (ia_cons (ie_callF ((h_law_far).mono (by omega)) c.rm (G.glo 12) c.tk (ia_cons (ie_var 0) (ia_cons (ie_sub (ie_var 1) ie_int) ia_nil))) ia_nil))))) iss_nil) (iss_cons (is_if (it_lt (ie_var 2) ie_int) (iss_cons (is_set (i := 3) c.nd (ie_callF ((h_law_far).mono (by omega)) c.rm (G.glo 12) c.tk (ia_cons (ie_var 0) (ia_cons (ie_callF ((ok_law_drop G).mono (by omega)) c.rm (G.glo 3) c.tk (ia_cons (ie_var 0) (ia_cons (ie_callB (cr_minD c.calm) er_min rfl (G.free 13) boot_min (ia_cons ie_int (ia_cons (ie_var 1) ia_nil))) ia_nil))) ia_nil)))) (iss_cons (is_set (i := 4) c.nd (ie_callF ((h_law_far).mono (by omega)) c.rm (G.glo 12) c.tk (ia_cons (ie_var 0) (ia_cons (ie_sub (ie_var 1) ie_int) ia_nil)))) (iss_one (is_ret (ie_callF ((ok_law_pick G).mono (by omega)) c.rm (G.glo 4) c.tk (ia_cons (ie_var 0) (ia_cons (ie_lst (ia_cons (ie_tup (ia_cons ie_str (ia_cons (ie_var 4) (ia_cons (ie_var 3) ia_nil)))) (ia_cons (ie_tup (ia_cons ie_str (ia_cons (ie_var 3) (ia_cons (ie_var 4) ia_nil)))) (ia_cons (ie_tup (ia_cons ie_str (ia_cons (ie_var 3) (ia_cons (ie_var 4) ia_nil)))) ia_nil)))) ia_nil))))))) iss_nil) (iss_cons (is_par3 (i := 5) (j := 6) (l := 7) c.calm c.nd (ia_cons (ie_callF ((ok_law_name G).mono (by omega)) c.rm (G.glo 14) c.tk (ia_cons (ie_var 0) ia_nil)) (ia_cons (ie_callF ((ok_law_name G).mono (by omega)) c.rm (G.glo 14) c.tk (ia_cons (ie_var 0) ia_nil)) (ia_cons (ie_callF ((ok_law_pick G).mono (by omega)) c.rm (G.glo 4) c.tk (ia_cons (ie_var 0) (ia_cons (ie_lst (ia_cons ie_str (ia_cons ie_str (ia_cons ie_str ia_nil)))) ia_nil))) ia_nil)))) (iss_cons (is_set (i := 8) c.nd (ie_callF ((ok_law_pick G).mono (by omega)) c.rm (G.glo 4) c.tk (ia_cons (ie_var 0) (ia_cons (ie_lst (ia_cons ie_int (ia_cons ie_int (ia_cons ie_int (ia_cons ie_int (ia_cons (ie_callF ((ok_law_drop G).mono (by omega)) c.rm (G.glo 3) c.tk (ia_cons (ie_var 0) (ia_cons (ie_pow ie_int ie_int) ia_nil))) ia_nil)))))) ia_nil)))) (iss_cons (is_set (i := 9) c.nd (ie_callTy (cr_tupleD) er_tuple rfl (G.free 7) boot_tuple (ia_cons (ie_lc (own := [("_law_k", 10)]) c.calm c.nd (ii_rng1 rfl (G.free 8) (ia_cons (ie_callF ((ok_law_drop G).mono (by omega)) c.rm (G.glo 3) c.tk (ia_cons (ie_var 0) (ia_cons ie_int ia_nil))) ia_nil)) ⟨fun _ _ _ _ _ => (tg_nm c.nd), .inl ⟨rfl, rfl⟩, fun _ _ _ _ _ => (ie_callF ((ok_law_name G).mono (by omega)) c.rm (G.glo 14) takes0 (ia_cons (ie_var 0) ia_nil))⟩ (blkOk_by (N := ["_law_spring_here", "_law_brackets", "_law_way", "_law_side", "_law_one", "_law_s", "_law_t", "_law_sign", "_law_n", "_law_stack", "_law_k", "_law_some"]) (sc := (dG "_law_far" 34).scope) (by decide +kernel))) ia_nil))) (iss_cons (is_set (i := 11) c.nd (ie_lst (ia_cons (ie_tup (ia_cons ie_str (ia_cons (ie_var 5) ia_nil))) (ia_cons (ie_tup (ia_cons ie_str (ia_cons (ie_var 5) ia_nil))) (ia_cons (ie_tup (ia_cons ie_str (ia_cons (ie_var 5) ia_nil))) (ia_cons (ie_tup (ia_cons ie_str (ia_cons (ie_var 6) ia_nil))) (ia_cons (ie_tup (ia_cons ie_str (ia_cons (ie_var 5) (ia_cons (ie_var 6) ia_nil)))) (ia_cons (ie_tup (ia_cons ie_str (ia_cons (ie_var 5) (ia_cons (ie_var 7) (ia_cons (ie_var 8) ia_nil))))) ia_nil)))))))) (iss_one (is_ret (ie_callF ((ok_law_pick G).mono (by omega)) c.rm (G.glo 4) c.tk (ia_cons (ie_var 0) (ia_cons (ie_add (ie_var 11) (ie_lst (ia_cons (ie_tup (ia_cons ie_str (ia_cons (ie_var 7) (ia_cons (ie_var 8) ia_nil)))) (ia_cons (ie_tup (ia_cons ie_str ia_nil)) (ia_cons (ie_tup (ia_cons ie_str (ia_cons (ie_var 5) (ia_cons (ie_var 9) ia_nil)))) (ia_cons (ie_tup (ia_cons ie_str (ia_cons (ie_var 6) (ia_cons (ie_var 9) ia_nil)))) ia_nil)))))) ia_nil)))))))))))))
theorem og_law_far {P : Program} {w : World} {K : PySem.W.Frag} {mg : Str → Option Value} {base : Heap} (G : GFx w K mg) : ∀ n : Nat, OkF P w K mg base (3 + n) (He.ga K "_law_far") ["_law_spring_here", "_law_brackets"] (F_law_far n)
  | 0 => okF0 (G.c.d.def_ 8 (d := dG "_law_far" 34) rfl) (fun _ _ _ _ _ _ us hl => match us, hl with | [_, _], _ => rfl)
  | n + 1 => by
    have h0 := og_law_far (P := P) (base := base) G n
    exact st_law_far G n h0
theorem ok_law_far {P : Program} {w : World} {K : PySem.W.Frag} {mg : Str → Option Value} {base : Heap} (G : GFx w K mg) (n : Nat) : OkF P w K mg base (3 + n) (He.ga K "_law_far") ["_law_spring_here", "_law_brackets"] (F_law_far n) := (og_law_far G n)
theorem sc_law_long : FnScope ["_law_spring_here", "_law_many", "_law_words_here", "_law_k"] ["_law_spring_here", "_law_many"] (dG "_law_long" 35).scope := ⟨rfl, rfl, rfl, by decide +kernel, rfl, by decide +kernel, by decide +kernel⟩
theorem ok_law_long {P : Program} {w : World} {K : PySem.W.Frag} {mg : Str → Option Value} {base : Heap} (G : GFx w K mg) : OkF P w K mg base 64 (He.ga K "_law_long") ["_law_spring_here", "_law_many"] F_law_long :=
  okF (k := 63) (G.c.d.def_ 9 (d := dG "_law_long" 35) rfl) sc_law_long (fun _ _ _ _ _ _ us hl => match us, hl with | [_, _], _ => rfl) fun cdv A outer s H E c hp =>
    (iss_cons (is_set (i := 2) c.nd (ie_tup (ia_cons ie_str ia_nil))) (iss_cons (is_for hp c.calm (ii_rng1 rfl (G.free 8) (ia_cons (ie_var 1) ia_nil)) (tg_nm c.nd) (iss_one (is_set (i := 2) c.nd (ie_tup (ia_cons (ie_callF ((ok_law_pick G).mono (by omega)) c.rm (G.glo 4) c.tk (ia_cons (ie_var 0) (ia_cons (ie_lst (ia_cons ie_str (ia_cons ie_str ia_nil))) ia_nil))) (ia_cons (ie_callF ((ok_law_far G 60).mono (by omega)) c.rm (G.glo 12) c.tk (ia_cons (ie_var 0) (ia_cons ie_int ia_nil))) (ia_cons (ie_var 2) ia_nil))))))) (iss_one (is_ret (ie_var 2)))))
theorem sc_law_state_text : FnScope ["_law_state"] ["_law_state"] (dG "_law_state_text" 30).scope := ⟨rfl, rfl, rfl, by decide +kernel, rfl, by decide +kernel, by decide +kernel⟩
theorem ok_law_state_text {P : Program} {w : World} {K : PySem.W.Frag} {mg : Str → Option Value} {base : Heap} (G : GFx w K mg) : OkF P w K mg base 1 (He.ga K "_law_state_text") ["_law_state"] F_law_state_text :=
  okF (k := 0) (G.c.d.def_ 10 (d := dG "_law_state_text" 30) rfl) sc_law_state_text (fun _ _ _ _ _ _ us hl => match us, hl with | [_], _ => rfl) fun cdv A outer s H E c hp =>
    (iss_one (is_ret (ie_add (ie_add (ie_item (ie_var 0) ie_int) ie_str) (ie_join ie_str (ia_cons (ie_item (ie_var 0) ie_int) ia_nil)))))
theorem sc_law_words_text : FnScope ["_law_words_here", "_law_items", "_law_item"] ["_law_words_here"] (dG "_law_words_text" 31).scope := ⟨rfl, rfl, rfl, by decide +kernel, rfl, by decide +kernel, by decide +kernel⟩
theorem st_law_words_text {P : Program} {w : World} {K : PySem.W.Frag} {mg : Str → Option Value} {base : Heap} (G : GFx w K mg) (n : Nat) (h_law_words_text : OkF P w K mg base (1 + n) (He.ga K "_law_words_text") ["_law_words_here"] (F_law_words_text n)) : OkF P w K mg base (1 + (n + 1)) (He.ga K "_law_words_text") ["_law_words_here"] (F_law_words_text (n + 1)) :=
  okF (k := 1 + n) (G.c.d.def_ 11 (d := dG "_law_words_text" 31) rfl) sc_law_words_text (fun _ _ _ _ _ _ us hl => match us, hl with | [_], _ => rfl) fun cdv A outer s H E c hp =>
    (iss_cons (is_if (it_eq c.rm.r (ie_item (ie_var 0) ie_int) ie_str) (iss_one (is_ret (ie_add (ie_add ie_str (ie_callF ((ok_law_state_text G).mono (by omega)) c.rm (G.glo 15) c.tk (ia_cons (ie_slice (ie_var 0) (io_some ie_int) io_no) ia_nil))) ie_str))) iss_nil) (iss_cons (is_set (i := 1) c.nd (ie_lst ia_nil)) (iss_cons (is_for hp c.calm (ii_seq (ie_slice (ie_var 0) (io_some ie_int) io_no)) (tg_nm c.nd) (iss_one (is_expr (ie_append (ie_var 1) (ia_cons (ie_if (it_truth (ie_callB (cr_isiD) er_isi rfl (G.free 16) boot_isinstance (ia_cons (ie_var 2) (ia_cons (ie_ty (G.free 7) boot_tuple) ia_nil)))) (ie_callF ((h_law_words_text).mono (by omega)) c.rm (G.glo 17) c.tk (ia_cons (ie_var 2) ia_nil)) (ie_callTy (cr_strD) er_str rfl (G.free 18) boot_str (ia_cons (ie_var 2) ia_nil))) ia_nil))))) (iss_one (is_ret (ie_add (ie_item (ie_var 0) ie_int) (ie_mul (ie_add (ie_add ie_str (ie_join ie_str (ia_cons (ie_var 1) ia_nil))) ie_str) (ie_callTy (cr_intD) er_int rfl (G.free 2) boot_int (ia_cons (ie_ne c.rm.r (ie_var 1) (ie_lst ia_nil)) ia_nil)))))))))
theorem og_law_words_text {P : Program} {w : World} {K : PySem.W.Frag} {mg : Str → Option Value} {base : Heap} (G : GFx w K mg) : ∀ n : Nat, OkF P w K mg base (1 + n) (He.ga K "_law_words_text") ["_law_words_here"] (F_law_words_text n)
  | 0 => okF0 (G.c.d.def_ 11 (d := dG "_law_words_text" 31) rfl) (fun _ _ _ _ _ _ us hl => match us, hl with | [_], _ => rfl)
  | n + 1 => by
    have h0 := og_law_words_text (P := P) (base := base) G n
    exact st_law_words_text G n h0
theorem ok_law_words_text {P : Program} {w : World} {K : PySem.W.Frag} {mg : Str → Option Value} {base : Heap} (G : GFx w K mg) (n : Nat) : OkF P w K mg base (1 + n) (He.ga K "_law_words_text") ["_law_words_here"] (F_law_words_text n) := (og_law_words_text G n)
theorem sc_stack_text : FnScope ["stack"] ["stack"] (dG "stack_text" 13).scope := ⟨rfl, rfl, rfl, by decide +kernel, rfl, by decide +kernel, by decide +kernel⟩
theorem ok_stack_text {P : Program} {w : World} {K : PySem.W.Frag} {mg : Str → Option Value} {base : Heap} (G : GFx w K mg) : OkF P w K mg base 1 (He.ga K "stack_text") ["stack"] F_stack_text :=
  okF (k := 0) (G.c.d.def_ 12 (d := dG "stack_text" 13) rfl) sc_stack_text (fun _ _ _ _ _ _ us hl => match us, hl with | [_], _ => rfl) fun cdv A outer s H E c hp =>
    (iss_one (is_ret (ie_join ie_str (ia_cons (ie_var 0) ia_nil))))
theorem sc_plain_text : FnScope ["state"] ["state"] (dG "plain_text" 14).scope := ⟨rfl, rfl, rfl, by decide +kernel, rfl, by decide +kernel, by decide +kernel⟩
theorem ok_plain_text {P : Program} {w : World} {K : PySem.W.Frag} {mg : Str → Option Value} {base : Heap} (G : GFx w K mg) : OkF P w K mg base 2 (He.ga K "plain_text") ["state"] F_plain_text :=
  okF (k := 1) (G.c.d.def_ 13 (d := dG "plain_text" 14) rfl) sc_plain_text (fun _ _ _ _ _ _ us hl => match us, hl with | [_], _ => rfl) fun cdv A outer s H E c hp =>
    (iss_one (is_ret (ie_add (ie_add (ie_item (ie_var 0) ie_int) ie_str) (ie_callF ((ok_stack_text G).mono (by omega)) c.rm (G.glo 19) c.tk (ia_cons (ie_item (ie_var 0) ie_int) ia_nil)))))
theorem sc_item_text : FnScope ["sort", "item"] ["sort", "item"] (dG "item_text" 15).scope := ⟨rfl, rfl, rfl, by decide +kernel, rfl, by decide +kernel, by decide +kernel⟩
theorem sc_words_text : FnScope ["words", "items", "sort", "item"] ["words"] (dG "words_text" 16).scope := ⟨rfl, rfl, rfl, by decide +kernel, rfl, by decide +kernel, by decide +kernel⟩
theorem st_item_text {P : Program} {w : World} {K : PySem.W.Frag} {mg : Str → Option Value} {base : Heap} (G : GFx w K mg) (n : Nat) (h_item_text : OkF P w K mg base (2 + n) (He.ga K "item_text") ["sort", "item"] (F_item_text n)) (h_words_text : OkF P w K mg base (2 + n) (He.ga K "words_text") ["words"] (F_words_text n)) : OkF P w K mg base (2 + (n + 1)) (He.ga K "item_text") ["sort", "item"] (F_item_text (n + 1)) :=
  okF (k := 2 + n) (G.c.d.def_ 14 (d := dG "item_text" 15) rfl) sc_item_text (fun _ _ _ _ _ _ us hl => match us, hl with | [_, _], _ => rfl) fun cdv A outer s H E c hp =>
    (iss_one (is_ret (ie_if (it_eq c.rm.r (ie_var 0) ie_str) (ie_callF ((h_words_text).mono (by omega)) c.rm (G.glo 20) c.tk (ia_cons (ie_var 1) ia_nil)) (ie_callTy (cr_strD) er_str rfl (G.free 18) boot_str (ia_cons (ie_var 1) ia_nil)))))
theorem st_words_text {P : Program} {w : World} {K : PySem.W.Frag} {mg : Str → Option Value} {base : Heap} (G : GFx w K mg) (n : Nat) (h_item_text : OkF P w K mg base (2 + n) (He.ga K "item_text") ["sort", "item"] (F_item_text n)) (h_words_text : OkF P w K mg base (2 + n) (He.ga K "words_text") ["words"] (F_words_text n)) : OkF P w K mg base (2 + (n + 1)) (He.ga K "words_text") ["words"] (F_words_text (n + 1)) :=
  okF (k := 2 + n) (G.c.d.def_ 15 (d := dG "words_text" 16) rfl) sc_words_text (fun _ _ _ _ _ _ us hl => match us, hl with | [_], _ => rfl) fun cdv A outer s H E c hp =>
    (iss_cons (is_if (it_eq c.rm.r (ie_item (ie_var 0) ie_int) ie_str) (iss_one (is_ret (ie_add (ie_add ie_str (ie_callF ((ok_plain_text G).mono (by omega)) c.rm (G.glo 21) c.tk (ia_cons (ie_slice (ie_var 0) (io_some ie_int) io_no) ia_nil))) ie_str))) iss_nil) (iss_cons (is_setLc (own := [("sort", 2), ("item", 3)]) c.calm c.nd (ii_zip rfl (G.free 23) (ia_cons (ie_kd (G.glo 22) (G.c.tab 0 (t := tb_SHAPES) rfl) (G.tab 0) (ie_item (ie_var 0) ie_int)) (ia_cons (ie_slice (ie_var 0) (io_some ie_int) io_no) ia_nil))) ⟨fun _ _ _ _ _ => (tg_tp c.calm (tgs_cons (tg_nm c.nd) (tgs_cons (tg_nm c.nd) tgs_nil))), .inl ⟨rfl, rfl⟩, fun _ _ _ _ _ => (ie_callF ((h_item_text).mono (by omega)) c.rm (G.glo 24) takes0 (ia_cons (ie_var 2) (ia_cons (ie_var 3) ia_nil)))⟩ (blkOk_by (N := ["words", "items", "sort", "item"]) (sc := (dG "words_text" 16).scope) (by decide +kernel)) (sw_true rfl rfl rfl (by decide +kernel))) (iss_one (is_ret (ie_if (it_eq c.rm.r (ie_var 1) (ie_lst ia_nil)) (ie_item (ie_var 0) ie_int) (ie_add (ie_add (ie_add (ie_item (ie_var 0) ie_int) ie_str) (ie_join ie_str (ia_cons (ie_var 1) ia_nil))) ie_str))))))
theorem og_item_text {P : Program} {w : World} {K : PySem.W.Frag} {mg : Str → Option Value} {base : Heap} (G : GFx w K mg) : ∀ n : Nat, OkF P w K mg base (2 + n) (He.ga K "item_text") ["sort", "item"] (F_item_text n) ∧ OkF P w K mg base (2 + n) (He.ga K "words_text") ["words"] (F_words_text n)
  | 0 => ⟨okF0 (G.c.d.def_ 14 (d := dG "item_text" 15) rfl) (fun _ _ _ _ _ _ us hl => match us, hl with | [_, _], _ => rfl), okF0 (G.c.d.def_ 15 (d := dG "words_text" 16) rfl) (fun _ _ _ _ _ _ us hl => match us, hl with | [_], _ => rfl)⟩
  | n + 1 => by
    obtain ⟨h0, h1⟩ := og_item_text G n
    exact ⟨st_item_text G n h0 h1, st_words_text G n h0 h1⟩
theorem ok_item_text {P : Program} {w : World} {K : PySem.W.Frag} {mg : Str → Option Value} {base : Heap} (G : GFx w K mg) (n : Nat) : OkF P w K mg base (2 + n) (He.ga K "item_text") ["sort", "item"] (F_item_text n) := (og_item_text G n).1
theorem ok_words_text {P : Program} {w : World} {K : PySem.W.Frag} {mg : Str → Option Value} {base : Heap} (G : GFx w K mg) (n : Nat) : OkF P w K mg base (2 + n) (He.ga K "words_text") ["words"] (F_words_text n) := (og_item_text G n).2
theorem sc_Reader___init__ : FnScope ["self", "text"] ["self", "text"] (dM "Reader" "__init__" "Reader.__init__" 17 0).scope := ⟨rfl, rfl, rfl, by decide +kernel, rfl, by decide +kernel, by decide +kernel⟩
theorem ok_Reader___init__ {P : Program} {w : World} {K : PySem.W.Frag} {mg : Str → Option Value} {base : Heap} (G : GFx w K mg) : OkF P w K mg base 1 (He.ma K (He.ga K "Reader") "__init__") ["self", "text"] F_Reader___init__ :=
  okF (k := 0) (G.c.d.def_ 16 (d := dM "Reader" "__init__" "Reader.__init__" 17 0) rfl) sc_Reader___init__ (fun _ _ _ _ _ _ us hl => match us, hl with | [_, _], _ => rfl) fun cdv A outer s H E c hp =>
    (iss_cons (is_setF (He.cls_ok (G.fact 25)) (He.noat_ok (G.fact 26)) (ie_var 0) (ie_var 1)) (iss_cons (is_setF (He.cls_ok (G.fact 25)) (He.noat_ok (G.fact 27)) (ie_var 0) ie_int) (iss_one (is_setF (He.cls_ok (G.fact 25)) (He.noat_ok (G.fact 28)) (ie_var 0) ie_int))))
theorem sc_Reader_is_at : FnScope ["self", "signs", "sign"] ["self", "signs"] (dM "Reader" "is_at" "Reader.is_at" 17 1).scope := ⟨rfl, rfl, rfl, by decide +kernel, rfl, by decide +kernel, by decide +kernel⟩
theorem ok_Reader_is_at {P : Program} {w : World} {K : PySem.W.Frag} {mg : Str → Option Value} {base : Heap} (G : GFx w K mg) : OkF P w K mg base 1 (He.ma K (He.ga K "Reader") "is_at") ["self", "signs"] F_Reader_is_at :=
  okF (k := 0) (G.c.d.def_ 17 (d := dM "Reader" "is_at" "Reader.is_at" 17 1) rfl) sc_Reader_is_at (fun _ _ _ _ _ _ us hl => match us, hl with | [_, _], _ => rfl) fun cdv A outer s H E c hp =>
    (iss_cons (is_set (i := 2) c.nd (ie_slice (ie_fld (He.cls_ok (G.fact 25)) (He.noat_ok (G.fact 26)) (ie_var 0)) (io_some (ie_fld (He.cls_ok (G.fact 25)) (He.noat_ok (G.fact 27)) (ie_var 0))) (io_some (ie_add (ie_fld (He.cls_ok (G.fact 25)) (He.noat_ok (G.fact 27)) (ie_var 0)) ie_int)))) (iss_one (is_ret (ie_and (ie_ne c.rm.r (ie_var 2) ie_str) (ie_one (ie_in (ie_var 2) (ie_var 1)))))))
theorem sc_Reader_take : FnScope ["self", "signs"] ["self", "signs"] (dM "Reader" "take" "Reader.take" 17 2).scope := ⟨rfl, rfl, rfl, by decide +kernel, rfl, by decide +kernel, by decide +kernel⟩
theorem ok_Reader_take {P : Program} {w : World} {K : PySem.W.Frag} {mg : Str → Option Value} {base : Heap} (G : GFx w K mg) : OkF P w K mg base 2 (He.ma K (He.ga K "Reader") "take") ["self", "signs"] F_Reader_take :=
  okF (k := 1) (G.c.d.def_ 18 (d := dM "Reader" "take" "Reader.take" 17 2) rfl) sc_Reader_take (fun _ _ _ _ _ _ us hl => match us, hl with | [_, _], _ => rfl) fun cdv A outer s H E c hp =>
    (iss_cons (is_if (it_not (it_truth (ie_methF ((ok_Reader_is_at G).mono (by omega)) (He.cls_ok (G.fact 25)) (He.meth_ok (G.fact 29)) c.rm c.tk (ie_var 0) (ia_cons (ie_var 1) ia_nil)))) (iss_one is_never) iss_nil) (iss_cons (is_setF (He.cls_ok (G.fact 25)) (He.noat_ok (G.fact 27)) (ie_var 0) (ie_add (ie_fld (He.cls_ok (G.fact 25)) (He.noat_ok (G.fact 27)) (ie_var 0)) ie_int)) (iss_one (is_ret (ie_item (ie_fld (He.cls_ok (G.fact 25)) (He.noat_ok (G.fact 26)) (ie_var 0)) (ie_sub (ie_fld (He.cls_ok (G.fact 25)) (He.noat_ok (G.fact 27)) (ie_var 0)) ie_int))))))
theorem sc_Reader_read_word : FnScope ["self", "words", "found", "word"] ["self", "words"] (dM "Reader" "read_word" "Reader.read_word" 17 7).scope := ⟨rfl, rfl, rfl, by decide +kernel, rfl, by decide +kernel, by decide +kernel⟩
theorem ok_Reader_read_word {P : Program} {w : World} {K : PySem.W.Frag} {mg : Str → Option Value} {base : Heap} (G : GFx w K mg) : OkF P w K mg base 3 (He.ma K (He.ga K "Reader") "read_word") ["self", "words"] F_Reader_read_word :=
  okF (k := 2) (G.c.d.def_ 19 (d := dM "Reader" "read_word" "Reader.read_word" 17 7) rfl) sc_Reader_read_word (fun _ _ _ _ _ _ us hl => match us, hl with | [_, _], _ => rfl) fun cdv A outer s H E c hp =>
    (iss_cons (is_set (i := 2) c.nd ie_str) (iss_cons (is_while hp (it_notin (ie_var 2) (ie_var 1)) (iss_one (is_set (i := 2) c.nd (ie_add (ie_var 2) (ie_methF ((ok_Reader_take G).mono (by omega)) (He.cls_ok (G.fact 25)) (He.meth_ok (G.fact 30)) c.rm c.tk (ie_var 0) (ia_cons (ie_lc (own := [("word", 3)]) c.calm c.nd (ii_seq (ie_var 1)) ⟨fun _ _ _ _ _ => (tg_nm c.nd), .inr ⟨_, rfl, fun _ _ _ _ _ => (it_truth (ie_starts (ie_var 3) (ia_cons (ie_var 2) ia_nil)))⟩, fun _ _ _ _ _ => (ie_item (ie_var 3) (ie_callB (cr_lenD) er_len rfl (G.free 0) boot_len (ia_cons (ie_var 2) ia_nil)))⟩ (blkOk_by (N := ["self", "words", "found", "word"]) (sc := (dM "Reader" "read_word" "Reader.read_word" 17 7).scope) (by decide +kernel))) ia_nil)))))) (iss_one (is_ret (ie_var 2)))))
theorem sc_Reader_begin : FnScope ["self"] ["self"] (dM "Reader" "begin" "Reader.begin" 17 4).scope := ⟨rfl, rfl, rfl, by decide +kernel, rfl, by decide +kernel, by decide +kernel⟩
theorem ok_Reader_begin {P : Program} {w : World} {K : PySem.W.Frag} {mg : Str → Option Value} {base : Heap} (G : GFx w K mg) : OkF P w K mg base 3 (He.ma K (He.ga K "Reader") "begin") ["self"] F_Reader_begin :=
  okF (k := 2) (G.c.d.def_ 20 (d := dM "Reader" "begin" "Reader.begin" 17 4) rfl) sc_Reader_begin (fun _ _ _ _ _ _ us hl => match us, hl with | [_], _ => rfl) fun cdv A outer s H E c hp =>
    (iss_cons (is_if (it_eq c.rm.r (ie_fld (He.cls_ok (G.fact 25)) (He.noat_ok (G.fact 28)) (ie_var 0)) (ie_gc (G.con 1))) (iss_one is_never) iss_nil) (iss_cons (is_expr (ie_methF ((ok_Reader_take G).mono (by omega)) (He.cls_ok (G.fact 25)) (He.meth_ok (G.fact 30)) c.rm c.tk (ie_var 0) (ia_cons ie_str ia_nil))) (iss_one (is_setF (He.cls_ok (G.fact 25)) (He.noat_ok (G.fact 28)) (ie_var 0) (ie_add (ie_fld (He.cls_ok (G.fact 25)) (He.noat_ok (G.fact 28)) (ie_var 0)) ie_int)))))
theorem sc_Reader_finish : FnScope ["self"] ["self"] (dM "Reader" "finish" "Reader.finish" 17 5).scope := ⟨rfl, rfl, rfl, by decide +kernel, rfl, by decide +kernel, by decide +kernel⟩
theorem ok_Reader_finish {P : Program} {w : World} {K : PySem.W.Frag} {mg : Str → Option Value} {base : Heap} (G : GFx w K mg) : OkF P w K mg base 3 (He.ma K (He.ga K "Reader") "finish") ["self"] F_Reader_finish :=
  okF (k := 2) (G.c.d.def_ 21 (d := dM "Reader" "finish" "Reader.finish" 17 5) rfl) sc_Reader_finish (fun _ _ _ _ _ _ us hl => match us, hl with | [_], _ => rfl) fun cdv A outer s H E c hp =>
    (iss_cons (is_expr (ie_methF ((ok_Reader_take G).mono (by omega)) (He.cls_ok (G.fact 25)) (He.meth_ok (G.fact 30)) c.rm c.tk (ie_var 0) (ia_cons ie_str ia_nil))) (iss_one (is_setF (He.cls_ok (G.fact 25)) (He.noat_ok (G.fact 28)) (ie_var 0) (ie_sub (ie_fld (He.cls_ok (G.fact 25)) (He.noat_ok (G.fact 28)) (ie_var 0)) ie_int))))
theorem sc_Reader_read_name : FnScope ["self", "found"] ["self"] (dM "Reader" "read_name" "Reader.read_name" 17 8).scope := ⟨rfl, rfl, rfl, by decide +kernel, rfl, by decide +kernel, by decide +kernel⟩
theorem ok_Reader_read_name {P : Program} {w : World} {K : PySem.W.Frag} {mg : Str → Option Value} {base : Heap} (G : GFx w K mg) : OkF P w K mg base 3 (He.ma K (He.ga K "Reader") "read_name") ["self"] F_Reader_read_name :=
  okF (k := 2) (G.c.d.def_ 22 (d := dM "Reader" "read_name" "Reader.read_name" 17 8) rfl) sc_Reader_read_name (fun _ _ _ _ _ _ us hl => match us, hl with | [_], _ => rfl) fun cdv A outer s H E c hp =>
    (iss_cons (is_set (i := 1) c.nd (ie_methF ((ok_Reader_take G).mono (by omega)) (He.cls_ok (G.fact 25)) (He.meth_ok (G.fact 30)) c.rm c.tk (ie_var 0) (ia_cons (ie_gc (G.con 2)) ia_nil))) (iss_cons (is_while hp (it_w (iw_and (it_lt (ie_callB (cr_lenD) er_len rfl (G.free 0) boot_len (ia_cons (ie_var 1) ia_nil)) (ie_gc (G.con 3))) (iw_and1 (it_truth (ie_methF ((ok_Reader_is_at G).mono (by omega)) (He.cls_ok (G.fact 25)) (He.meth_ok (G.fact 29)) c.rm c.tk (ie_var 0) (ia_cons (ie_gc (G.con 2)) ia_nil)))))) (iss_one (is_set (i := 1) c.nd (ie_add (ie_var 1) (ie_methF ((ok_Reader_take G).mono (by omega)) (He.cls_ok (G.fact 25)) (He.meth_ok (G.fact 30)) c.rm c.tk (ie_var 0) (ia_cons (ie_gc (G.con 2)) ia_nil)))))) (iss_one (is_ret (ie_var 1)))))
theorem sc_Reader_read_state : FnScope ["self", "mode", "stack"] ["self"] (dM "Reader" "read_state" "Reader.read_state" 17 9).scope := ⟨rfl, rfl, rfl, by decide +kernel, rfl, by decide +kernel, by decide +kernel⟩
theorem ok_Reader_read_state {P : Program} {w : World} {K : PySem.W.Frag} {mg : Str → Option Value} {base : Heap} (G : GFx w K mg) : OkF P w K mg base 4 (He.ma K (He.ga K "Reader") "read_state") ["self"] F_Reader_read_state :=
  okF (k := 3) (G.c.d.def_ 23 (d := dM "Reader" "read_state" "Reader.read_state" 17 9) rfl) sc_Reader_read_state (fun _ _ _ _ _ _ us hl => match us, hl with | [_], _ => rfl) fun cdv A outer s H E c hp =>
    (iss_cons (is_set (i := 1) c.nd (ie_methF0 ((ok_Reader_read_name G).mono (by omega)) (He.cls_ok (G.fact 25)) (He.meth_ok (G.fact 31)) c.rm c.tk (ie_var 0))) (iss_cons (is_expr (ie_methF ((ok_Reader_take G).mono (by omega)) (He.cls_ok (G.fact 25)) (He.meth_ok (G.fact 30)) c.rm c.tk (ie_var 0) (ia_cons ie_str ia_nil))) (iss_cons (is_set (i := 2) c.nd (ie_if (it_truth (ie_methF ((ok_Reader_is_at G).mono (by omega)) (He.cls_ok (G.fact 25)) (He.meth_ok (G.fact 29)) c.rm c.tk (ie_var 0) (ia_cons (ie_gc (G.con 2)) ia_nil))) (ie_tup (ia_cons (ie_methF0 ((ok_Reader_read_name G).mono (by omega)) (He.cls_ok (G.fact 25)) (He.meth_ok (G.fact 31)) c.rm c.tk (ie_var 0)) ia_nil)) (ie_tup ia_nil))) (iss_cons (is_while hp (it_w (iw_and (it_ne c.rm.r (ie_var 2) (ie_tup ia_nil)) (iw_and1 (it_truth (ie_methF ((ok_Reader_is_at G).mono (by omega)) (He.cls_ok (G.fact 25)) (He.meth_ok (G.fact 29)) c.rm c.tk (ie_var 0) (ia_cons ie_str ia_nil)))))) (iss_cons (is_expr (ie_methF ((ok_Reader_take G).mono (by omega)) (He.cls_ok (G.fact 25)) (He.meth_ok (G.fact 30)) c.rm c.tk (ie_var 0) (ia_cons ie_str ia_nil))) (iss_one (is_set (i := 2) c.nd (ie_tup (ia_star (ie_var 2) (ia_cons (ie_methF0 ((ok_Reader_read_name G).mono (by omega)) (He.cls_ok (G.fact 25)) (He.meth_ok (G.fact 31)) c.rm c.tk (ie_var 0)) ia_nil))))))) (iss_one (is_ret (ie_tup (ia_cons (ie_var 1) (ia_cons (ie_var 2) ia_nil)))))))))
theorem sc_Reader_read_number : FnScope ["self", "found"] ["self"] (dM "Reader" "read_number" "Reader.read_number" 17 6).scope := ⟨rfl, rfl, rfl, by decide +kernel, rfl, by decide +kernel, by decide +kernel⟩
theorem ok_Reader_read_number {P : Program} {w : World} {K : PySem.W.Frag} {mg : Str → Option Value} {base : Heap} (G : GFx w K mg) : OkF P w K mg base 3 (He.ma K (He.ga K "Reader") "read_number") ["self"] F_Reader_read_number :=
  okF (k := 2) (G.c.d.def_ 24 (d := dM "Reader" "read_number" "Reader.read_number" 17 6) rfl) sc_Reader_read_number (fun _ _ _ _ _ _ us hl => match us, hl with | [_], _ => rfl) fun cdv A outer s H E c hp =>
    (iss_cons (is_set (i := 1) c.nd (ie_methF ((ok_Reader_take G).mono (by omega)) (He.cls_ok (G.fact 25)) (He.meth_ok (G.fact 30)) c.rm c.tk (ie_var 0) (ia_cons (ie_gc (G.con 4)) ia_nil))) (iss_cons (is_while hp (it_w (iw_and (it_ne c.rm.r (ie_var 1) ie_str) (iw_and (it_lt (ie_callB (cr_lenD) er_len rfl (G.free 0) boot_len (ia_cons (ie_var 1) ia_nil)) (ie_gc (G.con 5))) (iw_and1 (it_truth (ie_methF ((ok_Reader_is_at G).mono (by omega)) (He.cls_ok (G.fact 25)) (He.meth_ok (G.fact 29)) c.rm c.tk (ie_var 0) (ia_cons (ie_gc (G.con 4)) ia_nil))))))) (iss_one (is_set (i := 1) c.nd (ie_add (ie_var 1) (ie_methF ((ok_Reader_take G).mono (by omega)) (He.cls_ok (G.fact 25)) (He.meth_ok (G.fact 30)) c.rm c.tk (ie_var 0) (ia_cons (ie_gc (G.con 4)) ia_nil)))))) (iss_one (is_ret (ie_callTy (cr_intD) er_int rfl (G.free 2) boot_int (ia_cons (ie_var 1) ia_nil))))))
theorem sc_read_item : FnScope ["reader", "sort"] ["reader", "sort"] (dG "read_item" 18).scope := ⟨rfl, rfl, rfl, by decide +kernel, rfl, by decide +kernel, by decide +kernel⟩
theorem sc_read_items : FnScope ["reader", "sorts", "found", "sort"] ["reader", "sorts"] (dG "read_items" 19).scope := ⟨rfl, rfl, rfl, by decide +kernel, rfl, by decide +kernel, by decide +kernel⟩
theorem sc_read_words : FnScope ["reader", "word", "items"] ["reader"] (dG "read_words" 20).scope := ⟨rfl, rfl, rfl, by decide +kernel, rfl, by decide +kernel, by decide +kernel⟩
theorem st_read_item {P : Program} {w : World} {K : PySem.W.Frag} {mg : Str → Option Value} {base : Heap} (G : GFx w K mg) (n : Nat) (h_read_item : OkF P w K mg base (4 + n) (He.ga K "read_item") ["reader", "sort"] (F_read_item n)) (h_read_items : OkF P w K mg base (4 + n) (He.ga K "read_items") ["reader", "sorts"] (F_read_items n)) (h_read_words : OkF P w K mg base (4 + n) (He.ga K "read_words") ["reader"] (F_read_words n)) : OkF P w K mg base (4 + (n + 1)) (He.ga K "read_item") ["reader", "sort"] (F_read_item (n + 1)) :=
  okF (k := 4 + n) (G.c.d.def_ 25 (d := dG "read_item" 18) rfl) sc_read_item (fun _ _ _ _ _ _ us hl => match us, hl with | [_, _], _ => rfl) fun cdv A outer s H E c hp =>
    (iss_cons (is_if (it_eq c.rm.r (ie_var 1) ie_str) (iss_one (is_ret (ie_callF ((h_read_words).mono (by omega)) c.rm (G.glo 32) c.tk (ia_cons (ie_var 0) ia_nil)))) iss_nil) (iss_cons (is_if (it_eq c.rm.r (ie_var 1) ie_str) (iss_one (is_ret (ie_methF ((ok_Reader_take G).mono (by omega)) (He.cls_ok (G.fact 25)) (He.meth_ok (G.fact 30)) c.rm c.tk (ie_var 0) (ia_cons (ie_gc (G.con 6)) ia_nil)))) iss_nil) (iss_one (is_ret (ie_if (it_eq c.rm.r (ie_var 1) ie_str) (ie_methF0 ((ok_Reader_read_number G).mono (by omega)) (He.cls_ok (G.fact 25)) (He.meth_ok (G.fact 33)) c.rm c.tk (ie_var 0)) (ie_methF0 ((ok_Reader_read_name G).mono (by omega)) (He.cls_ok (G.fact 25)) (He.meth_ok (G.fact 31)) c.rm c.tk (ie_var 0)))))))
theorem st_read_items {P : Program} {w : World} {K : PySem.W.Frag} {mg : Str → Option Value} {base : Heap} (G : GFx w K mg) (n : Nat) (h_read_item : OkF P w K mg base (4 + n) (He.ga K "read_item") ["reader", "sort"] (F_read_item n)) (h_read_items : OkF P w K mg base (4 + n) (He.ga K "read_items") ["reader", "sorts"] (F_read_items n)) (h_read_words : OkF P w K mg base (4 + n) (He.ga K "read_words") ["reader"] (F_read_words n)) : OkF P w K mg base (4 + (n + 1)) (He.ga K "read_items") ["reader", "sorts"] (F_read_items (n + 1)) :=
  okF (k := 4 + n) (G.c.d.def_ 26 (d := dG "read_items" 19) rfl) sc_read_items (fun _ _ _ _ _ _ us hl => match us, hl with | [_, _], _ => rfl) fun cdv A outer s H E c hp =>
    (iss_cons (is_set (i := 2) c.nd (ie_tup ia_nil)) (iss_cons (is_for hp c.calm (ii_seq (ie_var 1)) (tg_nm c.nd) (iss_cons (is_if (it_ne c.rm.r (ie_var 2) (ie_tup ia_nil)) (iss_one (is_expr (ie_methF ((ok_Reader_take G).mono (by omega)) (He.cls_ok (G.fact 25)) (He.meth_ok (G.fact 30)) c.rm c.tk (ie_var 0) (ia_cons ie_str ia_nil)))) iss_nil) (iss_one (is_set (i := 2) c.nd (ie_tup (ia_star (ie_var 2) (ia_cons (ie_callF ((h_read_item).mono (by omega)) c.rm (G.glo 34) c.tk (ia_cons (ie_var 0) (ia_cons (ie_var 3) ia_nil))) ia_nil))))))) (iss_one (is_ret (ie_var 2)))))
theorem st_read_words {P : Program} {w : World} {K : PySem.W.Frag} {mg : Str → Option Value} {base : Heap} (G : GFx w K mg) (n : Nat) (h_read_item : OkF P w K mg base (4 + n) (He.ga K "read_item") ["reader", "sort"] (F_read_item n)) (h_read_items : OkF P w K mg base (4 + n) (He.ga K "read_items") ["reader", "sorts"] (F_read_items n)) (h_read_words : OkF P w K mg base (4 + n) (He.ga K "read_words") ["reader"] (F_read_words n)) : OkF P w K mg base (4 + (n + 1)) (He.ga K "read_words") ["reader"] (F_read_words (n + 1)) :=
  okF (k := 4 + n) (G.c.d.def_ 27 (d := dG "read_words" 20) rfl) sc_read_words (fun _ _ _ _ _ _ us hl => match us, hl with | [_], _ => rfl) fun cdv A outer s H E c hp =>
    (iss_cons (is_set (i := 1) c.nd (ie_methF ((ok_Reader_read_word G).mono (by omega)) (He.cls_ok (G.fact 25)) (He.meth_ok (G.fact 35)) c.rm c.tk (ie_var 0) (ia_cons (ie_gc (G.con 7)) ia_nil))) (iss_cons (is_if (it_eq c.rm.r (ie_kd (G.glo 22) (G.c.tab 0 (t := tb_SHAPES) rfl) (G.tab 0) (ie_var 1)) (ie_tup ia_nil)) (iss_one (is_ret (ie_tup (ia_cons (ie_var 1) ia_nil)))) iss_nil) (iss_cons (is_expr (ie_methF0 ((ok_Reader_begin G).mono (by omega)) (He.cls_ok (G.fact 25)) (He.meth_ok (G.fact 36)) c.rm c.tk (ie_var 0))) (iss_cons (is_set (i := 2) c.nd (ie_if (it_eq c.rm.r (ie_var 1) ie_str) (ie_methF0 ((ok_Reader_read_state G).mono (by omega)) (He.cls_ok (G.fact 25)) (He.meth_ok (G.fact 37)) c.rm c.tk (ie_var 0)) (ie_callF ((h_read_items).mono (by omega)) c.rm (G.glo 38) c.tk (ia_cons (ie_var 0) (ia_cons (ie_kd (G.glo 22) (G.c.tab 0 (t := tb_SHAPES) rfl) (G.tab 0) (ie_var 1)) ia_nil))))) (iss_cons (is_expr (ie_methF0 ((ok_Reader_finish G).mono (by omega)) (He.cls_ok (G.fact 25)) (He.meth_ok (G.fact 39)) c.rm c.tk (ie_var 0))) (iss_one (is_ret (ie_tup (ia_cons (ie_var 1) (ia_star (ie_var 2) ia_nil))))))))))
theorem og_read_item {P : Program} {w : World} {K : PySem.W.Frag} {mg : Str → Option Value} {base : Heap} (G : GFx w K mg) : ∀ n : Nat, OkF P w K mg base (4 + n) (He.ga K "read_item") ["reader", "sort"] (F_read_item n) ∧ OkF P w K mg base (4 + n) (He.ga K "read_items") ["reader", "sorts"] (F_read_items n) ∧ OkF P w K mg base (4 + n) (He.ga K "read_words") ["reader"] (F_read_words n)
  | 0 => ⟨okF0 (G.c.d.def_ 25 (d := dG "read_item" 18) rfl) (fun _ _ _ _ _ _ us hl => match us, hl with | [_, _], _ => rfl), okF0 (G.c.d.def_ 26 (d := dG "read_items" 19) rfl) (fun _ _ _ _ _ _ us hl => match us, hl with | [_, _], _ => rfl), okF0 (G.c.d.def_ 27 (d := dG "read_words" 20) rfl) (fun _ _ _ _ _ _ us hl => match us, hl with | [_], _ => rfl)⟩
  | n + 1 => by
    obtain ⟨h0, h1, h2⟩ := og_read_item G n
    exact ⟨st_read_item G n h0 h1 h2, st_read_items G n h0 h1 h2, st_read_words G n h0 h1 h2⟩
theorem ok_read_item {P : Program} {w : World} {K : PySem.W.Frag} {mg : Str → Option Value} {base : Heap} (G : GFx w K mg) (n : Nat) : OkF P w K mg base (4 + n) (He.ga K "read_item") ["reader", "sort"] (F_read_item n) := (og_read_item G n).1
theorem ok_read_items {P : Program} {w : World} {K : PySem.W.Frag} {mg : Str → Option Value} {base : Heap} (G : GFx w K mg) (n : Nat) : OkF P w K mg base (4 + n) (He.ga K "read_items") ["reader", "sorts"] (F_read_items n) := (og_read_item G n).2.1
theorem ok_read_words {P : Program} {w : World} {K : PySem.W.Frag} {mg : Str → Option Value} {base : Heap} (G : GFx w K mg) (n : Nat) : OkF P w K mg base (4 + n) (He.ga K "read_words") ["reader"] (F_read_words n) := (og_read_item G n).2.2
theorem sc_Reader_end : FnScope ["self"] ["self"] (dM "Reader" "end" "Reader.end" 17 3).scope := ⟨rfl, rfl, rfl, by decide +kernel, rfl, by decide +kernel, by decide +kernel⟩
theorem ok_Reader_end {P : Program} {w : World} {K : PySem.W.Frag} {mg : Str → Option Value} {base : Heap} (G : GFx w K mg) : OkF P w K mg base 1 (He.ma K (He.ga K "Reader") "end") ["self"] F_Reader_end :=
  okF (k := 0) (G.c.d.def_ 28 (d := dM "Reader" "end" "Reader.end" 17 3) rfl) sc_Reader_end (fun _ _ _ _ _ _ us hl => match us, hl with | [_], _ => rfl) fun cdv A outer s H E c hp =>
    (iss_one (is_if (it_lt (ie_fld (He.cls_ok (G.fact 25)) (He.noat_ok (G.fact 27)) (ie_var 0)) (ie_callB (cr_lenD) er_len rfl (G.free 0) boot_len (ia_cons (ie_fld (He.cls_ok (G.fact 25)) (He.noat_ok (G.fact 26)) (ie_var 0)) ia_nil))) (iss_one is_never) iss_nil))
theorem sc_parse_words : FnScope ["value", "reader", "found"] ["value"] (dG "parse_words" 21).scope := ⟨rfl, rfl, rfl, by decide +kernel, rfl, by decide +kernel, by decide +kernel⟩
theorem ok_parse_words {P : Program} {w : World} {K : PySem.W.Frag} {mg : Str → Option Value} {base : Heap} (G : GFx w K mg) : OkF P w K mg base 65 (He.ga K "parse_words") ["value"] F_parse_words :=
  okF (k := 64) (G.c.d.def_ 29 (d := dG "parse_words" 21) rfl) sc_parse_words (fun _ _ _ _ _ _ us hl => match us, hl with | [_], _ => rfl) fun cdv A outer s H E c hp =>
    (iss_cons (is_if (it_not (it_truth (ie_callB (cr_isiD) er_isi rfl (G.free 16) boot_isinstance (ia_cons (ie_var 0) (ia_cons (ie_ty (G.free 18) boot_str) ia_nil))))) (iss_one is_never) iss_nil) (iss_cons (is_set (i := 1) c.nd (ie_makeF (k := 64 - 1) (He.mkr_ok (G.fact 41)) ((ok_Reader___init__ G).mono (by omega)) (c.rm.mono (by omega)) (G.glo 40) c.tk (ia_cons (ie_var 0) ia_nil))) (iss_cons (is_set (i := 2) c.nd (ie_callF ((ok_read_words G 60).mono (by omega)) c.rm (G.glo 32) c.tk (ia_cons (ie_var 1) ia_nil))) (iss_cons (is_expr (ie_methF0 ((ok_Reader_end G).mono (by omega)) (He.cls_ok (G.fact 25)) (He.meth_ok (G.fact 42)) c.rm c.tk (ie_var 1))) (iss_one (is_ret (ie_var 2)))))))
theorem sc_law : FnScope ["_law_script", "_law_spring_here", "_law_turn", "_law_app_here", "_law_some", "_law_stack", "_law_k", "_law_words_here", "_law_shown", "_law_due"] ["_law_script"] (dG "law" 36).scope := ⟨rfl, rfl, rfl, by decide +kernel, rfl, by decide +kernel, by decide +kernel⟩
theorem ok_law {P : Program} {w : World} {K : PySem.W.Frag} {mg : Str → Option Value} {base : Heap} (G : GFx w K mg) : OkF P w K mg base 66 (He.ga K "law") ["_law_script"] F_law :=
  okF (k := 65) (G.c.d.def_ 30 (d := dG "law" 36) rfl) sc_law (fun _ _ _ _ _ _ us hl => match us, hl with | [_], _ => rfl) fun cdv A outer s H E c hp =>
    (iss_cons (is_set (i := 1) c.nd (ie_callF ((ok_law_spring G).mono (by omega)) c.rm (G.glo 43) c.tk (ia_cons (ie_var 0) ia_nil))) (iss_cons (is_for hp c.calm (ii_rng1 rfl (G.free 8) (ia_cons ie_int ia_nil)) (tg_nm c.nd) (iss_cons (is_set (i := 3) c.nd (ie_callF ((ok_law_app G).mono (by omega)) c.rm (G.glo 44) c.tk (ia_cons (ie_var 1) (ia_cons ie_int ia_nil)))) (iss_cons (is_set (i := 4) c.nd (ie_lst (ia_cons (ie_callF ((ok_law_words G 60).mono (by omega)) c.rm (G.glo 10) c.tk (ia_cons (ie_var 1) (ia_cons (ie_var 3) (ia_cons (ie_add ie_int (ie_callF ((ok_law_drop G).mono (by omega)) c.rm (G.glo 3) c.tk (ia_cons (ie_var 1) (ia_cons ie_int ia_nil)))) (ia_cons ie_int ia_nil))))) (ia_cons (ie_callF ((ok_law_long G).mono (by omega)) c.rm (G.glo 45) c.tk (ia_cons (ie_var 1) (ia_cons (ie_callF ((ok_law_drop G).mono (by omega)) c.rm (G.glo 3) c.tk (ia_cons (ie_var 1) (ia_cons ie_int ia_nil))) ia_nil))) ia_nil)))) (iss_cons (is_set (i := 4) c.nd (ie_add (ie_var 4) (ie_lst (ia_cons (ie_callF ((ok_law_far G 60).mono (by omega)) c.rm (G.glo 12) c.tk (ia_cons (ie_var 1) (ia_cons (ie_add ie_int (ie_callF ((ok_law_drop G).mono (by omega)) c.rm (G.glo 3) c.tk (ia_cons (ie_var 1) (ia_cons ie_int ia_nil)))) ia_nil))) (ia_cons (ie_callF ((ok_law_far G 60).mono (by omega)) c.rm (G.glo 12) c.tk (ia_cons (ie_var 1) (ia_cons ie_int ia_nil))) ia_nil))))) (iss_cons (is_set (i := 5) c.nd (ie_callTy (cr_tupleD) er_tuple rfl (G.free 7) boot_tuple (ia_cons (ie_mul (ie_lc (own := [("_law_k", 6)]) c.calm c.nd (ii_rng1 rfl (G.free 8) (ia_cons ie_int ia_nil)) ⟨fun _ _ _ _ _ => (tg_nm c.nd), .inl ⟨rfl, rfl⟩, fun _ _ _ _ _ => (ie_callF ((ok_law_pick G).mono (by omega)) c.rm (G.glo 4) takes0 (ia_cons (ie_var 1) (ia_cons (ie_lst (ia_cons ie_str (ia_cons ie_str (ia_cons ie_str ia_nil)))) ia_nil)))⟩ (blkOk_by (N := ["_law_script", "_law_spring_here", "_law_turn", "_law_app_here", "_law_some", "_law_stack", "_law_k", "_law_words_here", "_law_shown", "_law_due"]) (sc := (dG "law" 36).scope) (by decide +kernel))) ie_int) ia_nil))) (iss_cons (is_set (i := 4) c.nd (ie_add (ie_var 4) (ie_mul (ie_lst (ia_cons (ie_tup (ia_cons ie_str (ia_cons (ie_tup (ia_cons ie_str (ia_cons ie_str (ia_cons (ie_var 5) ia_nil)))) ia_nil))) ia_nil)) (ie_callTy (cr_intD) er_int rfl (G.free 2) boot_int (ia_cons (ie_eq c.rm.r (ie_var 2) ie_int) ia_nil))))) (iss_one (is_for hp c.calm (ii_seq (ie_var 4)) (tg_nm c.nd) (iss_cons (is_par (i := 8) (j := 9) c.calm c.nd (ia_cons (ie_callB (cr_reprD c.rm) er_repr rfl (G.free 46) boot_repr (ia_cons (ie_var 7) ia_nil)) (ia_cons (ie_callF ((ok_law_words_text G 60).mono (by omega)) c.rm (G.glo 17) c.tk (ia_cons (ie_var 7) ia_nil)) ia_nil))) (iss_cons (is_if (it_ne c.rm.r (ie_lst (ia_cons (ie_callF ((ok_words_text G 60).mono (by omega)) c.rm (G.glo 20) c.tk (ia_cons (ie_var 7) ia_nil)) (ia_cons (ie_callF ((ok_words_text G 60).mono (by omega)) c.rm (G.glo 20) c.tk (ia_cons (ie_var 7) ia_nil)) ia_nil))) (ie_lst (ia_cons (ie_var 9) (ia_cons (ie_var 9) ia_nil)))) (iss_one (is_ret ie_bl)) iss_nil) (iss_one (is_if (it_w (iw_or (it_ne c.rm.r (ie_lst (ia_cons (ie_callB (cr_reprD c.rm) er_repr rfl (G.free 46) boot_repr (ia_cons (ie_callF ((ok_parse_words G).mono (by omega)) c.rm (G.glo 47) c.tk (ia_cons (ie_var 9) ia_nil)) ia_nil)) (ia_cons (ie_callB (cr_reprD c.rm) er_repr rfl (G.free 46) boot_repr (ia_cons (ie_callF ((ok_parse_words G).mono (by omega)) c.rm (G.glo 47) c.tk (ia_cons (ie_var 9) ia_nil)) ia_nil)) ia_nil))) (ie_lst (ia_cons (ie_var 8) (ia_cons (ie_var 8) ia_nil)))) (iw_or1 (it_ne c.rm.r (ie_callB (cr_reprD c.rm) er_repr rfl (G.free 46) boot_repr (ia_cons (ie_var 7) ia_nil)) (ie_var 8))))) (iss_one (is_ret ie_bl)) iss_nil)))))))))))) (iss_one (is_ret ie_bl))))
end T91


set_option Elab.async false
set_option linter.all false
set_option maxRecDepth 100000
set_option maxHeartbeats 0
set_option autoImplicit false
namespace T91
open PySem PySem.Spec PyProof.Rows L2 Dn
abbrev R : PySem.W.OpenRow := PySem.W.OpenLaw.row PySem.Challenge.rw_backstacks_k91_words_written_and_read
abbrev hk : PySem.W.Hook := hookX 5 fa fn ts ex
def ob (s : PySem.W.SharedT) : AlX := obsX 5 fa fn ts ex (HandSHeadRun.getT s)
theorem ob_eq (s : PySem.W.SharedT) : ob s = hk.obs s.abs := obsX_eq (HandSHeadRun.getT_eq s)
def loose : List Str := (["_wall", "__name__", "StackError", "BadText", "SHAPES", "SIGNS", "LETTERS", "DIGITS", "LONGEST", "MOST_DIGITS", "MOST_OPEN", "HEADS", "stack_text", "plain_text", "item_text", "words_text", "Reader", "read_item", "read_items", "read_words", "parse_words"] : List Str) ++ (["_law_spring", "_law_drop", "_law_pick", "_law_act", "_law_app", "_law_basic", "_law_words", "_law_state_text", "_law_words_text", "_law_tap_text", "_law_name", "_law_far", "_law_long"] : List Str)
theorem headRun (w : World) : HandSHeadRun.RunEq R (PySem.W.view R.prog [36]) hk ob 20000 loose w :=
  PySem.W.byRow2 "special-get-raises" (P := fun w => HandSHeadRun.RunEq R (PySem.W.view R.prog [36]) hk ob 20000 loose w) (fun w => by intro os; kernel_rfl) (fun w => by intro os; kernel_rfl) w
end T91


set_option Elab.async false
set_option linter.all false
set_option maxRecDepth 100000
set_option maxHeartbeats 4000000
set_option autoImplicit false
namespace T91
open PySem Dn
/-! ### literals -/
theorem q_is : Str.ofString "is" = SX.S l_is := by rfl
theorem q_words : Str.ofString "words" = SX.S l_words := by rfl
theorem q_lp : Str.ofString "(" = SX.S [40] := by rfl
theorem q_rp : Str.ofString ")" = SX.S [41] := by rfl
theorem q_isp : Str.ofString "is(" = SX.S [105, 115, 40] := by rfl
theorem q_sp : Str.ofString " " = SX.S [32] := by rfl
theorem q_col : Str.ofString ":" = SX.S [58] := by rfl
theorem q_dot : Str.ofString "." = SX.S [46] := by rfl
theorem shapes (h : H9) : t_SHAPES.lookup (SX.S h.t) = some (.tup (h.srt.map fun s => T s.t)) := by cases h <;> rfl
theorem shapes_not : t_SHAPES.lookup (SX.S l_not) = some (.tup [T l_words]) := by rfl
theorem shapes_bi (o : Bool) : t_SHAPES.lookup (SX.S (if o then l_and else l_or)) = some (.tup [T l_words, T l_words]) := by cases o <;> rfl
theorem h9_is (h : H9) : (SX.S h.t == SX.S l_is) = false := by cases h <;> rfl
theorem sr_words (s : Sr) : (SX.S s.t == SX.S l_words) = false := by cases s <;> rfl
theorem wp_stack {st : Store} {k : List (List Nat)} {Q : D → Store → Prop} (hl : (k.map List.length).sum + k.length ≤ LIM) (h : Q (T (TL.joinL [46] k)) st) : wp (F_stack_text [.tup (k.map T)] st) Q := by
  unfold F_stack_text b_stack_text
  simp only [wp_run, wp_bind, wp_ok, wp_bad, wpS_seq, Dn.wpS_set, wpS_ret, wpS_if, wpS_expr, wpS_skip, wpS_par, wpS_par3, wpS_asg, wpS_itemS, wpS_fldS, wpS_for, wpS_nx, wpS_rt, wpS_bk, wpS_ct, wpS_bad, wp_lc, wpS_never, thenK_nx, thenK_rt, thenK_bk, thenK_ct, outK_nx, outK_rt, turnK_nx, turnK_rt, turnK_bk, turnK_ct,
  wp_addI, wp_addS, wp_addT, wp_subI, wp_mulI, wp_mulS, wp_fdivI, wp_modI, wp_powI, ltD_int, leD_int, gtD_int, geD_int, eqV_int, eqV_str, wp_itemT, wp_itemR, wp_itemS, lenD_tup, lenD_rol, wp_lenS, intD_int, intD_bl, wp_intS, absD_int, minD_int, strD_str, wp_strI, wp_listS, truR_bl, sliceD_tup, sliceD_rol, wp_sliceS, wp_tup, wp_lst, wp_ifE, wp_andT, wp_orT, wp_notT, wp_appN, startsD_str,
  Dn.envOf, var, con, Dn.bin, app, consA, nilA, test, slice, noO, someO, List.map_cons, List.map_nil, List.cons_append, List.nil_append, List.replicate_succ, List.replicate_zero, List.length_cons, List.length_nil, List.getElem?_cons_zero, List.getElem?_cons_succ, List.set_cons_zero, List.set_cons_succ, List.append_nil,
  Nat.add_one_sub_one, Nat.reduceAdd, Nat.reduceSub, Nat.reduceLeDiff, Nat.sub_zero, Nat.zero_add, if_true, if_false, ite_true, ite_false, Bool.false_eq_true, reduceIte, Bool.not_true, Bool.not_false, Bool.not_eq_true', Nat.zero_le, true_and, and_true, decide_eq_true_eq, Nat.reduceEqDiff, Option.some.injEq, exists_eq_left', reduceCtorEq, atI_zero, atI_one, atI_two, List.set_cons_zero, List.set_cons_succ, wp_kdE, wp_kdAt, wp_fldE, wp_methE, wp_meth, wp_methRs, wp_star, wp_starT, wp_rng1, wp_rngAt, cut_tail, Option.map_some, SX.S_cat, SX.S_len, LIM, List.append_assoc, q_is, q_words, q_lp, q_rp, q_isp, q_sp, q_col, q_dot]
  rw [wp_joinT (x := .tup (k.map T)) rfl]
  exact ⟨by simpa using hl, h⟩
theorem wp_plain {st : Store} {m : List Nat} {k : List (List Nat)} {Q : D → Store → Prop} (hl : (k.map List.length).sum + k.length ≤ 1000000) (hm : m.length ≤ 8) (h : Q (T (m ++ (58 :: TL.joinL [46] k))) st) : wp (F_plain_text [.tup [T m, .tup (k.map T)]] st) Q := by
  have h5 := join_len [46] k
  simp only [List.length_cons, List.length_nil] at h5
  unfold F_plain_text b_plain_text
  simp only [wp_run, wp_bind, wp_ok, wp_bad, wpS_seq, Dn.wpS_set, wpS_ret, wpS_if, wpS_expr, wpS_skip, wpS_par, wpS_par3, wpS_asg, wpS_itemS, wpS_fldS, wpS_for, wpS_nx, wpS_rt, wpS_bk, wpS_ct, wpS_bad, wp_lc, wpS_never, thenK_nx, thenK_rt, thenK_bk, thenK_ct, outK_nx, outK_rt, turnK_nx, turnK_rt, turnK_bk, turnK_ct,
  wp_addI, wp_addS, wp_addT, wp_subI, wp_mulI, wp_mulS, wp_fdivI, wp_modI, wp_powI, ltD_int, leD_int, gtD_int, geD_int, eqV_int, eqV_str, wp_itemT, wp_itemR, wp_itemS, lenD_tup, lenD_rol, wp_lenS, intD_int, intD_bl, wp_intS, absD_int, minD_int, strD_str, wp_strI, wp_listS, truR_bl, sliceD_tup, sliceD_rol, wp_sliceS, wp_tup, wp_lst, wp_ifE, wp_andT, wp_orT, wp_notT, wp_appN, startsD_str,
  Dn.envOf, var, con, Dn.bin, app, consA, nilA, test, slice, noO, someO, List.map_cons, List.map_nil, List.cons_append, List.nil_append, List.replicate_succ, List.replicate_zero, List.length_cons, List.length_nil, List.getElem?_cons_zero, List.getElem?_cons_succ, List.set_cons_zero, List.set_cons_succ, List.append_nil,
  Nat.add_one_sub_one, Nat.reduceAdd, Nat.reduceSub, Nat.reduceLeDiff, Nat.sub_zero, Nat.zero_add, if_true, if_false, ite_true, ite_false, Bool.false_eq_true, reduceIte, Bool.not_true, Bool.not_false, Bool.not_eq_true', Nat.zero_le, true_and, and_true, decide_eq_true_eq, Nat.reduceEqDiff, Option.some.injEq, exists_eq_left', reduceCtorEq, atI_zero, atI_one, atI_two, List.set_cons_zero, List.set_cons_succ, wp_kdE, wp_kdAt, wp_fldE, wp_methE, wp_meth, wp_methRs, wp_star, wp_starT, wp_rng1, wp_rngAt, cut_tail, Option.map_some, SX.S_cat, SX.S_len, LIM, List.append_assoc, q_is, q_words, q_lp, q_rp, q_isp, q_sp, q_col, q_dot]
  refine ⟨by omega, wp_stack (by show _ ≤ 4000000; omega) ?_⟩
  simp only [wp_run, wp_bind, wp_ok, wp_bad, wpS_seq, Dn.wpS_set, wpS_ret, wpS_if, wpS_expr, wpS_skip, wpS_par, wpS_par3, wpS_asg, wpS_itemS, wpS_fldS, wpS_for, wpS_nx, wpS_rt, wpS_bk, wpS_ct, wpS_bad, wp_lc, wpS_never, thenK_nx, thenK_rt, thenK_bk, thenK_ct, outK_nx, outK_rt, turnK_nx, turnK_rt, turnK_bk, turnK_ct,
  wp_addI, wp_addS, wp_addT, wp_subI, wp_mulI, wp_mulS, wp_fdivI, wp_modI, wp_powI, ltD_int, leD_int, gtD_int, geD_int, eqV_int, eqV_str, wp_itemT, wp_itemR, wp_itemS, lenD_tup, lenD_rol, wp_lenS, intD_int, intD_bl, wp_intS, absD_int, minD_int, strD_str, wp_strI, wp_listS, truR_bl, sliceD_tup, sliceD_rol, wp_sliceS, wp_tup, wp_lst, wp_ifE, wp_andT, wp_orT, wp_notT, wp_appN, startsD_str,
  Dn.envOf, var, con, Dn.bin, app, consA, nilA, test, slice, noO, someO, List.map_cons, List.map_nil, List.cons_append, List.nil_append, List.replicate_succ, List.replicate_zero, List.length_cons, List.length_nil, List.getElem?_cons_zero, List.getElem?_cons_succ, List.set_cons_zero, List.set_cons_succ, List.append_nil,
  Nat.add_one_sub_one, Nat.reduceAdd, Nat.reduceSub, Nat.reduceLeDiff, Nat.sub_zero, Nat.zero_add, if_true, if_false, ite_true, ite_false, Bool.false_eq_true, reduceIte, Bool.not_true, Bool.not_false, Bool.not_eq_true', Nat.zero_le, true_and, and_true, decide_eq_true_eq, Nat.reduceEqDiff, Option.some.injEq, exists_eq_left', reduceCtorEq, atI_zero, atI_one, atI_two, List.set_cons_zero, List.set_cons_succ, wp_kdE, wp_kdAt, wp_fldE, wp_methE, wp_meth, wp_methRs, wp_star, wp_starT, wp_rng1, wp_rngAt, cut_tail, Option.map_some, SX.S_cat, SX.S_len, LIM, List.append_assoc, List.length_append]
  exact ⟨by omega, h⟩
theorem it_str {st : Store} {i : It} {Q : D → Store → Prop} {s : Sr} (hi : ItOk s i) (h : Q (T i.t) st) : wp (strD [i.d] st) Q := by
  cases s <;> cases i <;> first
    | exact hi.elim
    | exact h
    | (rename_i n
       have hn : n < 10 ^ 9 := hi
       show wp (strD [.int (n : Nat)] st) Q
       rw [wp_strI]
       refine ⟨?_, ?_⟩
       · have : ((n : Int)).natAbs = n := rfl
         rw [this]
         by_cases h0 : n = 0
         · subst h0
           decide
         · exact Nat.lt_trans ((Nat.log2_lt h0).mpr (show n < 2 ^ 30 by omega)) (by decide)
       · have e : Str.ofString (toString ((n : Nat) : Int)) = SX.S (TL.numL n) := numS n
         show Q (.str (Str.ofString (toString ((n : Nat) : Int)))) st
         rw [e]
         exact h)
/-- the items of a comprehension, each of which becomes a text -/
theorem wp_texts {fi : List D → Store → Res D} {r : Dn.Env} {st : Store} {Q : D → Store → Prop} {xs ys : List D} {ts : List (List Nat)} (hr : r.length = 4) (hlen : xs.length = ts.length) (hlen2 : ys.length = ts.length) (hmax : ts.length < 4000000)
    (hi : ∀ (i : Nat) x y t st, xs[i]? = some x → ys[i]? = some y → ts[i]? = some t → wp (fi [x, y] st) fun d st' => d = T t ∧ Ext st st')
    (h : ∀ st', Ext st st' → cellL st' st.length = some (ts.map T) → Q (.loc st.length) st') : wp (lcN [] (.tp [2, 3]) yes (appN 2 fi (consA (var 2) (consA (var 3) nilA))) (wipeE r [2, 3]) st.length (pairs xs ys) (st ++ [.lst []])) Q := by
  refine wp_lcN (fun l s => ∃ i : Nat, i ≤ ts.length ∧ l = pairs (xs.drop i) (ys.drop i) ∧ cellL s st.length = some ((ts.take i).map T) ∧ Ext st s) (fun _ _ _ => oks_nil) ?_ ?_ _ _ ⟨0, Nat.zero_le _, by simp, by simpa using cellL_of get_last, Ext.push⟩
  · rintro s ⟨i, hi1, h1, h2, h3⟩
    have hl : i = ts.length := by
      by_cases c : i < ts.length
      · have e1 : xs.drop i = xs[i]'(by omega) :: xs.drop (i + 1) := by simp
        have e2 : ys.drop i = ys[i]'(by omega) :: ys.drop (i + 1) := by simp
        rw [e1, e2] at h1
        simp [pairs] at h1
      · omega
    subst hl
    exact h s h3 (by simpa using h2)
  · rintro d l s ⟨i, hi1, h1, h2, h3⟩
    have hl : i < ts.length := by
      by_cases c : i < ts.length
      · exact c
      · rw [List.drop_eq_nil_of_le (by omega)] at h1
        simp [pairs] at h1
    have e1 : xs.drop i = xs[i]'(by omega) :: xs.drop (i + 1) := by simp
    have e2 : ys.drop i = ys[i]'(by omega) :: ys.drop (i + 1) := by simp
    rw [e1, e2] at h1
    simp only [pairs, List.cons.injEq] at h1
    obtain ⟨rfl, rfl⟩ := h1
    obtain ⟨r0, r1, r2, r3, rfl⟩ : ∃ a b c d, r = [a, b, c, d] := by
      match r, hr with
      | [a, b, c, d], _ => exact ⟨a, b, c, d, rfl⟩
    refine ⟨_, rfl, ?_⟩
    have hx : xs[i]? = some (xs[i]'(by omega)) := by simp
    have hy : ys[i]? = some (ys[i]'(by omega)) := by simp
    have ht : ts[i]? = some (ts[i]'(by omega)) := by simp
    simp only [yes, wp_ok, if_true, wp_run, wp_bind, wp_ok, wp_bad, wpS_seq, Dn.wpS_set, wpS_ret, wpS_if, wpS_expr, wpS_skip, wpS_par, wpS_par3, wpS_asg, wpS_itemS, wpS_fldS, wpS_for, wpS_nx, wpS_rt, wpS_bk, wpS_ct, wpS_bad, wp_lc, wpS_never, thenK_nx, thenK_rt, thenK_bk, thenK_ct, outK_nx, outK_rt, turnK_nx, turnK_rt, turnK_bk, turnK_ct,
  wp_addI, wp_addS, wp_addT, wp_subI, wp_mulI, wp_mulS, wp_fdivI, wp_modI, wp_powI, ltD_int, leD_int, gtD_int, geD_int, eqV_int, eqV_str, wp_itemT, wp_itemR, wp_itemS, lenD_tup, lenD_rol, wp_lenS, intD_int, intD_bl, wp_intS, absD_int, minD_int, strD_str, wp_strI, wp_listS, truR_bl, sliceD_tup, sliceD_rol, wp_sliceS, wp_tup, wp_lst, wp_ifE, wp_andT, wp_orT, wp_notT, wp_appN, startsD_str,
  Dn.envOf, var, con, Dn.bin, app, consA, nilA, test, slice, noO, someO, List.map_cons, List.map_nil, List.cons_append, List.nil_append, List.replicate_succ, List.replicate_zero, List.length_cons, List.length_nil, List.getElem?_cons_zero, List.getElem?_cons_succ, List.set_cons_zero, List.set_cons_succ, List.append_nil,
  Nat.add_one_sub_one, Nat.reduceAdd, Nat.reduceSub, Nat.reduceLeDiff, Nat.sub_zero, Nat.zero_add, if_true, if_false, ite_true, ite_false, Bool.false_eq_true, reduceIte, Bool.not_true, Bool.not_false, Bool.not_eq_true', Nat.zero_le, true_and, and_true, decide_eq_true_eq, Nat.reduceEqDiff, Option.some.injEq, exists_eq_left', reduceCtorEq, atI_zero, atI_one, atI_two, List.set_cons_zero, List.set_cons_succ, wp_kdE, wp_kdAt, wp_fldE, wp_methE, wp_meth, wp_methRs, wp_star, wp_starT, wp_rng1, wp_rngAt, cut_tail, Option.map_some, SX.S_cat, SX.S_len, LIM, List.append_assoc, wipeE, putAll]
    refine wp_mono (hi i _ _ _ s hx hy ht) fun y s2 hy2 => ?_
    obtain ⟨rfl, hE⟩ := hy2
    refine ⟨_, hE.cell h2, by rw [List.length_map, List.length_take]; show _ < 4000000; omega, i + 1, hl, rfl, ?_, ?_⟩
    · rw [cellL_of (set_get (cellL_some (hE.cell h2)))]
      have e3 : ts.take (i + 1) = ts.take i ++ [ts[i]'(by omega)] := by
        rw [List.take_add_one, ht]
        rfl
      rw [e3, List.map_append]
      rfl
    · exact (h3.trans hE).set (Nat.le_refl _)
theorem wp_wt {fi fw : List D → Store → Res D} {st : Store} {h : List Nat} {ss xs : List D} {ts : List (List Nat)} (hh : (SX.S h == SX.S l_is) = false) (hk : t_SHAPES.lookup (SX.S h) = some (.tup ss)) (hlen : ss.length = ts.length) (hlen2 : xs.length = ts.length) (hmax : ts.length < 1000)
    (hsum : (ts.map List.length).sum ≤ 1000000) (hhl : h.length ≤ 10) (htk : ∀ x ∈ ts, Tok' x)
    (hi : ∀ (i : Nat) x y t st, ss[i]? = some x → xs[i]? = some y → ts[i]? = some t → wp (fi [x, y] st) fun d st' => d = T t ∧ Ext st st') :
    wp (run 4 (b_words_text fi fw) [.tup (T h :: xs)] st) fun d st' => d = T (if ts.isEmpty then h else h ++ (40 :: (TL.joinL [32] ts ++ [41]))) ∧ Ext st st' := by
  have hj := join_len [32] ts
  simp only [List.length_cons, List.length_nil] at hj
  unfold b_words_text
  simp only [wp_run, wp_bind, wp_ok, wp_bad, wpS_seq, Dn.wpS_set, wpS_ret, wpS_if, wpS_expr, wpS_skip, wpS_par, wpS_par3, wpS_asg, wpS_itemS, wpS_fldS, wpS_for, wpS_nx, wpS_rt, wpS_bk, wpS_ct, wpS_bad, wp_lc, wpS_never, thenK_nx, thenK_rt, thenK_bk, thenK_ct, outK_nx, outK_rt, turnK_nx, turnK_rt, turnK_bk, turnK_ct,
  wp_addI, wp_addS, wp_addT, wp_subI, wp_mulI, wp_mulS, wp_fdivI, wp_modI, wp_powI, ltD_int, leD_int, gtD_int, geD_int, eqV_int, eqV_str, wp_itemT, wp_itemR, wp_itemS, lenD_tup, lenD_rol, wp_lenS, intD_int, intD_bl, wp_intS, absD_int, minD_int, strD_str, wp_strI, wp_listS, truR_bl, sliceD_tup, sliceD_rol, wp_sliceS, wp_tup, wp_lst, wp_ifE, wp_andT, wp_orT, wp_notT, wp_appN, startsD_str,
  Dn.envOf, var, con, Dn.bin, app, consA, nilA, test, slice, noO, someO, List.map_cons, List.map_nil, List.cons_append, List.nil_append, List.replicate_succ, List.replicate_zero, List.length_cons, List.length_nil, List.getElem?_cons_zero, List.getElem?_cons_succ, List.set_cons_zero, List.set_cons_succ, List.append_nil,
  Nat.add_one_sub_one, Nat.reduceAdd, Nat.reduceSub, Nat.reduceLeDiff, Nat.sub_zero, Nat.zero_add, if_true, if_false, ite_true, ite_false, Bool.false_eq_true, reduceIte, Bool.not_true, Bool.not_false, Bool.not_eq_true', Nat.zero_le, true_and, and_true, decide_eq_true_eq, Nat.reduceEqDiff, Option.some.injEq, exists_eq_left', reduceCtorEq, atI_zero, atI_one, atI_two, List.set_cons_zero, List.set_cons_succ, wp_kdE, wp_kdAt, wp_fldE, wp_methE, wp_meth, wp_methRs, wp_star, wp_starT, wp_rng1, wp_rngAt, cut_tail, Option.map_some, SX.S_cat, SX.S_len, LIM, List.append_assoc, q_is, q_words, q_lp, q_rp, q_isp, q_sp, q_col, q_dot, hh, zipW, hk]
  refine wp_texts rfl hlen hlen2 (by omega) hi fun s1 hE hc => ?_
  rw [eq_T0 (l := ts) (hE.push_cell hc) (cellL_of get_last) htk]
  cases he : ts.isEmpty with
  | true =>
    simp only [wp_run, wp_bind, wp_ok, wp_bad, wpS_seq, Dn.wpS_set, wpS_ret, wpS_if, wpS_expr, wpS_skip, wpS_par, wpS_par3, wpS_asg, wpS_itemS, wpS_fldS, wpS_for, wpS_nx, wpS_rt, wpS_bk, wpS_ct, wpS_bad, wp_lc, wpS_never, thenK_nx, thenK_rt, thenK_bk, thenK_ct, outK_nx, outK_rt, turnK_nx, turnK_rt, turnK_bk, turnK_ct,
  wp_addI, wp_addS, wp_addT, wp_subI, wp_mulI, wp_mulS, wp_fdivI, wp_modI, wp_powI, ltD_int, leD_int, gtD_int, geD_int, eqV_int, eqV_str, wp_itemT, wp_itemR, wp_itemS, lenD_tup, lenD_rol, wp_lenS, intD_int, intD_bl, wp_intS, absD_int, minD_int, strD_str, wp_strI, wp_listS, truR_bl, sliceD_tup, sliceD_rol, wp_sliceS, wp_tup, wp_lst, wp_ifE, wp_andT, wp_orT, wp_notT, wp_appN, startsD_str,
  Dn.envOf, var, con, Dn.bin, app, consA, nilA, test, slice, noO, someO, List.map_cons, List.map_nil, List.cons_append, List.nil_append, List.replicate_succ, List.replicate_zero, List.length_cons, List.length_nil, List.getElem?_cons_zero, List.getElem?_cons_succ, List.set_cons_zero, List.set_cons_succ, List.append_nil,
  Nat.add_one_sub_one, Nat.reduceAdd, Nat.reduceSub, Nat.reduceLeDiff, Nat.sub_zero, Nat.zero_add, if_true, if_false, ite_true, ite_false, Bool.false_eq_true, reduceIte, Bool.not_true, Bool.not_false, Bool.not_eq_true', Nat.zero_le, true_and, and_true, decide_eq_true_eq, Nat.reduceEqDiff, Option.some.injEq, exists_eq_left', reduceCtorEq, atI_zero, atI_one, atI_two, List.set_cons_zero, List.set_cons_succ, wp_kdE, wp_kdAt, wp_fldE, wp_methE, wp_meth, wp_methRs, wp_star, wp_starT, wp_rng1, wp_rngAt, cut_tail, Option.map_some, SX.S_cat, SX.S_len, LIM, List.append_assoc, q_is, q_words, q_lp, q_rp, q_isp, q_sp, q_col, q_dot]
    exact hE.trans Ext.push
  | false =>
    simp only [wp_run, wp_bind, wp_ok, wp_bad, wpS_seq, Dn.wpS_set, wpS_ret, wpS_if, wpS_expr, wpS_skip, wpS_par, wpS_par3, wpS_asg, wpS_itemS, wpS_fldS, wpS_for, wpS_nx, wpS_rt, wpS_bk, wpS_ct, wpS_bad, wp_lc, wpS_never, thenK_nx, thenK_rt, thenK_bk, thenK_ct, outK_nx, outK_rt, turnK_nx, turnK_rt, turnK_bk, turnK_ct,
  wp_addI, wp_addS, wp_addT, wp_subI, wp_mulI, wp_mulS, wp_fdivI, wp_modI, wp_powI, ltD_int, leD_int, gtD_int, geD_int, eqV_int, eqV_str, wp_itemT, wp_itemR, wp_itemS, lenD_tup, lenD_rol, wp_lenS, intD_int, intD_bl, wp_intS, absD_int, minD_int, strD_str, wp_strI, wp_listS, truR_bl, sliceD_tup, sliceD_rol, wp_sliceS, wp_tup, wp_lst, wp_ifE, wp_andT, wp_orT, wp_notT, wp_appN, startsD_str,
  Dn.envOf, var, con, Dn.bin, app, consA, nilA, test, slice, noO, someO, List.map_cons, List.map_nil, List.cons_append, List.nil_append, List.replicate_succ, List.replicate_zero, List.length_cons, List.length_nil, List.getElem?_cons_zero, List.getElem?_cons_succ, List.set_cons_zero, List.set_cons_succ, List.append_nil,
  Nat.add_one_sub_one, Nat.reduceAdd, Nat.reduceSub, Nat.reduceLeDiff, Nat.sub_zero, Nat.zero_add, if_true, if_false, ite_true, ite_false, Bool.false_eq_true, reduceIte, Bool.not_true, Bool.not_false, Bool.not_eq_true', Nat.zero_le, true_and, and_true, decide_eq_true_eq, Nat.reduceEqDiff, Option.some.injEq, exists_eq_left', reduceCtorEq, atI_zero, atI_one, atI_two, List.set_cons_zero, List.set_cons_succ, wp_kdE, wp_kdAt, wp_fldE, wp_methE, wp_meth, wp_methRs, wp_star, wp_starT, wp_rng1, wp_rngAt, cut_tail, Option.map_some, SX.S_cat, SX.S_len, LIM, List.append_assoc, q_is, q_words, q_lp, q_rp, q_isp, q_sp, q_col, q_dot]
    refine ⟨by omega, ?_⟩
    rw [wp_joinT (l := ts) (x := .loc st.length) (st := s1 ++ [.lst []]) (hE.push_cell hc)]
    simp only [wp_run, wp_bind, wp_ok, wp_bad, wpS_seq, Dn.wpS_set, wpS_ret, wpS_if, wpS_expr, wpS_skip, wpS_par, wpS_par3, wpS_asg, wpS_itemS, wpS_fldS, wpS_for, wpS_nx, wpS_rt, wpS_bk, wpS_ct, wpS_bad, wp_lc, wpS_never, thenK_nx, thenK_rt, thenK_bk, thenK_ct, outK_nx, outK_rt, turnK_nx, turnK_rt, turnK_bk, turnK_ct,
  wp_addI, wp_addS, wp_addT, wp_subI, wp_mulI, wp_mulS, wp_fdivI, wp_modI, wp_powI, ltD_int, leD_int, gtD_int, geD_int, eqV_int, eqV_str, wp_itemT, wp_itemR, wp_itemS, lenD_tup, lenD_rol, wp_lenS, intD_int, intD_bl, wp_intS, absD_int, minD_int, strD_str, wp_strI, wp_listS, truR_bl, sliceD_tup, sliceD_rol, wp_sliceS, wp_tup, wp_lst, wp_ifE, wp_andT, wp_orT, wp_notT, wp_appN, startsD_str,
  Dn.envOf, var, con, Dn.bin, app, consA, nilA, test, slice, noO, someO, List.map_cons, List.map_nil, List.cons_append, List.nil_append, List.replicate_succ, List.replicate_zero, List.length_cons, List.length_nil, List.getElem?_cons_zero, List.getElem?_cons_succ, List.set_cons_zero, List.set_cons_succ, List.append_nil,
  Nat.add_one_sub_one, Nat.reduceAdd, Nat.reduceSub, Nat.reduceLeDiff, Nat.sub_zero, Nat.zero_add, if_true, if_false, ite_true, ite_false, Bool.false_eq_true, reduceIte, Bool.not_true, Bool.not_false, Bool.not_eq_true', Nat.zero_le, true_and, and_true, decide_eq_true_eq, Nat.reduceEqDiff, Option.some.injEq, exists_eq_left', reduceCtorEq, atI_zero, atI_one, atI_two, List.set_cons_zero, List.set_cons_succ, wp_kdE, wp_kdAt, wp_fldE, wp_methE, wp_meth, wp_methRs, wp_star, wp_starT, wp_rng1, wp_rngAt, cut_tail, Option.map_some, SX.S_cat, SX.S_len, LIM, List.append_assoc, List.length_append]
    refine ⟨by omega, by omega, by omega, hE.trans Ext.push⟩
/-- how deep words are -/
theorem wp_words_text : ∀ (w : Wd), w.ok → w.sz ≤ 100000 → ∀ (n : Nat) (st : Store), 2 * w.ht + 2 ≤ n → wp (F_words_text n [w.d] st) fun d st' => d = T w.t ∧ Ext st st'
  | .sim h its, hok, hs, n, st, hn => by
    obtain ⟨n, rfl⟩ : ∃ m, n = m + 2 := ⟨n - 2, by omega⟩
    rw [F_words_text_succ]
    obtain ⟨h1, h2⟩ := its_len hok
    obtain ⟨h3, h4⟩ := h9_len h
    have q := wp_wt (fi := F_item_text (n + 1)) (fw := F_words_text (n + 1)) (st := st) (h := h.t) (ss := h.srt.map fun s => T s.t) (xs := its.map It.d) (ts := its.map It.t) (h9_is h) (shapes h) (by simp [h2]) (by simp) (by simp; omega) (by omega) (by omega) (its_tok hok) fun i x y t st hx hy ht => ?_
    · rw [List.isEmpty_map] at q
      exact q
    · rw [List.getElem?_map] at hx hy ht
      obtain ⟨s, e1, rfl⟩ := Option.map_eq_some_iff.mp hx
      obtain ⟨it, e2, rfl⟩ := Option.map_eq_some_iff.mp hy
      obtain ⟨it', e3, rfl⟩ := Option.map_eq_some_iff.mp ht
      rw [e2] at e3
      cases e3
      have hok' := its_get hok e1 e2
      rw [F_item_text_succ]
      unfold b_item_text
      simp only [wp_run, wp_bind, wp_ok, wp_bad, wpS_seq, Dn.wpS_set, wpS_ret, wpS_if, wpS_expr, wpS_skip, wpS_par, wpS_par3, wpS_asg, wpS_itemS, wpS_fldS, wpS_for, wpS_nx, wpS_rt, wpS_bk, wpS_ct, wpS_bad, wp_lc, wpS_never, thenK_nx, thenK_rt, thenK_bk, thenK_ct, outK_nx, outK_rt, turnK_nx, turnK_rt, turnK_bk, turnK_ct,
  wp_addI, wp_addS, wp_addT, wp_subI, wp_mulI, wp_mulS, wp_fdivI, wp_modI, wp_powI, ltD_int, leD_int, gtD_int, geD_int, eqV_int, eqV_str, wp_itemT, wp_itemR, wp_itemS, lenD_tup, lenD_rol, wp_lenS, intD_int, intD_bl, wp_intS, absD_int, minD_int, strD_str, wp_strI, wp_listS, truR_bl, sliceD_tup, sliceD_rol, wp_sliceS, wp_tup, wp_lst, wp_ifE, wp_andT, wp_orT, wp_notT, wp_appN, startsD_str,
  Dn.envOf, var, con, Dn.bin, app, consA, nilA, test, slice, noO, someO, List.map_cons, List.map_nil, List.cons_append, List.nil_append, List.replicate_succ, List.replicate_zero, List.length_cons, List.length_nil, List.getElem?_cons_zero, List.getElem?_cons_succ, List.set_cons_zero, List.set_cons_succ, List.append_nil,
  Nat.add_one_sub_one, Nat.reduceAdd, Nat.reduceSub, Nat.reduceLeDiff, Nat.sub_zero, Nat.zero_add, if_true, if_false, ite_true, ite_false, Bool.false_eq_true, reduceIte, Bool.not_true, Bool.not_false, Bool.not_eq_true', Nat.zero_le, true_and, and_true, decide_eq_true_eq, Nat.reduceEqDiff, Option.some.injEq, exists_eq_left', reduceCtorEq, atI_zero, atI_one, atI_two, List.set_cons_zero, List.set_cons_succ, wp_kdE, wp_kdAt, wp_fldE, wp_methE, wp_meth, wp_methRs, wp_star, wp_starT, wp_rng1, wp_rngAt, cut_tail, Option.map_some, SX.S_cat, SX.S_len, LIM, List.append_assoc, q_is, q_words, q_lp, q_rp, q_isp, q_sp, q_col, q_dot, sr_words]
      exact it_str hok' ⟨rfl, Ext.refl⟩
  | .is m k, hok, hs, n, st, hn => by
    obtain ⟨n, rfl⟩ : ∃ m, n = m + 1 := ⟨n - 1, by omega⟩
    rw [F_words_text_succ]
    have h1 := names_len hok.2
    have h5 := join_len [46] k
    unfold Wd.sz at hs
    unfold b_words_text Wd.d
    simp only [wp_run, wp_bind, wp_ok, wp_bad, wpS_seq, Dn.wpS_set, wpS_ret, wpS_if, wpS_expr, wpS_skip, wpS_par, wpS_par3, wpS_asg, wpS_itemS, wpS_fldS, wpS_for, wpS_nx, wpS_rt, wpS_bk, wpS_ct, wpS_bad, wp_lc, wpS_never, thenK_nx, thenK_rt, thenK_bk, thenK_ct, outK_nx, outK_rt, turnK_nx, turnK_rt, turnK_bk, turnK_ct,
  wp_addI, wp_addS, wp_addT, wp_subI, wp_mulI, wp_mulS, wp_fdivI, wp_modI, wp_powI, ltD_int, leD_int, gtD_int, geD_int, eqV_int, eqV_str, wp_itemT, wp_itemR, wp_itemS, lenD_tup, lenD_rol, wp_lenS, intD_int, intD_bl, wp_intS, absD_int, minD_int, strD_str, wp_strI, wp_listS, truR_bl, sliceD_tup, sliceD_rol, wp_sliceS, wp_tup, wp_lst, wp_ifE, wp_andT, wp_orT, wp_notT, wp_appN, startsD_str,
  Dn.envOf, var, con, Dn.bin, app, consA, nilA, test, slice, noO, someO, List.map_cons, List.map_nil, List.cons_append, List.nil_append, List.replicate_succ, List.replicate_zero, List.length_cons, List.length_nil, List.getElem?_cons_zero, List.getElem?_cons_succ, List.set_cons_zero, List.set_cons_succ, List.append_nil,
  Nat.add_one_sub_one, Nat.reduceAdd, Nat.reduceSub, Nat.reduceLeDiff, Nat.sub_zero, Nat.zero_add, if_true, if_false, ite_true, ite_false, Bool.false_eq_true, reduceIte, Bool.not_true, Bool.not_false, Bool.not_eq_true', Nat.zero_le, true_and, and_true, decide_eq_true_eq, Nat.reduceEqDiff, Option.some.injEq, exists_eq_left', reduceCtorEq, atI_zero, atI_one, atI_two, List.set_cons_zero, List.set_cons_succ, wp_kdE, wp_kdAt, wp_fldE, wp_methE, wp_meth, wp_methRs, wp_star, wp_starT, wp_rng1, wp_rngAt, cut_tail, Option.map_some, SX.S_cat, SX.S_len, LIM, List.append_assoc, q_is, q_words, q_lp, q_rp, q_isp, q_sp, q_col, q_dot, beq_self_eq_true]
    refine wp_plain (by omega) hok.1.2.1 ?_
    have h2 := hok.1.2.1
    simp only [List.length_cons, List.length_nil] at h5
    simp only [wp_run, wp_bind, wp_ok, wp_bad, wpS_seq, Dn.wpS_set, wpS_ret, wpS_if, wpS_expr, wpS_skip, wpS_par, wpS_par3, wpS_asg, wpS_itemS, wpS_fldS, wpS_for, wpS_nx, wpS_rt, wpS_bk, wpS_ct, wpS_bad, wp_lc, wpS_never, thenK_nx, thenK_rt, thenK_bk, thenK_ct, outK_nx, outK_rt, turnK_nx, turnK_rt, turnK_bk, turnK_ct,
  wp_addI, wp_addS, wp_addT, wp_subI, wp_mulI, wp_mulS, wp_fdivI, wp_modI, wp_powI, ltD_int, leD_int, gtD_int, geD_int, eqV_int, eqV_str, wp_itemT, wp_itemR, wp_itemS, lenD_tup, lenD_rol, wp_lenS, intD_int, intD_bl, wp_intS, absD_int, minD_int, strD_str, wp_strI, wp_listS, truR_bl, sliceD_tup, sliceD_rol, wp_sliceS, wp_tup, wp_lst, wp_ifE, wp_andT, wp_orT, wp_notT, wp_appN, startsD_str,
  Dn.envOf, var, con, Dn.bin, app, consA, nilA, test, slice, noO, someO, List.map_cons, List.map_nil, List.cons_append, List.nil_append, List.replicate_succ, List.replicate_zero, List.length_cons, List.length_nil, List.getElem?_cons_zero, List.getElem?_cons_succ, List.set_cons_zero, List.set_cons_succ, List.append_nil,
  Nat.add_one_sub_one, Nat.reduceAdd, Nat.reduceSub, Nat.reduceLeDiff, Nat.sub_zero, Nat.zero_add, if_true, if_false, ite_true, ite_false, Bool.false_eq_true, reduceIte, Bool.not_true, Bool.not_false, Bool.not_eq_true', Nat.zero_le, true_and, and_true, decide_eq_true_eq, Nat.reduceEqDiff, Option.some.injEq, exists_eq_left', reduceCtorEq, atI_zero, atI_one, atI_two, List.set_cons_zero, List.set_cons_succ, wp_kdE, wp_kdAt, wp_fldE, wp_methE, wp_meth, wp_methRs, wp_star, wp_starT, wp_rng1, wp_rngAt, cut_tail, Option.map_some, SX.S_cat, SX.S_len, LIM, List.append_assoc, List.length_append]
    exact ⟨by omega, by omega, rfl, Ext.refl⟩
  | .un w, hok, hs, n, st, hn => by
    unfold Wd.ht at hn
    unfold Wd.sz at hs
    obtain ⟨n, rfl⟩ : ∃ m, n = m + 2 := ⟨n - 2, by omega⟩
    rw [F_words_text_succ]
    have hl := Wd.len (w := w) hok
    refine wp_wt (fi := F_item_text (n + 1)) (fw := F_words_text (n + 1)) (st := st) (h := l_not) (ss := [T l_words]) (xs := [w.d]) (ts := [w.t]) rfl shapes_not rfl rfl (by simp) (by simp; omega) (by decide) (fun x hx => by rw [List.mem_singleton.mp hx]; exact Wd.tok hok) fun i x y t st hx hy ht => ?_
    obtain rfl : i = 0 := by
      have := (List.getElem?_eq_some_iff.mp hx).1
      simpa using this
    cases hx
    cases hy
    cases ht
    rw [F_item_text_succ]
    unfold b_item_text
    simp only [wp_run, wp_bind, wp_ok, wp_bad, wpS_seq, Dn.wpS_set, wpS_ret, wpS_if, wpS_expr, wpS_skip, wpS_par, wpS_par3, wpS_asg, wpS_itemS, wpS_fldS, wpS_for, wpS_nx, wpS_rt, wpS_bk, wpS_ct, wpS_bad, wp_lc, wpS_never, thenK_nx, thenK_rt, thenK_bk, thenK_ct, outK_nx, outK_rt, turnK_nx, turnK_rt, turnK_bk, turnK_ct,
  wp_addI, wp_addS, wp_addT, wp_subI, wp_mulI, wp_mulS, wp_fdivI, wp_modI, wp_powI, ltD_int, leD_int, gtD_int, geD_int, eqV_int, eqV_str, wp_itemT, wp_itemR, wp_itemS, lenD_tup, lenD_rol, wp_lenS, intD_int, intD_bl, wp_intS, absD_int, minD_int, strD_str, wp_strI, wp_listS, truR_bl, sliceD_tup, sliceD_rol, wp_sliceS, wp_tup, wp_lst, wp_ifE, wp_andT, wp_orT, wp_notT, wp_appN, startsD_str,
  Dn.envOf, var, con, Dn.bin, app, consA, nilA, test, slice, noO, someO, List.map_cons, List.map_nil, List.cons_append, List.nil_append, List.replicate_succ, List.replicate_zero, List.length_cons, List.length_nil, List.getElem?_cons_zero, List.getElem?_cons_succ, List.set_cons_zero, List.set_cons_succ, List.append_nil,
  Nat.add_one_sub_one, Nat.reduceAdd, Nat.reduceSub, Nat.reduceLeDiff, Nat.sub_zero, Nat.zero_add, if_true, if_false, ite_true, ite_false, Bool.false_eq_true, reduceIte, Bool.not_true, Bool.not_false, Bool.not_eq_true', Nat.zero_le, true_and, and_true, decide_eq_true_eq, Nat.reduceEqDiff, Option.some.injEq, exists_eq_left', reduceCtorEq, atI_zero, atI_one, atI_two, List.set_cons_zero, List.set_cons_succ, wp_kdE, wp_kdAt, wp_fldE, wp_methE, wp_meth, wp_methRs, wp_star, wp_starT, wp_rng1, wp_rngAt, cut_tail, Option.map_some, SX.S_cat, SX.S_len, LIM, List.append_assoc, q_is, q_words, q_lp, q_rp, q_isp, q_sp, q_col, q_dot, beq_self_eq_true]
    exact wp_words_text w hok (by omega) n st (by omega)
  | .bi o a b, hok, hs, n, st, hn => by
    unfold Wd.ht at hn
    unfold Wd.sz at hs
    obtain ⟨n, rfl⟩ : ∃ m, n = m + 2 := ⟨n - 2, by omega⟩
    rw [F_words_text_succ]
    have hl := Wd.len (w := a) hok.1
    have hl2 := Wd.len (w := b) hok.2
    have q := wp_wt (fi := F_item_text (n + 1)) (fw := F_words_text (n + 1)) (st := st) (h := if o then l_and else l_or) (ss := [T l_words, T l_words]) (xs := [a.d, b.d]) (ts := [a.t, b.t]) (by cases o <;> rfl) (shapes_bi o) rfl rfl (by simp) (by simp; omega) (by cases o <;> decide) (fun x hx => ?_) fun i x y t st hx hy ht => ?_
    · refine wp_mono q fun d s hd => ⟨hd.1.trans ?_, hd.2⟩
      simp [Wd.t, TL.joinL]
    · rcases List.mem_cons.mp hx with e | e
      · rw [e]
        exact Wd.tok hok.1
      · rw [List.mem_singleton.mp e]
        exact Wd.tok hok.2
    · rw [F_item_text_succ]
      unfold b_item_text
      have hi : i < 2 := (List.getElem?_eq_some_iff.mp hx).1
      rcases (show i = 0 ∨ i = 1 by omega) with rfl | rfl
      · cases hx
        cases hy
        cases ht
        simp only [wp_run, wp_bind, wp_ok, wp_bad, wpS_seq, Dn.wpS_set, wpS_ret, wpS_if, wpS_expr, wpS_skip, wpS_par, wpS_par3, wpS_asg, wpS_itemS, wpS_fldS, wpS_for, wpS_nx, wpS_rt, wpS_bk, wpS_ct, wpS_bad, wp_lc, wpS_never, thenK_nx, thenK_rt, thenK_bk, thenK_ct, outK_nx, outK_rt, turnK_nx, turnK_rt, turnK_bk, turnK_ct,
  wp_addI, wp_addS, wp_addT, wp_subI, wp_mulI, wp_mulS, wp_fdivI, wp_modI, wp_powI, ltD_int, leD_int, gtD_int, geD_int, eqV_int, eqV_str, wp_itemT, wp_itemR, wp_itemS, lenD_tup, lenD_rol, wp_lenS, intD_int, intD_bl, wp_intS, absD_int, minD_int, strD_str, wp_strI, wp_listS, truR_bl, sliceD_tup, sliceD_rol, wp_sliceS, wp_tup, wp_lst, wp_ifE, wp_andT, wp_orT, wp_notT, wp_appN, startsD_str,
  Dn.envOf, var, con, Dn.bin, app, consA, nilA, test, slice, noO, someO, List.map_cons, List.map_nil, List.cons_append, List.nil_append, List.replicate_succ, List.replicate_zero, List.length_cons, List.length_nil, List.getElem?_cons_zero, List.getElem?_cons_succ, List.set_cons_zero, List.set_cons_succ, List.append_nil,
  Nat.add_one_sub_one, Nat.reduceAdd, Nat.reduceSub, Nat.reduceLeDiff, Nat.sub_zero, Nat.zero_add, if_true, if_false, ite_true, ite_false, Bool.false_eq_true, reduceIte, Bool.not_true, Bool.not_false, Bool.not_eq_true', Nat.zero_le, true_and, and_true, decide_eq_true_eq, Nat.reduceEqDiff, Option.some.injEq, exists_eq_left', reduceCtorEq, atI_zero, atI_one, atI_two, List.set_cons_zero, List.set_cons_succ, wp_kdE, wp_kdAt, wp_fldE, wp_methE, wp_meth, wp_methRs, wp_star, wp_starT, wp_rng1, wp_rngAt, cut_tail, Option.map_some, SX.S_cat, SX.S_len, LIM, List.append_assoc, q_is, q_words, q_lp, q_rp, q_isp, q_sp, q_col, q_dot, beq_self_eq_true]
        exact wp_words_text a hok.1 (by omega) n st (by omega)
      · cases hx
        cases hy
        cases ht
        simp only [wp_run, wp_bind, wp_ok, wp_bad, wpS_seq, Dn.wpS_set, wpS_ret, wpS_if, wpS_expr, wpS_skip, wpS_par, wpS_par3, wpS_asg, wpS_itemS, wpS_fldS, wpS_for, wpS_nx, wpS_rt, wpS_bk, wpS_ct, wpS_bad, wp_lc, wpS_never, thenK_nx, thenK_rt, thenK_bk, thenK_ct, outK_nx, outK_rt, turnK_nx, turnK_rt, turnK_bk, turnK_ct,
  wp_addI, wp_addS, wp_addT, wp_subI, wp_mulI, wp_mulS, wp_fdivI, wp_modI, wp_powI, ltD_int, leD_int, gtD_int, geD_int, eqV_int, eqV_str, wp_itemT, wp_itemR, wp_itemS, lenD_tup, lenD_rol, wp_lenS, intD_int, intD_bl, wp_intS, absD_int, minD_int, strD_str, wp_strI, wp_listS, truR_bl, sliceD_tup, sliceD_rol, wp_sliceS, wp_tup, wp_lst, wp_ifE, wp_andT, wp_orT, wp_notT, wp_appN, startsD_str,
  Dn.envOf, var, con, Dn.bin, app, consA, nilA, test, slice, noO, someO, List.map_cons, List.map_nil, List.cons_append, List.nil_append, List.replicate_succ, List.replicate_zero, List.length_cons, List.length_nil, List.getElem?_cons_zero, List.getElem?_cons_succ, List.set_cons_zero, List.set_cons_succ, List.append_nil,
  Nat.add_one_sub_one, Nat.reduceAdd, Nat.reduceSub, Nat.reduceLeDiff, Nat.sub_zero, Nat.zero_add, if_true, if_false, ite_true, ite_false, Bool.false_eq_true, reduceIte, Bool.not_true, Bool.not_false, Bool.not_eq_true', Nat.zero_le, true_and, and_true, decide_eq_true_eq, Nat.reduceEqDiff, Option.some.injEq, exists_eq_left', reduceCtorEq, atI_zero, atI_one, atI_two, List.set_cons_zero, List.set_cons_succ, wp_kdE, wp_kdAt, wp_fldE, wp_methE, wp_meth, wp_methRs, wp_star, wp_starT, wp_rng1, wp_rngAt, cut_tail, Option.map_some, SX.S_cat, SX.S_len, LIM, List.append_assoc, q_is, q_words, q_lp, q_rp, q_isp, q_sp, q_col, q_dot, beq_self_eq_true]
        exact wp_words_text b hok.2 (by omega) n st (by omega)
end T91


set_option Elab.async false
set_option linter.all false
set_option maxRecDepth 100000
set_option maxHeartbeats 4000000
set_option autoImplicit false
namespace T91
open PySem Dn
/-! ### the law's own text of words -/
theorem mul1 {l : List Nat} : Txt.mul (SX.S l) 1 = SX.S l := by
  unfold Txt.mul
  rw [if_neg (by decide), if_pos (by simp)]
theorem mul0 {l : List Nat} : Txt.mul (SX.S l) 0 = SX.S [] := by
  unfold Txt.mul
  rw [if_pos (by decide)]
  rfl
theorem isi_str {l : List Nat} {st : Store} : isiD [T l, .ty "tuple"] st = .ok (.bl false) st := by
  have e : L2.kitB "str" "tuple" = some false := by decide +kernel
  show (match L2.kitB "str" "tuple" with
    | some b => Res.ok (D.bl b) st
    | none => .bad) = _
  rw [e]
theorem isi_int {i : Int} {st : Store} : isiD [.int i, .ty "tuple"] st = .ok (.bl false) st := by
  have e : L2.kitB "int" "tuple" = some false := by decide +kernel
  show (match L2.kitB "int" "tuple" with
    | some b => Res.ok (D.bl b) st
    | none => .bad) = _
  rw [e]
theorem isi_tup {ds : List D} {st : Store} : isiD [.tup ds, .ty "tuple"] st = .ok (.bl true) st := by
  have e : L2.kitB "tuple" "tuple" = some true := by decide +kernel
  show (match L2.kitB "tuple" "tuple" with
    | some b => Res.ok (D.bl b) st
    | none => .bad) = _
  rw [e]
theorem isi_it {s : Sr} {i : It} {st : Store} (h : ItOk s i) : isiD [i.d, .ty "tuple"] st = .ok (.bl false) st := by
  cases i with
  | nm l => exact isi_str
  | sg c => exact isi_str
  | no n => exact isi_int
theorem isi_wd (w : Wd) {st : Store} : isiD [w.d, .ty "tuple"] st = .ok (.bl true) st := by cases w <;> exact isi_tup
theorem wp_lst_text {st : Store} {m : List Nat} {k : List (List Nat)} {Q : D → Store → Prop} (hl : (k.map List.length).sum + k.length ≤ 1000000) (hm : m.length ≤ 8) (h : Q (T (m ++ (58 :: TL.joinL [46] k))) st) : wp (F_law_state_text [.tup [T m, .tup (k.map T)]] st) Q := by
  have h5 := join_len [46] k
  simp only [List.length_cons, List.length_nil] at h5
  unfold F_law_state_text b_law_state_text
  simp only [wp_run, wp_bind, wp_ok, wp_bad, wpS_seq, Dn.wpS_set, wpS_ret, wpS_if, wpS_expr, wpS_skip, wpS_par, wpS_par3, wpS_asg, wpS_itemS, wpS_fldS, wpS_for, wpS_nx, wpS_rt, wpS_bk, wpS_ct, wpS_bad, wp_lc, wpS_never, thenK_nx, thenK_rt, thenK_bk, thenK_ct, outK_nx, outK_rt, turnK_nx, turnK_rt, turnK_bk, turnK_ct,
  wp_addI, wp_addS, wp_addT, wp_subI, wp_mulI, wp_mulS, wp_fdivI, wp_modI, wp_powI, ltD_int, leD_int, gtD_int, geD_int, eqV_int, eqV_str, wp_itemT, wp_itemR, wp_itemS, lenD_tup, lenD_rol, wp_lenS, intD_int, intD_bl, wp_intS, absD_int, minD_int, strD_str, wp_strI, wp_listS, truR_bl, sliceD_tup, sliceD_rol, wp_sliceS, wp_tup, wp_lst, wp_ifE, wp_andT, wp_orT, wp_notT, wp_appN, startsD_str,
  Dn.envOf, var, con, Dn.bin, app, consA, nilA, test, slice, noO, someO, List.map_cons, List.map_nil, List.cons_append, List.nil_append, List.replicate_succ, List.replicate_zero, List.length_cons, List.length_nil, List.getElem?_cons_zero, List.getElem?_cons_succ, List.set_cons_zero, List.set_cons_succ, List.append_nil,
  Nat.add_one_sub_one, Nat.reduceAdd, Nat.reduceSub, Nat.reduceLeDiff, Nat.sub_zero, Nat.zero_add, if_true, if_false, ite_true, ite_false, Bool.false_eq_true, reduceIte, Bool.not_true, Bool.not_false, Bool.not_eq_true', Nat.zero_le, true_and, and_true, decide_eq_true_eq, Nat.reduceEqDiff, Option.some.injEq, exists_eq_left', reduceCtorEq, atI_zero, atI_one, atI_two, List.set_cons_zero, List.set_cons_succ, wp_kdE, wp_kdAt, wp_fldE, wp_methE, wp_meth, wp_methRs, wp_star, wp_starT, wp_rng1, wp_rngAt, cut_tail, Option.map_some, SX.S_cat, SX.S_len, LIM, List.append_assoc, q_is, q_words, q_lp, q_rp, q_isp, q_sp, q_col, q_dot]
  refine ⟨by omega, ?_⟩
  rw [wp_joinT (x := .tup (k.map T)) rfl]
  simp only [wp_run, wp_bind, wp_ok, wp_bad, wpS_seq, Dn.wpS_set, wpS_ret, wpS_if, wpS_expr, wpS_skip, wpS_par, wpS_par3, wpS_asg, wpS_itemS, wpS_fldS, wpS_for, wpS_nx, wpS_rt, wpS_bk, wpS_ct, wpS_bad, wp_lc, wpS_never, thenK_nx, thenK_rt, thenK_bk, thenK_ct, outK_nx, outK_rt, turnK_nx, turnK_rt, turnK_bk, turnK_ct,
  wp_addI, wp_addS, wp_addT, wp_subI, wp_mulI, wp_mulS, wp_fdivI, wp_modI, wp_powI, ltD_int, leD_int, gtD_int, geD_int, eqV_int, eqV_str, wp_itemT, wp_itemR, wp_itemS, lenD_tup, lenD_rol, wp_lenS, intD_int, intD_bl, wp_intS, absD_int, minD_int, strD_str, wp_strI, wp_listS, truR_bl, sliceD_tup, sliceD_rol, wp_sliceS, wp_tup, wp_lst, wp_ifE, wp_andT, wp_orT, wp_notT, wp_appN, startsD_str,
  Dn.envOf, var, con, Dn.bin, app, consA, nilA, test, slice, noO, someO, List.map_cons, List.map_nil, List.cons_append, List.nil_append, List.replicate_succ, List.replicate_zero, List.length_cons, List.length_nil, List.getElem?_cons_zero, List.getElem?_cons_succ, List.set_cons_zero, List.set_cons_succ, List.append_nil,
  Nat.add_one_sub_one, Nat.reduceAdd, Nat.reduceSub, Nat.reduceLeDiff, Nat.sub_zero, Nat.zero_add, if_true, if_false, ite_true, ite_false, Bool.false_eq_true, reduceIte, Bool.not_true, Bool.not_false, Bool.not_eq_true', Nat.zero_le, true_and, and_true, decide_eq_true_eq, Nat.reduceEqDiff, Option.some.injEq, exists_eq_left', reduceCtorEq, atI_zero, atI_one, atI_two, List.set_cons_zero, List.set_cons_succ, wp_kdE, wp_kdAt, wp_fldE, wp_methE, wp_meth, wp_methRs, wp_star, wp_starT, wp_rng1, wp_rngAt, cut_tail, Option.map_some, SX.S_cat, SX.S_len, LIM, List.append_assoc, List.length_append]
  exact ⟨by omega, by omega, h⟩
theorem wp_lwt {f : List D → Store → Res D} {st : Store} {h : List Nat} {xs : List D} {ts : List (List Nat)} (hh : (SX.S h == SX.S l_is) = false) (hlen2 : xs.length = ts.length) (hmax : ts.length < 1000)
    (hsum : (ts.map List.length).sum ≤ 1000000) (hhl : h.length ≤ 10) (htk : ∀ x ∈ ts, Tok' x)
    (hi : ∀ (i : Nat) x t st, xs[i]? = some x → ts[i]? = some t → ((isiD [x, .ty "tuple"] st = .ok (.bl true) st ∧ wp (f [x] st) fun d st' => d = T t ∧ Ext st st') ∨ (isiD [x, .ty "tuple"] st = .ok (.bl false) st ∧ wp (strD [x] st) fun d st' => d = T t ∧ Ext st st'))) :
    wp (run 3 (b_law_words_text f) [.tup (T h :: xs)] st) fun d st' => d = T (if ts.isEmpty then h else h ++ (40 :: (TL.joinL [32] ts ++ [41]))) ∧ Ext st st' := by
  have hj := join_len [32] ts
  simp only [List.length_cons, List.length_nil] at hj
  unfold b_law_words_text
  simp only [wp_run, wp_bind, wp_ok, wp_bad, wpS_seq, Dn.wpS_set, wpS_ret, wpS_if, wpS_expr, wpS_skip, wpS_par, wpS_par3, wpS_asg, wpS_itemS, wpS_fldS, wpS_for, wpS_nx, wpS_rt, wpS_bk, wpS_ct, wpS_bad, wp_lc, wpS_never, thenK_nx, thenK_rt, thenK_bk, thenK_ct, outK_nx, outK_rt, turnK_nx, turnK_rt, turnK_bk, turnK_ct,
  wp_addI, wp_addS, wp_addT, wp_subI, wp_mulI, wp_mulS, wp_fdivI, wp_modI, wp_powI, ltD_int, leD_int, gtD_int, geD_int, eqV_int, eqV_str, wp_itemT, wp_itemR, wp_itemS, lenD_tup, lenD_rol, wp_lenS, intD_int, intD_bl, wp_intS, absD_int, minD_int, strD_str, wp_strI, wp_listS, truR_bl, sliceD_tup, sliceD_rol, wp_sliceS, wp_tup, wp_lst, wp_ifE, wp_andT, wp_orT, wp_notT, wp_appN, startsD_str,
  Dn.envOf, var, con, Dn.bin, app, consA, nilA, test, slice, noO, someO, List.map_cons, List.map_nil, List.cons_append, List.nil_append, List.replicate_succ, List.replicate_zero, List.length_cons, List.length_nil, List.getElem?_cons_zero, List.getElem?_cons_succ, List.set_cons_zero, List.set_cons_succ, List.append_nil,
  Nat.add_one_sub_one, Nat.reduceAdd, Nat.reduceSub, Nat.reduceLeDiff, Nat.sub_zero, Nat.zero_add, if_true, if_false, ite_true, ite_false, Bool.false_eq_true, reduceIte, Bool.not_true, Bool.not_false, Bool.not_eq_true', Nat.zero_le, true_and, and_true, decide_eq_true_eq, Nat.reduceEqDiff, Option.some.injEq, exists_eq_left', reduceCtorEq, atI_zero, atI_one, atI_two, List.set_cons_zero, List.set_cons_succ, wp_kdE, wp_kdAt, wp_fldE, wp_methE, wp_meth, wp_methRs, wp_star, wp_starT, wp_rng1, wp_rngAt, cut_tail, Option.map_some, SX.S_cat, SX.S_len, LIM, List.append_assoc, q_is, q_words, q_lp, q_rp, q_isp, q_sp, q_col, q_dot, hh, seqW]
  refine wpS_forN (fun l r s => ∃ i : Nat, i ≤ ts.length ∧ l = xs.drop i ∧ (∃ o, r = [some (.tup (T h :: xs)), some (.loc st.length), o]) ∧ cellL s st.length = some ((ts.take i).map T) ∧ Ext st s) (fun _ _ _ _ => oks_nil) ?_ ?_ _ _ _ ⟨0, Nat.zero_le _, by simp, ⟨none, rfl⟩, by simpa using cellL_of get_last, Ext.push⟩
  · rintro r s ⟨i, hi1, h1, ⟨o, rfl⟩, h2, hE⟩
    have hl : i = ts.length := by
      have := congrArg List.length h1
      simp at this
      omega
    subst hl
    rw [List.take_length] at h2
    simp only [wp_run, wp_bind, wp_ok, wp_bad, wpS_seq, Dn.wpS_set, wpS_ret, wpS_if, wpS_expr, wpS_skip, wpS_par, wpS_par3, wpS_asg, wpS_itemS, wpS_fldS, wpS_for, wpS_nx, wpS_rt, wpS_bk, wpS_ct, wpS_bad, wp_lc, wpS_never, thenK_nx, thenK_rt, thenK_bk, thenK_ct, outK_nx, outK_rt, turnK_nx, turnK_rt, turnK_bk, turnK_ct,
  wp_addI, wp_addS, wp_addT, wp_subI, wp_mulI, wp_mulS, wp_fdivI, wp_modI, wp_powI, ltD_int, leD_int, gtD_int, geD_int, eqV_int, eqV_str, wp_itemT, wp_itemR, wp_itemS, lenD_tup, lenD_rol, wp_lenS, intD_int, intD_bl, wp_intS, absD_int, minD_int, strD_str, wp_strI, wp_listS, truR_bl, sliceD_tup, sliceD_rol, wp_sliceS, wp_tup, wp_lst, wp_ifE, wp_andT, wp_orT, wp_notT, wp_appN, startsD_str,
  Dn.envOf, var, con, Dn.bin, app, consA, nilA, test, slice, noO, someO, List.map_cons, List.map_nil, List.cons_append, List.nil_append, List.replicate_succ, List.replicate_zero, List.length_cons, List.length_nil, List.getElem?_cons_zero, List.getElem?_cons_succ, List.set_cons_zero, List.set_cons_succ, List.append_nil,
  Nat.add_one_sub_one, Nat.reduceAdd, Nat.reduceSub, Nat.reduceLeDiff, Nat.sub_zero, Nat.zero_add, if_true, if_false, ite_true, ite_false, Bool.false_eq_true, reduceIte, Bool.not_true, Bool.not_false, Bool.not_eq_true', Nat.zero_le, true_and, and_true, decide_eq_true_eq, Nat.reduceEqDiff, Option.some.injEq, exists_eq_left', reduceCtorEq, atI_zero, atI_one, atI_two, List.set_cons_zero, List.set_cons_succ, wp_kdE, wp_kdAt, wp_fldE, wp_methE, wp_meth, wp_methRs, wp_star, wp_starT, wp_rng1, wp_rngAt, cut_tail, Option.map_some, SX.S_cat, SX.S_len, LIM, List.append_assoc, q_is, q_words, q_lp, q_rp, q_isp, q_sp, q_col, q_dot]
    rw [wp_joinT (l := ts) (x := .loc st.length) (st := s) h2]
    simp only [wp_run, wp_bind, wp_ok, wp_bad, wpS_seq, Dn.wpS_set, wpS_ret, wpS_if, wpS_expr, wpS_skip, wpS_par, wpS_par3, wpS_asg, wpS_itemS, wpS_fldS, wpS_for, wpS_nx, wpS_rt, wpS_bk, wpS_ct, wpS_bad, wp_lc, wpS_never, thenK_nx, thenK_rt, thenK_bk, thenK_ct, outK_nx, outK_rt, turnK_nx, turnK_rt, turnK_bk, turnK_ct,
  wp_addI, wp_addS, wp_addT, wp_subI, wp_mulI, wp_mulS, wp_fdivI, wp_modI, wp_powI, ltD_int, leD_int, gtD_int, geD_int, eqV_int, eqV_str, wp_itemT, wp_itemR, wp_itemS, lenD_tup, lenD_rol, wp_lenS, intD_int, intD_bl, wp_intS, absD_int, minD_int, strD_str, wp_strI, wp_listS, truR_bl, sliceD_tup, sliceD_rol, wp_sliceS, wp_tup, wp_lst, wp_ifE, wp_andT, wp_orT, wp_notT, wp_appN, startsD_str,
  Dn.envOf, var, con, Dn.bin, app, consA, nilA, test, slice, noO, someO, List.map_cons, List.map_nil, List.cons_append, List.nil_append, List.replicate_succ, List.replicate_zero, List.length_cons, List.length_nil, List.getElem?_cons_zero, List.getElem?_cons_succ, List.set_cons_zero, List.set_cons_succ, List.append_nil,
  Nat.add_one_sub_one, Nat.reduceAdd, Nat.reduceSub, Nat.reduceLeDiff, Nat.sub_zero, Nat.zero_add, if_true, if_false, ite_true, ite_false, Bool.false_eq_true, reduceIte, Bool.not_true, Bool.not_false, Bool.not_eq_true', Nat.zero_le, true_and, and_true, decide_eq_true_eq, Nat.reduceEqDiff, Option.some.injEq, exists_eq_left', reduceCtorEq, atI_zero, atI_one, atI_two, List.set_cons_zero, List.set_cons_succ, wp_kdE, wp_kdAt, wp_fldE, wp_methE, wp_meth, wp_methRs, wp_star, wp_starT, wp_rng1, wp_rngAt, cut_tail, Option.map_some, SX.S_cat, SX.S_len, LIM, List.append_assoc, List.length_append, List.length_cons]
    refine ⟨by omega, by omega, ?_⟩
    rw [eq_T0 (l := ts) (hE.push_cell h2) (cellL_of get_last) htk]
    cases he : ts.isEmpty with
    | true =>
      simp only [wp_run, wp_bind, wp_ok, wp_bad, wpS_seq, Dn.wpS_set, wpS_ret, wpS_if, wpS_expr, wpS_skip, wpS_par, wpS_par3, wpS_asg, wpS_itemS, wpS_fldS, wpS_for, wpS_nx, wpS_rt, wpS_bk, wpS_ct, wpS_bad, wp_lc, wpS_never, thenK_nx, thenK_rt, thenK_bk, thenK_ct, outK_nx, outK_rt, turnK_nx, turnK_rt, turnK_bk, turnK_ct,
  wp_addI, wp_addS, wp_addT, wp_subI, wp_mulI, wp_mulS, wp_fdivI, wp_modI, wp_powI, ltD_int, leD_int, gtD_int, geD_int, eqV_int, eqV_str, wp_itemT, wp_itemR, wp_itemS, lenD_tup, lenD_rol, wp_lenS, intD_int, intD_bl, wp_intS, absD_int, minD_int, strD_str, wp_strI, wp_listS, truR_bl, sliceD_tup, sliceD_rol, wp_sliceS, wp_tup, wp_lst, wp_ifE, wp_andT, wp_orT, wp_notT, wp_appN, startsD_str,
  Dn.envOf, var, con, Dn.bin, app, consA, nilA, test, slice, noO, someO, List.map_cons, List.map_nil, List.cons_append, List.nil_append, List.replicate_succ, List.replicate_zero, List.length_cons, List.length_nil, List.getElem?_cons_zero, List.getElem?_cons_succ, List.set_cons_zero, List.set_cons_succ, List.append_nil,
  Nat.add_one_sub_one, Nat.reduceAdd, Nat.reduceSub, Nat.reduceLeDiff, Nat.sub_zero, Nat.zero_add, if_true, if_false, ite_true, ite_false, Bool.false_eq_true, reduceIte, Bool.not_true, Bool.not_false, Bool.not_eq_true', Nat.zero_le, true_and, and_true, decide_eq_true_eq, Nat.reduceEqDiff, Option.some.injEq, exists_eq_left', reduceCtorEq, atI_zero, atI_one, atI_two, List.set_cons_zero, List.set_cons_succ, wp_kdE, wp_kdAt, wp_fldE, wp_methE, wp_meth, wp_methRs, wp_star, wp_starT, wp_rng1, wp_rngAt, cut_tail, Option.map_some, SX.S_cat, SX.S_len, LIM, List.append_assoc, q_is, q_words, q_lp, q_rp, q_isp, q_sp, q_col, q_dot, mul0]
      refine ⟨by omega, .inr ⟨by simp only [List.length_append, List.length_cons, List.length_nil]; omega, by decide, by decide⟩, by omega, hE.trans Ext.push⟩
    | false =>
      simp only [wp_run, wp_bind, wp_ok, wp_bad, wpS_seq, Dn.wpS_set, wpS_ret, wpS_if, wpS_expr, wpS_skip, wpS_par, wpS_par3, wpS_asg, wpS_itemS, wpS_fldS, wpS_for, wpS_nx, wpS_rt, wpS_bk, wpS_ct, wpS_bad, wp_lc, wpS_never, thenK_nx, thenK_rt, thenK_bk, thenK_ct, outK_nx, outK_rt, turnK_nx, turnK_rt, turnK_bk, turnK_ct,
  wp_addI, wp_addS, wp_addT, wp_subI, wp_mulI, wp_mulS, wp_fdivI, wp_modI, wp_powI, ltD_int, leD_int, gtD_int, geD_int, eqV_int, eqV_str, wp_itemT, wp_itemR, wp_itemS, lenD_tup, lenD_rol, wp_lenS, intD_int, intD_bl, wp_intS, absD_int, minD_int, strD_str, wp_strI, wp_listS, truR_bl, sliceD_tup, sliceD_rol, wp_sliceS, wp_tup, wp_lst, wp_ifE, wp_andT, wp_orT, wp_notT, wp_appN, startsD_str,
  Dn.envOf, var, con, Dn.bin, app, consA, nilA, test, slice, noO, someO, List.map_cons, List.map_nil, List.cons_append, List.nil_append, List.replicate_succ, List.replicate_zero, List.length_cons, List.length_nil, List.getElem?_cons_zero, List.getElem?_cons_succ, List.set_cons_zero, List.set_cons_succ, List.append_nil,
  Nat.add_one_sub_one, Nat.reduceAdd, Nat.reduceSub, Nat.reduceLeDiff, Nat.sub_zero, Nat.zero_add, if_true, if_false, ite_true, ite_false, Bool.false_eq_true, reduceIte, Bool.not_true, Bool.not_false, Bool.not_eq_true', Nat.zero_le, true_and, and_true, decide_eq_true_eq, Nat.reduceEqDiff, Option.some.injEq, exists_eq_left', reduceCtorEq, atI_zero, atI_one, atI_two, List.set_cons_zero, List.set_cons_succ, wp_kdE, wp_kdAt, wp_fldE, wp_methE, wp_meth, wp_methRs, wp_star, wp_starT, wp_rng1, wp_rngAt, cut_tail, Option.map_some, SX.S_cat, SX.S_len, LIM, List.append_assoc, q_is, q_words, q_lp, q_rp, q_isp, q_sp, q_col, q_dot, mul1]
      refine ⟨by omega, .inr ⟨by simp only [List.length_append, List.length_cons, List.length_nil]; omega, by decide, by decide⟩, by simp only [List.length_append, List.length_cons, List.length_nil]; omega, hE.trans Ext.push⟩
  · rintro d l r s ⟨i, hi1, h1, ⟨o, rfl⟩, h2, hE⟩
    have hl : i < ts.length := by
      by_cases c : i < ts.length
      · exact c
      · rw [List.drop_eq_nil_of_le (by omega)] at h1
        cases h1
    have e1 : xs.drop i = xs[i]'(by omega) :: xs.drop (i + 1) := by simp
    rw [e1] at h1
    simp only [List.cons.injEq] at h1
    obtain ⟨rfl, rfl⟩ := h1
    have hx : xs[i]? = some (xs[i]'(by omega)) := by simp
    have ht : ts[i]? = some (ts[i]'(by omega)) := by simp
    refine ⟨_, rfl, ?_⟩
    simp only [wp_run, wp_bind, wp_ok, wp_bad, wpS_seq, Dn.wpS_set, wpS_ret, wpS_if, wpS_expr, wpS_skip, wpS_par, wpS_par3, wpS_asg, wpS_itemS, wpS_fldS, wpS_for, wpS_nx, wpS_rt, wpS_bk, wpS_ct, wpS_bad, wp_lc, wpS_never, thenK_nx, thenK_rt, thenK_bk, thenK_ct, outK_nx, outK_rt, turnK_nx, turnK_rt, turnK_bk, turnK_ct,
  wp_addI, wp_addS, wp_addT, wp_subI, wp_mulI, wp_mulS, wp_fdivI, wp_modI, wp_powI, ltD_int, leD_int, gtD_int, geD_int, eqV_int, eqV_str, wp_itemT, wp_itemR, wp_itemS, lenD_tup, lenD_rol, wp_lenS, intD_int, intD_bl, wp_intS, absD_int, minD_int, strD_str, wp_strI, wp_listS, truR_bl, sliceD_tup, sliceD_rol, wp_sliceS, wp_tup, wp_lst, wp_ifE, wp_andT, wp_orT, wp_notT, wp_appN, startsD_str,
  Dn.envOf, var, con, Dn.bin, app, consA, nilA, test, slice, noO, someO, List.map_cons, List.map_nil, List.cons_append, List.nil_append, List.replicate_succ, List.replicate_zero, List.length_cons, List.length_nil, List.getElem?_cons_zero, List.getElem?_cons_succ, List.set_cons_zero, List.set_cons_succ, List.append_nil,
  Nat.add_one_sub_one, Nat.reduceAdd, Nat.reduceSub, Nat.reduceLeDiff, Nat.sub_zero, Nat.zero_add, if_true, if_false, ite_true, ite_false, Bool.false_eq_true, reduceIte, Bool.not_true, Bool.not_false, Bool.not_eq_true', Nat.zero_le, true_and, and_true, decide_eq_true_eq, Nat.reduceEqDiff, Option.some.injEq, exists_eq_left', reduceCtorEq, atI_zero, atI_one, atI_two, List.set_cons_zero, List.set_cons_succ, wp_kdE, wp_kdAt, wp_fldE, wp_methE, wp_meth, wp_methRs, wp_star, wp_starT, wp_rng1, wp_rngAt, cut_tail, Option.map_some, SX.S_cat, SX.S_len, LIM, List.append_assoc, wp_methRl h2]
    have fin : ∀ d s2, d = T (ts[i]'(by omega)) ∧ Ext s s2 → wp (appendD (D.loc st.length) [d] s2) fun x st1 => cellL st1 st.length = some ((ts.take (i + 1)).map T) ∧ Ext st st1 := fun d s2 hd => by
      obtain ⟨rfl, hE2⟩ := hd
      rw [wp_append (hE2.cell h2)]
      refine ⟨by rw [List.length_map, List.length_take]; show _ < 4000000; omega, ?_, (hE.trans hE2).set (Nat.le_refl _)⟩
      rw [cellL_of (set_get (cellL_some (hE2.cell h2)))]
      have e3 : ts.take (i + 1) = ts.take i ++ [ts[i]'(by omega)] := by
        rw [List.take_add_one, ht]
        rfl
      rw [e3, List.map_append]
      rfl
    rcases hi i _ _ s hx ht with ⟨e, hq⟩ | ⟨e, hq⟩
    · rw [e]
      simp only [wp_run, wp_bind, wp_ok, wp_bad, wpS_seq, Dn.wpS_set, wpS_ret, wpS_if, wpS_expr, wpS_skip, wpS_par, wpS_par3, wpS_asg, wpS_itemS, wpS_fldS, wpS_for, wpS_nx, wpS_rt, wpS_bk, wpS_ct, wpS_bad, wp_lc, wpS_never, thenK_nx, thenK_rt, thenK_bk, thenK_ct, outK_nx, outK_rt, turnK_nx, turnK_rt, turnK_bk, turnK_ct,
  wp_addI, wp_addS, wp_addT, wp_subI, wp_mulI, wp_mulS, wp_fdivI, wp_modI, wp_powI, ltD_int, leD_int, gtD_int, geD_int, eqV_int, eqV_str, wp_itemT, wp_itemR, wp_itemS, lenD_tup, lenD_rol, wp_lenS, intD_int, intD_bl, wp_intS, absD_int, minD_int, strD_str, wp_strI, wp_listS, truR_bl, sliceD_tup, sliceD_rol, wp_sliceS, wp_tup, wp_lst, wp_ifE, wp_andT, wp_orT, wp_notT, wp_appN, startsD_str,
  Dn.envOf, var, con, Dn.bin, app, consA, nilA, test, slice, noO, someO, List.map_cons, List.map_nil, List.cons_append, List.nil_append, List.replicate_succ, List.replicate_zero, List.length_cons, List.length_nil, List.getElem?_cons_zero, List.getElem?_cons_succ, List.set_cons_zero, List.set_cons_succ, List.append_nil,
  Nat.add_one_sub_one, Nat.reduceAdd, Nat.reduceSub, Nat.reduceLeDiff, Nat.sub_zero, Nat.zero_add, if_true, if_false, ite_true, ite_false, Bool.false_eq_true, reduceIte, Bool.not_true, Bool.not_false, Bool.not_eq_true', Nat.zero_le, true_and, and_true, decide_eq_true_eq, Nat.reduceEqDiff, Option.some.injEq, exists_eq_left', reduceCtorEq, atI_zero, atI_one, atI_two, List.set_cons_zero, List.set_cons_succ, wp_kdE, wp_kdAt, wp_fldE, wp_methE, wp_meth, wp_methRs, wp_star, wp_starT, wp_rng1, wp_rngAt, cut_tail, Option.map_some, SX.S_cat, SX.S_len, LIM, List.append_assoc]
      exact wp_mono hq fun d s2 hd => wp_mono (fin d s2 hd) fun _ s3 h3 => ⟨i + 1, hl, rfl, ⟨_, rfl⟩, h3.1, h3.2⟩
    · rw [e]
      simp only [wp_run, wp_bind, wp_ok, wp_bad, wpS_seq, Dn.wpS_set, wpS_ret, wpS_if, wpS_expr, wpS_skip, wpS_par, wpS_par3, wpS_asg, wpS_itemS, wpS_fldS, wpS_for, wpS_nx, wpS_rt, wpS_bk, wpS_ct, wpS_bad, wp_lc, wpS_never, thenK_nx, thenK_rt, thenK_bk, thenK_ct, outK_nx, outK_rt, turnK_nx, turnK_rt, turnK_bk, turnK_ct,
  wp_addI, wp_addS, wp_addT, wp_subI, wp_mulI, wp_mulS, wp_fdivI, wp_modI, wp_powI, ltD_int, leD_int, gtD_int, geD_int, eqV_int, eqV_str, wp_itemT, wp_itemR, wp_itemS, lenD_tup, lenD_rol, wp_lenS, intD_int, intD_bl, wp_intS, absD_int, minD_int, strD_str, wp_strI, wp_listS, truR_bl, sliceD_tup, sliceD_rol, wp_sliceS, wp_tup, wp_lst, wp_ifE, wp_andT, wp_orT, wp_notT, wp_appN, startsD_str,
  Dn.envOf, var, con, Dn.bin, app, consA, nilA, test, slice, noO, someO, List.map_cons, List.map_nil, List.cons_append, List.nil_append, List.replicate_succ, List.replicate_zero, List.length_cons, List.length_nil, List.getElem?_cons_zero, List.getElem?_cons_succ, List.set_cons_zero, List.set_cons_succ, List.append_nil,
  Nat.add_one_sub_one, Nat.reduceAdd, Nat.reduceSub, Nat.reduceLeDiff, Nat.sub_zero, Nat.zero_add, if_true, if_false, ite_true, ite_false, Bool.false_eq_true, reduceIte, Bool.not_true, Bool.not_false, Bool.not_eq_true', Nat.zero_le, true_and, and_true, decide_eq_true_eq, Nat.reduceEqDiff, Option.some.injEq, exists_eq_left', reduceCtorEq, atI_zero, atI_one, atI_two, List.set_cons_zero, List.set_cons_succ, wp_kdE, wp_kdAt, wp_fldE, wp_methE, wp_meth, wp_methRs, wp_star, wp_starT, wp_rng1, wp_rngAt, cut_tail, Option.map_some, SX.S_cat, SX.S_len, LIM, List.append_assoc]
      exact wp_mono hq fun d s2 hd => wp_mono (fin d s2 hd) fun _ s3 h3 => ⟨i + 1, hl, rfl, ⟨_, rfl⟩, h3.1, h3.2⟩
theorem wp_law_text : ∀ (w : Wd), w.ok → w.sz ≤ 100000 → ∀ (n : Nat) (st : Store), w.ht + 1 ≤ n → wp (F_law_words_text n [w.d] st) fun d st' => d = T w.t ∧ Ext st st'
  | .sim h its, hok, hs, n, st, hn => by
    obtain ⟨n, rfl⟩ : ∃ m, n = m + 1 := ⟨n - 1, by omega⟩
    rw [F_law_words_text_succ]
    obtain ⟨h1, h2⟩ := its_len hok
    obtain ⟨h3, h4⟩ := h9_len h
    have q := wp_lwt (f := F_law_words_text n) (st := st) (h := h.t) (xs := its.map It.d) (ts := its.map It.t) (h9_is h) (by simp) (by simp; omega) (by omega) (by omega) (its_tok hok) fun i x t st hx ht => ?_
    · rw [List.isEmpty_map] at q
      exact q
    · rw [List.getElem?_map] at hx ht
      obtain ⟨it, e2, rfl⟩ := Option.map_eq_some_iff.mp hx
      obtain ⟨it', e3, rfl⟩ := Option.map_eq_some_iff.mp ht
      rw [e2] at e3
      cases e3
      obtain ⟨s, e1⟩ : ∃ s, h.srt[i]? = some s := by
        have hl := (List.getElem?_eq_some_iff.mp e2).1
        exact ⟨h.srt[i]'(by omega), by simp⟩
      have hok' := its_get hok e1 e2
      exact .inr ⟨isi_it hok', it_str hok' ⟨rfl, Ext.refl⟩⟩
  | .is m k, hok, hs, n, st, hn => by
    obtain ⟨n, rfl⟩ : ∃ m, n = m + 1 := ⟨n - 1, by omega⟩
    rw [F_law_words_text_succ]
    have h1 := names_len hok.2
    have h5 := join_len [46] k
    unfold Wd.sz at hs
    unfold b_law_words_text Wd.d
    simp only [wp_run, wp_bind, wp_ok, wp_bad, wpS_seq, Dn.wpS_set, wpS_ret, wpS_if, wpS_expr, wpS_skip, wpS_par, wpS_par3, wpS_asg, wpS_itemS, wpS_fldS, wpS_for, wpS_nx, wpS_rt, wpS_bk, wpS_ct, wpS_bad, wp_lc, wpS_never, thenK_nx, thenK_rt, thenK_bk, thenK_ct, outK_nx, outK_rt, turnK_nx, turnK_rt, turnK_bk, turnK_ct,
  wp_addI, wp_addS, wp_addT, wp_subI, wp_mulI, wp_mulS, wp_fdivI, wp_modI, wp_powI, ltD_int, leD_int, gtD_int, geD_int, eqV_int, eqV_str, wp_itemT, wp_itemR, wp_itemS, lenD_tup, lenD_rol, wp_lenS, intD_int, intD_bl, wp_intS, absD_int, minD_int, strD_str, wp_strI, wp_listS, truR_bl, sliceD_tup, sliceD_rol, wp_sliceS, wp_tup, wp_lst, wp_ifE, wp_andT, wp_orT, wp_notT, wp_appN, startsD_str,
  Dn.envOf, var, con, Dn.bin, app, consA, nilA, test, slice, noO, someO, List.map_cons, List.map_nil, List.cons_append, List.nil_append, List.replicate_succ, List.replicate_zero, List.length_cons, List.length_nil, List.getElem?_cons_zero, List.getElem?_cons_succ, List.set_cons_zero, List.set_cons_succ, List.append_nil,
  Nat.add_one_sub_one, Nat.reduceAdd, Nat.reduceSub, Nat.reduceLeDiff, Nat.sub_zero, Nat.zero_add, if_true, if_false, ite_true, ite_false, Bool.false_eq_true, reduceIte, Bool.not_true, Bool.not_false, Bool.not_eq_true', Nat.zero_le, true_and, and_true, decide_eq_true_eq, Nat.reduceEqDiff, Option.some.injEq, exists_eq_left', reduceCtorEq, atI_zero, atI_one, atI_two, List.set_cons_zero, List.set_cons_succ, wp_kdE, wp_kdAt, wp_fldE, wp_methE, wp_meth, wp_methRs, wp_star, wp_starT, wp_rng1, wp_rngAt, cut_tail, Option.map_some, SX.S_cat, SX.S_len, LIM, List.append_assoc, q_is, q_words, q_lp, q_rp, q_isp, q_sp, q_col, q_dot, beq_self_eq_true]
    refine wp_lst_text (by omega) hok.1.2.1 ?_
    have h2 := hok.1.2.1
    simp only [List.length_cons, List.length_nil] at h5
    simp only [wp_run, wp_bind, wp_ok, wp_bad, wpS_seq, Dn.wpS_set, wpS_ret, wpS_if, wpS_expr, wpS_skip, wpS_par, wpS_par3, wpS_asg, wpS_itemS, wpS_fldS, wpS_for, wpS_nx, wpS_rt, wpS_bk, wpS_ct, wpS_bad, wp_lc, wpS_never, thenK_nx, thenK_rt, thenK_bk, thenK_ct, outK_nx, outK_rt, turnK_nx, turnK_rt, turnK_bk, turnK_ct,
  wp_addI, wp_addS, wp_addT, wp_subI, wp_mulI, wp_mulS, wp_fdivI, wp_modI, wp_powI, ltD_int, leD_int, gtD_int, geD_int, eqV_int, eqV_str, wp_itemT, wp_itemR, wp_itemS, lenD_tup, lenD_rol, wp_lenS, intD_int, intD_bl, wp_intS, absD_int, minD_int, strD_str, wp_strI, wp_listS, truR_bl, sliceD_tup, sliceD_rol, wp_sliceS, wp_tup, wp_lst, wp_ifE, wp_andT, wp_orT, wp_notT, wp_appN, startsD_str,
  Dn.envOf, var, con, Dn.bin, app, consA, nilA, test, slice, noO, someO, List.map_cons, List.map_nil, List.cons_append, List.nil_append, List.replicate_succ, List.replicate_zero, List.length_cons, List.length_nil, List.getElem?_cons_zero, List.getElem?_cons_succ, List.set_cons_zero, List.set_cons_succ, List.append_nil,
  Nat.add_one_sub_one, Nat.reduceAdd, Nat.reduceSub, Nat.reduceLeDiff, Nat.sub_zero, Nat.zero_add, if_true, if_false, ite_true, ite_false, Bool.false_eq_true, reduceIte, Bool.not_true, Bool.not_false, Bool.not_eq_true', Nat.zero_le, true_and, and_true, decide_eq_true_eq, Nat.reduceEqDiff, Option.some.injEq, exists_eq_left', reduceCtorEq, atI_zero, atI_one, atI_two, List.set_cons_zero, List.set_cons_succ, wp_kdE, wp_kdAt, wp_fldE, wp_methE, wp_meth, wp_methRs, wp_star, wp_starT, wp_rng1, wp_rngAt, cut_tail, Option.map_some, SX.S_cat, SX.S_len, LIM, List.append_assoc, List.length_append]
    exact ⟨by omega, by omega, rfl, Ext.refl⟩
  | .un w, hok, hs, n, st, hn => by
    unfold Wd.ht at hn
    unfold Wd.sz at hs
    obtain ⟨n, rfl⟩ : ∃ m, n = m + 1 := ⟨n - 1, by omega⟩
    rw [F_law_words_text_succ]
    have hl := Wd.len (w := w) hok
    refine wp_lwt (f := F_law_words_text n) (st := st) (h := l_not) (xs := [w.d]) (ts := [w.t]) rfl rfl (by simp) (by simp; omega) (by decide) (fun x hx => by rw [List.mem_singleton.mp hx]; exact Wd.tok hok) fun i x t st hx ht => ?_
    obtain rfl : i = 0 := by
      have := (List.getElem?_eq_some_iff.mp hx).1
      simpa using this
    cases hx
    cases ht
    exact .inl ⟨isi_wd w, wp_law_text w hok (by omega) n st (by omega)⟩
  | .bi o a b, hok, hs, n, st, hn => by
    unfold Wd.ht at hn
    unfold Wd.sz at hs
    obtain ⟨n, rfl⟩ : ∃ m, n = m + 1 := ⟨n - 1, by omega⟩
    rw [F_law_words_text_succ]
    have hl := Wd.len (w := a) hok.1
    have hl2 := Wd.len (w := b) hok.2
    have q := wp_lwt (f := F_law_words_text n) (st := st) (h := if o then l_and else l_or) (xs := [a.d, b.d]) (ts := [a.t, b.t]) (by cases o <;> rfl) rfl (by simp) (by simp; omega) (by cases o <;> decide) (fun x hx => ?_) fun i x t st hx ht => ?_
    · refine wp_mono q fun d s hd => ⟨hd.1.trans ?_, hd.2⟩
      simp [Wd.t, TL.joinL]
    · rcases List.mem_cons.mp hx with e | e
      · rw [e]
        exact Wd.tok hok.1
      · rw [List.mem_singleton.mp e]
        exact Wd.tok hok.2
    · have hi : i < 2 := (List.getElem?_eq_some_iff.mp hx).1
      rcases (show i = 0 ∨ i = 1 by omega) with rfl | rfl
      · cases hx
        cases ht
        exact .inl ⟨isi_wd a, wp_law_text a hok.1 (by omega) n st (by omega)⟩
      · cases hx
        cases ht
        exact .inl ⟨isi_wd b, wp_law_text b hok.2 (by omega) n st (by omega)⟩
end T91


set_option Elab.async false
set_option linter.all false
set_option maxRecDepth 100000
set_option maxHeartbeats 4000000
set_option autoImplicit false
namespace T91
open PySem Dn
/-! ### the reader -/
def rd (l : List Nat) (i dp : Nat) : List (Str × D) := [("text", T l), ("position", .int (i : Nat)), ("depth", .int (dp : Nat))]
section
variable {l : List Nat} {i j dp e p : Nat} {st st' st2 : Store} {Q : D → Store → Prop}
theorem rd_text : (rd l i dp).lookup (Str.ofString "text") = some (T l) := rfl
theorem rd_pos : (rd l i dp).lookup (Str.ofString "position") = some (.int (i : Nat)) := rfl
theorem rd_dep : (rd l i dp).lookup (Str.ofString "depth") = some (.int (dp : Nat)) := rfl
theorem rd_put_pos : putD "position" (.int (j : Nat)) (rd l i dp) = rd l j dp := rfl
theorem rd_put_dep : putD "depth" (.int (e : Nat)) (rd l i dp) = rd l i e := rfl
theorem rd_is_at : (rd l i dp).lookup (Str.ofString "is_at") = none := rfl
theorem rd_take : (rd l i dp).lookup (Str.ofString "take") = none := rfl
theorem rd_m1 : (rd l i dp).lookup (Str.ofString "read_name") = none := rfl
theorem rd_m2 : (rd l i dp).lookup (Str.ofString "read_number") = none := rfl
theorem rd_m3 : (rd l i dp).lookup (Str.ofString "read_word") = none := rfl
theorem rd_m4 : (rd l i dp).lookup (Str.ofString "read_state") = none := rfl
theorem rd_m5 : (rd l i dp).lookup (Str.ofString "begin") = none := rfl
theorem rd_m6 : (rd l i dp).lookup (Str.ofString "finish") = none := rfl
theorem rd_m7 : (rd l i dp).lookup (Str.ofString "end") = none := rfl
theorem rd_len : (rd l i dp).length < 900 := by show 3 < 900; decide
/-- the reader at p -/
def Rd (p : Nat) (l : List Nat) (i dp : Nat) (st : Store) : Prop := st[p]? = some (.ins "Reader" (rd l i dp))
/-- but for p all cells stay -/
def Kp (p : Nat) (st st' : Store) : Prop := ∀ i c, i ≠ p → st[i]? = some c → st'[i]? = some c
theorem Kp.refl : Kp p st st := fun _ _ _ h => h
theorem Kp.trans (a : Kp p st st') (b : Kp p st' st2) : Kp p st st2 := fun i c h k => b i c h (a i c h k)
theorem Kp.set {c : Cell} : Kp p st (st.set p c) := fun i d h k => by rw [List.getElem?_set_ne (Ne.symm h)]; exact k
theorem Kp.push {c : Cell} : Kp p st (st ++ [c]) := fun i d h k => get_app k
theorem sIx_lo {n i : Nat} (h : i ≤ n) : HT.sIx n 0 (some (i : Int)) = i := by
  rw [HT.sIx_nat]
  omega
theorem sIx_hi {n i : Nat} (h : i ≤ n) : HT.sIx n n (some (i : Int)) = i := by
  rw [HT.sIx_nat]
  omega
theorem sIx_hi2 {n i : Nat} (h : n ≤ i) : HT.sIx n n (some (i : Int)) = n := by
  rw [HT.sIx_nat]
  omega
theorem cut1 (h : i ≤ l.length) : L2.cutS (SX.S l) (some (i : Nat)) (some ((i + 1 : Nat) : Int)) = SX.S ((l.drop i).take 1) := by
  unfold L2.cutS
  rw [SX.S_len, sIx_lo h]
  by_cases c : i + 1 ≤ l.length
  · rw [sIx_hi c]
    simp
  · rw [sIx_hi2 (by omega)]
    have : l.drop i = [] := List.drop_eq_nil_of_le (by omega)
    simp [this]
/-- signs that are asked for: a str, or several strs of one sign -/
inductive Sgn (st : Store) : D → List Nat → Prop where
  | str (s : List Nat) : Sgn st (T s) s
  | seq {x : D} {cs : List Nat} (h : seqD st x = some (cs.map fun c => T [c])) : Sgn st x cs
def atC (l : List Nat) (i : Nat) (cs : List Nat) : Bool := match l[i]? with
  | some c => decide (c ∈ cs)
  | none => false
theorem any_sg {c : Nat} : ∀ cs : List Nat, ((cs.map fun c => T [c]).any fun y => eqF y (T [c])) = decide (c ∈ cs)
  | [] => rfl
  | x :: cs => by
    rw [List.map_cons, List.any_cons, any_sg cs]
    have e : eqF (T [x]) (T [c]) = decide (x = c) := by
      show (SX.S [x] == SX.S [c]) = _
      rw [SX.S_beq_eq]
      simp
    rw [e]
    by_cases h : x = c
    · simp [h]
    · have h2 : ¬ c = x := fun z => h z.symm
      simp [h, h2]
theorem all_sg : ∀ cs : List Nat, (cs.map fun c => T [c]).all flatD = true
  | [] => rfl
  | x :: cs => by
    rw [List.map_cons, List.all_cons, all_sg cs]
    rfl
theorem in_sg {c : Nat} {x : D} {cs : List Nat} (h : Sgn st x cs) : inV' false (T [c]) x st = .ok (.bl (decide (c ∈ cs))) st := by
  cases h with
  | str s =>
    unfold inV' blR inD
    simp [SX.S_len]
  | seq h =>
    have e : inD (T [c]) x st = .ok (decide (c ∈ cs)) st := by
      cases x with
      | tup ds =>
        cases h
        unfold inD
        simp only [seqD, all_sg, any_sg]
        rfl
      | rol ds =>
        cases h
        unfold inD
        simp only [seqD, all_sg, any_sg]
        rfl
      | loc n =>
        have h : cellL st n = _ := h
        unfold inD
        simp only [seqD, h, all_sg, any_sg]
        rfl
      | _ => cases h
    unfold inV'
    rw [e]
    rfl
theorem wp_is_at {x : D} {cs : List Nat} (h : Rd p l i dp st) (hi : i ≤ l.length) (hl : l.length ≤ 1000000) (hs : Sgn st x cs) (q : Q (.bl (atC l i cs)) st) : wp (F_Reader_is_at [.loc p, x] st) Q := by
  unfold F_Reader_is_at b_Reader_is_at
  simp only [wp_run, wp_bind, wp_ok, wp_bad, wpS_seq, Dn.wpS_set, wpS_ret, wpS_if, wpS_expr, wpS_skip, wpS_par, wpS_par3, wpS_asg, wpS_itemS, wpS_fldS, wpS_for, wpS_nx, wpS_rt, wpS_bk, wpS_ct, wpS_bad, wp_lc, wpS_never, thenK_nx, thenK_rt, thenK_bk, thenK_ct, outK_nx, outK_rt, turnK_nx, turnK_rt, turnK_bk, turnK_ct,
  wp_addI, wp_addS, wp_addT, wp_subI, wp_mulI, wp_mulS, wp_fdivI, wp_modI, wp_powI, ltD_int, leD_int, gtD_int, geD_int, eqV_int, eqV_str, wp_itemT, wp_itemR, wp_itemS, lenD_tup, lenD_rol, wp_lenS, intD_int, intD_bl, wp_intS, absD_int, minD_int, strD_str, wp_strI, wp_listS, truR_bl, sliceD_tup, sliceD_rol, wp_sliceS, wp_tup, wp_lst, wp_ifE, wp_andT, wp_orT, wp_notT, wp_appN, startsD_str,
  Dn.envOf, var, con, Dn.bin, app, consA, nilA, test, slice, noO, someO, List.map_cons, List.map_nil, List.cons_append, List.nil_append, List.replicate_succ, List.replicate_zero, List.length_cons, List.length_nil, List.getElem?_cons_zero, List.getElem?_cons_succ, List.set_cons_zero, List.set_cons_succ, List.append_nil,
  Nat.add_one_sub_one, Nat.reduceAdd, Nat.reduceSub, Nat.reduceLeDiff, Nat.sub_zero, Nat.zero_add, if_true, if_false, ite_true, ite_false, Bool.false_eq_true, reduceIte, Bool.not_true, Bool.not_false, Bool.not_eq_true', Nat.zero_le, true_and, and_true, decide_eq_true_eq, Nat.reduceEqDiff, Option.some.injEq, exists_eq_left', reduceCtorEq, atI_zero, atI_one, atI_two, List.set_cons_zero, List.set_cons_succ, wp_kdE, wp_kdAt, wp_fldE, wp_methE, wp_meth, wp_methRs, wp_star, wp_starT, wp_rng1, wp_rngAt, cut_tail, Option.map_some, SX.S_cat, SX.S_len, LIM, List.append_assoc, q_is, q_words, q_lp, q_rp, q_isp, q_sp, q_col, q_dot, wp_fldR h, rd_text, rd_pos]
  have e : ((i : Int) + 1) = ((i + 1 : Nat) : Int) := rfl
  rw [e, cut1 hi]
  refine ⟨by omega, ?_⟩
  simp only [wp_run, wp_bind, wp_ok, wp_bad, wpS_seq, Dn.wpS_set, wpS_ret, wpS_if, wpS_expr, wpS_skip, wpS_par, wpS_par3, wpS_asg, wpS_itemS, wpS_fldS, wpS_for, wpS_nx, wpS_rt, wpS_bk, wpS_ct, wpS_bad, wp_lc, wpS_never, thenK_nx, thenK_rt, thenK_bk, thenK_ct, outK_nx, outK_rt, turnK_nx, turnK_rt, turnK_bk, turnK_ct,
  wp_addI, wp_addS, wp_addT, wp_subI, wp_mulI, wp_mulS, wp_fdivI, wp_modI, wp_powI, ltD_int, leD_int, gtD_int, geD_int, eqV_int, eqV_str, wp_itemT, wp_itemR, wp_itemS, lenD_tup, lenD_rol, wp_lenS, intD_int, intD_bl, wp_intS, absD_int, minD_int, strD_str, wp_strI, wp_listS, truR_bl, sliceD_tup, sliceD_rol, wp_sliceS, wp_tup, wp_lst, wp_ifE, wp_andT, wp_orT, wp_notT, wp_appN, startsD_str,
  Dn.envOf, var, con, Dn.bin, app, consA, nilA, test, slice, noO, someO, List.map_cons, List.map_nil, List.cons_append, List.nil_append, List.replicate_succ, List.replicate_zero, List.length_cons, List.length_nil, List.getElem?_cons_zero, List.getElem?_cons_succ, List.set_cons_zero, List.set_cons_succ, List.append_nil,
  Nat.add_one_sub_one, Nat.reduceAdd, Nat.reduceSub, Nat.reduceLeDiff, Nat.sub_zero, Nat.zero_add, if_true, if_false, ite_true, ite_false, Bool.false_eq_true, reduceIte, Bool.not_true, Bool.not_false, Bool.not_eq_true', Nat.zero_le, true_and, and_true, decide_eq_true_eq, Nat.reduceEqDiff, Option.some.injEq, exists_eq_left', reduceCtorEq, atI_zero, atI_one, atI_two, List.set_cons_zero, List.set_cons_succ, wp_kdE, wp_kdAt, wp_fldE, wp_methE, wp_meth, wp_methRs, wp_star, wp_starT, wp_rng1, wp_rngAt, cut_tail, Option.map_some, SX.S_cat, SX.S_len, LIM, List.append_assoc, andE]
  unfold atC at q
  by_cases c : i < l.length
  · have hd : (l.drop i).take 1 = [l[i]] := by
      rw [List.drop_eq_getElem_cons c]
      rfl
    have hx : l[i]? = some l[i] := by simp
    rw [hx] at q
    rw [hd]
    have e2 : (SX.S [l[i]] == Str.ofString "") = false := by
      show (SX.S [l[i]] == SX.S []) = false
      rw [SX.S_beq_eq]
      rfl
    simp only [e2, wp_run, wp_bind, wp_ok, wp_bad, wpS_seq, Dn.wpS_set, wpS_ret, wpS_if, wpS_expr, wpS_skip, wpS_par, wpS_par3, wpS_asg, wpS_itemS, wpS_fldS, wpS_for, wpS_nx, wpS_rt, wpS_bk, wpS_ct, wpS_bad, wp_lc, wpS_never, thenK_nx, thenK_rt, thenK_bk, thenK_ct, outK_nx, outK_rt, turnK_nx, turnK_rt, turnK_bk, turnK_ct,
  wp_addI, wp_addS, wp_addT, wp_subI, wp_mulI, wp_mulS, wp_fdivI, wp_modI, wp_powI, ltD_int, leD_int, gtD_int, geD_int, eqV_int, eqV_str, wp_itemT, wp_itemR, wp_itemS, lenD_tup, lenD_rol, wp_lenS, intD_int, intD_bl, wp_intS, absD_int, minD_int, strD_str, wp_strI, wp_listS, truR_bl, sliceD_tup, sliceD_rol, wp_sliceS, wp_tup, wp_lst, wp_ifE, wp_andT, wp_orT, wp_notT, wp_appN, startsD_str,
  Dn.envOf, var, con, Dn.bin, app, consA, nilA, test, slice, noO, someO, List.map_cons, List.map_nil, List.cons_append, List.nil_append, List.replicate_succ, List.replicate_zero, List.length_cons, List.length_nil, List.getElem?_cons_zero, List.getElem?_cons_succ, List.set_cons_zero, List.set_cons_succ, List.append_nil,
  Nat.add_one_sub_one, Nat.reduceAdd, Nat.reduceSub, Nat.reduceLeDiff, Nat.sub_zero, Nat.zero_add, if_true, if_false, ite_true, ite_false, Bool.false_eq_true, reduceIte, Bool.not_true, Bool.not_false, Bool.not_eq_true', Nat.zero_le, true_and, and_true, decide_eq_true_eq, Nat.reduceEqDiff, Option.some.injEq, exists_eq_left', reduceCtorEq, atI_zero, atI_one, atI_two, List.set_cons_zero, List.set_cons_succ, wp_kdE, wp_kdAt, wp_fldE, wp_methE, wp_meth, wp_methRs, wp_star, wp_starT, wp_rng1, wp_rngAt, cut_tail, Option.map_some, SX.S_cat, SX.S_len, LIM, List.append_assoc, truD]
    rw [in_sg hs]
    exact q
  · have hd : (l.drop i).take 1 = [] := by
      rw [List.drop_eq_nil_of_le (by omega)]
      rfl
    have hx : l[i]? = none := by simp; omega
    rw [hx] at q
    rw [hd]
    have e2 : (SX.S ([] : List Nat) == Str.ofString "") = true := by rfl
    simp only [e2, wp_run, wp_bind, wp_ok, wp_bad, wpS_seq, Dn.wpS_set, wpS_ret, wpS_if, wpS_expr, wpS_skip, wpS_par, wpS_par3, wpS_asg, wpS_itemS, wpS_fldS, wpS_for, wpS_nx, wpS_rt, wpS_bk, wpS_ct, wpS_bad, wp_lc, wpS_never, thenK_nx, thenK_rt, thenK_bk, thenK_ct, outK_nx, outK_rt, turnK_nx, turnK_rt, turnK_bk, turnK_ct,
  wp_addI, wp_addS, wp_addT, wp_subI, wp_mulI, wp_mulS, wp_fdivI, wp_modI, wp_powI, ltD_int, leD_int, gtD_int, geD_int, eqV_int, eqV_str, wp_itemT, wp_itemR, wp_itemS, lenD_tup, lenD_rol, wp_lenS, intD_int, intD_bl, wp_intS, absD_int, minD_int, strD_str, wp_strI, wp_listS, truR_bl, sliceD_tup, sliceD_rol, wp_sliceS, wp_tup, wp_lst, wp_ifE, wp_andT, wp_orT, wp_notT, wp_appN, startsD_str,
  Dn.envOf, var, con, Dn.bin, app, consA, nilA, test, slice, noO, someO, List.map_cons, List.map_nil, List.cons_append, List.nil_append, List.replicate_succ, List.replicate_zero, List.length_cons, List.length_nil, List.getElem?_cons_zero, List.getElem?_cons_succ, List.set_cons_zero, List.set_cons_succ, List.append_nil,
  Nat.add_one_sub_one, Nat.reduceAdd, Nat.reduceSub, Nat.reduceLeDiff, Nat.sub_zero, Nat.zero_add, if_true, if_false, ite_true, ite_false, Bool.false_eq_true, reduceIte, Bool.not_true, Bool.not_false, Bool.not_eq_true', Nat.zero_le, true_and, and_true, decide_eq_true_eq, Nat.reduceEqDiff, Option.some.injEq, exists_eq_left', reduceCtorEq, atI_zero, atI_one, atI_two, List.set_cons_zero, List.set_cons_succ, wp_kdE, wp_kdAt, wp_fldE, wp_methE, wp_meth, wp_methRs, wp_star, wp_starT, wp_rng1, wp_rngAt, cut_tail, Option.map_some, SX.S_cat, SX.S_len, LIM, List.append_assoc, truD]
    exact q
theorem wp_take {x : D} {cs : List Nat} {c : Nat} (h : Rd p l i dp st) (hl : l.length ≤ 1000000) (hs : Sgn st x cs) (hc : l[i]? = some c) (hm : c ∈ cs) (q : Rd p l (i + 1) dp (st.set p (.ins "Reader" (rd l (i + 1) dp))) → Q (T [c]) (st.set p (.ins "Reader" (rd l (i + 1) dp)))) : wp (F_Reader_take [.loc p, x] st) Q := by
  have hi : i < l.length := (List.getElem?_eq_some_iff.mp hc).1
  unfold F_Reader_take b_Reader_take
  simp only [wp_run, wp_bind, wp_ok, wp_bad, wpS_seq, Dn.wpS_set, wpS_ret, wpS_if, wpS_expr, wpS_skip, wpS_par, wpS_par3, wpS_asg, wpS_itemS, wpS_fldS, wpS_for, wpS_nx, wpS_rt, wpS_bk, wpS_ct, wpS_bad, wp_lc, wpS_never, thenK_nx, thenK_rt, thenK_bk, thenK_ct, outK_nx, outK_rt, turnK_nx, turnK_rt, turnK_bk, turnK_ct,
  wp_addI, wp_addS, wp_addT, wp_subI, wp_mulI, wp_mulS, wp_fdivI, wp_modI, wp_powI, ltD_int, leD_int, gtD_int, geD_int, eqV_int, eqV_str, wp_itemT, wp_itemR, wp_itemS, lenD_tup, lenD_rol, wp_lenS, intD_int, intD_bl, wp_intS, absD_int, minD_int, strD_str, wp_strI, wp_listS, truR_bl, sliceD_tup, sliceD_rol, wp_sliceS, wp_tup, wp_lst, wp_ifE, wp_andT, wp_orT, wp_notT, wp_appN, startsD_str,
  Dn.envOf, var, con, Dn.bin, app, consA, nilA, test, slice, noO, someO, List.map_cons, List.map_nil, List.cons_append, List.nil_append, List.replicate_succ, List.replicate_zero, List.length_cons, List.length_nil, List.getElem?_cons_zero, List.getElem?_cons_succ, List.set_cons_zero, List.set_cons_succ, List.append_nil,
  Nat.add_one_sub_one, Nat.reduceAdd, Nat.reduceSub, Nat.reduceLeDiff, Nat.sub_zero, Nat.zero_add, if_true, if_false, ite_true, ite_false, Bool.false_eq_true, reduceIte, Bool.not_true, Bool.not_false, Bool.not_eq_true', Nat.zero_le, true_and, and_true, decide_eq_true_eq, Nat.reduceEqDiff, Option.some.injEq, exists_eq_left', reduceCtorEq, atI_zero, atI_one, atI_two, List.set_cons_zero, List.set_cons_succ, wp_kdE, wp_kdAt, wp_fldE, wp_methE, wp_meth, wp_methRs, wp_star, wp_starT, wp_rng1, wp_rngAt, cut_tail, Option.map_some, SX.S_cat, SX.S_len, LIM, List.append_assoc, q_is, q_words, q_lp, q_rp, q_isp, q_sp, q_col, q_dot, wp_recv h rd_is_at]
  refine wp_is_at h (by omega) hl hs ?_
  have e : atC l i cs = true := by
    unfold atC
    rw [hc]
    simpa using hm
  simp only [e, wp_run, wp_bind, wp_ok, wp_bad, wpS_seq, Dn.wpS_set, wpS_ret, wpS_if, wpS_expr, wpS_skip, wpS_par, wpS_par3, wpS_asg, wpS_itemS, wpS_fldS, wpS_for, wpS_nx, wpS_rt, wpS_bk, wpS_ct, wpS_bad, wp_lc, wpS_never, thenK_nx, thenK_rt, thenK_bk, thenK_ct, outK_nx, outK_rt, turnK_nx, turnK_rt, turnK_bk, turnK_ct,
  wp_addI, wp_addS, wp_addT, wp_subI, wp_mulI, wp_mulS, wp_fdivI, wp_modI, wp_powI, ltD_int, leD_int, gtD_int, geD_int, eqV_int, eqV_str, wp_itemT, wp_itemR, wp_itemS, lenD_tup, lenD_rol, wp_lenS, intD_int, intD_bl, wp_intS, absD_int, minD_int, strD_str, wp_strI, wp_listS, truR_bl, sliceD_tup, sliceD_rol, wp_sliceS, wp_tup, wp_lst, wp_ifE, wp_andT, wp_orT, wp_notT, wp_appN, startsD_str,
  Dn.envOf, var, con, Dn.bin, app, consA, nilA, test, slice, noO, someO, List.map_cons, List.map_nil, List.cons_append, List.nil_append, List.replicate_succ, List.replicate_zero, List.length_cons, List.length_nil, List.getElem?_cons_zero, List.getElem?_cons_succ, List.set_cons_zero, List.set_cons_succ, List.append_nil,
  Nat.add_one_sub_one, Nat.reduceAdd, Nat.reduceSub, Nat.reduceLeDiff, Nat.sub_zero, Nat.zero_add, if_true, if_false, ite_true, ite_false, Bool.false_eq_true, reduceIte, Bool.not_true, Bool.not_false, Bool.not_eq_true', Nat.zero_le, true_and, and_true, decide_eq_true_eq, Nat.reduceEqDiff, Option.some.injEq, exists_eq_left', reduceCtorEq, atI_zero, atI_one, atI_two, List.set_cons_zero, List.set_cons_succ, wp_kdE, wp_kdAt, wp_fldE, wp_methE, wp_meth, wp_methRs, wp_star, wp_starT, wp_rng1, wp_rngAt, cut_tail, Option.map_some, SX.S_cat, SX.S_len, LIM, List.append_assoc, wp_fldR h, rd_pos]
  have e2 : ((i : Int) + 1) = ((i + 1 : Nat) : Int) := rfl
  rw [e2, wpS_fldAt h rd_len, rd_put_pos]
  have h2 : Rd p l (i + 1) dp (st.set p (.ins "Reader" (rd l (i + 1) dp))) := set_get h
  simp only [wp_run, wp_bind, wp_ok, wp_bad, wpS_seq, Dn.wpS_set, wpS_ret, wpS_if, wpS_expr, wpS_skip, wpS_par, wpS_par3, wpS_asg, wpS_itemS, wpS_fldS, wpS_for, wpS_nx, wpS_rt, wpS_bk, wpS_ct, wpS_bad, wp_lc, wpS_never, thenK_nx, thenK_rt, thenK_bk, thenK_ct, outK_nx, outK_rt, turnK_nx, turnK_rt, turnK_bk, turnK_ct,
  wp_addI, wp_addS, wp_addT, wp_subI, wp_mulI, wp_mulS, wp_fdivI, wp_modI, wp_powI, ltD_int, leD_int, gtD_int, geD_int, eqV_int, eqV_str, wp_itemT, wp_itemR, wp_itemS, lenD_tup, lenD_rol, wp_lenS, intD_int, intD_bl, wp_intS, absD_int, minD_int, strD_str, wp_strI, wp_listS, truR_bl, sliceD_tup, sliceD_rol, wp_sliceS, wp_tup, wp_lst, wp_ifE, wp_andT, wp_orT, wp_notT, wp_appN, startsD_str,
  Dn.envOf, var, con, Dn.bin, app, consA, nilA, test, slice, noO, someO, List.map_cons, List.map_nil, List.cons_append, List.nil_append, List.replicate_succ, List.replicate_zero, List.length_cons, List.length_nil, List.getElem?_cons_zero, List.getElem?_cons_succ, List.set_cons_zero, List.set_cons_succ, List.append_nil,
  Nat.add_one_sub_one, Nat.reduceAdd, Nat.reduceSub, Nat.reduceLeDiff, Nat.sub_zero, Nat.zero_add, if_true, if_false, ite_true, ite_false, Bool.false_eq_true, reduceIte, Bool.not_true, Bool.not_false, Bool.not_eq_true', Nat.zero_le, true_and, and_true, decide_eq_true_eq, Nat.reduceEqDiff, Option.some.injEq, exists_eq_left', reduceCtorEq, atI_zero, atI_one, atI_two, List.set_cons_zero, List.set_cons_succ, wp_kdE, wp_kdAt, wp_fldE, wp_methE, wp_meth, wp_methRs, wp_star, wp_starT, wp_rng1, wp_rngAt, cut_tail, Option.map_some, SX.S_cat, SX.S_len, LIM, List.append_assoc, wp_fldR h2, rd_pos, rd_text]
  refine ⟨by omega, c, ?_, q h2⟩
  have e3 : (((i + 1 : Nat) : Int) - 1) = (i : Int) := by omega
  rw [e3]
  exact atI_of (by simpa using hc)
end
end T91


set_option Elab.async false
set_option linter.all false
set_option maxRecDepth 100000
set_option maxHeartbeats 4000000
set_option autoImplicit false
namespace T91
open PySem Dn
section
variable {l : List Nat} {i j dp e p : Nat} {st st' st2 : Store} {Q : D → Store → Prop}
def letters : List Nat := (List.range 26).map (· + 97)
def digits : List Nat := (List.range 10).map (· + 48)
theorem q2_letters : c_LETTERS = T letters := by rfl
theorem q2_digits : c_DIGITS = T digits := by rfl
theorem mem_letters {c : Nat} : c ∈ letters ↔ 97 ≤ c ∧ c ≤ 122 := by
  unfold letters
  simp only [List.mem_map, List.mem_range]
  constructor
  · rintro ⟨a, h, rfl⟩
    omega
  · rintro ⟨h1, h2⟩
    exact ⟨c - 97, by omega, by omega⟩
theorem mem_digits {c : Nat} : c ∈ digits ↔ 48 ≤ c ∧ c ≤ 57 := by
  unfold digits
  simp only [List.mem_map, List.mem_range]
  constructor
  · rintro ⟨a, h, rfl⟩
    omega
  · rintro ⟨h1, h2⟩
    exact ⟨c - 48, by omega, by omega⟩
/-- what is read next does not begin so -/
def Off (rest : List Nat) (cs : List Nat) : Prop := ∀ c r, rest = c :: r → c ∉ cs
theorem get_mid {nm rest : List Nat} {k : Nat} (h : l.drop i = nm ++ rest) (hk : k < nm.length) : l[i + k]? = nm[k]? := by
  rw [← List.getElem?_drop, h, List.getElem?_append_left hk]
theorem get_end {nm rest : List Nat} (h : l.drop i = nm ++ rest) : l[i + nm.length]? = rest.head? := by
  rw [← List.getElem?_drop, h, List.getElem?_append_right (Nat.le_refl _)]
  simp [List.head?_eq_getElem?]
theorem atC_mid {nm rest cs : List Nat} {k : Nat} (h : l.drop i = nm ++ rest) (hk : k < nm.length) (hm : ∀ c ∈ nm, c ∈ cs) : atC l (i + k) cs = true := by
  unfold atC
  rw [get_mid h hk]
  have : nm[k]? = some nm[k] := by simp
  rw [this]
  simpa using hm _ (List.getElem_mem hk)
theorem atC_end {nm rest cs : List Nat} (h : l.drop i = nm ++ rest) (ho : Off rest cs) : atC l (i + nm.length) cs = false := by
  unfold atC
  rw [get_end h]
  cases rest with
  | nil => rfl
  | cons c r => simpa using ho c r rfl
theorem drop_len {nm rest : List Nat} (h : l.drop i = nm ++ rest) (hn : nm ≠ []) : i + nm.length ≤ l.length := by
  have := congrArg List.length h
  simp at this
  have h2 : 0 < nm.length := List.length_pos_iff.mpr hn
  omega
theorem take_snoc {nm : List Nat} {k : Nat} (h : k < nm.length) : nm.take k ++ [nm[k]] = nm.take (k + 1) := by
  rw [List.take_add_one]
  simp [h]
/-- names -/
theorem wp_name {nm rest : List Nat} (h : Rd p l i dp st) (hl : l.length ≤ 1000000) (hd : l.drop i = nm ++ rest) (hn : Nm nm) (ho : nm.length = 8 ∨ Off rest letters) :
    wp (F_Reader_read_name [.loc p] st) fun d st' => d = T nm ∧ Rd p l (i + nm.length) dp st' ∧ Kp p st st' := by
  obtain ⟨h1, h2, h3⟩ := hn
  have h3 : ∀ c ∈ nm, c ∈ letters := fun c hc => mem_letters.mpr (h3 c hc)
  have h4 : 0 < nm.length := List.length_pos_iff.mpr h1
  have h5 := drop_len hd h1
  unfold F_Reader_read_name b_Reader_read_name
  simp only [wp_run, wp_bind, wp_ok, wp_bad, wpS_seq, Dn.wpS_set, wpS_ret, wpS_if, wpS_expr, wpS_skip, wpS_par, wpS_par3, wpS_asg, wpS_itemS, wpS_fldS, wpS_for, wpS_nx, wpS_rt, wpS_bk, wpS_ct, wpS_bad, wp_lc, wpS_never, thenK_nx, thenK_rt, thenK_bk, thenK_ct, outK_nx, outK_rt, turnK_nx, turnK_rt, turnK_bk, turnK_ct,
  wp_addI, wp_addS, wp_addT, wp_subI, wp_mulI, wp_mulS, wp_fdivI, wp_modI, wp_powI, ltD_int, leD_int, gtD_int, geD_int, eqV_int, eqV_str, wp_itemT, wp_itemR, wp_itemS, lenD_tup, lenD_rol, wp_lenS, intD_int, intD_bl, wp_intS, absD_int, minD_int, strD_str, wp_strI, wp_listS, truR_bl, sliceD_tup, sliceD_rol, wp_sliceS, wp_tup, wp_lst, wp_ifE, wp_andT, wp_orT, wp_notT, wp_appN, startsD_str,
  Dn.envOf, var, con, Dn.bin, app, consA, nilA, test, slice, noO, someO, List.map_cons, List.map_nil, List.cons_append, List.nil_append, List.replicate_succ, List.replicate_zero, List.length_cons, List.length_nil, List.getElem?_cons_zero, List.getElem?_cons_succ, List.set_cons_zero, List.set_cons_succ, List.append_nil,
  Nat.add_one_sub_one, Nat.reduceAdd, Nat.reduceSub, Nat.reduceLeDiff, Nat.sub_zero, Nat.zero_add, if_true, if_false, ite_true, ite_false, Bool.false_eq_true, reduceIte, Bool.not_true, Bool.not_false, Bool.not_eq_true', Nat.zero_le, true_and, and_true, decide_eq_true_eq, Nat.reduceEqDiff, Option.some.injEq, exists_eq_left', reduceCtorEq, atI_zero, atI_one, atI_two, List.set_cons_zero, List.set_cons_succ, wp_kdE, wp_kdAt, wp_fldE, wp_methE, wp_meth, wp_methRs, wp_star, wp_starT, wp_rng1, wp_rngAt, cut_tail, Option.map_some, SX.S_cat, SX.S_len, LIM, List.append_assoc, q_is, q_words, q_lp, q_rp, q_isp, q_sp, q_col, q_dot, wp_recv h rd_take, q2_letters]
  refine wp_take (c := nm[0]) h hl (.str letters) ?_ (h3 _ (List.getElem_mem h4)) fun r1 => ?_
  · have := get_mid hd h4
    rw [Nat.add_zero] at this
    rw [this]
    simp
  refine wpS_while (fun m r s => ∃ k, 1 ≤ k ∧ k ≤ nm.length ∧ m = nm.length - k ∧ r = [some (.loc p), some (T (nm.take k))] ∧ Rd p l (i + k) dp s ∧ Kp p st s) ?_ _ _ _ ⟨1, Nat.le_refl _, h4, rfl, ?_, r1, Kp.set⟩
  · rintro m r s ⟨k, k1, k2, rfl, rfl, k3, k4⟩
    simp only [wp_run, wp_bind, wp_ok, wp_bad, wpS_seq, Dn.wpS_set, wpS_ret, wpS_if, wpS_expr, wpS_skip, wpS_par, wpS_par3, wpS_asg, wpS_itemS, wpS_fldS, wpS_for, wpS_nx, wpS_rt, wpS_bk, wpS_ct, wpS_bad, wp_lc, wpS_never, thenK_nx, thenK_rt, thenK_bk, thenK_ct, outK_nx, outK_rt, turnK_nx, turnK_rt, turnK_bk, turnK_ct,
  wp_addI, wp_addS, wp_addT, wp_subI, wp_mulI, wp_mulS, wp_fdivI, wp_modI, wp_powI, ltD_int, leD_int, gtD_int, geD_int, eqV_int, eqV_str, wp_itemT, wp_itemR, wp_itemS, lenD_tup, lenD_rol, wp_lenS, intD_int, intD_bl, wp_intS, absD_int, minD_int, strD_str, wp_strI, wp_listS, truR_bl, sliceD_tup, sliceD_rol, wp_sliceS, wp_tup, wp_lst, wp_ifE, wp_andT, wp_orT, wp_notT, wp_appN, startsD_str,
  Dn.envOf, var, con, Dn.bin, app, consA, nilA, test, slice, noO, someO, List.map_cons, List.map_nil, List.cons_append, List.nil_append, List.replicate_succ, List.replicate_zero, List.length_cons, List.length_nil, List.getElem?_cons_zero, List.getElem?_cons_succ, List.set_cons_zero, List.set_cons_succ, List.append_nil,
  Nat.add_one_sub_one, Nat.reduceAdd, Nat.reduceSub, Nat.reduceLeDiff, Nat.sub_zero, Nat.zero_add, if_true, if_false, ite_true, ite_false, Bool.false_eq_true, reduceIte, Bool.not_true, Bool.not_false, Bool.not_eq_true', Nat.zero_le, true_and, and_true, decide_eq_true_eq, Nat.reduceEqDiff, Option.some.injEq, exists_eq_left', reduceCtorEq, atI_zero, atI_one, atI_two, List.set_cons_zero, List.set_cons_succ, wp_kdE, wp_kdAt, wp_fldE, wp_methE, wp_meth, wp_methRs, wp_star, wp_starT, wp_rng1, wp_rngAt, cut_tail, Option.map_some, SX.S_cat, SX.S_len, LIM, List.append_assoc, q_is, q_words, q_lp, q_rp, q_isp, q_sp, q_col, q_dot, List.length_take]
    by_cases c8 : k < 8
    · have e2 : c_LONGEST = .int 8 := rfl
      simp only [e2, wp_run, wp_bind, wp_ok, wp_bad, wpS_seq, Dn.wpS_set, wpS_ret, wpS_if, wpS_expr, wpS_skip, wpS_par, wpS_par3, wpS_asg, wpS_itemS, wpS_fldS, wpS_for, wpS_nx, wpS_rt, wpS_bk, wpS_ct, wpS_bad, wp_lc, wpS_never, thenK_nx, thenK_rt, thenK_bk, thenK_ct, outK_nx, outK_rt, turnK_nx, turnK_rt, turnK_bk, turnK_ct,
  wp_addI, wp_addS, wp_addT, wp_subI, wp_mulI, wp_mulS, wp_fdivI, wp_modI, wp_powI, ltD_int, leD_int, gtD_int, geD_int, eqV_int, eqV_str, wp_itemT, wp_itemR, wp_itemS, lenD_tup, lenD_rol, wp_lenS, intD_int, intD_bl, wp_intS, absD_int, minD_int, strD_str, wp_strI, wp_listS, truR_bl, sliceD_tup, sliceD_rol, wp_sliceS, wp_tup, wp_lst, wp_ifE, wp_andT, wp_orT, wp_notT, wp_appN, startsD_str,
  Dn.envOf, var, con, Dn.bin, app, consA, nilA, test, slice, noO, someO, List.map_cons, List.map_nil, List.cons_append, List.nil_append, List.replicate_succ, List.replicate_zero, List.length_cons, List.length_nil, List.getElem?_cons_zero, List.getElem?_cons_succ, List.set_cons_zero, List.set_cons_succ, List.append_nil,
  Nat.add_one_sub_one, Nat.reduceAdd, Nat.reduceSub, Nat.reduceLeDiff, Nat.sub_zero, Nat.zero_add, if_true, if_false, ite_true, ite_false, Bool.false_eq_true, reduceIte, Bool.not_true, Bool.not_false, Bool.not_eq_true', Nat.zero_le, true_and, and_true, decide_eq_true_eq, Nat.reduceEqDiff, Option.some.injEq, exists_eq_left', reduceCtorEq, atI_zero, atI_one, atI_two, List.set_cons_zero, List.set_cons_succ, wp_kdE, wp_kdAt, wp_fldE, wp_methE, wp_meth, wp_methRs, wp_star, wp_starT, wp_rng1, wp_rngAt, cut_tail, Option.map_some, SX.S_cat, SX.S_len, LIM, List.append_assoc, wp_recv k3 rd_is_at]
      refine ⟨by omega, ?_⟩
      rw [if_pos (by omega)]
      refine wp_is_at k3 (by omega) hl (.str letters) ?_
      by_cases ck : k < nm.length
      · rw [atC_mid hd ck h3]
        simp only [wp_run, wp_bind, wp_ok, wp_bad, wpS_seq, Dn.wpS_set, wpS_ret, wpS_if, wpS_expr, wpS_skip, wpS_par, wpS_par3, wpS_asg, wpS_itemS, wpS_fldS, wpS_for, wpS_nx, wpS_rt, wpS_bk, wpS_ct, wpS_bad, wp_lc, wpS_never, thenK_nx, thenK_rt, thenK_bk, thenK_ct, outK_nx, outK_rt, turnK_nx, turnK_rt, turnK_bk, turnK_ct,
  wp_addI, wp_addS, wp_addT, wp_subI, wp_mulI, wp_mulS, wp_fdivI, wp_modI, wp_powI, ltD_int, leD_int, gtD_int, geD_int, eqV_int, eqV_str, wp_itemT, wp_itemR, wp_itemS, lenD_tup, lenD_rol, wp_lenS, intD_int, intD_bl, wp_intS, absD_int, minD_int, strD_str, wp_strI, wp_listS, truR_bl, sliceD_tup, sliceD_rol, wp_sliceS, wp_tup, wp_lst, wp_ifE, wp_andT, wp_orT, wp_notT, wp_appN, startsD_str,
  Dn.envOf, var, con, Dn.bin, app, consA, nilA, test, slice, noO, someO, List.map_cons, List.map_nil, List.cons_append, List.nil_append, List.replicate_succ, List.replicate_zero, List.length_cons, List.length_nil, List.getElem?_cons_zero, List.getElem?_cons_succ, List.set_cons_zero, List.set_cons_succ, List.append_nil,
  Nat.add_one_sub_one, Nat.reduceAdd, Nat.reduceSub, Nat.reduceLeDiff, Nat.sub_zero, Nat.zero_add, if_true, if_false, ite_true, ite_false, Bool.false_eq_true, reduceIte, Bool.not_true, Bool.not_false, Bool.not_eq_true', Nat.zero_le, true_and, and_true, decide_eq_true_eq, Nat.reduceEqDiff, Option.some.injEq, exists_eq_left', reduceCtorEq, atI_zero, atI_one, atI_two, List.set_cons_zero, List.set_cons_succ, wp_kdE, wp_kdAt, wp_fldE, wp_methE, wp_meth, wp_methRs, wp_star, wp_starT, wp_rng1, wp_rngAt, cut_tail, Option.map_some, SX.S_cat, SX.S_len, LIM, List.append_assoc, q_is, q_words, q_lp, q_rp, q_isp, q_sp, q_col, q_dot, wp_recv k3 rd_take]
        refine wp_take (c := nm[k]) k3 hl (.str letters) (by rw [get_mid hd ck]; simp) (h3 _ (List.getElem_mem ck)) fun r2 => ?_
        simp only [wp_run, wp_bind, wp_ok, wp_bad, wpS_seq, Dn.wpS_set, wpS_ret, wpS_if, wpS_expr, wpS_skip, wpS_par, wpS_par3, wpS_asg, wpS_itemS, wpS_fldS, wpS_for, wpS_nx, wpS_rt, wpS_bk, wpS_ct, wpS_bad, wp_lc, wpS_never, thenK_nx, thenK_rt, thenK_bk, thenK_ct, outK_nx, outK_rt, turnK_nx, turnK_rt, turnK_bk, turnK_ct,
  wp_addI, wp_addS, wp_addT, wp_subI, wp_mulI, wp_mulS, wp_fdivI, wp_modI, wp_powI, ltD_int, leD_int, gtD_int, geD_int, eqV_int, eqV_str, wp_itemT, wp_itemR, wp_itemS, lenD_tup, lenD_rol, wp_lenS, intD_int, intD_bl, wp_intS, absD_int, minD_int, strD_str, wp_strI, wp_listS, truR_bl, sliceD_tup, sliceD_rol, wp_sliceS, wp_tup, wp_lst, wp_ifE, wp_andT, wp_orT, wp_notT, wp_appN, startsD_str,
  Dn.envOf, var, con, Dn.bin, app, consA, nilA, test, slice, noO, someO, List.map_cons, List.map_nil, List.cons_append, List.nil_append, List.replicate_succ, List.replicate_zero, List.length_cons, List.length_nil, List.getElem?_cons_zero, List.getElem?_cons_succ, List.set_cons_zero, List.set_cons_succ, List.append_nil,
  Nat.add_one_sub_one, Nat.reduceAdd, Nat.reduceSub, Nat.reduceLeDiff, Nat.sub_zero, Nat.zero_add, if_true, if_false, ite_true, ite_false, Bool.false_eq_true, reduceIte, Bool.not_true, Bool.not_false, Bool.not_eq_true', Nat.zero_le, true_and, and_true, decide_eq_true_eq, Nat.reduceEqDiff, Option.some.injEq, exists_eq_left', reduceCtorEq, atI_zero, atI_one, atI_two, List.set_cons_zero, List.set_cons_succ, wp_kdE, wp_kdAt, wp_fldE, wp_methE, wp_meth, wp_methRs, wp_star, wp_starT, wp_rng1, wp_rngAt, cut_tail, Option.map_some, SX.S_cat, SX.S_len, LIM, List.append_assoc, take_snoc ck, List.length_take]
        refine ⟨by omega, nm.length - (k + 1), by omega, k + 1, by omega, ck, rfl, rfl, ?_, k4.trans Kp.set⟩
        rw [← Nat.add_assoc]
        exact r2
      · obtain rfl : k = nm.length := by omega
        rcases ho with ho | ho
        · omega
        · rw [atC_end hd ho]
          simp only [wp_run, wp_bind, wp_ok, wp_bad, wpS_seq, Dn.wpS_set, wpS_ret, wpS_if, wpS_expr, wpS_skip, wpS_par, wpS_par3, wpS_asg, wpS_itemS, wpS_fldS, wpS_for, wpS_nx, wpS_rt, wpS_bk, wpS_ct, wpS_bad, wp_lc, wpS_never, thenK_nx, thenK_rt, thenK_bk, thenK_ct, outK_nx, outK_rt, turnK_nx, turnK_rt, turnK_bk, turnK_ct,
  wp_addI, wp_addS, wp_addT, wp_subI, wp_mulI, wp_mulS, wp_fdivI, wp_modI, wp_powI, ltD_int, leD_int, gtD_int, geD_int, eqV_int, eqV_str, wp_itemT, wp_itemR, wp_itemS, lenD_tup, lenD_rol, wp_lenS, intD_int, intD_bl, wp_intS, absD_int, minD_int, strD_str, wp_strI, wp_listS, truR_bl, sliceD_tup, sliceD_rol, wp_sliceS, wp_tup, wp_lst, wp_ifE, wp_andT, wp_orT, wp_notT, wp_appN, startsD_str,
  Dn.envOf, var, con, Dn.bin, app, consA, nilA, test, slice, noO, someO, List.map_cons, List.map_nil, List.cons_append, List.nil_append, List.replicate_succ, List.replicate_zero, List.length_cons, List.length_nil, List.getElem?_cons_zero, List.getElem?_cons_succ, List.set_cons_zero, List.set_cons_succ, List.append_nil,
  Nat.add_one_sub_one, Nat.reduceAdd, Nat.reduceSub, Nat.reduceLeDiff, Nat.sub_zero, Nat.zero_add, if_true, if_false, ite_true, ite_false, Bool.false_eq_true, reduceIte, Bool.not_true, Bool.not_false, Bool.not_eq_true', Nat.zero_le, true_and, and_true, decide_eq_true_eq, Nat.reduceEqDiff, Option.some.injEq, exists_eq_left', reduceCtorEq, atI_zero, atI_one, atI_two, List.set_cons_zero, List.set_cons_succ, wp_kdE, wp_kdAt, wp_fldE, wp_methE, wp_meth, wp_methRs, wp_star, wp_starT, wp_rng1, wp_rngAt, cut_tail, Option.map_some, SX.S_cat, SX.S_len, LIM, List.append_assoc, List.take_length]
          exact ⟨k3, k4⟩
    · obtain rfl : k = nm.length := by omega
      have e2 : c_LONGEST = .int 8 := rfl
      simp only [e2, wp_run, wp_bind, wp_ok, wp_bad, wpS_seq, Dn.wpS_set, wpS_ret, wpS_if, wpS_expr, wpS_skip, wpS_par, wpS_par3, wpS_asg, wpS_itemS, wpS_fldS, wpS_for, wpS_nx, wpS_rt, wpS_bk, wpS_ct, wpS_bad, wp_lc, wpS_never, thenK_nx, thenK_rt, thenK_bk, thenK_ct, outK_nx, outK_rt, turnK_nx, turnK_rt, turnK_bk, turnK_ct,
  wp_addI, wp_addS, wp_addT, wp_subI, wp_mulI, wp_mulS, wp_fdivI, wp_modI, wp_powI, ltD_int, leD_int, gtD_int, geD_int, eqV_int, eqV_str, wp_itemT, wp_itemR, wp_itemS, lenD_tup, lenD_rol, wp_lenS, intD_int, intD_bl, wp_intS, absD_int, minD_int, strD_str, wp_strI, wp_listS, truR_bl, sliceD_tup, sliceD_rol, wp_sliceS, wp_tup, wp_lst, wp_ifE, wp_andT, wp_orT, wp_notT, wp_appN, startsD_str,
  Dn.envOf, var, con, Dn.bin, app, consA, nilA, test, slice, noO, someO, List.map_cons, List.map_nil, List.cons_append, List.nil_append, List.replicate_succ, List.replicate_zero, List.length_cons, List.length_nil, List.getElem?_cons_zero, List.getElem?_cons_succ, List.set_cons_zero, List.set_cons_succ, List.append_nil,
  Nat.add_one_sub_one, Nat.reduceAdd, Nat.reduceSub, Nat.reduceLeDiff, Nat.sub_zero, Nat.zero_add, if_true, if_false, ite_true, ite_false, Bool.false_eq_true, reduceIte, Bool.not_true, Bool.not_false, Bool.not_eq_true', Nat.zero_le, true_and, and_true, decide_eq_true_eq, Nat.reduceEqDiff, Option.some.injEq, exists_eq_left', reduceCtorEq, atI_zero, atI_one, atI_two, List.set_cons_zero, List.set_cons_succ, wp_kdE, wp_kdAt, wp_fldE, wp_methE, wp_meth, wp_methRs, wp_star, wp_starT, wp_rng1, wp_rngAt, cut_tail, Option.map_some, SX.S_cat, SX.S_len, LIM, List.append_assoc, List.take_length]
      refine ⟨by omega, ?_⟩
      rw [if_neg (by omega)]
      exact ⟨k3, k4⟩
  · have e : [nm[0]] = nm.take 1 := by
      rw [← take_snoc h4]
      simp
    rw [e]
/-- numbers -/
theorem num_head : ∀ (n : Nat), 0 < n → ∀ c r, TL.numL n = c :: r → c ≠ 48 := by
  intro n
  induction n using Nat.strongRecOn with
  | _ n ih =>
    intro hn c r e
    by_cases h : n < 10
    · rw [TL.numL_lt h] at e
      cases e
      omega
    · rw [TL.numL_step (by omega)] at e
      cases hq : TL.numL (n / 10) with
      | nil => exact absurd hq (TL.numL_ne _)
      | cons c2 r2 =>
        rw [hq] at e
        cases e
        exact ih (n / 10) (by omega) (by omega) _ _ hq
theorem wp_num {n : Nat} {rest : List Nat} (h : Rd p l i dp st) (hl : l.length ≤ 1000000) (hd : l.drop i = TL.numL n ++ rest) (hn : n < 10 ^ 9) (ho : Off rest digits) :
    wp (F_Reader_read_number [.loc p] st) fun d st' => d = .int (n : Nat) ∧ Rd p l (i + (TL.numL n).length) dp st' ∧ Kp p st st' := by
  have h1 : TL.numL n ≠ [] := TL.numL_ne n
  have h2 : (TL.numL n).length ≤ 9 := TL.numL_len (by decide) hn
  have h3 : ∀ c ∈ TL.numL n, c ∈ digits := fun c hc => mem_digits.mpr (TL.numL_digits n c hc)
  have h6 : intText? (SX.S (TL.numL n)) = some (n : Int) := by
    have e := TL.int_num (n := n) (by omega)
    rw [numS] at e
    exact e
  have h7 : ∀ k, 1 ≤ k → k ≤ (TL.numL n).length → (SX.S ((TL.numL n).take k) == SX.S [48]) = true → k = (TL.numL n).length := fun k k1 k2 e => by
    rw [SX.S_beq_eq] at e
    have e := of_decide_eq_true e
    cases hq : TL.numL n with
    | nil => exact absurd hq h1
    | cons c r =>
      rw [hq] at e
      obtain ⟨k, rfl⟩ : ∃ j, k = j + 1 := ⟨k - 1, by omega⟩
      simp only [List.take_succ_cons, List.cons.injEq] at e
      by_cases hz : 0 < n
      · exact absurd e.1 (num_head n hz c r hq)
      · have : n = 0 := by omega
        subst this
        have h0 : TL.numL 0 = [48] := TL.numL_lt (by decide)
        rw [h0] at k2 hq
        cases hq
        simp at k2 ⊢
        omega
  have h4 : 0 < (TL.numL n).length := List.length_pos_iff.mpr h1
  have h5 := drop_len hd h1
  revert h6 h7 h1 h2 h3 h4 h5 hd
  generalize TL.numL n = nm
  intro hd h1 h2 h3 h6 h7 h4 h5
  unfold F_Reader_read_number b_Reader_read_number
  simp only [wp_run, wp_bind, wp_ok, wp_bad, wpS_seq, Dn.wpS_set, wpS_ret, wpS_if, wpS_expr, wpS_skip, wpS_par, wpS_par3, wpS_asg, wpS_itemS, wpS_fldS, wpS_for, wpS_nx, wpS_rt, wpS_bk, wpS_ct, wpS_bad, wp_lc, wpS_never, thenK_nx, thenK_rt, thenK_bk, thenK_ct, outK_nx, outK_rt, turnK_nx, turnK_rt, turnK_bk, turnK_ct,
  wp_addI, wp_addS, wp_addT, wp_subI, wp_mulI, wp_mulS, wp_fdivI, wp_modI, wp_powI, ltD_int, leD_int, gtD_int, geD_int, eqV_int, eqV_str, wp_itemT, wp_itemR, wp_itemS, lenD_tup, lenD_rol, wp_lenS, intD_int, intD_bl, wp_intS, absD_int, minD_int, strD_str, wp_strI, wp_listS, truR_bl, sliceD_tup, sliceD_rol, wp_sliceS, wp_tup, wp_lst, wp_ifE, wp_andT, wp_orT, wp_notT, wp_appN, startsD_str,
  Dn.envOf, var, con, Dn.bin, app, consA, nilA, test, slice, noO, someO, List.map_cons, List.map_nil, List.cons_append, List.nil_append, List.replicate_succ, List.replicate_zero, List.length_cons, List.length_nil, List.getElem?_cons_zero, List.getElem?_cons_succ, List.set_cons_zero, List.set_cons_succ, List.append_nil,
  Nat.add_one_sub_one, Nat.reduceAdd, Nat.reduceSub, Nat.reduceLeDiff, Nat.sub_zero, Nat.zero_add, if_true, if_false, ite_true, ite_false, Bool.false_eq_true, reduceIte, Bool.not_true, Bool.not_false, Bool.not_eq_true', Nat.zero_le, true_and, and_true, decide_eq_true_eq, Nat.reduceEqDiff, Option.some.injEq, exists_eq_left', reduceCtorEq, atI_zero, atI_one, atI_two, List.set_cons_zero, List.set_cons_succ, wp_kdE, wp_kdAt, wp_fldE, wp_methE, wp_meth, wp_methRs, wp_star, wp_starT, wp_rng1, wp_rngAt, cut_tail, Option.map_some, SX.S_cat, SX.S_len, LIM, List.append_assoc, q_is, q_words, q_lp, q_rp, q_isp, q_sp, q_col, q_dot, wp_recv h rd_take, q2_digits]
  refine wp_take (c := nm[0]) h hl (.str digits) ?_ (h3 _ (List.getElem_mem h4)) fun r1 => ?_
  · have := get_mid hd h4
    rw [Nat.add_zero] at this
    rw [this]
    simp
  have q0 : Str.ofString "0" = SX.S [48] := by rfl
  have fin : ∀ s : Store, Rd p l (i + nm.length) dp s → Kp p st s → (nm.length ≤ 640 ∧ ∃ m : Int, intText? (SX.S nm) = some m ∧ D.int m = D.int (n : Nat) ∧ Rd p l (i + nm.length) dp s ∧ Kp p st s) := fun s a b => ⟨by omega, n, h6, rfl, a, b⟩
  refine wpS_while (fun m r s => ∃ k, 1 ≤ k ∧ k ≤ nm.length ∧ m = nm.length - k ∧ r = [some (.loc p), some (T (nm.take k))] ∧ Rd p l (i + k) dp s ∧ Kp p st s) ?_ _ _ _ ⟨1, Nat.le_refl _, h4, rfl, ?_, r1, Kp.set⟩
  · rintro m r s ⟨k, k1, k2, rfl, rfl, k3, k4⟩
    simp only [wp_run, wp_bind, wp_ok, wp_bad, wpS_seq, Dn.wpS_set, wpS_ret, wpS_if, wpS_expr, wpS_skip, wpS_par, wpS_par3, wpS_asg, wpS_itemS, wpS_fldS, wpS_for, wpS_nx, wpS_rt, wpS_bk, wpS_ct, wpS_bad, wp_lc, wpS_never, thenK_nx, thenK_rt, thenK_bk, thenK_ct, outK_nx, outK_rt, turnK_nx, turnK_rt, turnK_bk, turnK_ct,
  wp_addI, wp_addS, wp_addT, wp_subI, wp_mulI, wp_mulS, wp_fdivI, wp_modI, wp_powI, ltD_int, leD_int, gtD_int, geD_int, eqV_int, eqV_str, wp_itemT, wp_itemR, wp_itemS, lenD_tup, lenD_rol, wp_lenS, intD_int, intD_bl, wp_intS, absD_int, minD_int, strD_str, wp_strI, wp_listS, truR_bl, sliceD_tup, sliceD_rol, wp_sliceS, wp_tup, wp_lst, wp_ifE, wp_andT, wp_orT, wp_notT, wp_appN, startsD_str,
  Dn.envOf, var, con, Dn.bin, app, consA, nilA, test, slice, noO, someO, List.map_cons, List.map_nil, List.cons_append, List.nil_append, List.replicate_succ, List.replicate_zero, List.length_cons, List.length_nil, List.getElem?_cons_zero, List.getElem?_cons_succ, List.set_cons_zero, List.set_cons_succ, List.append_nil,
  Nat.add_one_sub_one, Nat.reduceAdd, Nat.reduceSub, Nat.reduceLeDiff, Nat.sub_zero, Nat.zero_add, if_true, if_false, ite_true, ite_false, Bool.false_eq_true, reduceIte, Bool.not_true, Bool.not_false, Bool.not_eq_true', Nat.zero_le, true_and, and_true, decide_eq_true_eq, Nat.reduceEqDiff, Option.some.injEq, exists_eq_left', reduceCtorEq, atI_zero, atI_one, atI_two, List.set_cons_zero, List.set_cons_succ, wp_kdE, wp_kdAt, wp_fldE, wp_methE, wp_meth, wp_methRs, wp_star, wp_starT, wp_rng1, wp_rngAt, cut_tail, Option.map_some, SX.S_cat, SX.S_len, LIM, List.append_assoc, q_is, q_words, q_lp, q_rp, q_isp, q_sp, q_col, q_dot, q0, List.length_take]
    cases e0 : (SX.S (nm.take k) == SX.S [48]) with
    | true =>
      obtain rfl := h7 k k1 k2 e0
      simp only [wp_run, wp_bind, wp_ok, wp_bad, wpS_seq, Dn.wpS_set, wpS_ret, wpS_if, wpS_expr, wpS_skip, wpS_par, wpS_par3, wpS_asg, wpS_itemS, wpS_fldS, wpS_for, wpS_nx, wpS_rt, wpS_bk, wpS_ct, wpS_bad, wp_lc, wpS_never, thenK_nx, thenK_rt, thenK_bk, thenK_ct, outK_nx, outK_rt, turnK_nx, turnK_rt, turnK_bk, turnK_ct,
  wp_addI, wp_addS, wp_addT, wp_subI, wp_mulI, wp_mulS, wp_fdivI, wp_modI, wp_powI, ltD_int, leD_int, gtD_int, geD_int, eqV_int, eqV_str, wp_itemT, wp_itemR, wp_itemS, lenD_tup, lenD_rol, wp_lenS, intD_int, intD_bl, wp_intS, absD_int, minD_int, strD_str, wp_strI, wp_listS, truR_bl, sliceD_tup, sliceD_rol, wp_sliceS, wp_tup, wp_lst, wp_ifE, wp_andT, wp_orT, wp_notT, wp_appN, startsD_str,
  Dn.envOf, var, con, Dn.bin, app, consA, nilA, test, slice, noO, someO, List.map_cons, List.map_nil, List.cons_append, List.nil_append, List.replicate_succ, List.replicate_zero, List.length_cons, List.length_nil, List.getElem?_cons_zero, List.getElem?_cons_succ, List.set_cons_zero, List.set_cons_succ, List.append_nil,
  Nat.add_one_sub_one, Nat.reduceAdd, Nat.reduceSub, Nat.reduceLeDiff, Nat.sub_zero, Nat.zero_add, if_true, if_false, ite_true, ite_false, Bool.false_eq_true, reduceIte, Bool.not_true, Bool.not_false, Bool.not_eq_true', Nat.zero_le, true_and, and_true, decide_eq_true_eq, Nat.reduceEqDiff, Option.some.injEq, exists_eq_left', reduceCtorEq, atI_zero, atI_one, atI_two, List.set_cons_zero, List.set_cons_succ, wp_kdE, wp_kdAt, wp_fldE, wp_methE, wp_meth, wp_methRs, wp_star, wp_starT, wp_rng1, wp_rngAt, cut_tail, Option.map_some, SX.S_cat, SX.S_len, LIM, List.append_assoc, List.take_length, Nat.min_self]
      exact fin s k3 k4
    | false =>
      have e2 : c_MOST_DIGITS = .int 9 := rfl
      simp only [wp_run, wp_bind, wp_ok, wp_bad, wpS_seq, Dn.wpS_set, wpS_ret, wpS_if, wpS_expr, wpS_skip, wpS_par, wpS_par3, wpS_asg, wpS_itemS, wpS_fldS, wpS_for, wpS_nx, wpS_rt, wpS_bk, wpS_ct, wpS_bad, wp_lc, wpS_never, thenK_nx, thenK_rt, thenK_bk, thenK_ct, outK_nx, outK_rt, turnK_nx, turnK_rt, turnK_bk, turnK_ct,
  wp_addI, wp_addS, wp_addT, wp_subI, wp_mulI, wp_mulS, wp_fdivI, wp_modI, wp_powI, ltD_int, leD_int, gtD_int, geD_int, eqV_int, eqV_str, wp_itemT, wp_itemR, wp_itemS, lenD_tup, lenD_rol, wp_lenS, intD_int, intD_bl, wp_intS, absD_int, minD_int, strD_str, wp_strI, wp_listS, truR_bl, sliceD_tup, sliceD_rol, wp_sliceS, wp_tup, wp_lst, wp_ifE, wp_andT, wp_orT, wp_notT, wp_appN, startsD_str,
  Dn.envOf, var, con, Dn.bin, app, consA, nilA, test, slice, noO, someO, List.map_cons, List.map_nil, List.cons_append, List.nil_append, List.replicate_succ, List.replicate_zero, List.length_cons, List.length_nil, List.getElem?_cons_zero, List.getElem?_cons_succ, List.set_cons_zero, List.set_cons_succ, List.append_nil,
  Nat.add_one_sub_one, Nat.reduceAdd, Nat.reduceSub, Nat.reduceLeDiff, Nat.sub_zero, Nat.zero_add, if_true, if_false, ite_true, ite_false, Bool.false_eq_true, reduceIte, Bool.not_true, Bool.not_false, Bool.not_eq_true', Nat.zero_le, true_and, and_true, decide_eq_true_eq, Nat.reduceEqDiff, Option.some.injEq, exists_eq_left', reduceCtorEq, atI_zero, atI_one, atI_two, List.set_cons_zero, List.set_cons_succ, wp_kdE, wp_kdAt, wp_fldE, wp_methE, wp_meth, wp_methRs, wp_star, wp_starT, wp_rng1, wp_rngAt, cut_tail, Option.map_some, SX.S_cat, SX.S_len, LIM, List.append_assoc, e2, wp_recv k3 rd_is_at, List.length_take]
      refine ⟨by omega, ?_⟩
      by_cases c8 : k < 9
      · rw [if_pos (by omega)]
        refine wp_is_at k3 (by omega) hl (.str digits) ?_
        by_cases ck : k < nm.length
        · rw [atC_mid hd ck h3]
          simp only [wp_run, wp_bind, wp_ok, wp_bad, wpS_seq, Dn.wpS_set, wpS_ret, wpS_if, wpS_expr, wpS_skip, wpS_par, wpS_par3, wpS_asg, wpS_itemS, wpS_fldS, wpS_for, wpS_nx, wpS_rt, wpS_bk, wpS_ct, wpS_bad, wp_lc, wpS_never, thenK_nx, thenK_rt, thenK_bk, thenK_ct, outK_nx, outK_rt, turnK_nx, turnK_rt, turnK_bk, turnK_ct,
  wp_addI, wp_addS, wp_addT, wp_subI, wp_mulI, wp_mulS, wp_fdivI, wp_modI, wp_powI, ltD_int, leD_int, gtD_int, geD_int, eqV_int, eqV_str, wp_itemT, wp_itemR, wp_itemS, lenD_tup, lenD_rol, wp_lenS, intD_int, intD_bl, wp_intS, absD_int, minD_int, strD_str, wp_strI, wp_listS, truR_bl, sliceD_tup, sliceD_rol, wp_sliceS, wp_tup, wp_lst, wp_ifE, wp_andT, wp_orT, wp_notT, wp_appN, startsD_str,
  Dn.envOf, var, con, Dn.bin, app, consA, nilA, test, slice, noO, someO, List.map_cons, List.map_nil, List.cons_append, List.nil_append, List.replicate_succ, List.replicate_zero, List.length_cons, List.length_nil, List.getElem?_cons_zero, List.getElem?_cons_succ, List.set_cons_zero, List.set_cons_succ, List.append_nil,
  Nat.add_one_sub_one, Nat.reduceAdd, Nat.reduceSub, Nat.reduceLeDiff, Nat.sub_zero, Nat.zero_add, if_true, if_false, ite_true, ite_false, Bool.false_eq_true, reduceIte, Bool.not_true, Bool.not_false, Bool.not_eq_true', Nat.zero_le, true_and, and_true, decide_eq_true_eq, Nat.reduceEqDiff, Option.some.injEq, exists_eq_left', reduceCtorEq, atI_zero, atI_one, atI_two, List.set_cons_zero, List.set_cons_succ, wp_kdE, wp_kdAt, wp_fldE, wp_methE, wp_meth, wp_methRs, wp_star, wp_starT, wp_rng1, wp_rngAt, cut_tail, Option.map_some, SX.S_cat, SX.S_len, LIM, List.append_assoc, q_is, q_words, q_lp, q_rp, q_isp, q_sp, q_col, q_dot, wp_recv k3 rd_take]
          refine wp_take (c := nm[k]) k3 hl (.str digits) (by rw [get_mid hd ck]; simp) (h3 _ (List.getElem_mem ck)) fun r2 => ?_
          simp only [wp_run, wp_bind, wp_ok, wp_bad, wpS_seq, Dn.wpS_set, wpS_ret, wpS_if, wpS_expr, wpS_skip, wpS_par, wpS_par3, wpS_asg, wpS_itemS, wpS_fldS, wpS_for, wpS_nx, wpS_rt, wpS_bk, wpS_ct, wpS_bad, wp_lc, wpS_never, thenK_nx, thenK_rt, thenK_bk, thenK_ct, outK_nx, outK_rt, turnK_nx, turnK_rt, turnK_bk, turnK_ct,
  wp_addI, wp_addS, wp_addT, wp_subI, wp_mulI, wp_mulS, wp_fdivI, wp_modI, wp_powI, ltD_int, leD_int, gtD_int, geD_int, eqV_int, eqV_str, wp_itemT, wp_itemR, wp_itemS, lenD_tup, lenD_rol, wp_lenS, intD_int, intD_bl, wp_intS, absD_int, minD_int, strD_str, wp_strI, wp_listS, truR_bl, sliceD_tup, sliceD_rol, wp_sliceS, wp_tup, wp_lst, wp_ifE, wp_andT, wp_orT, wp_notT, wp_appN, startsD_str,
  Dn.envOf, var, con, Dn.bin, app, consA, nilA, test, slice, noO, someO, List.map_cons, List.map_nil, List.cons_append, List.nil_append, List.replicate_succ, List.replicate_zero, List.length_cons, List.length_nil, List.getElem?_cons_zero, List.getElem?_cons_succ, List.set_cons_zero, List.set_cons_succ, List.append_nil,
  Nat.add_one_sub_one, Nat.reduceAdd, Nat.reduceSub, Nat.reduceLeDiff, Nat.sub_zero, Nat.zero_add, if_true, if_false, ite_true, ite_false, Bool.false_eq_true, reduceIte, Bool.not_true, Bool.not_false, Bool.not_eq_true', Nat.zero_le, true_and, and_true, decide_eq_true_eq, Nat.reduceEqDiff, Option.some.injEq, exists_eq_left', reduceCtorEq, atI_zero, atI_one, atI_two, List.set_cons_zero, List.set_cons_succ, wp_kdE, wp_kdAt, wp_fldE, wp_methE, wp_meth, wp_methRs, wp_star, wp_starT, wp_rng1, wp_rngAt, cut_tail, Option.map_some, SX.S_cat, SX.S_len, LIM, List.append_assoc, take_snoc ck, List.length_take]
          refine ⟨by omega, nm.length - (k + 1), by omega, k + 1, by omega, ck, rfl, rfl, ?_, k4.trans Kp.set⟩
          rw [← Nat.add_assoc]
          exact r2
        · obtain rfl : k = nm.length := by omega
          rw [atC_end hd ho]
          simp only [wp_run, wp_bind, wp_ok, wp_bad, wpS_seq, Dn.wpS_set, wpS_ret, wpS_if, wpS_expr, wpS_skip, wpS_par, wpS_par3, wpS_asg, wpS_itemS, wpS_fldS, wpS_for, wpS_nx, wpS_rt, wpS_bk, wpS_ct, wpS_bad, wp_lc, wpS_never, thenK_nx, thenK_rt, thenK_bk, thenK_ct, outK_nx, outK_rt, turnK_nx, turnK_rt, turnK_bk, turnK_ct,
  wp_addI, wp_addS, wp_addT, wp_subI, wp_mulI, wp_mulS, wp_fdivI, wp_modI, wp_powI, ltD_int, leD_int, gtD_int, geD_int, eqV_int, eqV_str, wp_itemT, wp_itemR, wp_itemS, lenD_tup, lenD_rol, wp_lenS, intD_int, intD_bl, wp_intS, absD_int, minD_int, strD_str, wp_strI, wp_listS, truR_bl, sliceD_tup, sliceD_rol, wp_sliceS, wp_tup, wp_lst, wp_ifE, wp_andT, wp_orT, wp_notT, wp_appN, startsD_str,
  Dn.envOf, var, con, Dn.bin, app, consA, nilA, test, slice, noO, someO, List.map_cons, List.map_nil, List.cons_append, List.nil_append, List.replicate_succ, List.replicate_zero, List.length_cons, List.length_nil, List.getElem?_cons_zero, List.getElem?_cons_succ, List.set_cons_zero, List.set_cons_succ, List.append_nil,
  Nat.add_one_sub_one, Nat.reduceAdd, Nat.reduceSub, Nat.reduceLeDiff, Nat.sub_zero, Nat.zero_add, if_true, if_false, ite_true, ite_false, Bool.false_eq_true, reduceIte, Bool.not_true, Bool.not_false, Bool.not_eq_true', Nat.zero_le, true_and, and_true, decide_eq_true_eq, Nat.reduceEqDiff, Option.some.injEq, exists_eq_left', reduceCtorEq, atI_zero, atI_one, atI_two, List.set_cons_zero, List.set_cons_succ, wp_kdE, wp_kdAt, wp_fldE, wp_methE, wp_meth, wp_methRs, wp_star, wp_starT, wp_rng1, wp_rngAt, cut_tail, Option.map_some, SX.S_cat, SX.S_len, LIM, List.append_assoc, List.take_length, Nat.min_self]
          exact fin s k3 k4
      · obtain rfl : k = nm.length := by omega
        rw [if_neg (by omega)]
        simp only [wp_run, wp_bind, wp_ok, wp_bad, wpS_seq, Dn.wpS_set, wpS_ret, wpS_if, wpS_expr, wpS_skip, wpS_par, wpS_par3, wpS_asg, wpS_itemS, wpS_fldS, wpS_for, wpS_nx, wpS_rt, wpS_bk, wpS_ct, wpS_bad, wp_lc, wpS_never, thenK_nx, thenK_rt, thenK_bk, thenK_ct, outK_nx, outK_rt, turnK_nx, turnK_rt, turnK_bk, turnK_ct,
  wp_addI, wp_addS, wp_addT, wp_subI, wp_mulI, wp_mulS, wp_fdivI, wp_modI, wp_powI, ltD_int, leD_int, gtD_int, geD_int, eqV_int, eqV_str, wp_itemT, wp_itemR, wp_itemS, lenD_tup, lenD_rol, wp_lenS, intD_int, intD_bl, wp_intS, absD_int, minD_int, strD_str, wp_strI, wp_listS, truR_bl, sliceD_tup, sliceD_rol, wp_sliceS, wp_tup, wp_lst, wp_ifE, wp_andT, wp_orT, wp_notT, wp_appN, startsD_str,
  Dn.envOf, var, con, Dn.bin, app, consA, nilA, test, slice, noO, someO, List.map_cons, List.map_nil, List.cons_append, List.nil_append, List.replicate_succ, List.replicate_zero, List.length_cons, List.length_nil, List.getElem?_cons_zero, List.getElem?_cons_succ, List.set_cons_zero, List.set_cons_succ, List.append_nil,
  Nat.add_one_sub_one, Nat.reduceAdd, Nat.reduceSub, Nat.reduceLeDiff, Nat.sub_zero, Nat.zero_add, if_true, if_false, ite_true, ite_false, Bool.false_eq_true, reduceIte, Bool.not_true, Bool.not_false, Bool.not_eq_true', Nat.zero_le, true_and, and_true, decide_eq_true_eq, Nat.reduceEqDiff, Option.some.injEq, exists_eq_left', reduceCtorEq, atI_zero, atI_one, atI_two, List.set_cons_zero, List.set_cons_succ, wp_kdE, wp_kdAt, wp_fldE, wp_methE, wp_meth, wp_methRs, wp_star, wp_starT, wp_rng1, wp_rngAt, cut_tail, Option.map_some, SX.S_cat, SX.S_len, LIM, List.append_assoc, List.take_length, Nat.min_self]
        exact fin s k3 k4
  · have e : [nm[0]] = nm.take 1 := by
      rw [← take_snoc h4]
      simp
    rw [e]
/-- one sign -/
theorem wp_take1 {x : D} {cs : List Nat} {c : Nat} {rest : List Nat} (h : Rd p l i dp st) (hl : l.length ≤ 1000000) (hs : Sgn st x cs) (hd : l.drop i = c :: rest) (hm : c ∈ cs) : wp (F_Reader_take [.loc p, x] st) fun d st' => d = T [c] ∧ Rd p l (i + 1) dp st' ∧ Kp p st st' := by
  refine wp_take h hl hs (c := c) ?_ hm fun r1 => ⟨rfl, r1, Kp.set⟩
  have := get_mid (nm := [c]) (rest := rest) (k := 0) hd (by simp)
  simpa using this
end
end T91


set_option Elab.async false
set_option linter.all false
set_option maxRecDepth 100000
set_option maxHeartbeats 4000000
set_option autoImplicit false
namespace T91
open PySem Dn
section
variable {l : List Nat} {i j dp e p : Nat} {st st' st2 : Store} {Q : D → Store → Prop}
/-! ### heads -/
def heads : List (List Nat) := [[97, 108, 108], [97, 110, 100], [98, 111, 116, 116, 111, 109], [99, 111, 117, 110, 116], [100, 101, 101, 112], [104, 97, 115], [105, 115], [108, 101, 102, 116], [109, 111, 100, 101], [110, 111, 116], [111, 110], [111, 114], [116, 111, 112]]
theorem q3_heads : c_HEADS = .tup (heads.map T) := by rfl
theorem any_T {w : List Nat} : ∀ hs : List (List Nat), ((hs.map T).any fun y => eqF y (T w)) = decide (w ∈ hs)
  | [] => rfl
  | x :: hs => by
    rw [List.map_cons, List.any_cons, any_T hs]
    have e : eqF (T x) (T w) = decide (x = w) := by
      show (SX.S x == SX.S w) = _
      rw [SX.S_beq_eq]
    rw [e]
    by_cases h : x = w
    · simp [h]
    · have h2 : ¬ w = x := fun z => h z.symm
      simp [h, h2]
theorem all_T : ∀ hs : List (List Nat), (hs.map T).all flatD = true
  | [] => rfl
  | x :: hs => by
    rw [List.map_cons, List.all_cons, all_T hs]
    rfl
theorem in_T {neg : Bool} {w : List Nat} {hs : List (List Nat)} : inV' neg (T w) (.tup (hs.map T)) st = .ok (.bl (if neg then !decide (w ∈ hs) else decide (w ∈ hs))) st := by
  have e : inD (T w) (.tup (hs.map T)) st = .ok (decide (w ∈ hs)) st := by
    unfold inD
    simp only [seqD, all_T, any_T]
    rfl
  unfold inV'
  rw [e]
  rfl
theorem starts_S {a b : List Nat} : Txt.startswith (SX.S a) (SX.S b) = decide (b <+: a) := by
  unfold Txt.startswith
  rw [PySem.StrLaws.subAt_eq, SX.S_len, SX.S_len]
  simp only [List.drop_zero, Nat.zero_add]
  by_cases h : b <+: a
  · rw [decide_eq_true h]
    obtain ⟨r, rfl⟩ := h
    simp
  · rw [decide_eq_false h]
    by_cases hl : b.length ≤ a.length
    · simp only [hl, decide_true, Bool.true_and]
      rw [beq_eq_false_iff_ne]
      intro e
      refine h ⟨a.drop b.length, ?_⟩
      have e2 : a.take b.length = b := e
      have e3 := List.take_append_drop b.length a
      rw [e2] at e3
      exact e3
    · simp only [hl, decide_false, Bool.false_and]
/-- the signs that may come next -/
def nexts (f : List Nat) (hs : List (List Nat)) : List Nat := hs.filterMap fun w => if f <+: w then w[f.length]? else none
theorem wp_nexts {r0 r1 r2 r3 : Option D} {f : List Nat} (hr : r2 = some (T f)) (hlong : ∀ w ∈ heads, f <+: w → f.length < w.length) (hb : ∀ w ∈ heads, w.length ≤ 100) (hf : f.length ≤ 100)
    (h : ∀ s, Ext st s → cellL s st.length = some ((nexts f heads).map fun c => T [c]) → Q (.loc st.length) s) :
    wp (lcN [] (.nm 3) (test (meth "str" startsD (var 3) (consA (var 2) nilA))) (Dn.bin itemD (var 3) (app lenD (consA (var 2) nilA))) (wipeE [r0, r1, r2, r3] [3]) st.length (heads.map T) (st ++ [.lst []])) Q := by
  subst hr
  refine wp_lcN (fun rest s => ∃ done todo, heads = done ++ todo ∧ rest = todo.map T ∧ cellL s st.length = some ((nexts f done).map fun c => T [c]) ∧ Ext st s) (fun _ _ _ => oks_nil) ?_ ?_ _ _ ⟨[], heads, rfl, rfl, cellL_of get_last, Ext.push⟩
  · rintro s ⟨done, todo, h1, h2, h3, h4⟩
    have : todo = [] := by cases todo with
      | nil => rfl
      | cons x y => cases h2
    subst this
    rw [List.append_nil] at h1
    subst h1
    exact h s h4 h3
  · rintro d rest s ⟨done, todo, h1, h2, h3, h4⟩
    cases todo with
    | nil => cases h2
    | cons w todo =>
      simp only [List.map_cons, List.cons.injEq] at h2
      obtain ⟨rfl, rfl⟩ := h2
      have hw : w ∈ heads := by rw [h1]; simp
      have hdl : done.length < 1000 := by
        have := congrArg List.length h1
        have e : heads.length = 13 := rfl
        simp at this
        omega
      refine ⟨_, rfl, ?_⟩
      simp only [wp_run, wp_bind, wp_ok, wp_bad, wpS_seq, Dn.wpS_set, wpS_ret, wpS_if, wpS_expr, wpS_skip, wpS_par, wpS_par3, wpS_asg, wpS_itemS, wpS_fldS, wpS_for, wpS_nx, wpS_rt, wpS_bk, wpS_ct, wpS_bad, wp_lc, wpS_never, thenK_nx, thenK_rt, thenK_bk, thenK_ct, outK_nx, outK_rt, turnK_nx, turnK_rt, turnK_bk, turnK_ct,
  wp_addI, wp_addS, wp_addT, wp_subI, wp_mulI, wp_mulS, wp_fdivI, wp_modI, wp_powI, ltD_int, leD_int, gtD_int, geD_int, eqV_int, eqV_str, wp_itemT, wp_itemR, wp_itemS, lenD_tup, lenD_rol, wp_lenS, intD_int, intD_bl, wp_intS, absD_int, minD_int, strD_str, wp_strI, wp_listS, truR_bl, sliceD_tup, sliceD_rol, wp_sliceS, wp_tup, wp_lst, wp_ifE, wp_andT, wp_orT, wp_notT, wp_appN, startsD_str,
  Dn.envOf, var, con, Dn.bin, app, consA, nilA, test, slice, noO, someO, List.map_cons, List.map_nil, List.cons_append, List.nil_append, List.replicate_succ, List.replicate_zero, List.length_cons, List.length_nil, List.getElem?_cons_zero, List.getElem?_cons_succ, List.set_cons_zero, List.set_cons_succ, List.append_nil,
  Nat.add_one_sub_one, Nat.reduceAdd, Nat.reduceSub, Nat.reduceLeDiff, Nat.sub_zero, Nat.zero_add, if_true, if_false, ite_true, ite_false, Bool.false_eq_true, reduceIte, Bool.not_true, Bool.not_false, Bool.not_eq_true', Nat.zero_le, true_and, and_true, decide_eq_true_eq, Nat.reduceEqDiff, Option.some.injEq, exists_eq_left', reduceCtorEq, atI_zero, atI_one, atI_two, List.set_cons_zero, List.set_cons_succ, wp_kdE, wp_kdAt, wp_fldE, wp_methE, wp_meth, wp_methRs, wp_star, wp_starT, wp_rng1, wp_rngAt, cut_tail, Option.map_some, SX.S_cat, SX.S_len, LIM, List.append_assoc, wipeE, starts_S]
      have en : nexts f (done ++ [w]) = nexts f done ++ (if f <+: w then w[f.length]?.toList else []) := by
        unfold nexts
        rw [List.filterMap_append]
        congr 1
        by_cases c : f <+: w
        · simp only [List.filterMap_cons, List.filterMap_nil, if_pos c]
          cases w[f.length]? <;> rfl
        · simp only [List.filterMap_cons, List.filterMap_nil, if_neg c]
      by_cases c : f <+: w
      · rw [if_pos c]
        have hlt := hlong w hw c
        have hwl := hb w hw
        rw [if_pos c] at en
        have hx : w[f.length]? = some w[f.length] := by simp
        refine ⟨by omega, by omega, w[f.length], atI_of (by simpa using hx), _, h3, ?_, done ++ [w], todo, by rw [h1]; simp, rfl, ?_, h4.set (Nat.le_refl _)⟩
        · rw [List.length_map]
          have : (nexts f done).length ≤ done.length := List.length_filterMap_le _ _
          show _ < 4000000
          omega
        · rw [cellL_of (set_get (cellL_some h3)), en, hx]
          simp
      · rw [if_neg c]
        rw [if_neg c, List.append_nil] at en
        exact ⟨done ++ [w], todo, by rw [h1]; simp, rfl, by rw [en]; exact h3, h4⟩
/-- one of the heads -/
theorem wp_word {w rest : List Nat} (h : Rd p l i dp st) (hl : l.length ≤ 1000000) (hd : l.drop i = w ++ rest) (hw : w ∈ heads) (hp : ∀ k, k < w.length → w.take k ∉ heads) :
    wp (F_Reader_read_word [.loc p, c_HEADS] st) fun d st' => d = T w ∧ Rd p l (i + w.length) dp st' ∧ Kp p st st' := by
  have hb : ∀ w ∈ heads, w.length ≤ 100 := by decide
  have hwl := hb w hw
  unfold F_Reader_read_word b_Reader_read_word
  rw [q3_heads]
  simp only [wp_run, wp_bind, wp_ok, wp_bad, wpS_seq, Dn.wpS_set, wpS_ret, wpS_if, wpS_expr, wpS_skip, wpS_par, wpS_par3, wpS_asg, wpS_itemS, wpS_fldS, wpS_for, wpS_nx, wpS_rt, wpS_bk, wpS_ct, wpS_bad, wp_lc, wpS_never, thenK_nx, thenK_rt, thenK_bk, thenK_ct, outK_nx, outK_rt, turnK_nx, turnK_rt, turnK_bk, turnK_ct,
  wp_addI, wp_addS, wp_addT, wp_subI, wp_mulI, wp_mulS, wp_fdivI, wp_modI, wp_powI, ltD_int, leD_int, gtD_int, geD_int, eqV_int, eqV_str, wp_itemT, wp_itemR, wp_itemS, lenD_tup, lenD_rol, wp_lenS, intD_int, intD_bl, wp_intS, absD_int, minD_int, strD_str, wp_strI, wp_listS, truR_bl, sliceD_tup, sliceD_rol, wp_sliceS, wp_tup, wp_lst, wp_ifE, wp_andT, wp_orT, wp_notT, wp_appN, startsD_str,
  Dn.envOf, var, con, Dn.bin, app, consA, nilA, test, slice, noO, someO, List.map_cons, List.map_nil, List.cons_append, List.nil_append, List.replicate_succ, List.replicate_zero, List.length_cons, List.length_nil, List.getElem?_cons_zero, List.getElem?_cons_succ, List.set_cons_zero, List.set_cons_succ, List.append_nil,
  Nat.add_one_sub_one, Nat.reduceAdd, Nat.reduceSub, Nat.reduceLeDiff, Nat.sub_zero, Nat.zero_add, if_true, if_false, ite_true, ite_false, Bool.false_eq_true, reduceIte, Bool.not_true, Bool.not_false, Bool.not_eq_true', Nat.zero_le, true_and, and_true, decide_eq_true_eq, Nat.reduceEqDiff, Option.some.injEq, exists_eq_left', reduceCtorEq, atI_zero, atI_one, atI_two, List.set_cons_zero, List.set_cons_succ, wp_kdE, wp_kdAt, wp_fldE, wp_methE, wp_meth, wp_methRs, wp_star, wp_starT, wp_rng1, wp_rngAt, cut_tail, Option.map_some, SX.S_cat, SX.S_len, LIM, List.append_assoc, q_is, q_words, q_lp, q_rp, q_isp, q_sp, q_col, q_dot]
  have q0 : Str.ofString "" = SX.S [] := by rfl
  rw [q0]
  refine wpS_while (fun m r s => ∃ k o, k ≤ w.length ∧ m = w.length - k ∧ r = [some (.loc p), some (.tup (heads.map T)), some (T (w.take k)), o] ∧ Rd p l (i + k) dp s ∧ Kp p st s) ?_ _ _ _ ⟨0, none, Nat.zero_le _, rfl, rfl, h, Kp.refl⟩
  rintro m r s ⟨k, o, k1, rfl, rfl, k3, k4⟩
  simp only [wp_run, wp_bind, wp_ok, wp_bad, wpS_seq, Dn.wpS_set, wpS_ret, wpS_if, wpS_expr, wpS_skip, wpS_par, wpS_par3, wpS_asg, wpS_itemS, wpS_fldS, wpS_for, wpS_nx, wpS_rt, wpS_bk, wpS_ct, wpS_bad, wp_lc, wpS_never, thenK_nx, thenK_rt, thenK_bk, thenK_ct, outK_nx, outK_rt, turnK_nx, turnK_rt, turnK_bk, turnK_ct,
  wp_addI, wp_addS, wp_addT, wp_subI, wp_mulI, wp_mulS, wp_fdivI, wp_modI, wp_powI, ltD_int, leD_int, gtD_int, geD_int, eqV_int, eqV_str, wp_itemT, wp_itemR, wp_itemS, lenD_tup, lenD_rol, wp_lenS, intD_int, intD_bl, wp_intS, absD_int, minD_int, strD_str, wp_strI, wp_listS, truR_bl, sliceD_tup, sliceD_rol, wp_sliceS, wp_tup, wp_lst, wp_ifE, wp_andT, wp_orT, wp_notT, wp_appN, startsD_str,
  Dn.envOf, var, con, Dn.bin, app, consA, nilA, test, slice, noO, someO, List.map_cons, List.map_nil, List.cons_append, List.nil_append, List.replicate_succ, List.replicate_zero, List.length_cons, List.length_nil, List.getElem?_cons_zero, List.getElem?_cons_succ, List.set_cons_zero, List.set_cons_succ, List.append_nil,
  Nat.add_one_sub_one, Nat.reduceAdd, Nat.reduceSub, Nat.reduceLeDiff, Nat.sub_zero, Nat.zero_add, if_true, if_false, ite_true, ite_false, Bool.false_eq_true, reduceIte, Bool.not_true, Bool.not_false, Bool.not_eq_true', Nat.zero_le, true_and, and_true, decide_eq_true_eq, Nat.reduceEqDiff, Option.some.injEq, exists_eq_left', reduceCtorEq, atI_zero, atI_one, atI_two, List.set_cons_zero, List.set_cons_succ, wp_kdE, wp_kdAt, wp_fldE, wp_methE, wp_meth, wp_methRs, wp_star, wp_starT, wp_rng1, wp_rngAt, cut_tail, Option.map_some, SX.S_cat, SX.S_len, LIM, List.append_assoc, in_T]
  by_cases ck : k < w.length
  · have hn := hp k ck
    simp only [decide_eq_false hn, wp_run, wp_bind, wp_ok, wp_bad, wpS_seq, Dn.wpS_set, wpS_ret, wpS_if, wpS_expr, wpS_skip, wpS_par, wpS_par3, wpS_asg, wpS_itemS, wpS_fldS, wpS_for, wpS_nx, wpS_rt, wpS_bk, wpS_ct, wpS_bad, wp_lc, wpS_never, thenK_nx, thenK_rt, thenK_bk, thenK_ct, outK_nx, outK_rt, turnK_nx, turnK_rt, turnK_bk, turnK_ct,
  wp_addI, wp_addS, wp_addT, wp_subI, wp_mulI, wp_mulS, wp_fdivI, wp_modI, wp_powI, ltD_int, leD_int, gtD_int, geD_int, eqV_int, eqV_str, wp_itemT, wp_itemR, wp_itemS, lenD_tup, lenD_rol, wp_lenS, intD_int, intD_bl, wp_intS, absD_int, minD_int, strD_str, wp_strI, wp_listS, truR_bl, sliceD_tup, sliceD_rol, wp_sliceS, wp_tup, wp_lst, wp_ifE, wp_andT, wp_orT, wp_notT, wp_appN, startsD_str,
  Dn.envOf, var, con, Dn.bin, app, consA, nilA, test, slice, noO, someO, List.map_cons, List.map_nil, List.cons_append, List.nil_append, List.replicate_succ, List.replicate_zero, List.length_cons, List.length_nil, List.getElem?_cons_zero, List.getElem?_cons_succ, List.set_cons_zero, List.set_cons_succ, List.append_nil,
  Nat.add_one_sub_one, Nat.reduceAdd, Nat.reduceSub, Nat.reduceLeDiff, Nat.sub_zero, Nat.zero_add, if_true, if_false, ite_true, ite_false, Bool.false_eq_true, reduceIte, Bool.not_true, Bool.not_false, Bool.not_eq_true', Nat.zero_le, true_and, and_true, decide_eq_true_eq, Nat.reduceEqDiff, Option.some.injEq, exists_eq_left', reduceCtorEq, atI_zero, atI_one, atI_two, List.set_cons_zero, List.set_cons_succ, wp_kdE, wp_kdAt, wp_fldE, wp_methE, wp_meth, wp_methRs, wp_star, wp_starT, wp_rng1, wp_rngAt, cut_tail, Option.map_some, SX.S_cat, SX.S_len, LIM, List.append_assoc, wp_recv k3 rd_take, seqW]
    refine wp_nexts rfl (fun v hv hpre => ?_) hb (by rw [List.length_take]; omega) fun s2 hE hc => ?_
    · by_cases c : (w.take k).length < v.length
      · exact c
      · have e1 := hpre.eq_of_length_le (by omega)
        rw [e1] at hn
        exact absurd hv hn
    · have hm : w[k] ∈ nexts (w.take k) heads := by
        unfold nexts
        rw [List.mem_filterMap]
        refine ⟨w, hw, ?_⟩
        rw [if_pos (List.take_prefix _ _), List.length_take, Nat.min_eq_left k1]
        simp
      have k3' : Rd p l (i + k) dp s2 := hE.get k3
      refine wp_take (c := w[k]) k3' hl (.seq (x := .loc s.length) hc) (by rw [get_mid hd ck]; simp) hm fun r2 => ?_
      simp only [wp_run, wp_bind, wp_ok, wp_bad, wpS_seq, Dn.wpS_set, wpS_ret, wpS_if, wpS_expr, wpS_skip, wpS_par, wpS_par3, wpS_asg, wpS_itemS, wpS_fldS, wpS_for, wpS_nx, wpS_rt, wpS_bk, wpS_ct, wpS_bad, wp_lc, wpS_never, thenK_nx, thenK_rt, thenK_bk, thenK_ct, outK_nx, outK_rt, turnK_nx, turnK_rt, turnK_bk, turnK_ct,
  wp_addI, wp_addS, wp_addT, wp_subI, wp_mulI, wp_mulS, wp_fdivI, wp_modI, wp_powI, ltD_int, leD_int, gtD_int, geD_int, eqV_int, eqV_str, wp_itemT, wp_itemR, wp_itemS, lenD_tup, lenD_rol, wp_lenS, intD_int, intD_bl, wp_intS, absD_int, minD_int, strD_str, wp_strI, wp_listS, truR_bl, sliceD_tup, sliceD_rol, wp_sliceS, wp_tup, wp_lst, wp_ifE, wp_andT, wp_orT, wp_notT, wp_appN, startsD_str,
  Dn.envOf, var, con, Dn.bin, app, consA, nilA, test, slice, noO, someO, List.map_cons, List.map_nil, List.cons_append, List.nil_append, List.replicate_succ, List.replicate_zero, List.length_cons, List.length_nil, List.getElem?_cons_zero, List.getElem?_cons_succ, List.set_cons_zero, List.set_cons_succ, List.append_nil,
  Nat.add_one_sub_one, Nat.reduceAdd, Nat.reduceSub, Nat.reduceLeDiff, Nat.sub_zero, Nat.zero_add, if_true, if_false, ite_true, ite_false, Bool.false_eq_true, reduceIte, Bool.not_true, Bool.not_false, Bool.not_eq_true', Nat.zero_le, true_and, and_true, decide_eq_true_eq, Nat.reduceEqDiff, Option.some.injEq, exists_eq_left', reduceCtorEq, atI_zero, atI_one, atI_two, List.set_cons_zero, List.set_cons_succ, wp_kdE, wp_kdAt, wp_fldE, wp_methE, wp_meth, wp_methRs, wp_star, wp_starT, wp_rng1, wp_rngAt, cut_tail, Option.map_some, SX.S_cat, SX.S_len, LIM, List.append_assoc, take_snoc ck, List.length_take]
      refine ⟨by omega, w.length - (k + 1), by omega, k + 1, o, ck, rfl, rfl, ?_, (k4.trans fun i c _ h => hE.get h).trans Kp.set⟩
      rw [← Nat.add_assoc]
      exact r2
  · obtain rfl : k = w.length := by omega
    rw [List.take_length]
    simp only [decide_eq_true hw, wp_run, wp_bind, wp_ok, wp_bad, wpS_seq, Dn.wpS_set, wpS_ret, wpS_if, wpS_expr, wpS_skip, wpS_par, wpS_par3, wpS_asg, wpS_itemS, wpS_fldS, wpS_for, wpS_nx, wpS_rt, wpS_bk, wpS_ct, wpS_bad, wp_lc, wpS_never, thenK_nx, thenK_rt, thenK_bk, thenK_ct, outK_nx, outK_rt, turnK_nx, turnK_rt, turnK_bk, turnK_ct,
  wp_addI, wp_addS, wp_addT, wp_subI, wp_mulI, wp_mulS, wp_fdivI, wp_modI, wp_powI, ltD_int, leD_int, gtD_int, geD_int, eqV_int, eqV_str, wp_itemT, wp_itemR, wp_itemS, lenD_tup, lenD_rol, wp_lenS, intD_int, intD_bl, wp_intS, absD_int, minD_int, strD_str, wp_strI, wp_listS, truR_bl, sliceD_tup, sliceD_rol, wp_sliceS, wp_tup, wp_lst, wp_ifE, wp_andT, wp_orT, wp_notT, wp_appN, startsD_str,
  Dn.envOf, var, con, Dn.bin, app, consA, nilA, test, slice, noO, someO, List.map_cons, List.map_nil, List.cons_append, List.nil_append, List.replicate_succ, List.replicate_zero, List.length_cons, List.length_nil, List.getElem?_cons_zero, List.getElem?_cons_succ, List.set_cons_zero, List.set_cons_succ, List.append_nil,
  Nat.add_one_sub_one, Nat.reduceAdd, Nat.reduceSub, Nat.reduceLeDiff, Nat.sub_zero, Nat.zero_add, if_true, if_false, ite_true, ite_false, Bool.false_eq_true, reduceIte, Bool.not_true, Bool.not_false, Bool.not_eq_true', Nat.zero_le, true_and, and_true, decide_eq_true_eq, Nat.reduceEqDiff, Option.some.injEq, exists_eq_left', reduceCtorEq, atI_zero, atI_one, atI_two, List.set_cons_zero, List.set_cons_succ, wp_kdE, wp_kdAt, wp_fldE, wp_methE, wp_meth, wp_methRs, wp_star, wp_starT, wp_rng1, wp_rngAt, cut_tail, Option.map_some, SX.S_cat, SX.S_len, LIM, List.append_assoc]
    exact ⟨k3, k4⟩
end
end T91


set_option Elab.async false
set_option linter.all false
set_option maxRecDepth 100000
set_option maxHeartbeats 4000000
set_option autoImplicit false
namespace T91
open PySem Dn
/-! ### data that are plain -/
def PyOk (k : Nat) (d : D) : Prop := ∃ q : PyData, (∀ st n, k < n → pyD st n d = some q) ∧ q.canLay0 = true ∧ q.depth ≤ k
theorem PyOk.mono {k j : Nat} {d : D} (h : PyOk k d) (hk : k ≤ j) : PyOk j d := by
  obtain ⟨q, h1, h2, h3⟩ := h
  exact ⟨q, fun st n hn => h1 st n (by omega), h2, by omega⟩
theorem pyOk_T {l : List Nat} (h : Tok' l) : PyOk 0 (T l) := by
  refine ⟨.str (SX.S l), fun st n hn => ?_, ?_, ?_⟩
  · obtain ⟨m, rfl⟩ : ∃ m, n = m + 1 := ⟨n - 1, by omega⟩
    rw [pyD]
  · simp [PyData.canLay0, strOk_S h]
  · simp [PyData.depth]
theorem pyOk_int {i : Int} : PyOk 0 (.int i) := by
  refine ⟨.int i, fun st n hn => ?_, ?_, ?_⟩
  · obtain ⟨m, rfl⟩ : ∃ m, n = m + 1 := ⟨n - 1, by omega⟩
    rw [pyD]
  · simp [PyData.canLay0]
  · simp [PyData.depth]
theorem pyOk_all {k : Nat} : ∀ {ds : List D}, (∀ d ∈ ds, PyOk k d) → ∃ qs : List PyData, qs.length = ds.length ∧ (∀ st n, k < n → pyDs st n ds = some qs) ∧ PyData.canLayAll0 qs = true ∧ PyData.depthAll qs ≤ k
  | [], _ => ⟨[], rfl, fun _ _ _ => by simp [pyDs], by simp [PyData.canLayAll0], by simp [PyData.depthAll]⟩
  | d :: ds, h => by
    obtain ⟨q, h1, h2, h3⟩ := h d List.mem_cons_self
    obtain ⟨qs, k0, k1, k2, k3⟩ := pyOk_all fun x hx => h x (List.mem_cons_of_mem _ hx)
    refine ⟨q :: qs, by simp [k0], fun st n hn => ?_, ?_, ?_⟩
    · rw [pyDs, h1 st n hn, k1 st n hn]
    · simp [PyData.canLayAll0, h2, k2]
    · simp only [PyData.depthAll]
      omega
theorem pyOk_tup {k : Nat} {ds : List D} (h : ∀ d ∈ ds, PyOk k d) : PyOk (k + 1) (.tup ds) := by
  obtain ⟨qs, h0, h1, h2, h3⟩ := pyOk_all h
  refine ⟨.tuple qs, fun st n hn => ?_, ?_, ?_⟩
  · obtain ⟨m, rfl⟩ : ∃ m, n = m + 1 := ⟨n - 1, by omega⟩
    rw [pyD, h1 st m (by omega)]
    rfl
  · simpa [PyData.canLay0] using h2
  · simp only [PyData.depth]
    omega
/-- a tuple compared with () -/
theorem eq_tup0 {neg : Bool} {ds : List D} {k : Nat} {st : Store} (h : ∀ d ∈ ds, PyOk k d) (hk : k ≤ 58) : eqV' neg (.tup ds) (.tup []) st = .ok (.bl (if neg then !ds.isEmpty else ds.isEmpty)) st := by
  obtain ⟨qs, h0, h1, h2, h3⟩ := pyOk_all h
  have e1 : pyD st 60 (.tup ds) = some (.tuple qs) := by
    rw [pyD, h1 st 59 (by omega)]
    rfl
  have e2 : pyD st 60 (.tup []) = some (.tuple []) := by
    rw [pyD, pyDs]
    rfl
  have s1 : SeqAt.shaped (.tuple qs) = true := by
    unfold SeqAt.shaped
    simp [PyData.canLay0, h2, PyData.depth]
    omega
  have s2 : SeqAt.shaped (.tuple []) = true := by decide
  unfold eqV' blR eqD
  rw [if_neg (by simp [scalD]), e1, e2]
  simp only [s1, s2, and_self, if_true]
  cases ds with
  | nil =>
    have : qs = [] := List.length_eq_zero_iff.mp h0
    subst this
    rfl
  | cons d ds =>
    cases qs with
    | nil => cases h0
    | cons q qs => simp [PyData.eqv, PyData.eqvAll]
theorem it_py {s : Sr} {i : It} (h : ItOk s i) : PyOk 0 i.d := by
  cases i with
  | nm l => exact pyOk_T (it_tok h)
  | sg c => exact pyOk_T (it_tok h)
  | no n => exact pyOk_int
theorem its_py : ∀ {ss : List Sr} {is : List It}, ItsOk ss is → ∀ d ∈ is.map It.d, PyOk 0 d
  | _, _, .nil => fun _ h => by cases h
  | _, _, .cons h t => fun x hx => by
    rcases List.mem_cons.mp hx with e | e
    · rw [e]
      exact it_py h
    · exact its_py t x e
theorem names_py {k : List (List Nat)} (h : ∀ x ∈ k, Nm x) : ∀ d ∈ k.map T, PyOk 0 d := fun d hd => by
  obtain ⟨x, hx, rfl⟩ := List.mem_map.mp hd
  exact pyOk_T (nm_tok (h x hx))
theorem wd_py : ∀ {w : Wd}, w.ok → PyOk (w.ht + 2) w.d
  | .sim h its, k => (pyOk_tup (k := 0) (ds := T h.t :: its.map It.d) fun d hd => by
      rcases List.mem_cons.mp hd with e | e
      · rw [e]
        exact pyOk_T (h9_tok h)
      · exact its_py k d e).mono (by omega)
  | .is m k, h => (pyOk_tup (k := 1) (ds := [T l_is, T m, .tup (k.map T)]) fun d hd => by
      simp only [List.mem_cons, List.not_mem_nil, or_false] at hd
      rcases hd with rfl | rfl | rfl
      · exact (pyOk_T (tok_lit rfl)).mono (by omega)
      · exact (pyOk_T (nm_tok h.1)).mono (by omega)
      · exact pyOk_tup (names_py h.2)).mono (by omega)
  | .un w, h => (pyOk_tup (k := w.ht + 2) (ds := [T l_not, w.d]) fun d hd => by
      simp only [List.mem_cons, List.not_mem_nil, or_false] at hd
      rcases hd with rfl | rfl
      · exact (pyOk_T (tok_lit rfl)).mono (by omega)
      · exact wd_py h).mono (by simp only [Wd.ht]; omega)
  | .bi o a b, h => (pyOk_tup (k := max a.ht b.ht + 2) (ds := [T (if o then l_and else l_or), a.d, b.d]) fun d hd => by
      simp only [List.mem_cons, List.not_mem_nil, or_false] at hd
      rcases hd with rfl | rfl | rfl
      · exact (pyOk_T (by cases o <;> exact tok_lit rfl)).mono (by omega)
      · exact (wd_py h.1).mono (by omega)
      · exact (wd_py h.2).mono (by omega)).mono (by simp only [Wd.ht]; omega)
section
variable {l : List Nat} {i j dp e p : Nat} {st st' st2 : Store} {Q : D → Store → Prop}
/-! ### brackets -/
theorem wp_begin {rest : List Nat} (h : Rd p l i dp st) (hl : l.length ≤ 1000000) (hd : l.drop i = 40 :: rest) (hp : dp < 9) : wp (F_Reader_begin [.loc p] st) fun _ st' => Rd p l (i + 1) (dp + 1) st' ∧ Kp p st st' := by
  unfold F_Reader_begin b_Reader_begin
  have e2 : c_MOST_OPEN = .int 9 := rfl
  simp only [wp_run, wp_bind, wp_ok, wp_bad, wpS_seq, Dn.wpS_set, wpS_ret, wpS_if, wpS_expr, wpS_skip, wpS_par, wpS_par3, wpS_asg, wpS_itemS, wpS_fldS, wpS_for, wpS_nx, wpS_rt, wpS_bk, wpS_ct, wpS_bad, wp_lc, wpS_never, thenK_nx, thenK_rt, thenK_bk, thenK_ct, outK_nx, outK_rt, turnK_nx, turnK_rt, turnK_bk, turnK_ct,
  wp_addI, wp_addS, wp_addT, wp_subI, wp_mulI, wp_mulS, wp_fdivI, wp_modI, wp_powI, ltD_int, leD_int, gtD_int, geD_int, eqV_int, eqV_str, wp_itemT, wp_itemR, wp_itemS, lenD_tup, lenD_rol, wp_lenS, intD_int, intD_bl, wp_intS, absD_int, minD_int, strD_str, wp_strI, wp_listS, truR_bl, sliceD_tup, sliceD_rol, wp_sliceS, wp_tup, wp_lst, wp_ifE, wp_andT, wp_orT, wp_notT, wp_appN, startsD_str,
  Dn.envOf, var, con, Dn.bin, app, consA, nilA, test, slice, noO, someO, List.map_cons, List.map_nil, List.cons_append, List.nil_append, List.replicate_succ, List.replicate_zero, List.length_cons, List.length_nil, List.getElem?_cons_zero, List.getElem?_cons_succ, List.set_cons_zero, List.set_cons_succ, List.append_nil,
  Nat.add_one_sub_one, Nat.reduceAdd, Nat.reduceSub, Nat.reduceLeDiff, Nat.sub_zero, Nat.zero_add, if_true, if_false, ite_true, ite_false, Bool.false_eq_true, reduceIte, Bool.not_true, Bool.not_false, Bool.not_eq_true', Nat.zero_le, true_and, and_true, decide_eq_true_eq, Nat.reduceEqDiff, Option.some.injEq, exists_eq_left', reduceCtorEq, atI_zero, atI_one, atI_two, List.set_cons_zero, List.set_cons_succ, wp_kdE, wp_kdAt, wp_fldE, wp_methE, wp_meth, wp_methRs, wp_star, wp_starT, wp_rng1, wp_rngAt, cut_tail, Option.map_some, SX.S_cat, SX.S_len, LIM, List.append_assoc, q_is, q_words, q_lp, q_rp, q_isp, q_sp, q_col, q_dot, wp_fldR h, rd_dep, e2]
  have e3 : ((dp : Int) == 9) = false := by
    rw [beq_eq_false_iff_ne]
    omega
  simp only [e3, wp_run, wp_bind, wp_ok, wp_bad, wpS_seq, Dn.wpS_set, wpS_ret, wpS_if, wpS_expr, wpS_skip, wpS_par, wpS_par3, wpS_asg, wpS_itemS, wpS_fldS, wpS_for, wpS_nx, wpS_rt, wpS_bk, wpS_ct, wpS_bad, wp_lc, wpS_never, thenK_nx, thenK_rt, thenK_bk, thenK_ct, outK_nx, outK_rt, turnK_nx, turnK_rt, turnK_bk, turnK_ct,
  wp_addI, wp_addS, wp_addT, wp_subI, wp_mulI, wp_mulS, wp_fdivI, wp_modI, wp_powI, ltD_int, leD_int, gtD_int, geD_int, eqV_int, eqV_str, wp_itemT, wp_itemR, wp_itemS, lenD_tup, lenD_rol, wp_lenS, intD_int, intD_bl, wp_intS, absD_int, minD_int, strD_str, wp_strI, wp_listS, truR_bl, sliceD_tup, sliceD_rol, wp_sliceS, wp_tup, wp_lst, wp_ifE, wp_andT, wp_orT, wp_notT, wp_appN, startsD_str,
  Dn.envOf, var, con, Dn.bin, app, consA, nilA, test, slice, noO, someO, List.map_cons, List.map_nil, List.cons_append, List.nil_append, List.replicate_succ, List.replicate_zero, List.length_cons, List.length_nil, List.getElem?_cons_zero, List.getElem?_cons_succ, List.set_cons_zero, List.set_cons_succ, List.append_nil,
  Nat.add_one_sub_one, Nat.reduceAdd, Nat.reduceSub, Nat.reduceLeDiff, Nat.sub_zero, Nat.zero_add, if_true, if_false, ite_true, ite_false, Bool.false_eq_true, reduceIte, Bool.not_true, Bool.not_false, Bool.not_eq_true', Nat.zero_le, true_and, and_true, decide_eq_true_eq, Nat.reduceEqDiff, Option.some.injEq, exists_eq_left', reduceCtorEq, atI_zero, atI_one, atI_two, List.set_cons_zero, List.set_cons_succ, wp_kdE, wp_kdAt, wp_fldE, wp_methE, wp_meth, wp_methRs, wp_star, wp_starT, wp_rng1, wp_rngAt, cut_tail, Option.map_some, SX.S_cat, SX.S_len, LIM, List.append_assoc, wp_recv h rd_take]
  refine wp_mono (wp_take1 h hl (.str [40]) hd (by simp)) fun d s hq => ?_
  obtain ⟨-, h2, h3⟩ := hq
  simp only [wp_run, wp_bind, wp_ok, wp_bad, wpS_seq, Dn.wpS_set, wpS_ret, wpS_if, wpS_expr, wpS_skip, wpS_par, wpS_par3, wpS_asg, wpS_itemS, wpS_fldS, wpS_for, wpS_nx, wpS_rt, wpS_bk, wpS_ct, wpS_bad, wp_lc, wpS_never, thenK_nx, thenK_rt, thenK_bk, thenK_ct, outK_nx, outK_rt, turnK_nx, turnK_rt, turnK_bk, turnK_ct,
  wp_addI, wp_addS, wp_addT, wp_subI, wp_mulI, wp_mulS, wp_fdivI, wp_modI, wp_powI, ltD_int, leD_int, gtD_int, geD_int, eqV_int, eqV_str, wp_itemT, wp_itemR, wp_itemS, lenD_tup, lenD_rol, wp_lenS, intD_int, intD_bl, wp_intS, absD_int, minD_int, strD_str, wp_strI, wp_listS, truR_bl, sliceD_tup, sliceD_rol, wp_sliceS, wp_tup, wp_lst, wp_ifE, wp_andT, wp_orT, wp_notT, wp_appN, startsD_str,
  Dn.envOf, var, con, Dn.bin, app, consA, nilA, test, slice, noO, someO, List.map_cons, List.map_nil, List.cons_append, List.nil_append, List.replicate_succ, List.replicate_zero, List.length_cons, List.length_nil, List.getElem?_cons_zero, List.getElem?_cons_succ, List.set_cons_zero, List.set_cons_succ, List.append_nil,
  Nat.add_one_sub_one, Nat.reduceAdd, Nat.reduceSub, Nat.reduceLeDiff, Nat.sub_zero, Nat.zero_add, if_true, if_false, ite_true, ite_false, Bool.false_eq_true, reduceIte, Bool.not_true, Bool.not_false, Bool.not_eq_true', Nat.zero_le, true_and, and_true, decide_eq_true_eq, Nat.reduceEqDiff, Option.some.injEq, exists_eq_left', reduceCtorEq, atI_zero, atI_one, atI_two, List.set_cons_zero, List.set_cons_succ, wp_kdE, wp_kdAt, wp_fldE, wp_methE, wp_meth, wp_methRs, wp_star, wp_starT, wp_rng1, wp_rngAt, cut_tail, Option.map_some, SX.S_cat, SX.S_len, LIM, List.append_assoc, wp_fldR h2, rd_dep]
  have e4 : ((dp : Int) + 1) = ((dp + 1 : Nat) : Int) := rfl
  rw [e4, wpS_fldAt h2 rd_len, rd_put_dep]
  simp only [wp_run, wp_bind, wp_ok, wp_bad, wpS_seq, Dn.wpS_set, wpS_ret, wpS_if, wpS_expr, wpS_skip, wpS_par, wpS_par3, wpS_asg, wpS_itemS, wpS_fldS, wpS_for, wpS_nx, wpS_rt, wpS_bk, wpS_ct, wpS_bad, wp_lc, wpS_never, thenK_nx, thenK_rt, thenK_bk, thenK_ct, outK_nx, outK_rt, turnK_nx, turnK_rt, turnK_bk, turnK_ct,
  wp_addI, wp_addS, wp_addT, wp_subI, wp_mulI, wp_mulS, wp_fdivI, wp_modI, wp_powI, ltD_int, leD_int, gtD_int, geD_int, eqV_int, eqV_str, wp_itemT, wp_itemR, wp_itemS, lenD_tup, lenD_rol, wp_lenS, intD_int, intD_bl, wp_intS, absD_int, minD_int, strD_str, wp_strI, wp_listS, truR_bl, sliceD_tup, sliceD_rol, wp_sliceS, wp_tup, wp_lst, wp_ifE, wp_andT, wp_orT, wp_notT, wp_appN, startsD_str,
  Dn.envOf, var, con, Dn.bin, app, consA, nilA, test, slice, noO, someO, List.map_cons, List.map_nil, List.cons_append, List.nil_append, List.replicate_succ, List.replicate_zero, List.length_cons, List.length_nil, List.getElem?_cons_zero, List.getElem?_cons_succ, List.set_cons_zero, List.set_cons_succ, List.append_nil,
  Nat.add_one_sub_one, Nat.reduceAdd, Nat.reduceSub, Nat.reduceLeDiff, Nat.sub_zero, Nat.zero_add, if_true, if_false, ite_true, ite_false, Bool.false_eq_true, reduceIte, Bool.not_true, Bool.not_false, Bool.not_eq_true', Nat.zero_le, true_and, and_true, decide_eq_true_eq, Nat.reduceEqDiff, Option.some.injEq, exists_eq_left', reduceCtorEq, atI_zero, atI_one, atI_two, List.set_cons_zero, List.set_cons_succ, wp_kdE, wp_kdAt, wp_fldE, wp_methE, wp_meth, wp_methRs, wp_star, wp_starT, wp_rng1, wp_rngAt, cut_tail, Option.map_some, SX.S_cat, SX.S_len, LIM, List.append_assoc]
  exact ⟨set_get h2, h3.trans Kp.set⟩
theorem wp_finish {rest : List Nat} (h : Rd p l i (dp + 1) st) (hl : l.length ≤ 1000000) (hd : l.drop i = 41 :: rest) : wp (F_Reader_finish [.loc p] st) fun _ st' => Rd p l (i + 1) dp st' ∧ Kp p st st' := by
  unfold F_Reader_finish b_Reader_finish
  simp only [wp_run, wp_bind, wp_ok, wp_bad, wpS_seq, Dn.wpS_set, wpS_ret, wpS_if, wpS_expr, wpS_skip, wpS_par, wpS_par3, wpS_asg, wpS_itemS, wpS_fldS, wpS_for, wpS_nx, wpS_rt, wpS_bk, wpS_ct, wpS_bad, wp_lc, wpS_never, thenK_nx, thenK_rt, thenK_bk, thenK_ct, outK_nx, outK_rt, turnK_nx, turnK_rt, turnK_bk, turnK_ct,
  wp_addI, wp_addS, wp_addT, wp_subI, wp_mulI, wp_mulS, wp_fdivI, wp_modI, wp_powI, ltD_int, leD_int, gtD_int, geD_int, eqV_int, eqV_str, wp_itemT, wp_itemR, wp_itemS, lenD_tup, lenD_rol, wp_lenS, intD_int, intD_bl, wp_intS, absD_int, minD_int, strD_str, wp_strI, wp_listS, truR_bl, sliceD_tup, sliceD_rol, wp_sliceS, wp_tup, wp_lst, wp_ifE, wp_andT, wp_orT, wp_notT, wp_appN, startsD_str,
  Dn.envOf, var, con, Dn.bin, app, consA, nilA, test, slice, noO, someO, List.map_cons, List.map_nil, List.cons_append, List.nil_append, List.replicate_succ, List.replicate_zero, List.length_cons, List.length_nil, List.getElem?_cons_zero, List.getElem?_cons_succ, List.set_cons_zero, List.set_cons_succ, List.append_nil,
  Nat.add_one_sub_one, Nat.reduceAdd, Nat.reduceSub, Nat.reduceLeDiff, Nat.sub_zero, Nat.zero_add, if_true, if_false, ite_true, ite_false, Bool.false_eq_true, reduceIte, Bool.not_true, Bool.not_false, Bool.not_eq_true', Nat.zero_le, true_and, and_true, decide_eq_true_eq, Nat.reduceEqDiff, Option.some.injEq, exists_eq_left', reduceCtorEq, atI_zero, atI_one, atI_two, List.set_cons_zero, List.set_cons_succ, wp_kdE, wp_kdAt, wp_fldE, wp_methE, wp_meth, wp_methRs, wp_star, wp_starT, wp_rng1, wp_rngAt, cut_tail, Option.map_some, SX.S_cat, SX.S_len, LIM, List.append_assoc, q_is, q_words, q_lp, q_rp, q_isp, q_sp, q_col, q_dot, wp_recv h rd_take]
  refine wp_mono (wp_take1 h hl (.str [41]) hd (by simp)) fun d s hq => ?_
  obtain ⟨-, h2, h3⟩ := hq
  simp only [wp_run, wp_bind, wp_ok, wp_bad, wpS_seq, Dn.wpS_set, wpS_ret, wpS_if, wpS_expr, wpS_skip, wpS_par, wpS_par3, wpS_asg, wpS_itemS, wpS_fldS, wpS_for, wpS_nx, wpS_rt, wpS_bk, wpS_ct, wpS_bad, wp_lc, wpS_never, thenK_nx, thenK_rt, thenK_bk, thenK_ct, outK_nx, outK_rt, turnK_nx, turnK_rt, turnK_bk, turnK_ct,
  wp_addI, wp_addS, wp_addT, wp_subI, wp_mulI, wp_mulS, wp_fdivI, wp_modI, wp_powI, ltD_int, leD_int, gtD_int, geD_int, eqV_int, eqV_str, wp_itemT, wp_itemR, wp_itemS, lenD_tup, lenD_rol, wp_lenS, intD_int, intD_bl, wp_intS, absD_int, minD_int, strD_str, wp_strI, wp_listS, truR_bl, sliceD_tup, sliceD_rol, wp_sliceS, wp_tup, wp_lst, wp_ifE, wp_andT, wp_orT, wp_notT, wp_appN, startsD_str,
  Dn.envOf, var, con, Dn.bin, app, consA, nilA, test, slice, noO, someO, List.map_cons, List.map_nil, List.cons_append, List.nil_append, List.replicate_succ, List.replicate_zero, List.length_cons, List.length_nil, List.getElem?_cons_zero, List.getElem?_cons_succ, List.set_cons_zero, List.set_cons_succ, List.append_nil,
  Nat.add_one_sub_one, Nat.reduceAdd, Nat.reduceSub, Nat.reduceLeDiff, Nat.sub_zero, Nat.zero_add, if_true, if_false, ite_true, ite_false, Bool.false_eq_true, reduceIte, Bool.not_true, Bool.not_false, Bool.not_eq_true', Nat.zero_le, true_and, and_true, decide_eq_true_eq, Nat.reduceEqDiff, Option.some.injEq, exists_eq_left', reduceCtorEq, atI_zero, atI_one, atI_two, List.set_cons_zero, List.set_cons_succ, wp_kdE, wp_kdAt, wp_fldE, wp_methE, wp_meth, wp_methRs, wp_star, wp_starT, wp_rng1, wp_rngAt, cut_tail, Option.map_some, SX.S_cat, SX.S_len, LIM, List.append_assoc, wp_fldR h2, rd_dep]
  have e4 : (((dp + 1 : Nat) : Int) - 1) = ((dp : Nat) : Int) := by omega
  rw [e4, wpS_fldAt h2 rd_len, rd_put_dep]
  simp only [wp_run, wp_bind, wp_ok, wp_bad, wpS_seq, Dn.wpS_set, wpS_ret, wpS_if, wpS_expr, wpS_skip, wpS_par, wpS_par3, wpS_asg, wpS_itemS, wpS_fldS, wpS_for, wpS_nx, wpS_rt, wpS_bk, wpS_ct, wpS_bad, wp_lc, wpS_never, thenK_nx, thenK_rt, thenK_bk, thenK_ct, outK_nx, outK_rt, turnK_nx, turnK_rt, turnK_bk, turnK_ct,
  wp_addI, wp_addS, wp_addT, wp_subI, wp_mulI, wp_mulS, wp_fdivI, wp_modI, wp_powI, ltD_int, leD_int, gtD_int, geD_int, eqV_int, eqV_str, wp_itemT, wp_itemR, wp_itemS, lenD_tup, lenD_rol, wp_lenS, intD_int, intD_bl, wp_intS, absD_int, minD_int, strD_str, wp_strI, wp_listS, truR_bl, sliceD_tup, sliceD_rol, wp_sliceS, wp_tup, wp_lst, wp_ifE, wp_andT, wp_orT, wp_notT, wp_appN, startsD_str,
  Dn.envOf, var, con, Dn.bin, app, consA, nilA, test, slice, noO, someO, List.map_cons, List.map_nil, List.cons_append, List.nil_append, List.replicate_succ, List.replicate_zero, List.length_cons, List.length_nil, List.getElem?_cons_zero, List.getElem?_cons_succ, List.set_cons_zero, List.set_cons_succ, List.append_nil,
  Nat.add_one_sub_one, Nat.reduceAdd, Nat.reduceSub, Nat.reduceLeDiff, Nat.sub_zero, Nat.zero_add, if_true, if_false, ite_true, ite_false, Bool.false_eq_true, reduceIte, Bool.not_true, Bool.not_false, Bool.not_eq_true', Nat.zero_le, true_and, and_true, decide_eq_true_eq, Nat.reduceEqDiff, Option.some.injEq, exists_eq_left', reduceCtorEq, atI_zero, atI_one, atI_two, List.set_cons_zero, List.set_cons_succ, wp_kdE, wp_kdAt, wp_fldE, wp_methE, wp_meth, wp_methRs, wp_star, wp_starT, wp_rng1, wp_rngAt, cut_tail, Option.map_some, SX.S_cat, SX.S_len, LIM, List.append_assoc]
  exact ⟨set_get h2, h3.trans Kp.set⟩
/-! ### states -/
theorem drop_app {a b : List Nat} (h : l.drop i = a ++ b) : l.drop (i + a.length) = b := by
  rw [← List.drop_drop, h, List.drop_left]
/-- each with s ahead -/
def fl (s : List Nat) : List (List Nat) → List Nat
  | [] => []
  | x :: xs => s ++ (x ++ fl s xs)
theorem joinL_flat {s x : List Nat} : ∀ {xs : List (List Nat)}, TL.joinL s (x :: xs) = x ++ fl s xs
  | [] => by simp [TL.joinL, fl]
  | y :: r => by
    rw [TL.joinL, joinL_flat (x := y) (xs := r), fl]
theorem fl_len {c : Nat} : ∀ xs : List (List Nat), xs.length ≤ (fl [c] xs).length
  | [] => Nat.le_refl _
  | x :: xs => by
    have := fl_len (c := c) xs
    simp only [fl, List.length_append, List.length_cons, List.length_nil]
    omega
theorem take_snoc' {α : Type} {nm : List α} {k : Nat} (h : k < nm.length) : nm.take k ++ [nm[k]] = nm.take (k + 1) := by
  rw [List.take_add_one]
  simp [h]
theorem wp_state {m rest : List Nat} {k : List (List Nat)} (h : Rd p l i dp st) (hl : l.length ≤ 1000000) (hd : l.drop i = m ++ (58 :: (TL.joinL [46] k ++ rest))) (hm : Nm m) (hk : ∀ x ∈ k, Nm x) (ho : Off rest letters) (ho2 : Off rest [46]) (hr : ∃ c r, rest = c :: r) :
    wp (F_Reader_read_state [.loc p] st) fun d st' => d = .tup [T m, .tup (k.map T)] ∧ Rd p l (i + (m ++ (58 :: TL.joinL [46] k)).length) dp st' ∧ Kp p st st' := by
  have off58 : Off (58 :: (TL.joinL [46] k ++ rest)) letters := fun c r e => by
    cases e
    rw [mem_letters]
    omega
  have hd1 := drop_app hd
  have hd2 : l.drop (i + m.length + 1) = TL.joinL [46] k ++ rest := drop_app (a := [58]) hd1
  unfold F_Reader_read_state b_Reader_read_state
  simp only [wp_run, wp_bind, wp_ok, wp_bad, wpS_seq, Dn.wpS_set, wpS_ret, wpS_if, wpS_expr, wpS_skip, wpS_par, wpS_par3, wpS_asg, wpS_itemS, wpS_fldS, wpS_for, wpS_nx, wpS_rt, wpS_bk, wpS_ct, wpS_bad, wp_lc, wpS_never, thenK_nx, thenK_rt, thenK_bk, thenK_ct, outK_nx, outK_rt, turnK_nx, turnK_rt, turnK_bk, turnK_ct,
  wp_addI, wp_addS, wp_addT, wp_subI, wp_mulI, wp_mulS, wp_fdivI, wp_modI, wp_powI, ltD_int, leD_int, gtD_int, geD_int, eqV_int, eqV_str, wp_itemT, wp_itemR, wp_itemS, lenD_tup, lenD_rol, wp_lenS, intD_int, intD_bl, wp_intS, absD_int, minD_int, strD_str, wp_strI, wp_listS, truR_bl, sliceD_tup, sliceD_rol, wp_sliceS, wp_tup, wp_lst, wp_ifE, wp_andT, wp_orT, wp_notT, wp_appN, startsD_str,
  Dn.envOf, var, con, Dn.bin, app, consA, nilA, test, slice, noO, someO, List.map_cons, List.map_nil, List.cons_append, List.nil_append, List.replicate_succ, List.replicate_zero, List.length_cons, List.length_nil, List.getElem?_cons_zero, List.getElem?_cons_succ, List.set_cons_zero, List.set_cons_succ, List.append_nil,
  Nat.add_one_sub_one, Nat.reduceAdd, Nat.reduceSub, Nat.reduceLeDiff, Nat.sub_zero, Nat.zero_add, if_true, if_false, ite_true, ite_false, Bool.false_eq_true, reduceIte, Bool.not_true, Bool.not_false, Bool.not_eq_true', Nat.zero_le, true_and, and_true, decide_eq_true_eq, Nat.reduceEqDiff, Option.some.injEq, exists_eq_left', reduceCtorEq, atI_zero, atI_one, atI_two, List.set_cons_zero, List.set_cons_succ, wp_kdE, wp_kdAt, wp_fldE, wp_methE, wp_meth, wp_methRs, wp_star, wp_starT, wp_rng1, wp_rngAt, cut_tail, Option.map_some, SX.S_cat, SX.S_len, LIM, List.append_assoc, q_is, q_words, q_lp, q_rp, q_isp, q_sp, q_col, q_dot, wp_recv h rd_m1]
  refine wp_mono (wp_name h hl hd hm (.inr off58)) fun d s1 q1 => ?_
  obtain ⟨rfl, r1, t1⟩ := q1
  simp only [wp_run, wp_bind, wp_ok, wp_bad, wpS_seq, Dn.wpS_set, wpS_ret, wpS_if, wpS_expr, wpS_skip, wpS_par, wpS_par3, wpS_asg, wpS_itemS, wpS_fldS, wpS_for, wpS_nx, wpS_rt, wpS_bk, wpS_ct, wpS_bad, wp_lc, wpS_never, thenK_nx, thenK_rt, thenK_bk, thenK_ct, outK_nx, outK_rt, turnK_nx, turnK_rt, turnK_bk, turnK_ct,
  wp_addI, wp_addS, wp_addT, wp_subI, wp_mulI, wp_mulS, wp_fdivI, wp_modI, wp_powI, ltD_int, leD_int, gtD_int, geD_int, eqV_int, eqV_str, wp_itemT, wp_itemR, wp_itemS, lenD_tup, lenD_rol, wp_lenS, intD_int, intD_bl, wp_intS, absD_int, minD_int, strD_str, wp_strI, wp_listS, truR_bl, sliceD_tup, sliceD_rol, wp_sliceS, wp_tup, wp_lst, wp_ifE, wp_andT, wp_orT, wp_notT, wp_appN, startsD_str,
  Dn.envOf, var, con, Dn.bin, app, consA, nilA, test, slice, noO, someO, List.map_cons, List.map_nil, List.cons_append, List.nil_append, List.replicate_succ, List.replicate_zero, List.length_cons, List.length_nil, List.getElem?_cons_zero, List.getElem?_cons_succ, List.set_cons_zero, List.set_cons_succ, List.append_nil,
  Nat.add_one_sub_one, Nat.reduceAdd, Nat.reduceSub, Nat.reduceLeDiff, Nat.sub_zero, Nat.zero_add, if_true, if_false, ite_true, ite_false, Bool.false_eq_true, reduceIte, Bool.not_true, Bool.not_false, Bool.not_eq_true', Nat.zero_le, true_and, and_true, decide_eq_true_eq, Nat.reduceEqDiff, Option.some.injEq, exists_eq_left', reduceCtorEq, atI_zero, atI_one, atI_two, List.set_cons_zero, List.set_cons_succ, wp_kdE, wp_kdAt, wp_fldE, wp_methE, wp_meth, wp_methRs, wp_star, wp_starT, wp_rng1, wp_rngAt, cut_tail, Option.map_some, SX.S_cat, SX.S_len, LIM, List.append_assoc, q_is, q_words, q_lp, q_rp, q_isp, q_sp, q_col, q_dot, wp_recv r1 rd_take]
  refine wp_mono (wp_take1 r1 hl (.str [58]) hd1 (by simp)) fun d s2 q2 => ?_
  obtain ⟨-, r2, t2⟩ := q2
  simp only [wp_run, wp_bind, wp_ok, wp_bad, wpS_seq, Dn.wpS_set, wpS_ret, wpS_if, wpS_expr, wpS_skip, wpS_par, wpS_par3, wpS_asg, wpS_itemS, wpS_fldS, wpS_for, wpS_nx, wpS_rt, wpS_bk, wpS_ct, wpS_bad, wp_lc, wpS_never, thenK_nx, thenK_rt, thenK_bk, thenK_ct, outK_nx, outK_rt, turnK_nx, turnK_rt, turnK_bk, turnK_ct,
  wp_addI, wp_addS, wp_addT, wp_subI, wp_mulI, wp_mulS, wp_fdivI, wp_modI, wp_powI, ltD_int, leD_int, gtD_int, geD_int, eqV_int, eqV_str, wp_itemT, wp_itemR, wp_itemS, lenD_tup, lenD_rol, wp_lenS, intD_int, intD_bl, wp_intS, absD_int, minD_int, strD_str, wp_strI, wp_listS, truR_bl, sliceD_tup, sliceD_rol, wp_sliceS, wp_tup, wp_lst, wp_ifE, wp_andT, wp_orT, wp_notT, wp_appN, startsD_str,
  Dn.envOf, var, con, Dn.bin, app, consA, nilA, test, slice, noO, someO, List.map_cons, List.map_nil, List.cons_append, List.nil_append, List.replicate_succ, List.replicate_zero, List.length_cons, List.length_nil, List.getElem?_cons_zero, List.getElem?_cons_succ, List.set_cons_zero, List.set_cons_succ, List.append_nil,
  Nat.add_one_sub_one, Nat.reduceAdd, Nat.reduceSub, Nat.reduceLeDiff, Nat.sub_zero, Nat.zero_add, if_true, if_false, ite_true, ite_false, Bool.false_eq_true, reduceIte, Bool.not_true, Bool.not_false, Bool.not_eq_true', Nat.zero_le, true_and, and_true, decide_eq_true_eq, Nat.reduceEqDiff, Option.some.injEq, exists_eq_left', reduceCtorEq, atI_zero, atI_one, atI_two, List.set_cons_zero, List.set_cons_succ, wp_kdE, wp_kdAt, wp_fldE, wp_methE, wp_meth, wp_methRs, wp_star, wp_starT, wp_rng1, wp_rngAt, cut_tail, Option.map_some, SX.S_cat, SX.S_len, LIM, List.append_assoc, q_is, q_words, q_lp, q_rp, q_isp, q_sp, q_col, q_dot, wp_recv r2 rd_is_at, q2_letters]
  have hlen : i + m.length + 1 ≤ l.length := by
    obtain ⟨c, r, rfl⟩ := hr
    have := congrArg List.length hd2
    simp at this
    omega
  refine wp_is_at r2 hlen hl (.str letters) ?_
  -- the loop over further names
  have loop : ∀ (j : Nat) (s : Store), 1 ≤ j → j ≤ k.length → (∃ pos, l.drop pos = fl [46] (k.drop j) ++ rest ∧ pos + (fl [46] (k.drop j)).length = i + (m ++ (58 :: TL.joinL [46] k)).length ∧ pos ≤ l.length ∧ Rd p l pos dp s) → Kp p st s →
      wpS (whileS (andT (test (Dn.bin (eqV' true) (var 2) (tupE nilA))) (test (methC "Reader" "is_at" 2 F_Reader_is_at (var 0) (consA (con (.str (SX.S [46]))) nilA)))) (seqS (exprS (methC "Reader" "take" 2 F_Reader_take (var 0) (consA (con (.str (SX.S [46]))) nilA))) (setS 2 (tupE (starA (var 2) (consA (methC "Reader" "read_name" 1 F_Reader_read_name (var 0) nilA) nilA))))) [some (.loc p), some (T m), some (.tup ((k.take j).map T))] s)
        (thenK (retS (tupE (consA (var 1) (consA (var 2) nilA)))) (outK fun d st' => d = .tup [T m, .tup (k.map T)] ∧ Rd p l (i + (m ++ (58 :: TL.joinL [46] k)).length) dp st' ∧ Kp p st st')) := by
    intro j s j1 j2 hpos hkp
    refine wpS_while (fun mm r s => ∃ j, 1 ≤ j ∧ j ≤ k.length ∧ mm = k.length - j ∧ r = [some (.loc p), some (T m), some (.tup ((k.take j).map T))] ∧ (∃ pos, l.drop pos = fl [46] (k.drop j) ++ rest ∧ pos + (fl [46] (k.drop j)).length = i + (m ++ (58 :: TL.joinL [46] k)).length ∧ pos ≤ l.length ∧ Rd p l pos dp s) ∧ Kp p st s) ?_ _ _ _ ⟨j, j1, j2, rfl, rfl, hpos, hkp⟩
    rintro mm r s ⟨j, j1, j2, rfl, rfl, ⟨pos, e1, e2, e3, r3⟩, t3⟩
    simp only [wp_run, wp_bind, wp_ok, wp_bad, wpS_seq, Dn.wpS_set, wpS_ret, wpS_if, wpS_expr, wpS_skip, wpS_par, wpS_par3, wpS_asg, wpS_itemS, wpS_fldS, wpS_for, wpS_nx, wpS_rt, wpS_bk, wpS_ct, wpS_bad, wp_lc, wpS_never, thenK_nx, thenK_rt, thenK_bk, thenK_ct, outK_nx, outK_rt, turnK_nx, turnK_rt, turnK_bk, turnK_ct,
  wp_addI, wp_addS, wp_addT, wp_subI, wp_mulI, wp_mulS, wp_fdivI, wp_modI, wp_powI, ltD_int, leD_int, gtD_int, geD_int, eqV_int, eqV_str, wp_itemT, wp_itemR, wp_itemS, lenD_tup, lenD_rol, wp_lenS, intD_int, intD_bl, wp_intS, absD_int, minD_int, strD_str, wp_strI, wp_listS, truR_bl, sliceD_tup, sliceD_rol, wp_sliceS, wp_tup, wp_lst, wp_ifE, wp_andT, wp_orT, wp_notT, wp_appN, startsD_str,
  Dn.envOf, var, con, Dn.bin, app, consA, nilA, test, slice, noO, someO, List.map_cons, List.map_nil, List.cons_append, List.nil_append, List.replicate_succ, List.replicate_zero, List.length_cons, List.length_nil, List.getElem?_cons_zero, List.getElem?_cons_succ, List.set_cons_zero, List.set_cons_succ, List.append_nil,
  Nat.add_one_sub_one, Nat.reduceAdd, Nat.reduceSub, Nat.reduceLeDiff, Nat.sub_zero, Nat.zero_add, if_true, if_false, ite_true, ite_false, Bool.false_eq_true, reduceIte, Bool.not_true, Bool.not_false, Bool.not_eq_true', Nat.zero_le, true_and, and_true, decide_eq_true_eq, Nat.reduceEqDiff, Option.some.injEq, exists_eq_left', reduceCtorEq, atI_zero, atI_one, atI_two, List.set_cons_zero, List.set_cons_succ, wp_kdE, wp_kdAt, wp_fldE, wp_methE, wp_meth, wp_methRs, wp_star, wp_starT, wp_rng1, wp_rngAt, cut_tail, Option.map_some, SX.S_cat, SX.S_len, LIM, List.append_assoc, q_is, q_words, q_lp, q_rp, q_isp, q_sp, q_col, q_dot]
    rw [eq_tup0 (k := 0) (names_py fun x hx => hk x (List.mem_of_mem_take hx)) (by decide)]
    have hne : ((k.take j).map T).isEmpty = false := by
      cases k with
      | nil => simp at j2; omega
      | cons x xs =>
        obtain ⟨j, rfl⟩ : ∃ q, j = q + 1 := ⟨j - 1, by omega⟩
        rfl
    simp only [hne, wp_run, wp_bind, wp_ok, wp_bad, wpS_seq, Dn.wpS_set, wpS_ret, wpS_if, wpS_expr, wpS_skip, wpS_par, wpS_par3, wpS_asg, wpS_itemS, wpS_fldS, wpS_for, wpS_nx, wpS_rt, wpS_bk, wpS_ct, wpS_bad, wp_lc, wpS_never, thenK_nx, thenK_rt, thenK_bk, thenK_ct, outK_nx, outK_rt, turnK_nx, turnK_rt, turnK_bk, turnK_ct,
  wp_addI, wp_addS, wp_addT, wp_subI, wp_mulI, wp_mulS, wp_fdivI, wp_modI, wp_powI, ltD_int, leD_int, gtD_int, geD_int, eqV_int, eqV_str, wp_itemT, wp_itemR, wp_itemS, lenD_tup, lenD_rol, wp_lenS, intD_int, intD_bl, wp_intS, absD_int, minD_int, strD_str, wp_strI, wp_listS, truR_bl, sliceD_tup, sliceD_rol, wp_sliceS, wp_tup, wp_lst, wp_ifE, wp_andT, wp_orT, wp_notT, wp_appN, startsD_str,
  Dn.envOf, var, con, Dn.bin, app, consA, nilA, test, slice, noO, someO, List.map_cons, List.map_nil, List.cons_append, List.nil_append, List.replicate_succ, List.replicate_zero, List.length_cons, List.length_nil, List.getElem?_cons_zero, List.getElem?_cons_succ, List.set_cons_zero, List.set_cons_succ, List.append_nil,
  Nat.add_one_sub_one, Nat.reduceAdd, Nat.reduceSub, Nat.reduceLeDiff, Nat.sub_zero, Nat.zero_add, if_true, if_false, ite_true, ite_false, Bool.false_eq_true, reduceIte, Bool.not_true, Bool.not_false, Bool.not_eq_true', Nat.zero_le, true_and, and_true, decide_eq_true_eq, Nat.reduceEqDiff, Option.some.injEq, exists_eq_left', reduceCtorEq, atI_zero, atI_one, atI_two, List.set_cons_zero, List.set_cons_succ, wp_kdE, wp_kdAt, wp_fldE, wp_methE, wp_meth, wp_methRs, wp_star, wp_starT, wp_rng1, wp_rngAt, cut_tail, Option.map_some, SX.S_cat, SX.S_len, LIM, List.append_assoc, q_is, q_words, q_lp, q_rp, q_isp, q_sp, q_col, q_dot, wp_recv r3 rd_is_at]
    refine wp_is_at r3 e3 hl (.str [46]) ?_
    by_cases cj : j < k.length
    · have ed : k.drop j = k[j] :: k.drop (j + 1) := by simp
      have e1' : l.drop pos = [46] ++ (k[j] ++ (fl [46] (k.drop (j + 1)) ++ rest)) := by
        rw [e1, ed, fl, List.append_assoc, List.append_assoc]
      have ea : atC l pos [46] = true := by
        have := atC_mid (k := 0) (cs := [46]) e1' (by simp) (by simp)
        simpa using this
      rw [ea]
      simp only [wp_run, wp_bind, wp_ok, wp_bad, wpS_seq, Dn.wpS_set, wpS_ret, wpS_if, wpS_expr, wpS_skip, wpS_par, wpS_par3, wpS_asg, wpS_itemS, wpS_fldS, wpS_for, wpS_nx, wpS_rt, wpS_bk, wpS_ct, wpS_bad, wp_lc, wpS_never, thenK_nx, thenK_rt, thenK_bk, thenK_ct, outK_nx, outK_rt, turnK_nx, turnK_rt, turnK_bk, turnK_ct,
  wp_addI, wp_addS, wp_addT, wp_subI, wp_mulI, wp_mulS, wp_fdivI, wp_modI, wp_powI, ltD_int, leD_int, gtD_int, geD_int, eqV_int, eqV_str, wp_itemT, wp_itemR, wp_itemS, lenD_tup, lenD_rol, wp_lenS, intD_int, intD_bl, wp_intS, absD_int, minD_int, strD_str, wp_strI, wp_listS, truR_bl, sliceD_tup, sliceD_rol, wp_sliceS, wp_tup, wp_lst, wp_ifE, wp_andT, wp_orT, wp_notT, wp_appN, startsD_str,
  Dn.envOf, var, con, Dn.bin, app, consA, nilA, test, slice, noO, someO, List.map_cons, List.map_nil, List.cons_append, List.nil_append, List.replicate_succ, List.replicate_zero, List.length_cons, List.length_nil, List.getElem?_cons_zero, List.getElem?_cons_succ, List.set_cons_zero, List.set_cons_succ, List.append_nil,
  Nat.add_one_sub_one, Nat.reduceAdd, Nat.reduceSub, Nat.reduceLeDiff, Nat.sub_zero, Nat.zero_add, if_true, if_false, ite_true, ite_false, Bool.false_eq_true, reduceIte, Bool.not_true, Bool.not_false, Bool.not_eq_true', Nat.zero_le, true_and, and_true, decide_eq_true_eq, Nat.reduceEqDiff, Option.some.injEq, exists_eq_left', reduceCtorEq, atI_zero, atI_one, atI_two, List.set_cons_zero, List.set_cons_succ, wp_kdE, wp_kdAt, wp_fldE, wp_methE, wp_meth, wp_methRs, wp_star, wp_starT, wp_rng1, wp_rngAt, cut_tail, Option.map_some, SX.S_cat, SX.S_len, LIM, List.append_assoc, q_is, q_words, q_lp, q_rp, q_isp, q_sp, q_col, q_dot, wp_recv r3 rd_take]
      refine wp_mono (wp_take1 r3 hl (.str [46]) e1' (by simp)) fun d s4 q4 => ?_
      obtain ⟨-, r4, t4⟩ := q4
      have e5 := drop_app (a := [46]) e1'
      simp only [wp_run, wp_bind, wp_ok, wp_bad, wpS_seq, Dn.wpS_set, wpS_ret, wpS_if, wpS_expr, wpS_skip, wpS_par, wpS_par3, wpS_asg, wpS_itemS, wpS_fldS, wpS_for, wpS_nx, wpS_rt, wpS_bk, wpS_ct, wpS_bad, wp_lc, wpS_never, thenK_nx, thenK_rt, thenK_bk, thenK_ct, outK_nx, outK_rt, turnK_nx, turnK_rt, turnK_bk, turnK_ct,
  wp_addI, wp_addS, wp_addT, wp_subI, wp_mulI, wp_mulS, wp_fdivI, wp_modI, wp_powI, ltD_int, leD_int, gtD_int, geD_int, eqV_int, eqV_str, wp_itemT, wp_itemR, wp_itemS, lenD_tup, lenD_rol, wp_lenS, intD_int, intD_bl, wp_intS, absD_int, minD_int, strD_str, wp_strI, wp_listS, truR_bl, sliceD_tup, sliceD_rol, wp_sliceS, wp_tup, wp_lst, wp_ifE, wp_andT, wp_orT, wp_notT, wp_appN, startsD_str,
  Dn.envOf, var, con, Dn.bin, app, consA, nilA, test, slice, noO, someO, List.map_cons, List.map_nil, List.cons_append, List.nil_append, List.replicate_succ, List.replicate_zero, List.length_cons, List.length_nil, List.getElem?_cons_zero, List.getElem?_cons_succ, List.set_cons_zero, List.set_cons_succ, List.append_nil,
  Nat.add_one_sub_one, Nat.reduceAdd, Nat.reduceSub, Nat.reduceLeDiff, Nat.sub_zero, Nat.zero_add, if_true, if_false, ite_true, ite_false, Bool.false_eq_true, reduceIte, Bool.not_true, Bool.not_false, Bool.not_eq_true', Nat.zero_le, true_and, and_true, decide_eq_true_eq, Nat.reduceEqDiff, Option.some.injEq, exists_eq_left', reduceCtorEq, atI_zero, atI_one, atI_two, List.set_cons_zero, List.set_cons_succ, wp_kdE, wp_kdAt, wp_fldE, wp_methE, wp_meth, wp_methRs, wp_star, wp_starT, wp_rng1, wp_rngAt, cut_tail, Option.map_some, SX.S_cat, SX.S_len, LIM, List.append_assoc, wp_recv r4 rd_m1]
      have hnm := hk k[j] (List.getElem_mem cj)
      have hoff : Off (fl [46] (k.drop (j + 1)) ++ rest) letters := fun c r e => by
        cases hq : k.drop (j + 1) with
        | nil =>
          rw [hq] at e
          exact ho c r e
        | cons x xs =>
          rw [hq] at e
          cases e
          rw [mem_letters]
          omega
      refine wp_mono (wp_name r4 hl e5 hnm (.inr hoff)) fun d s5 q5 => ?_
      obtain ⟨rfl, r5, t5⟩ := q5
      have e6 := drop_app e5
      rw [ed, fl, List.length_append, List.length_append] at e2
      have e7 : ((k.take j).map T) ++ [T k[j]] = (k.take (j + 1)).map T := by
        have : k.take (j + 1) = k.take j ++ [k[j]] := (take_snoc' cj).symm
        rw [this, List.map_append]
        rfl
      have hkl : k.length ≤ 1000000 := by
        have b1 : k.length ≤ 1 + (TL.joinL [46] k).length := by
          cases k with
          | nil => simp
          | cons x xs =>
            rw [joinL_flat, List.length_append, List.length_cons]
            have := fl_len (c := 46) xs
            omega
        have b2 := congrArg List.length hd2
        simp only [List.length_drop, List.length_append] at b2
        omega
      simp only [e7, wp_run, wp_bind, wp_ok, wp_bad, wpS_seq, Dn.wpS_set, wpS_ret, wpS_if, wpS_expr, wpS_skip, wpS_par, wpS_par3, wpS_asg, wpS_itemS, wpS_fldS, wpS_for, wpS_nx, wpS_rt, wpS_bk, wpS_ct, wpS_bad, wp_lc, wpS_never, thenK_nx, thenK_rt, thenK_bk, thenK_ct, outK_nx, outK_rt, turnK_nx, turnK_rt, turnK_bk, turnK_ct,
  wp_addI, wp_addS, wp_addT, wp_subI, wp_mulI, wp_mulS, wp_fdivI, wp_modI, wp_powI, ltD_int, leD_int, gtD_int, geD_int, eqV_int, eqV_str, wp_itemT, wp_itemR, wp_itemS, lenD_tup, lenD_rol, wp_lenS, intD_int, intD_bl, wp_intS, absD_int, minD_int, strD_str, wp_strI, wp_listS, truR_bl, sliceD_tup, sliceD_rol, wp_sliceS, wp_tup, wp_lst, wp_ifE, wp_andT, wp_orT, wp_notT, wp_appN, startsD_str,
  Dn.envOf, var, con, Dn.bin, app, consA, nilA, test, slice, noO, someO, List.map_cons, List.map_nil, List.cons_append, List.nil_append, List.replicate_succ, List.replicate_zero, List.length_cons, List.length_nil, List.getElem?_cons_zero, List.getElem?_cons_succ, List.set_cons_zero, List.set_cons_succ, List.append_nil,
  Nat.add_one_sub_one, Nat.reduceAdd, Nat.reduceSub, Nat.reduceLeDiff, Nat.sub_zero, Nat.zero_add, if_true, if_false, ite_true, ite_false, Bool.false_eq_true, reduceIte, Bool.not_true, Bool.not_false, Bool.not_eq_true', Nat.zero_le, true_and, and_true, decide_eq_true_eq, Nat.reduceEqDiff, Option.some.injEq, exists_eq_left', reduceCtorEq, atI_zero, atI_one, atI_two, List.set_cons_zero, List.set_cons_succ, wp_kdE, wp_kdAt, wp_fldE, wp_methE, wp_meth, wp_methRs, wp_star, wp_starT, wp_rng1, wp_rngAt, cut_tail, Option.map_some, SX.S_cat, SX.S_len, LIM, List.append_assoc, List.length_map, List.length_take]
      refine ⟨by omega, k.length - (j + 1), by omega, j + 1, by omega, cj, rfl, rfl, ⟨_, e6, ?_, ?_, r5⟩, (t3.trans t4).trans t5⟩
      · simp only [List.length_append, List.length_cons, List.length_nil] at e2 ⊢
        omega
      · have := congrArg List.length e6
        obtain ⟨c, r, rfl⟩ := hr
        simp only [List.length_drop, List.length_append, List.length_cons, List.length_nil] at this ⊢
        omega
    · obtain rfl : j = k.length := by omega
      rw [List.drop_length] at e1 e2
      have ea : atC l pos [46] = false := by
        unfold atC
        have : l[pos]? = rest.head? := by
          have := get_end (i := pos) (nm := []) (rest := rest) (by simpa [fl] using e1)
          simpa using this
        rw [this]
        cases rest with
        | nil => rfl
        | cons c r => simpa using ho2 c r rfl
      rw [ea]
      simp only [wp_run, wp_bind, wp_ok, wp_bad, wpS_seq, Dn.wpS_set, wpS_ret, wpS_if, wpS_expr, wpS_skip, wpS_par, wpS_par3, wpS_asg, wpS_itemS, wpS_fldS, wpS_for, wpS_nx, wpS_rt, wpS_bk, wpS_ct, wpS_bad, wp_lc, wpS_never, thenK_nx, thenK_rt, thenK_bk, thenK_ct, outK_nx, outK_rt, turnK_nx, turnK_rt, turnK_bk, turnK_ct,
  wp_addI, wp_addS, wp_addT, wp_subI, wp_mulI, wp_mulS, wp_fdivI, wp_modI, wp_powI, ltD_int, leD_int, gtD_int, geD_int, eqV_int, eqV_str, wp_itemT, wp_itemR, wp_itemS, lenD_tup, lenD_rol, wp_lenS, intD_int, intD_bl, wp_intS, absD_int, minD_int, strD_str, wp_strI, wp_listS, truR_bl, sliceD_tup, sliceD_rol, wp_sliceS, wp_tup, wp_lst, wp_ifE, wp_andT, wp_orT, wp_notT, wp_appN, startsD_str,
  Dn.envOf, var, con, Dn.bin, app, consA, nilA, test, slice, noO, someO, List.map_cons, List.map_nil, List.cons_append, List.nil_append, List.replicate_succ, List.replicate_zero, List.length_cons, List.length_nil, List.getElem?_cons_zero, List.getElem?_cons_succ, List.set_cons_zero, List.set_cons_succ, List.append_nil,
  Nat.add_one_sub_one, Nat.reduceAdd, Nat.reduceSub, Nat.reduceLeDiff, Nat.sub_zero, Nat.zero_add, if_true, if_false, ite_true, ite_false, Bool.false_eq_true, reduceIte, Bool.not_true, Bool.not_false, Bool.not_eq_true', Nat.zero_le, true_and, and_true, decide_eq_true_eq, Nat.reduceEqDiff, Option.some.injEq, exists_eq_left', reduceCtorEq, atI_zero, atI_one, atI_two, List.set_cons_zero, List.set_cons_succ, wp_kdE, wp_kdAt, wp_fldE, wp_methE, wp_meth, wp_methRs, wp_star, wp_starT, wp_rng1, wp_rngAt, cut_tail, Option.map_some, SX.S_cat, SX.S_len, LIM, List.append_assoc, List.take_length]
      refine ⟨?_, t3⟩
      simp only [fl, List.length_nil, Nat.add_zero] at e2
      rw [← e2]
      exact r3
  cases k with
  | nil =>
    have hd3 : l.drop (i + m.length + 1) = [] ++ rest := hd2
    have ea : atC l (i + m.length + 1) letters = false := by
      have := atC_end hd3 ho
      simpa using this
    rw [ea]
    simp only [wp_run, wp_bind, wp_ok, wp_bad, wpS_seq, Dn.wpS_set, wpS_ret, wpS_if, wpS_expr, wpS_skip, wpS_par, wpS_par3, wpS_asg, wpS_itemS, wpS_fldS, wpS_for, wpS_nx, wpS_rt, wpS_bk, wpS_ct, wpS_bad, wp_lc, wpS_never, thenK_nx, thenK_rt, thenK_bk, thenK_ct, outK_nx, outK_rt, turnK_nx, turnK_rt, turnK_bk, turnK_ct,
  wp_addI, wp_addS, wp_addT, wp_subI, wp_mulI, wp_mulS, wp_fdivI, wp_modI, wp_powI, ltD_int, leD_int, gtD_int, geD_int, eqV_int, eqV_str, wp_itemT, wp_itemR, wp_itemS, lenD_tup, lenD_rol, wp_lenS, intD_int, intD_bl, wp_intS, absD_int, minD_int, strD_str, wp_strI, wp_listS, truR_bl, sliceD_tup, sliceD_rol, wp_sliceS, wp_tup, wp_lst, wp_ifE, wp_andT, wp_orT, wp_notT, wp_appN, startsD_str,
  Dn.envOf, var, con, Dn.bin, app, consA, nilA, test, slice, noO, someO, List.map_cons, List.map_nil, List.cons_append, List.nil_append, List.replicate_succ, List.replicate_zero, List.length_cons, List.length_nil, List.getElem?_cons_zero, List.getElem?_cons_succ, List.set_cons_zero, List.set_cons_succ, List.append_nil,
  Nat.add_one_sub_one, Nat.reduceAdd, Nat.reduceSub, Nat.reduceLeDiff, Nat.sub_zero, Nat.zero_add, if_true, if_false, ite_true, ite_false, Bool.false_eq_true, reduceIte, Bool.not_true, Bool.not_false, Bool.not_eq_true', Nat.zero_le, true_and, and_true, decide_eq_true_eq, Nat.reduceEqDiff, Option.some.injEq, exists_eq_left', reduceCtorEq, atI_zero, atI_one, atI_two, List.set_cons_zero, List.set_cons_succ, wp_kdE, wp_kdAt, wp_fldE, wp_methE, wp_meth, wp_methRs, wp_star, wp_starT, wp_rng1, wp_rngAt, cut_tail, Option.map_some, SX.S_cat, SX.S_len, LIM, List.append_assoc]
    refine wpS_while (fun mm r s => r = [some (.loc p), some (T m), some (.tup [])] ∧ s = s2) ?_ 0 _ _ ⟨rfl, rfl⟩
    rintro mm r s ⟨rfl, rfl⟩
    simp only [wp_run, wp_bind, wp_ok, wp_bad, wpS_seq, Dn.wpS_set, wpS_ret, wpS_if, wpS_expr, wpS_skip, wpS_par, wpS_par3, wpS_asg, wpS_itemS, wpS_fldS, wpS_for, wpS_nx, wpS_rt, wpS_bk, wpS_ct, wpS_bad, wp_lc, wpS_never, thenK_nx, thenK_rt, thenK_bk, thenK_ct, outK_nx, outK_rt, turnK_nx, turnK_rt, turnK_bk, turnK_ct,
  wp_addI, wp_addS, wp_addT, wp_subI, wp_mulI, wp_mulS, wp_fdivI, wp_modI, wp_powI, ltD_int, leD_int, gtD_int, geD_int, eqV_int, eqV_str, wp_itemT, wp_itemR, wp_itemS, lenD_tup, lenD_rol, wp_lenS, intD_int, intD_bl, wp_intS, absD_int, minD_int, strD_str, wp_strI, wp_listS, truR_bl, sliceD_tup, sliceD_rol, wp_sliceS, wp_tup, wp_lst, wp_ifE, wp_andT, wp_orT, wp_notT, wp_appN, startsD_str,
  Dn.envOf, var, con, Dn.bin, app, consA, nilA, test, slice, noO, someO, List.map_cons, List.map_nil, List.cons_append, List.nil_append, List.replicate_succ, List.replicate_zero, List.length_cons, List.length_nil, List.getElem?_cons_zero, List.getElem?_cons_succ, List.set_cons_zero, List.set_cons_succ, List.append_nil,
  Nat.add_one_sub_one, Nat.reduceAdd, Nat.reduceSub, Nat.reduceLeDiff, Nat.sub_zero, Nat.zero_add, if_true, if_false, ite_true, ite_false, Bool.false_eq_true, reduceIte, Bool.not_true, Bool.not_false, Bool.not_eq_true', Nat.zero_le, true_and, and_true, decide_eq_true_eq, Nat.reduceEqDiff, Option.some.injEq, exists_eq_left', reduceCtorEq, atI_zero, atI_one, atI_two, List.set_cons_zero, List.set_cons_succ, wp_kdE, wp_kdAt, wp_fldE, wp_methE, wp_meth, wp_methRs, wp_star, wp_starT, wp_rng1, wp_rngAt, cut_tail, Option.map_some, SX.S_cat, SX.S_len, LIM, List.append_assoc]
    rw [eq_tup0 (k := 0) (fun _ h => by cases h) (by decide)]
    simp only [wp_run, wp_bind, wp_ok, wp_bad, wpS_seq, Dn.wpS_set, wpS_ret, wpS_if, wpS_expr, wpS_skip, wpS_par, wpS_par3, wpS_asg, wpS_itemS, wpS_fldS, wpS_for, wpS_nx, wpS_rt, wpS_bk, wpS_ct, wpS_bad, wp_lc, wpS_never, thenK_nx, thenK_rt, thenK_bk, thenK_ct, outK_nx, outK_rt, turnK_nx, turnK_rt, turnK_bk, turnK_ct,
  wp_addI, wp_addS, wp_addT, wp_subI, wp_mulI, wp_mulS, wp_fdivI, wp_modI, wp_powI, ltD_int, leD_int, gtD_int, geD_int, eqV_int, eqV_str, wp_itemT, wp_itemR, wp_itemS, lenD_tup, lenD_rol, wp_lenS, intD_int, intD_bl, wp_intS, absD_int, minD_int, strD_str, wp_strI, wp_listS, truR_bl, sliceD_tup, sliceD_rol, wp_sliceS, wp_tup, wp_lst, wp_ifE, wp_andT, wp_orT, wp_notT, wp_appN, startsD_str,
  Dn.envOf, var, con, Dn.bin, app, consA, nilA, test, slice, noO, someO, List.map_cons, List.map_nil, List.cons_append, List.nil_append, List.replicate_succ, List.replicate_zero, List.length_cons, List.length_nil, List.getElem?_cons_zero, List.getElem?_cons_succ, List.set_cons_zero, List.set_cons_succ, List.append_nil,
  Nat.add_one_sub_one, Nat.reduceAdd, Nat.reduceSub, Nat.reduceLeDiff, Nat.sub_zero, Nat.zero_add, if_true, if_false, ite_true, ite_false, Bool.false_eq_true, reduceIte, Bool.not_true, Bool.not_false, Bool.not_eq_true', Nat.zero_le, true_and, and_true, decide_eq_true_eq, Nat.reduceEqDiff, Option.some.injEq, exists_eq_left', reduceCtorEq, atI_zero, atI_one, atI_two, List.set_cons_zero, List.set_cons_succ, wp_kdE, wp_kdAt, wp_fldE, wp_methE, wp_meth, wp_methRs, wp_star, wp_starT, wp_rng1, wp_rngAt, cut_tail, Option.map_some, SX.S_cat, SX.S_len, LIM, List.append_assoc, List.isEmpty_nil]
    refine ⟨?_, t1.trans t2⟩
    have : i + (m ++ (58 :: TL.joinL [46] [])).length = i + m.length + 1 := by
      simp [TL.joinL]
      omega
    rw [this]
    exact r2
  | cons x xs =>
    have hx := hk x List.mem_cons_self
    have hd3 : l.drop (i + m.length + 1) = x ++ (fl [46] xs ++ rest) := by
      rw [hd2, joinL_flat, List.append_assoc]
    have hx0 : 0 < x.length := List.length_pos_iff.mpr hx.1
    have ea : atC l (i + m.length + 1) letters = true := by
      have := atC_mid (k := 0) (cs := letters) hd3 hx0 (fun c hc => mem_letters.mpr (hx.2.2 c hc))
      simpa using this
    rw [ea]
    simp only [wp_run, wp_bind, wp_ok, wp_bad, wpS_seq, Dn.wpS_set, wpS_ret, wpS_if, wpS_expr, wpS_skip, wpS_par, wpS_par3, wpS_asg, wpS_itemS, wpS_fldS, wpS_for, wpS_nx, wpS_rt, wpS_bk, wpS_ct, wpS_bad, wp_lc, wpS_never, thenK_nx, thenK_rt, thenK_bk, thenK_ct, outK_nx, outK_rt, turnK_nx, turnK_rt, turnK_bk, turnK_ct,
  wp_addI, wp_addS, wp_addT, wp_subI, wp_mulI, wp_mulS, wp_fdivI, wp_modI, wp_powI, ltD_int, leD_int, gtD_int, geD_int, eqV_int, eqV_str, wp_itemT, wp_itemR, wp_itemS, lenD_tup, lenD_rol, wp_lenS, intD_int, intD_bl, wp_intS, absD_int, minD_int, strD_str, wp_strI, wp_listS, truR_bl, sliceD_tup, sliceD_rol, wp_sliceS, wp_tup, wp_lst, wp_ifE, wp_andT, wp_orT, wp_notT, wp_appN, startsD_str,
  Dn.envOf, var, con, Dn.bin, app, consA, nilA, test, slice, noO, someO, List.map_cons, List.map_nil, List.cons_append, List.nil_append, List.replicate_succ, List.replicate_zero, List.length_cons, List.length_nil, List.getElem?_cons_zero, List.getElem?_cons_succ, List.set_cons_zero, List.set_cons_succ, List.append_nil,
  Nat.add_one_sub_one, Nat.reduceAdd, Nat.reduceSub, Nat.reduceLeDiff, Nat.sub_zero, Nat.zero_add, if_true, if_false, ite_true, ite_false, Bool.false_eq_true, reduceIte, Bool.not_true, Bool.not_false, Bool.not_eq_true', Nat.zero_le, true_and, and_true, decide_eq_true_eq, Nat.reduceEqDiff, Option.some.injEq, exists_eq_left', reduceCtorEq, atI_zero, atI_one, atI_two, List.set_cons_zero, List.set_cons_succ, wp_kdE, wp_kdAt, wp_fldE, wp_methE, wp_meth, wp_methRs, wp_star, wp_starT, wp_rng1, wp_rngAt, cut_tail, Option.map_some, SX.S_cat, SX.S_len, LIM, List.append_assoc, wp_recv r2 rd_m1]
    have hoff : Off (fl [46] xs ++ rest) letters := fun c r e => by
      cases xs with
      | nil => exact ho c r e
      | cons y ys =>
        cases e
        rw [mem_letters]
        omega
    refine wp_mono (wp_name r2 hl hd3 hx (.inr hoff)) fun d s3 q3 => ?_
    obtain ⟨rfl, r3, t3⟩ := q3
    have hd4 := drop_app hd3
    refine loop 1 s3 (Nat.le_refl _) (by simp) ⟨_, hd4, ?_, ?_, r3⟩ ((t1.trans t2).trans t3)
    · rw [joinL_flat]
      simp only [List.length_append, List.length_cons, List.drop_succ_cons, List.drop_zero]
      omega
    · have := congrArg List.length hd4
      obtain ⟨c, r, rfl⟩ := hr
      simp only [List.length_drop, List.length_append, List.length_cons, List.length_nil] at this
      omega
end
end T91


set_option Elab.async false
set_option linter.all false
set_option maxRecDepth 100000
set_option maxHeartbeats 4000000
set_option autoImplicit false
namespace T91
open PySem Dn
section
variable {l : List Nat} {i j dp e p : Nat} {st st' st2 : Store} {Q : D → Store → Prop}
/-- what may stand behind words -/
def Stop (rest : List Nat) : Prop := ∀ c r, rest = c :: r → c = 32 ∨ c = 41
theorem Stop.off {rest cs : List Nat} (h : Stop rest) (h1 : 32 ∉ cs) (h2 : 41 ∉ cs) : Off rest cs := fun c r e => by
  rcases h c r e with k | k
  · rw [k]; exact h1
  · rw [k]; exact h2
theorem no_let : 32 ∉ letters ∧ 41 ∉ letters := by decide
theorem no_dig : 32 ∉ digits ∧ 41 ∉ digits := by decide
theorem q_sign : Str.ofString "sign" = SX.S Sr.sign.t := by rfl
theorem q_number : Str.ofString "number" = SX.S Sr.number.t := by rfl
theorem signs : c_SIGNS = .tup ([60, 61, 62].map fun c => T [c]) := by rfl
theorem sr_sign (s : Sr) : (SX.S s.t == SX.S Sr.sign.t) = decide (s = .sign) := by cases s <;> rfl
theorem sr_number (s : Sr) : (SX.S s.t == SX.S Sr.number.t) = decide (s = .number) := by cases s <;> rfl
/-- an item that is no words -/
theorem wp_item {n : Nat} {s : Sr} {it : It} {rest : List Nat} (h : Rd p l i dp st) (hl : l.length ≤ 1000000) (hok : ItOk s it) (hd : l.drop i = it.t ++ rest) (ho : Stop rest) :
    wp (F_read_item (n + 1) [.loc p, T s.t] st) fun d st' => d = it.d ∧ Rd p l (i + it.t.length) dp st' ∧ Kp p st st' := by
  rw [F_read_item_succ]
  unfold b_read_item
  simp only [wp_run, wp_bind, wp_ok, wp_bad, wpS_seq, Dn.wpS_set, wpS_ret, wpS_if, wpS_expr, wpS_skip, wpS_par, wpS_par3, wpS_asg, wpS_itemS, wpS_fldS, wpS_for, wpS_nx, wpS_rt, wpS_bk, wpS_ct, wpS_bad, wp_lc, wpS_never, thenK_nx, thenK_rt, thenK_bk, thenK_ct, outK_nx, outK_rt, turnK_nx, turnK_rt, turnK_bk, turnK_ct,
  wp_addI, wp_addS, wp_addT, wp_subI, wp_mulI, wp_mulS, wp_fdivI, wp_modI, wp_powI, ltD_int, leD_int, gtD_int, geD_int, eqV_int, eqV_str, wp_itemT, wp_itemR, wp_itemS, lenD_tup, lenD_rol, wp_lenS, intD_int, intD_bl, wp_intS, absD_int, minD_int, strD_str, wp_strI, wp_listS, truR_bl, sliceD_tup, sliceD_rol, wp_sliceS, wp_tup, wp_lst, wp_ifE, wp_andT, wp_orT, wp_notT, wp_appN, startsD_str,
  Dn.envOf, var, con, Dn.bin, app, consA, nilA, test, slice, noO, someO, List.map_cons, List.map_nil, List.cons_append, List.nil_append, List.replicate_succ, List.replicate_zero, List.length_cons, List.length_nil, List.getElem?_cons_zero, List.getElem?_cons_succ, List.set_cons_zero, List.set_cons_succ, List.append_nil,
  Nat.add_one_sub_one, Nat.reduceAdd, Nat.reduceSub, Nat.reduceLeDiff, Nat.sub_zero, Nat.zero_add, if_true, if_false, ite_true, ite_false, Bool.false_eq_true, reduceIte, Bool.not_true, Bool.not_false, Bool.not_eq_true', Nat.zero_le, true_and, and_true, decide_eq_true_eq, Nat.reduceEqDiff, Option.some.injEq, exists_eq_left', reduceCtorEq, atI_zero, atI_one, atI_two, List.set_cons_zero, List.set_cons_succ, wp_kdE, wp_kdAt, wp_fldE, wp_methE, wp_meth, wp_methRs, wp_star, wp_starT, wp_rng1, wp_rngAt, cut_tail, Option.map_some, SX.S_cat, SX.S_len, LIM, List.append_assoc, q_is, q_words, q_lp, q_rp, q_isp, q_sp, q_col, q_dot, q_sign, q_number, sr_words, sr_sign, sr_number]
  cases s <;> cases it <;> first
    | exact hok.elim
    | (simp only [wp_run, wp_bind, wp_ok, wp_bad, wpS_seq, Dn.wpS_set, wpS_ret, wpS_if, wpS_expr, wpS_skip, wpS_par, wpS_par3, wpS_asg, wpS_itemS, wpS_fldS, wpS_for, wpS_nx, wpS_rt, wpS_bk, wpS_ct, wpS_bad, wp_lc, wpS_never, thenK_nx, thenK_rt, thenK_bk, thenK_ct, outK_nx, outK_rt, turnK_nx, turnK_rt, turnK_bk, turnK_ct,
  wp_addI, wp_addS, wp_addT, wp_subI, wp_mulI, wp_mulS, wp_fdivI, wp_modI, wp_powI, ltD_int, leD_int, gtD_int, geD_int, eqV_int, eqV_str, wp_itemT, wp_itemR, wp_itemS, lenD_tup, lenD_rol, wp_lenS, intD_int, intD_bl, wp_intS, absD_int, minD_int, strD_str, wp_strI, wp_listS, truR_bl, sliceD_tup, sliceD_rol, wp_sliceS, wp_tup, wp_lst, wp_ifE, wp_andT, wp_orT, wp_notT, wp_appN, startsD_str,
  Dn.envOf, var, con, Dn.bin, app, consA, nilA, test, slice, noO, someO, List.map_cons, List.map_nil, List.cons_append, List.nil_append, List.replicate_succ, List.replicate_zero, List.length_cons, List.length_nil, List.getElem?_cons_zero, List.getElem?_cons_succ, List.set_cons_zero, List.set_cons_succ, List.append_nil,
  Nat.add_one_sub_one, Nat.reduceAdd, Nat.reduceSub, Nat.reduceLeDiff, Nat.sub_zero, Nat.zero_add, if_true, if_false, ite_true, ite_false, Bool.false_eq_true, reduceIte, Bool.not_true, Bool.not_false, Bool.not_eq_true', Nat.zero_le, true_and, and_true, decide_eq_true_eq, Nat.reduceEqDiff, Option.some.injEq, exists_eq_left', reduceCtorEq, atI_zero, atI_one, atI_two, List.set_cons_zero, List.set_cons_succ, wp_kdE, wp_kdAt, wp_fldE, wp_methE, wp_meth, wp_methRs, wp_star, wp_starT, wp_rng1, wp_rngAt, cut_tail, Option.map_some, SX.S_cat, SX.S_len, LIM, List.append_assoc, wp_recv h rd_m1]
       exact wp_name h hl hd hok (.inr (ho.off no_let.1 no_let.2)))
    | (simp only [wp_run, wp_bind, wp_ok, wp_bad, wpS_seq, Dn.wpS_set, wpS_ret, wpS_if, wpS_expr, wpS_skip, wpS_par, wpS_par3, wpS_asg, wpS_itemS, wpS_fldS, wpS_for, wpS_nx, wpS_rt, wpS_bk, wpS_ct, wpS_bad, wp_lc, wpS_never, thenK_nx, thenK_rt, thenK_bk, thenK_ct, outK_nx, outK_rt, turnK_nx, turnK_rt, turnK_bk, turnK_ct,
  wp_addI, wp_addS, wp_addT, wp_subI, wp_mulI, wp_mulS, wp_fdivI, wp_modI, wp_powI, ltD_int, leD_int, gtD_int, geD_int, eqV_int, eqV_str, wp_itemT, wp_itemR, wp_itemS, lenD_tup, lenD_rol, wp_lenS, intD_int, intD_bl, wp_intS, absD_int, minD_int, strD_str, wp_strI, wp_listS, truR_bl, sliceD_tup, sliceD_rol, wp_sliceS, wp_tup, wp_lst, wp_ifE, wp_andT, wp_orT, wp_notT, wp_appN, startsD_str,
  Dn.envOf, var, con, Dn.bin, app, consA, nilA, test, slice, noO, someO, List.map_cons, List.map_nil, List.cons_append, List.nil_append, List.replicate_succ, List.replicate_zero, List.length_cons, List.length_nil, List.getElem?_cons_zero, List.getElem?_cons_succ, List.set_cons_zero, List.set_cons_succ, List.append_nil,
  Nat.add_one_sub_one, Nat.reduceAdd, Nat.reduceSub, Nat.reduceLeDiff, Nat.sub_zero, Nat.zero_add, if_true, if_false, ite_true, ite_false, Bool.false_eq_true, reduceIte, Bool.not_true, Bool.not_false, Bool.not_eq_true', Nat.zero_le, true_and, and_true, decide_eq_true_eq, Nat.reduceEqDiff, Option.some.injEq, exists_eq_left', reduceCtorEq, atI_zero, atI_one, atI_two, List.set_cons_zero, List.set_cons_succ, wp_kdE, wp_kdAt, wp_fldE, wp_methE, wp_meth, wp_methRs, wp_star, wp_starT, wp_rng1, wp_rngAt, cut_tail, Option.map_some, SX.S_cat, SX.S_len, LIM, List.append_assoc, wp_recv h rd_m2]
       exact wp_num h hl hd hok (ho.off no_dig.1 no_dig.2))
    | (simp only [wp_run, wp_bind, wp_ok, wp_bad, wpS_seq, Dn.wpS_set, wpS_ret, wpS_if, wpS_expr, wpS_skip, wpS_par, wpS_par3, wpS_asg, wpS_itemS, wpS_fldS, wpS_for, wpS_nx, wpS_rt, wpS_bk, wpS_ct, wpS_bad, wp_lc, wpS_never, thenK_nx, thenK_rt, thenK_bk, thenK_ct, outK_nx, outK_rt, turnK_nx, turnK_rt, turnK_bk, turnK_ct,
  wp_addI, wp_addS, wp_addT, wp_subI, wp_mulI, wp_mulS, wp_fdivI, wp_modI, wp_powI, ltD_int, leD_int, gtD_int, geD_int, eqV_int, eqV_str, wp_itemT, wp_itemR, wp_itemS, lenD_tup, lenD_rol, wp_lenS, intD_int, intD_bl, wp_intS, absD_int, minD_int, strD_str, wp_strI, wp_listS, truR_bl, sliceD_tup, sliceD_rol, wp_sliceS, wp_tup, wp_lst, wp_ifE, wp_andT, wp_orT, wp_notT, wp_appN, startsD_str,
  Dn.envOf, var, con, Dn.bin, app, consA, nilA, test, slice, noO, someO, List.map_cons, List.map_nil, List.cons_append, List.nil_append, List.replicate_succ, List.replicate_zero, List.length_cons, List.length_nil, List.getElem?_cons_zero, List.getElem?_cons_succ, List.set_cons_zero, List.set_cons_succ, List.append_nil,
  Nat.add_one_sub_one, Nat.reduceAdd, Nat.reduceSub, Nat.reduceLeDiff, Nat.sub_zero, Nat.zero_add, if_true, if_false, ite_true, ite_false, Bool.false_eq_true, reduceIte, Bool.not_true, Bool.not_false, Bool.not_eq_true', Nat.zero_le, true_and, and_true, decide_eq_true_eq, Nat.reduceEqDiff, Option.some.injEq, exists_eq_left', reduceCtorEq, atI_zero, atI_one, atI_two, List.set_cons_zero, List.set_cons_succ, wp_kdE, wp_kdAt, wp_fldE, wp_methE, wp_meth, wp_methRs, wp_star, wp_starT, wp_rng1, wp_rngAt, cut_tail, Option.map_some, SX.S_cat, SX.S_len, LIM, List.append_assoc, wp_recv h rd_take, signs]
       refine wp_take1 h hl (.seq (cs := [60, 61, 62]) rfl) hd ?_
       rcases hok with e | e | e <;> rw [e] <;> decide)
/-- items, a blank between two -/
theorem wp_items {n : Nat} {ss : List (List Nat)} {ds : List D} {ts : List (List Nat)} {rest : List Nat} {k : Nat} (h : Rd p l i dp st) (hl : l.length ≤ 1000000) (hd : l.drop i = TL.joinL [32] ts ++ rest) (ho : Stop rest) (h1 : ss.length = ts.length) (h2 : ds.length = ts.length) (hmax : ts.length < 100)
    (hpy : ∀ d ∈ ds, PyOk k d) (hk : k ≤ 58)
    (hi : ∀ (j : Nat) s d t i' rest' st, ss[j]? = some s → ds[j]? = some d → ts[j]? = some t → Rd p l i' dp st → l.drop i' = t ++ rest' → Stop rest' → wp (F_read_item n [.loc p, T s] st) fun d' st' => d' = d ∧ Rd p l (i' + t.length) dp st' ∧ Kp p st st') :
    wp (F_read_items (n + 1) [.loc p, .tup (ss.map T)] st) fun d st' => d = .tup ds ∧ Rd p l (i + (TL.joinL [32] ts).length) dp st' ∧ Kp p st st' := by
  rw [F_read_items_succ]
  unfold b_read_items
  simp only [wp_run, wp_bind, wp_ok, wp_bad, wpS_seq, Dn.wpS_set, wpS_ret, wpS_if, wpS_expr, wpS_skip, wpS_par, wpS_par3, wpS_asg, wpS_itemS, wpS_fldS, wpS_for, wpS_nx, wpS_rt, wpS_bk, wpS_ct, wpS_bad, wp_lc, wpS_never, thenK_nx, thenK_rt, thenK_bk, thenK_ct, outK_nx, outK_rt, turnK_nx, turnK_rt, turnK_bk, turnK_ct,
  wp_addI, wp_addS, wp_addT, wp_subI, wp_mulI, wp_mulS, wp_fdivI, wp_modI, wp_powI, ltD_int, leD_int, gtD_int, geD_int, eqV_int, eqV_str, wp_itemT, wp_itemR, wp_itemS, lenD_tup, lenD_rol, wp_lenS, intD_int, intD_bl, wp_intS, absD_int, minD_int, strD_str, wp_strI, wp_listS, truR_bl, sliceD_tup, sliceD_rol, wp_sliceS, wp_tup, wp_lst, wp_ifE, wp_andT, wp_orT, wp_notT, wp_appN, startsD_str,
  Dn.envOf, var, con, Dn.bin, app, consA, nilA, test, slice, noO, someO, List.map_cons, List.map_nil, List.cons_append, List.nil_append, List.replicate_succ, List.replicate_zero, List.length_cons, List.length_nil, List.getElem?_cons_zero, List.getElem?_cons_succ, List.set_cons_zero, List.set_cons_succ, List.append_nil,
  Nat.add_one_sub_one, Nat.reduceAdd, Nat.reduceSub, Nat.reduceLeDiff, Nat.sub_zero, Nat.zero_add, if_true, if_false, ite_true, ite_false, Bool.false_eq_true, reduceIte, Bool.not_true, Bool.not_false, Bool.not_eq_true', Nat.zero_le, true_and, and_true, decide_eq_true_eq, Nat.reduceEqDiff, Option.some.injEq, exists_eq_left', reduceCtorEq, atI_zero, atI_one, atI_two, List.set_cons_zero, List.set_cons_succ, wp_kdE, wp_kdAt, wp_fldE, wp_methE, wp_meth, wp_methRs, wp_star, wp_starT, wp_rng1, wp_rngAt, cut_tail, Option.map_some, SX.S_cat, SX.S_len, LIM, List.append_assoc, q_is, q_words, q_lp, q_rp, q_isp, q_sp, q_col, q_dot, seqW]
  refine wpS_forN (fun todo r s => ∃ j o, j ≤ ts.length ∧ todo = (ss.drop j).map T ∧ r = [some (.loc p), some (.tup (ss.map T)), some (.tup (ds.take j)), o] ∧ (∃ pos, l.drop pos = (if j = 0 then TL.joinL [32] ts else fl [32] (ts.drop j)) ++ rest ∧ pos + (if j = 0 then TL.joinL [32] ts else fl [32] (ts.drop j)).length = i + (TL.joinL [32] ts).length ∧ Rd p l pos dp s) ∧ Kp p st s)
    (fun _ _ _ _ => oks_nil) ?_ ?_ _ _ _ ⟨0, none, Nat.zero_le _, rfl, rfl, ⟨i, by rw [if_pos rfl]; exact hd, by rw [if_pos rfl], h⟩, Kp.refl⟩
  · rintro r s ⟨j, o, j1, j2, rfl, ⟨pos, e1, e2, r3⟩, t3⟩
    have hj : j = ts.length := by
      have := congrArg List.length j2
      simp at this
      omega
    subst hj
    have e3 : ds.take ts.length = ds := by rw [← h2, List.take_length]
    simp only [wp_run, wp_bind, wp_ok, wp_bad, wpS_seq, Dn.wpS_set, wpS_ret, wpS_if, wpS_expr, wpS_skip, wpS_par, wpS_par3, wpS_asg, wpS_itemS, wpS_fldS, wpS_for, wpS_nx, wpS_rt, wpS_bk, wpS_ct, wpS_bad, wp_lc, wpS_never, thenK_nx, thenK_rt, thenK_bk, thenK_ct, outK_nx, outK_rt, turnK_nx, turnK_rt, turnK_bk, turnK_ct,
  wp_addI, wp_addS, wp_addT, wp_subI, wp_mulI, wp_mulS, wp_fdivI, wp_modI, wp_powI, ltD_int, leD_int, gtD_int, geD_int, eqV_int, eqV_str, wp_itemT, wp_itemR, wp_itemS, lenD_tup, lenD_rol, wp_lenS, intD_int, intD_bl, wp_intS, absD_int, minD_int, strD_str, wp_strI, wp_listS, truR_bl, sliceD_tup, sliceD_rol, wp_sliceS, wp_tup, wp_lst, wp_ifE, wp_andT, wp_orT, wp_notT, wp_appN, startsD_str,
  Dn.envOf, var, con, Dn.bin, app, consA, nilA, test, slice, noO, someO, List.map_cons, List.map_nil, List.cons_append, List.nil_append, List.replicate_succ, List.replicate_zero, List.length_cons, List.length_nil, List.getElem?_cons_zero, List.getElem?_cons_succ, List.set_cons_zero, List.set_cons_succ, List.append_nil,
  Nat.add_one_sub_one, Nat.reduceAdd, Nat.reduceSub, Nat.reduceLeDiff, Nat.sub_zero, Nat.zero_add, if_true, if_false, ite_true, ite_false, Bool.false_eq_true, reduceIte, Bool.not_true, Bool.not_false, Bool.not_eq_true', Nat.zero_le, true_and, and_true, decide_eq_true_eq, Nat.reduceEqDiff, Option.some.injEq, exists_eq_left', reduceCtorEq, atI_zero, atI_one, atI_two, List.set_cons_zero, List.set_cons_succ, wp_kdE, wp_kdAt, wp_fldE, wp_methE, wp_meth, wp_methRs, wp_star, wp_starT, wp_rng1, wp_rngAt, cut_tail, Option.map_some, SX.S_cat, SX.S_len, LIM, List.append_assoc, e3]
    refine ⟨?_, t3⟩
    have e4 : (if ts.length = 0 then TL.joinL [32] ts else fl [32] (ts.drop ts.length)).length = 0 := by
      split
      · rename_i hz
        have : ts = [] := List.length_eq_zero_iff.mp hz
        subst this
        rfl
      · rw [List.drop_length]
        rfl
    rw [e4, Nat.add_zero] at e2
    rw [← e2]
    exact r3
  · rintro d todo r s ⟨j, o, j1, j2, rfl, ⟨pos, e1, e2, r3⟩, t3⟩
    have hj : j < ts.length := by
      by_cases c : j < ts.length
      · exact c
      · rw [List.drop_eq_nil_of_le (by omega)] at j2
        cases j2
    have ed : ss.drop j = ss[j]'(by omega) :: ss.drop (j + 1) := by simp
    rw [ed, List.map_cons] at j2
    simp only [List.cons.injEq] at j2
    obtain ⟨rfl, rfl⟩ := j2
    refine ⟨_, rfl, ?_⟩
    have hs : ss[j]? = some (ss[j]'(by omega)) := by simp
    have hds : ds[j]? = some (ds[j]'(by omega)) := by simp
    have hts : ts[j]? = some (ts[j]'hj) := by simp
    have edt : ts.drop j = ts[j] :: ts.drop (j + 1) := by simp
    simp only [wp_run, wp_bind, wp_ok, wp_bad, wpS_seq, Dn.wpS_set, wpS_ret, wpS_if, wpS_expr, wpS_skip, wpS_par, wpS_par3, wpS_asg, wpS_itemS, wpS_fldS, wpS_for, wpS_nx, wpS_rt, wpS_bk, wpS_ct, wpS_bad, wp_lc, wpS_never, thenK_nx, thenK_rt, thenK_bk, thenK_ct, outK_nx, outK_rt, turnK_nx, turnK_rt, turnK_bk, turnK_ct,
  wp_addI, wp_addS, wp_addT, wp_subI, wp_mulI, wp_mulS, wp_fdivI, wp_modI, wp_powI, ltD_int, leD_int, gtD_int, geD_int, eqV_int, eqV_str, wp_itemT, wp_itemR, wp_itemS, lenD_tup, lenD_rol, wp_lenS, intD_int, intD_bl, wp_intS, absD_int, minD_int, strD_str, wp_strI, wp_listS, truR_bl, sliceD_tup, sliceD_rol, wp_sliceS, wp_tup, wp_lst, wp_ifE, wp_andT, wp_orT, wp_notT, wp_appN, startsD_str,
  Dn.envOf, var, con, Dn.bin, app, consA, nilA, test, slice, noO, someO, List.map_cons, List.map_nil, List.cons_append, List.nil_append, List.replicate_succ, List.replicate_zero, List.length_cons, List.length_nil, List.getElem?_cons_zero, List.getElem?_cons_succ, List.set_cons_zero, List.set_cons_succ, List.append_nil,
  Nat.add_one_sub_one, Nat.reduceAdd, Nat.reduceSub, Nat.reduceLeDiff, Nat.sub_zero, Nat.zero_add, if_true, if_false, ite_true, ite_false, Bool.false_eq_true, reduceIte, Bool.not_true, Bool.not_false, Bool.not_eq_true', Nat.zero_le, true_and, and_true, decide_eq_true_eq, Nat.reduceEqDiff, Option.some.injEq, exists_eq_left', reduceCtorEq, atI_zero, atI_one, atI_two, List.set_cons_zero, List.set_cons_succ, wp_kdE, wp_kdAt, wp_fldE, wp_methE, wp_meth, wp_methRs, wp_star, wp_starT, wp_rng1, wp_rngAt, cut_tail, Option.map_some, SX.S_cat, SX.S_len, LIM, List.append_assoc]
    rw [eq_tup0 (k := k) (fun d hd => hpy d (List.mem_of_mem_take hd)) hk]
    have hrest : Stop (fl [32] (ts.drop (j + 1)) ++ rest) := fun c r e => by
      cases hq : ts.drop (j + 1) with
      | nil =>
        rw [hq] at e
        exact ho c r e
      | cons x xs =>
        rw [hq] at e
        cases e
        exact .inl rfl
    -- the item itself
    have fin : ∀ (pos' : Nat) (s2 : Store), Rd p l pos' dp s2 → Kp p st s2 → l.drop pos' = ts[j] ++ (fl [32] (ts.drop (j + 1)) ++ rest) → pos' + (ts[j].length + (fl [32] (ts.drop (j + 1))).length) = i + (TL.joinL [32] ts).length →
        wp (F_read_item n [.loc p, T (ss[j]'(by omega))] s2) fun y st1 => (ds.take j ++ [y]).length ≤ 4000000 ∧
          ∃ j_1 o, j_1 ≤ ts.length ∧ (ss.drop (j + 1)).map T = (ss.drop j_1).map T ∧ [some (D.loc p), some (.tup (ss.map T)), some (.tup (ds.take j ++ [y])), some (T (ss[j]'(by omega)))] = [some (.loc p), some (.tup (ss.map T)), some (.tup (ds.take j_1)), o] ∧ (∃ pos, l.drop pos = (if j_1 = 0 then TL.joinL [32] ts else fl [32] (ts.drop j_1)) ++ rest ∧ pos + (if j_1 = 0 then TL.joinL [32] ts else fl [32] (ts.drop j_1)).length = i + (TL.joinL [32] ts).length ∧ Rd p l pos dp st1) ∧ Kp p st st1 := by
      intro pos' s2 r4 t4 q1 q2
      refine wp_mono (hi j _ _ _ pos' _ s2 hs hds hts r4 q1 hrest) fun d s5 q5 => ?_
      obtain ⟨rfl, r5, t5⟩ := q5
      have e7 : ds.take j ++ [ds[j]'(by omega)] = ds.take (j + 1) := take_snoc' (by omega)
      simp only [e7, List.length_take]
      refine ⟨by omega, j + 1, _, hj, rfl, rfl, ⟨_, ?_, ?_, r5⟩, t4.trans t5⟩
      · rw [if_neg (by omega)]
        exact drop_app q1
      · rw [if_neg (by omega)]
        omega
    by_cases c0 : j = 0
    · subst c0
      have hne : (ds.take 0).isEmpty = true := rfl
      simp only [hne, wp_run, wp_bind, wp_ok, wp_bad, wpS_seq, Dn.wpS_set, wpS_ret, wpS_if, wpS_expr, wpS_skip, wpS_par, wpS_par3, wpS_asg, wpS_itemS, wpS_fldS, wpS_for, wpS_nx, wpS_rt, wpS_bk, wpS_ct, wpS_bad, wp_lc, wpS_never, thenK_nx, thenK_rt, thenK_bk, thenK_ct, outK_nx, outK_rt, turnK_nx, turnK_rt, turnK_bk, turnK_ct,
  wp_addI, wp_addS, wp_addT, wp_subI, wp_mulI, wp_mulS, wp_fdivI, wp_modI, wp_powI, ltD_int, leD_int, gtD_int, geD_int, eqV_int, eqV_str, wp_itemT, wp_itemR, wp_itemS, lenD_tup, lenD_rol, wp_lenS, intD_int, intD_bl, wp_intS, absD_int, minD_int, strD_str, wp_strI, wp_listS, truR_bl, sliceD_tup, sliceD_rol, wp_sliceS, wp_tup, wp_lst, wp_ifE, wp_andT, wp_orT, wp_notT, wp_appN, startsD_str,
  Dn.envOf, var, con, Dn.bin, app, consA, nilA, test, slice, noO, someO, List.map_cons, List.map_nil, List.cons_append, List.nil_append, List.replicate_succ, List.replicate_zero, List.length_cons, List.length_nil, List.getElem?_cons_zero, List.getElem?_cons_succ, List.set_cons_zero, List.set_cons_succ, List.append_nil,
  Nat.add_one_sub_one, Nat.reduceAdd, Nat.reduceSub, Nat.reduceLeDiff, Nat.sub_zero, Nat.zero_add, if_true, if_false, ite_true, ite_false, Bool.false_eq_true, reduceIte, Bool.not_true, Bool.not_false, Bool.not_eq_true', Nat.zero_le, true_and, and_true, decide_eq_true_eq, Nat.reduceEqDiff, Option.some.injEq, exists_eq_left', reduceCtorEq, atI_zero, atI_one, atI_two, List.set_cons_zero, List.set_cons_succ, wp_kdE, wp_kdAt, wp_fldE, wp_methE, wp_meth, wp_methRs, wp_star, wp_starT, wp_rng1, wp_rngAt, cut_tail, Option.map_some, SX.S_cat, SX.S_len, LIM, List.append_assoc]
      refine fin pos s r3 t3 ?_ ?_
      · rw [e1, if_pos rfl, ← List.append_assoc]
        rw [← joinL_flat]
        have edt0 : ts = ts[0] :: ts.drop (0 + 1) := edt
        rw [← edt0]
      · rw [if_pos rfl] at e2
        have edt0 : ts = ts[0] :: ts.drop (0 + 1) := edt
        rw [← e2, ← List.length_append, ← joinL_flat, ← edt0]
    · have hne : (ds.take j).isEmpty = false := by
        cases ds with
        | nil => simp at h2; omega
        | cons x xs =>
          obtain ⟨q, rfl⟩ : ∃ q, j = q + 1 := ⟨j - 1, by omega⟩
          rfl
      rw [if_neg c0, edt, fl, List.append_assoc, List.append_assoc] at e1
      rw [if_neg c0, edt, fl, List.length_append, List.length_append] at e2
      simp only [hne, wp_run, wp_bind, wp_ok, wp_bad, wpS_seq, Dn.wpS_set, wpS_ret, wpS_if, wpS_expr, wpS_skip, wpS_par, wpS_par3, wpS_asg, wpS_itemS, wpS_fldS, wpS_for, wpS_nx, wpS_rt, wpS_bk, wpS_ct, wpS_bad, wp_lc, wpS_never, thenK_nx, thenK_rt, thenK_bk, thenK_ct, outK_nx, outK_rt, turnK_nx, turnK_rt, turnK_bk, turnK_ct,
  wp_addI, wp_addS, wp_addT, wp_subI, wp_mulI, wp_mulS, wp_fdivI, wp_modI, wp_powI, ltD_int, leD_int, gtD_int, geD_int, eqV_int, eqV_str, wp_itemT, wp_itemR, wp_itemS, lenD_tup, lenD_rol, wp_lenS, intD_int, intD_bl, wp_intS, absD_int, minD_int, strD_str, wp_strI, wp_listS, truR_bl, sliceD_tup, sliceD_rol, wp_sliceS, wp_tup, wp_lst, wp_ifE, wp_andT, wp_orT, wp_notT, wp_appN, startsD_str,
  Dn.envOf, var, con, Dn.bin, app, consA, nilA, test, slice, noO, someO, List.map_cons, List.map_nil, List.cons_append, List.nil_append, List.replicate_succ, List.replicate_zero, List.length_cons, List.length_nil, List.getElem?_cons_zero, List.getElem?_cons_succ, List.set_cons_zero, List.set_cons_succ, List.append_nil,
  Nat.add_one_sub_one, Nat.reduceAdd, Nat.reduceSub, Nat.reduceLeDiff, Nat.sub_zero, Nat.zero_add, if_true, if_false, ite_true, ite_false, Bool.false_eq_true, reduceIte, Bool.not_true, Bool.not_false, Bool.not_eq_true', Nat.zero_le, true_and, and_true, decide_eq_true_eq, Nat.reduceEqDiff, Option.some.injEq, exists_eq_left', reduceCtorEq, atI_zero, atI_one, atI_two, List.set_cons_zero, List.set_cons_succ, wp_kdE, wp_kdAt, wp_fldE, wp_methE, wp_meth, wp_methRs, wp_star, wp_starT, wp_rng1, wp_rngAt, cut_tail, Option.map_some, SX.S_cat, SX.S_len, LIM, List.append_assoc, q_is, q_words, q_lp, q_rp, q_isp, q_sp, q_col, q_dot, wp_recv r3 rd_take]
      refine wp_mono (wp_take1 r3 hl (.str [32]) e1 (by simp)) fun d s4 q4 => ?_
      obtain ⟨-, r4, t4⟩ := q4
      have := fin (pos + 1) s4 r4 (t3.trans t4) (drop_app (a := [32]) e1) (by simp only [List.length_cons, List.length_nil] at e2; omega)
      exact this
end
end T91


set_option Elab.async false
set_option linter.all false
set_option maxRecDepth 100000
set_option maxHeartbeats 4000000
set_option autoImplicit false
namespace T91
open PySem Dn
section
variable {l : List Nat} {i j dp e p : Nat} {st st' st2 : Store} {Q : D → Store → Prop}
def Alone (w : List Nat) : Prop := w ∈ heads ∧ ∀ k, k < w.length → w.take k ∉ heads
theorem alone_h (h : H9) : Alone h.t := by
  cases h <;> exact ⟨by decide, by decide⟩
theorem alone_is : Alone l_is := ⟨by decide, by decide⟩
theorem alone_not : Alone l_not := ⟨by decide, by decide⟩
theorem alone_bi (o : Bool) : Alone (if o then l_and else l_or) := by
  cases o <;> exact ⟨by decide, by decide⟩
theorem sorts_tok {ss : List (List Nat)} (h : ∀ s ∈ ss, Tok' s) : ∀ d ∈ ss.map T, PyOk 0 d := fun d hd => by
  obtain ⟨x, hx, rfl⟩ := List.mem_map.mp hd
  exact pyOk_T (h x hx)
theorem map_empty {ss : List (List Nat)} : (ss.map T).isEmpty = ss.isEmpty := by cases ss <;> rfl
/-- head(items) -/
theorem wp_head {n k : Nat} {hd : List Nat} {ss : List (List Nat)} {ds : List D} {ts : List (List Nat)} {rest : List Nat} (h : Rd p l i dp st) (hl : l.length ≤ 1000000) (ha : Alone hd) (hh : (SX.S hd == SX.S l_is) = false) (hk : t_SHAPES.lookup (SX.S hd) = some (.tup (ss.map T))) (hst : ∀ s ∈ ss, Tok' s)
    (hdr : l.drop i = (if ts.isEmpty then hd else hd ++ (40 :: (TL.joinL [32] ts ++ [41]))) ++ rest) (h1 : ss.length = ts.length) (h2 : ds.length = ts.length) (hmax : ts.length < 100) (hdp : ts ≠ [] → dp < 9)
    (hpy : ∀ d ∈ ds, PyOk k d) (hk2 : k ≤ 58)
    (hi : ∀ (j : Nat) s d t i' rest' st, ss[j]? = some s → ds[j]? = some d → ts[j]? = some t → Rd p l i' (dp + 1) st → l.drop i' = t ++ rest' → Stop rest' → wp (F_read_item n [.loc p, T s] st) fun d' st' => d' = d ∧ Rd p l (i' + t.length) (dp + 1) st' ∧ Kp p st st') :
    wp (F_read_words (n + 2) [.loc p] st) fun d st' => d = .tup (T hd :: ds) ∧ Rd p l (i + (if ts.isEmpty then hd else hd ++ (40 :: (TL.joinL [32] ts ++ [41]))).length) dp st' ∧ Kp p st st' := by
  rw [F_read_words_succ]
  unfold b_read_words
  simp only [wp_run, wp_bind, wp_ok, wp_bad, wpS_seq, Dn.wpS_set, wpS_ret, wpS_if, wpS_expr, wpS_skip, wpS_par, wpS_par3, wpS_asg, wpS_itemS, wpS_fldS, wpS_for, wpS_nx, wpS_rt, wpS_bk, wpS_ct, wpS_bad, wp_lc, wpS_never, thenK_nx, thenK_rt, thenK_bk, thenK_ct, outK_nx, outK_rt, turnK_nx, turnK_rt, turnK_bk, turnK_ct,
  wp_addI, wp_addS, wp_addT, wp_subI, wp_mulI, wp_mulS, wp_fdivI, wp_modI, wp_powI, ltD_int, leD_int, gtD_int, geD_int, eqV_int, eqV_str, wp_itemT, wp_itemR, wp_itemS, lenD_tup, lenD_rol, wp_lenS, intD_int, intD_bl, wp_intS, absD_int, minD_int, strD_str, wp_strI, wp_listS, truR_bl, sliceD_tup, sliceD_rol, wp_sliceS, wp_tup, wp_lst, wp_ifE, wp_andT, wp_orT, wp_notT, wp_appN, startsD_str,
  Dn.envOf, var, con, Dn.bin, app, consA, nilA, test, slice, noO, someO, List.map_cons, List.map_nil, List.cons_append, List.nil_append, List.replicate_succ, List.replicate_zero, List.length_cons, List.length_nil, List.getElem?_cons_zero, List.getElem?_cons_succ, List.set_cons_zero, List.set_cons_succ, List.append_nil,
  Nat.add_one_sub_one, Nat.reduceAdd, Nat.reduceSub, Nat.reduceLeDiff, Nat.sub_zero, Nat.zero_add, if_true, if_false, ite_true, ite_false, Bool.false_eq_true, reduceIte, Bool.not_true, Bool.not_false, Bool.not_eq_true', Nat.zero_le, true_and, and_true, decide_eq_true_eq, Nat.reduceEqDiff, Option.some.injEq, exists_eq_left', reduceCtorEq, atI_zero, atI_one, atI_two, List.set_cons_zero, List.set_cons_succ, wp_kdE, wp_kdAt, wp_fldE, wp_methE, wp_meth, wp_methRs, wp_star, wp_starT, wp_rng1, wp_rngAt, cut_tail, Option.map_some, SX.S_cat, SX.S_len, LIM, List.append_assoc, q_is, q_words, q_lp, q_rp, q_isp, q_sp, q_col, q_dot, wp_recv h rd_m3]
  have hw : ∃ r, l.drop i = hd ++ r := by
    rw [hdr]
    split
    · exact ⟨_, rfl⟩
    · exact ⟨_, List.append_assoc _ _ _⟩
  obtain ⟨r0, hw⟩ := hw
  refine wp_mono (wp_word h hl hw ha.1 ha.2) fun d s1 q1 => ?_
  obtain ⟨rfl, r1, t1⟩ := q1
  simp only [wp_run, wp_bind, wp_ok, wp_bad, wpS_seq, Dn.wpS_set, wpS_ret, wpS_if, wpS_expr, wpS_skip, wpS_par, wpS_par3, wpS_asg, wpS_itemS, wpS_fldS, wpS_for, wpS_nx, wpS_rt, wpS_bk, wpS_ct, wpS_bad, wp_lc, wpS_never, thenK_nx, thenK_rt, thenK_bk, thenK_ct, outK_nx, outK_rt, turnK_nx, turnK_rt, turnK_bk, turnK_ct,
  wp_addI, wp_addS, wp_addT, wp_subI, wp_mulI, wp_mulS, wp_fdivI, wp_modI, wp_powI, ltD_int, leD_int, gtD_int, geD_int, eqV_int, eqV_str, wp_itemT, wp_itemR, wp_itemS, lenD_tup, lenD_rol, wp_lenS, intD_int, intD_bl, wp_intS, absD_int, minD_int, strD_str, wp_strI, wp_listS, truR_bl, sliceD_tup, sliceD_rol, wp_sliceS, wp_tup, wp_lst, wp_ifE, wp_andT, wp_orT, wp_notT, wp_appN, startsD_str,
  Dn.envOf, var, con, Dn.bin, app, consA, nilA, test, slice, noO, someO, List.map_cons, List.map_nil, List.cons_append, List.nil_append, List.replicate_succ, List.replicate_zero, List.length_cons, List.length_nil, List.getElem?_cons_zero, List.getElem?_cons_succ, List.set_cons_zero, List.set_cons_succ, List.append_nil,
  Nat.add_one_sub_one, Nat.reduceAdd, Nat.reduceSub, Nat.reduceLeDiff, Nat.sub_zero, Nat.zero_add, if_true, if_false, ite_true, ite_false, Bool.false_eq_true, reduceIte, Bool.not_true, Bool.not_false, Bool.not_eq_true', Nat.zero_le, true_and, and_true, decide_eq_true_eq, Nat.reduceEqDiff, Option.some.injEq, exists_eq_left', reduceCtorEq, atI_zero, atI_one, atI_two, List.set_cons_zero, List.set_cons_succ, wp_kdE, wp_kdAt, wp_fldE, wp_methE, wp_meth, wp_methRs, wp_star, wp_starT, wp_rng1, wp_rngAt, cut_tail, Option.map_some, SX.S_cat, SX.S_len, LIM, List.append_assoc, q_is, q_words, q_lp, q_rp, q_isp, q_sp, q_col, q_dot, hk]
  rw [eq_tup0 (k := 0) (sorts_tok hst) (by decide), map_empty]
  cases ts with
  | nil =>
    have hs0 : ss = [] := List.length_eq_zero_iff.mp h1
    have hd0 : ds = [] := List.length_eq_zero_iff.mp h2
    subst hs0 hd0
    simp only [wp_run, wp_bind, wp_ok, wp_bad, wpS_seq, Dn.wpS_set, wpS_ret, wpS_if, wpS_expr, wpS_skip, wpS_par, wpS_par3, wpS_asg, wpS_itemS, wpS_fldS, wpS_for, wpS_nx, wpS_rt, wpS_bk, wpS_ct, wpS_bad, wp_lc, wpS_never, thenK_nx, thenK_rt, thenK_bk, thenK_ct, outK_nx, outK_rt, turnK_nx, turnK_rt, turnK_bk, turnK_ct,
  wp_addI, wp_addS, wp_addT, wp_subI, wp_mulI, wp_mulS, wp_fdivI, wp_modI, wp_powI, ltD_int, leD_int, gtD_int, geD_int, eqV_int, eqV_str, wp_itemT, wp_itemR, wp_itemS, lenD_tup, lenD_rol, wp_lenS, intD_int, intD_bl, wp_intS, absD_int, minD_int, strD_str, wp_strI, wp_listS, truR_bl, sliceD_tup, sliceD_rol, wp_sliceS, wp_tup, wp_lst, wp_ifE, wp_andT, wp_orT, wp_notT, wp_appN, startsD_str,
  Dn.envOf, var, con, Dn.bin, app, consA, nilA, test, slice, noO, someO, List.map_cons, List.map_nil, List.cons_append, List.nil_append, List.replicate_succ, List.replicate_zero, List.length_cons, List.length_nil, List.getElem?_cons_zero, List.getElem?_cons_succ, List.set_cons_zero, List.set_cons_succ, List.append_nil,
  Nat.add_one_sub_one, Nat.reduceAdd, Nat.reduceSub, Nat.reduceLeDiff, Nat.sub_zero, Nat.zero_add, if_true, if_false, ite_true, ite_false, Bool.false_eq_true, reduceIte, Bool.not_true, Bool.not_false, Bool.not_eq_true', Nat.zero_le, true_and, and_true, decide_eq_true_eq, Nat.reduceEqDiff, Option.some.injEq, exists_eq_left', reduceCtorEq, atI_zero, atI_one, atI_two, List.set_cons_zero, List.set_cons_succ, wp_kdE, wp_kdAt, wp_fldE, wp_methE, wp_meth, wp_methRs, wp_star, wp_starT, wp_rng1, wp_rngAt, cut_tail, Option.map_some, SX.S_cat, SX.S_len, LIM, List.append_assoc, List.isEmpty_nil]
    exact ⟨r1, t1⟩
  | cons t ts =>
    have hs0 : ss.isEmpty = false := by cases ss with
      | nil => cases h1
      | cons _ _ => rfl
    have he : (t :: ts).isEmpty = false := rfl
    rw [he] at hdr ⊢
    simp only [Bool.false_eq_true, if_false] at hdr ⊢
    have hd2 : l.drop (i + hd.length) = 40 :: (TL.joinL [32] (t :: ts) ++ (41 :: rest)) := by
      refine drop_app ?_
      rw [hdr, List.append_assoc, List.cons_append, List.append_assoc]
      rfl
    simp only [wp_run, wp_bind, wp_ok, wp_bad, wpS_seq, Dn.wpS_set, wpS_ret, wpS_if, wpS_expr, wpS_skip, wpS_par, wpS_par3, wpS_asg, wpS_itemS, wpS_fldS, wpS_for, wpS_nx, wpS_rt, wpS_bk, wpS_ct, wpS_bad, wp_lc, wpS_never, thenK_nx, thenK_rt, thenK_bk, thenK_ct, outK_nx, outK_rt, turnK_nx, turnK_rt, turnK_bk, turnK_ct,
  wp_addI, wp_addS, wp_addT, wp_subI, wp_mulI, wp_mulS, wp_fdivI, wp_modI, wp_powI, ltD_int, leD_int, gtD_int, geD_int, eqV_int, eqV_str, wp_itemT, wp_itemR, wp_itemS, lenD_tup, lenD_rol, wp_lenS, intD_int, intD_bl, wp_intS, absD_int, minD_int, strD_str, wp_strI, wp_listS, truR_bl, sliceD_tup, sliceD_rol, wp_sliceS, wp_tup, wp_lst, wp_ifE, wp_andT, wp_orT, wp_notT, wp_appN, startsD_str,
  Dn.envOf, var, con, Dn.bin, app, consA, nilA, test, slice, noO, someO, List.map_cons, List.map_nil, List.cons_append, List.nil_append, List.replicate_succ, List.replicate_zero, List.length_cons, List.length_nil, List.getElem?_cons_zero, List.getElem?_cons_succ, List.set_cons_zero, List.set_cons_succ, List.append_nil,
  Nat.add_one_sub_one, Nat.reduceAdd, Nat.reduceSub, Nat.reduceLeDiff, Nat.sub_zero, Nat.zero_add, if_true, if_false, ite_true, ite_false, Bool.false_eq_true, reduceIte, Bool.not_true, Bool.not_false, Bool.not_eq_true', Nat.zero_le, true_and, and_true, decide_eq_true_eq, Nat.reduceEqDiff, Option.some.injEq, exists_eq_left', reduceCtorEq, atI_zero, atI_one, atI_two, List.set_cons_zero, List.set_cons_succ, wp_kdE, wp_kdAt, wp_fldE, wp_methE, wp_meth, wp_methRs, wp_star, wp_starT, wp_rng1, wp_rngAt, cut_tail, Option.map_some, SX.S_cat, SX.S_len, LIM, List.append_assoc, q_is, q_words, q_lp, q_rp, q_isp, q_sp, q_col, q_dot, hs0, wp_recv r1 rd_m5]
    refine wp_mono (wp_begin r1 hl hd2 (hdp (by simp))) fun _ s2 q2 => ?_
    obtain ⟨r2, t2⟩ := q2
    simp only [wp_run, wp_bind, wp_ok, wp_bad, wpS_seq, Dn.wpS_set, wpS_ret, wpS_if, wpS_expr, wpS_skip, wpS_par, wpS_par3, wpS_asg, wpS_itemS, wpS_fldS, wpS_for, wpS_nx, wpS_rt, wpS_bk, wpS_ct, wpS_bad, wp_lc, wpS_never, thenK_nx, thenK_rt, thenK_bk, thenK_ct, outK_nx, outK_rt, turnK_nx, turnK_rt, turnK_bk, turnK_ct,
  wp_addI, wp_addS, wp_addT, wp_subI, wp_mulI, wp_mulS, wp_fdivI, wp_modI, wp_powI, ltD_int, leD_int, gtD_int, geD_int, eqV_int, eqV_str, wp_itemT, wp_itemR, wp_itemS, lenD_tup, lenD_rol, wp_lenS, intD_int, intD_bl, wp_intS, absD_int, minD_int, strD_str, wp_strI, wp_listS, truR_bl, sliceD_tup, sliceD_rol, wp_sliceS, wp_tup, wp_lst, wp_ifE, wp_andT, wp_orT, wp_notT, wp_appN, startsD_str,
  Dn.envOf, var, con, Dn.bin, app, consA, nilA, test, slice, noO, someO, List.map_cons, List.map_nil, List.cons_append, List.nil_append, List.replicate_succ, List.replicate_zero, List.length_cons, List.length_nil, List.getElem?_cons_zero, List.getElem?_cons_succ, List.set_cons_zero, List.set_cons_succ, List.append_nil,
  Nat.add_one_sub_one, Nat.reduceAdd, Nat.reduceSub, Nat.reduceLeDiff, Nat.sub_zero, Nat.zero_add, if_true, if_false, ite_true, ite_false, Bool.false_eq_true, reduceIte, Bool.not_true, Bool.not_false, Bool.not_eq_true', Nat.zero_le, true_and, and_true, decide_eq_true_eq, Nat.reduceEqDiff, Option.some.injEq, exists_eq_left', reduceCtorEq, atI_zero, atI_one, atI_two, List.set_cons_zero, List.set_cons_succ, wp_kdE, wp_kdAt, wp_fldE, wp_methE, wp_meth, wp_methRs, wp_star, wp_starT, wp_rng1, wp_rngAt, cut_tail, Option.map_some, SX.S_cat, SX.S_len, LIM, List.append_assoc, q_is, q_words, q_lp, q_rp, q_isp, q_sp, q_col, q_dot, hh, hk]
    have hd3 : l.drop (i + hd.length + 1) = TL.joinL [32] (t :: ts) ++ (41 :: rest) := drop_app (a := [40]) hd2
    refine wp_mono (wp_items r2 hl hd3 (fun c r e => by cases e; exact .inr rfl) h1 h2 hmax hpy hk2 hi) fun d s3 q3 => ?_
    obtain ⟨rfl, r3, t3⟩ := q3
    have hd4 := drop_app hd3
    simp only [wp_run, wp_bind, wp_ok, wp_bad, wpS_seq, Dn.wpS_set, wpS_ret, wpS_if, wpS_expr, wpS_skip, wpS_par, wpS_par3, wpS_asg, wpS_itemS, wpS_fldS, wpS_for, wpS_nx, wpS_rt, wpS_bk, wpS_ct, wpS_bad, wp_lc, wpS_never, thenK_nx, thenK_rt, thenK_bk, thenK_ct, outK_nx, outK_rt, turnK_nx, turnK_rt, turnK_bk, turnK_ct,
  wp_addI, wp_addS, wp_addT, wp_subI, wp_mulI, wp_mulS, wp_fdivI, wp_modI, wp_powI, ltD_int, leD_int, gtD_int, geD_int, eqV_int, eqV_str, wp_itemT, wp_itemR, wp_itemS, lenD_tup, lenD_rol, wp_lenS, intD_int, intD_bl, wp_intS, absD_int, minD_int, strD_str, wp_strI, wp_listS, truR_bl, sliceD_tup, sliceD_rol, wp_sliceS, wp_tup, wp_lst, wp_ifE, wp_andT, wp_orT, wp_notT, wp_appN, startsD_str,
  Dn.envOf, var, con, Dn.bin, app, consA, nilA, test, slice, noO, someO, List.map_cons, List.map_nil, List.cons_append, List.nil_append, List.replicate_succ, List.replicate_zero, List.length_cons, List.length_nil, List.getElem?_cons_zero, List.getElem?_cons_succ, List.set_cons_zero, List.set_cons_succ, List.append_nil,
  Nat.add_one_sub_one, Nat.reduceAdd, Nat.reduceSub, Nat.reduceLeDiff, Nat.sub_zero, Nat.zero_add, if_true, if_false, ite_true, ite_false, Bool.false_eq_true, reduceIte, Bool.not_true, Bool.not_false, Bool.not_eq_true', Nat.zero_le, true_and, and_true, decide_eq_true_eq, Nat.reduceEqDiff, Option.some.injEq, exists_eq_left', reduceCtorEq, atI_zero, atI_one, atI_two, List.set_cons_zero, List.set_cons_succ, wp_kdE, wp_kdAt, wp_fldE, wp_methE, wp_meth, wp_methRs, wp_star, wp_starT, wp_rng1, wp_rngAt, cut_tail, Option.map_some, SX.S_cat, SX.S_len, LIM, List.append_assoc, q_is, q_words, q_lp, q_rp, q_isp, q_sp, q_col, q_dot, wp_recv r3 rd_m6]
    refine wp_mono (wp_finish r3 hl hd4) fun _ s4 q4 => ?_
    obtain ⟨r4, t4⟩ := q4
    refine ⟨by have := hmax; simp only [List.length_cons] at this h2; omega, ?_, ((t1.trans t2).trans t3).trans t4⟩
    have e : i + (hd ++ 40 :: (TL.joinL [32] (t :: ts) ++ [41])).length = i + hd.length + 1 + (TL.joinL [32] (t :: ts)).length + 1 := by
      simp only [List.length_append, List.length_cons, List.length_nil]
      omega
    rw [e]
    exact r4
theorem sr_tok (s : Sr) : Tok' s.t := by cases s <;> exact tok_lit rfl
theorem wp_read_words : ∀ (w : Wd), w.ok → w.ht ≤ 50 → ∀ (n p : Nat) (l : List Nat) (i dp : Nat) (st : Store) (rest : List Nat), 3 * w.ht + 3 ≤ n → Rd p l i dp st → l.length ≤ 1000000 → l.drop i = w.t ++ rest → Stop rest → dp + w.dep ≤ 9 →
    wp (F_read_words n [.loc p] st) fun d st' => d = w.d ∧ Rd p l (i + w.t.length) dp st' ∧ Kp p st st'
  | .sim h its, hok, hht, n, p, l, i, dp, st, rest, hn, r0, hl, hd, ho, hdp => by
    obtain ⟨n, rfl⟩ : ∃ m, n = m + 3 := ⟨n - 3, by omega⟩
    obtain ⟨h1, h2⟩ := its_len hok
    obtain ⟨h3, h4⟩ := h9_len h
    have q := wp_head (n := n + 1) (k := 0) (hd := h.t) (ss := h.srt.map Sr.t) (ds := its.map It.d) (ts := its.map It.t) (rest := rest) r0 hl (alone_h h) (h9_is h) (by rw [List.map_map]; exact shapes h) (fun s hs => by
        obtain ⟨x, hx, rfl⟩ := List.mem_map.mp hs
        exact sr_tok x) (by rw [List.isEmpty_map]; exact hd) (by simp [h2]) (by simp) (by simp; omega) (fun hne => by
        unfold Wd.dep at hdp
        cases its with
        | nil => exact (hne rfl).elim
        | cons x xs =>
          simp at hdp
          omega) (its_py hok) (by decide) fun j s d t i' rest' st hs hds hts hr hdr hst => ?_
    · rw [List.isEmpty_map] at q
      exact q
    · rw [List.getElem?_map] at hs hds hts
      obtain ⟨s, e1, rfl⟩ := Option.map_eq_some_iff.mp hs
      obtain ⟨it, e2, rfl⟩ := Option.map_eq_some_iff.mp hds
      obtain ⟨it', e3, rfl⟩ := Option.map_eq_some_iff.mp hts
      rw [e2] at e3
      cases e3
      exact wp_item hr hl (its_get hok e1 e2) hdr hst
  | .is m k, hok, hht, n, p, l, i, dp, st, rest, hn, r0, hl, hd, ho, hdp => by
    obtain ⟨n, rfl⟩ : ∃ m, n = m + 1 := ⟨n - 1, by omega⟩
    rw [F_read_words_succ]
    unfold b_read_words
    simp only [wp_run, wp_bind, wp_ok, wp_bad, wpS_seq, Dn.wpS_set, wpS_ret, wpS_if, wpS_expr, wpS_skip, wpS_par, wpS_par3, wpS_asg, wpS_itemS, wpS_fldS, wpS_for, wpS_nx, wpS_rt, wpS_bk, wpS_ct, wpS_bad, wp_lc, wpS_never, thenK_nx, thenK_rt, thenK_bk, thenK_ct, outK_nx, outK_rt, turnK_nx, turnK_rt, turnK_bk, turnK_ct,
  wp_addI, wp_addS, wp_addT, wp_subI, wp_mulI, wp_mulS, wp_fdivI, wp_modI, wp_powI, ltD_int, leD_int, gtD_int, geD_int, eqV_int, eqV_str, wp_itemT, wp_itemR, wp_itemS, lenD_tup, lenD_rol, wp_lenS, intD_int, intD_bl, wp_intS, absD_int, minD_int, strD_str, wp_strI, wp_listS, truR_bl, sliceD_tup, sliceD_rol, wp_sliceS, wp_tup, wp_lst, wp_ifE, wp_andT, wp_orT, wp_notT, wp_appN, startsD_str,
  Dn.envOf, var, con, Dn.bin, app, consA, nilA, test, slice, noO, someO, List.map_cons, List.map_nil, List.cons_append, List.nil_append, List.replicate_succ, List.replicate_zero, List.length_cons, List.length_nil, List.getElem?_cons_zero, List.getElem?_cons_succ, List.set_cons_zero, List.set_cons_succ, List.append_nil,
  Nat.add_one_sub_one, Nat.reduceAdd, Nat.reduceSub, Nat.reduceLeDiff, Nat.sub_zero, Nat.zero_add, if_true, if_false, ite_true, ite_false, Bool.false_eq_true, reduceIte, Bool.not_true, Bool.not_false, Bool.not_eq_true', Nat.zero_le, true_and, and_true, decide_eq_true_eq, Nat.reduceEqDiff, Option.some.injEq, exists_eq_left', reduceCtorEq, atI_zero, atI_one, atI_two, List.set_cons_zero, List.set_cons_succ, wp_kdE, wp_kdAt, wp_fldE, wp_methE, wp_meth, wp_methRs, wp_star, wp_starT, wp_rng1, wp_rngAt, cut_tail, Option.map_some, SX.S_cat, SX.S_len, LIM, List.append_assoc, q_is, q_words, q_lp, q_rp, q_isp, q_sp, q_col, q_dot, wp_recv r0 rd_m3]
    unfold Wd.t at hd
    rw [List.append_assoc] at hd
    refine wp_mono (wp_word r0 hl hd alone_is.1 alone_is.2) fun d s1 q1 => ?_
    obtain ⟨rfl, r1, t1⟩ := q1
    have hk : t_SHAPES.lookup (SX.S l_is) = some (.tup [T [109, 111, 100, 101], T [115, 116, 97, 99, 107]]) := by rfl
    simp only [wp_run, wp_bind, wp_ok, wp_bad, wpS_seq, Dn.wpS_set, wpS_ret, wpS_if, wpS_expr, wpS_skip, wpS_par, wpS_par3, wpS_asg, wpS_itemS, wpS_fldS, wpS_for, wpS_nx, wpS_rt, wpS_bk, wpS_ct, wpS_bad, wp_lc, wpS_never, thenK_nx, thenK_rt, thenK_bk, thenK_ct, outK_nx, outK_rt, turnK_nx, turnK_rt, turnK_bk, turnK_ct,
  wp_addI, wp_addS, wp_addT, wp_subI, wp_mulI, wp_mulS, wp_fdivI, wp_modI, wp_powI, ltD_int, leD_int, gtD_int, geD_int, eqV_int, eqV_str, wp_itemT, wp_itemR, wp_itemS, lenD_tup, lenD_rol, wp_lenS, intD_int, intD_bl, wp_intS, absD_int, minD_int, strD_str, wp_strI, wp_listS, truR_bl, sliceD_tup, sliceD_rol, wp_sliceS, wp_tup, wp_lst, wp_ifE, wp_andT, wp_orT, wp_notT, wp_appN, startsD_str,
  Dn.envOf, var, con, Dn.bin, app, consA, nilA, test, slice, noO, someO, List.map_cons, List.map_nil, List.cons_append, List.nil_append, List.replicate_succ, List.replicate_zero, List.length_cons, List.length_nil, List.getElem?_cons_zero, List.getElem?_cons_succ, List.set_cons_zero, List.set_cons_succ, List.append_nil,
  Nat.add_one_sub_one, Nat.reduceAdd, Nat.reduceSub, Nat.reduceLeDiff, Nat.sub_zero, Nat.zero_add, if_true, if_false, ite_true, ite_false, Bool.false_eq_true, reduceIte, Bool.not_true, Bool.not_false, Bool.not_eq_true', Nat.zero_le, true_and, and_true, decide_eq_true_eq, Nat.reduceEqDiff, Option.some.injEq, exists_eq_left', reduceCtorEq, atI_zero, atI_one, atI_two, List.set_cons_zero, List.set_cons_succ, wp_kdE, wp_kdAt, wp_fldE, wp_methE, wp_meth, wp_methRs, wp_star, wp_starT, wp_rng1, wp_rngAt, cut_tail, Option.map_some, SX.S_cat, SX.S_len, LIM, List.append_assoc, q_is, q_words, q_lp, q_rp, q_isp, q_sp, q_col, q_dot, hk]
    rw [eq_tup0 (ds := [T [109, 111, 100, 101], T [115, 116, 97, 99, 107]]) (k := 0) (fun d hd => by
      simp only [List.mem_cons, List.not_mem_nil, or_false] at hd
      rcases hd with rfl | rfl <;> exact pyOk_T (tok_lit rfl)) (by decide)]
    have hd2 := drop_app hd
    simp only [wp_run, wp_bind, wp_ok, wp_bad, wpS_seq, Dn.wpS_set, wpS_ret, wpS_if, wpS_expr, wpS_skip, wpS_par, wpS_par3, wpS_asg, wpS_itemS, wpS_fldS, wpS_for, wpS_nx, wpS_rt, wpS_bk, wpS_ct, wpS_bad, wp_lc, wpS_never, thenK_nx, thenK_rt, thenK_bk, thenK_ct, outK_nx, outK_rt, turnK_nx, turnK_rt, turnK_bk, turnK_ct,
  wp_addI, wp_addS, wp_addT, wp_subI, wp_mulI, wp_mulS, wp_fdivI, wp_modI, wp_powI, ltD_int, leD_int, gtD_int, geD_int, eqV_int, eqV_str, wp_itemT, wp_itemR, wp_itemS, lenD_tup, lenD_rol, wp_lenS, intD_int, intD_bl, wp_intS, absD_int, minD_int, strD_str, wp_strI, wp_listS, truR_bl, sliceD_tup, sliceD_rol, wp_sliceS, wp_tup, wp_lst, wp_ifE, wp_andT, wp_orT, wp_notT, wp_appN, startsD_str,
  Dn.envOf, var, con, Dn.bin, app, consA, nilA, test, slice, noO, someO, List.map_cons, List.map_nil, List.cons_append, List.nil_append, List.replicate_succ, List.replicate_zero, List.length_cons, List.length_nil, List.getElem?_cons_zero, List.getElem?_cons_succ, List.set_cons_zero, List.set_cons_succ, List.append_nil,
  Nat.add_one_sub_one, Nat.reduceAdd, Nat.reduceSub, Nat.reduceLeDiff, Nat.sub_zero, Nat.zero_add, if_true, if_false, ite_true, ite_false, Bool.false_eq_true, reduceIte, Bool.not_true, Bool.not_false, Bool.not_eq_true', Nat.zero_le, true_and, and_true, decide_eq_true_eq, Nat.reduceEqDiff, Option.some.injEq, exists_eq_left', reduceCtorEq, atI_zero, atI_one, atI_two, List.set_cons_zero, List.set_cons_succ, wp_kdE, wp_kdAt, wp_fldE, wp_methE, wp_meth, wp_methRs, wp_star, wp_starT, wp_rng1, wp_rngAt, cut_tail, Option.map_some, SX.S_cat, SX.S_len, LIM, List.append_assoc, List.isEmpty_cons, wp_recv r1 rd_m5]
    have hd2' : l.drop (i + l_is.length) = 40 :: (m ++ (58 :: (TL.joinL [46] k ++ (41 :: rest)))) := by
      rw [hd2]
      simp
    refine wp_mono (wp_begin r1 hl hd2' (by unfold Wd.dep at hdp; omega)) fun _ s2 q2 => ?_
    obtain ⟨r2, t2⟩ := q2
    simp only [wp_run, wp_bind, wp_ok, wp_bad, wpS_seq, Dn.wpS_set, wpS_ret, wpS_if, wpS_expr, wpS_skip, wpS_par, wpS_par3, wpS_asg, wpS_itemS, wpS_fldS, wpS_for, wpS_nx, wpS_rt, wpS_bk, wpS_ct, wpS_bad, wp_lc, wpS_never, thenK_nx, thenK_rt, thenK_bk, thenK_ct, outK_nx, outK_rt, turnK_nx, turnK_rt, turnK_bk, turnK_ct,
  wp_addI, wp_addS, wp_addT, wp_subI, wp_mulI, wp_mulS, wp_fdivI, wp_modI, wp_powI, ltD_int, leD_int, gtD_int, geD_int, eqV_int, eqV_str, wp_itemT, wp_itemR, wp_itemS, lenD_tup, lenD_rol, wp_lenS, intD_int, intD_bl, wp_intS, absD_int, minD_int, strD_str, wp_strI, wp_listS, truR_bl, sliceD_tup, sliceD_rol, wp_sliceS, wp_tup, wp_lst, wp_ifE, wp_andT, wp_orT, wp_notT, wp_appN, startsD_str,
  Dn.envOf, var, con, Dn.bin, app, consA, nilA, test, slice, noO, someO, List.map_cons, List.map_nil, List.cons_append, List.nil_append, List.replicate_succ, List.replicate_zero, List.length_cons, List.length_nil, List.getElem?_cons_zero, List.getElem?_cons_succ, List.set_cons_zero, List.set_cons_succ, List.append_nil,
  Nat.add_one_sub_one, Nat.reduceAdd, Nat.reduceSub, Nat.reduceLeDiff, Nat.sub_zero, Nat.zero_add, if_true, if_false, ite_true, ite_false, Bool.false_eq_true, reduceIte, Bool.not_true, Bool.not_false, Bool.not_eq_true', Nat.zero_le, true_and, and_true, decide_eq_true_eq, Nat.reduceEqDiff, Option.some.injEq, exists_eq_left', reduceCtorEq, atI_zero, atI_one, atI_two, List.set_cons_zero, List.set_cons_succ, wp_kdE, wp_kdAt, wp_fldE, wp_methE, wp_meth, wp_methRs, wp_star, wp_starT, wp_rng1, wp_rngAt, cut_tail, Option.map_some, SX.S_cat, SX.S_len, LIM, List.append_assoc, q_is, q_words, q_lp, q_rp, q_isp, q_sp, q_col, q_dot, beq_self_eq_true, wp_recv r2 rd_m4]
    have hd3 : l.drop (i + l_is.length + 1) = m ++ (58 :: (TL.joinL [46] k ++ (41 :: rest))) := drop_app (a := [40]) hd2'
    refine wp_mono (wp_state r2 hl hd3 hok.1 hok.2 (fun c r e => by cases e; exact no_let.2) (fun c r e => by cases e; decide) ⟨_, _, rfl⟩) fun d s3 q3 => ?_
    obtain ⟨rfl, r3, t3⟩ := q3
    have hd3' : l.drop (i + l_is.length + 1) = (m ++ (58 :: TL.joinL [46] k)) ++ (41 :: rest) := by
      rw [hd3]
      simp
    have hd4 := drop_app hd3'
    simp only [wp_run, wp_bind, wp_ok, wp_bad, wpS_seq, Dn.wpS_set, wpS_ret, wpS_if, wpS_expr, wpS_skip, wpS_par, wpS_par3, wpS_asg, wpS_itemS, wpS_fldS, wpS_for, wpS_nx, wpS_rt, wpS_bk, wpS_ct, wpS_bad, wp_lc, wpS_never, thenK_nx, thenK_rt, thenK_bk, thenK_ct, outK_nx, outK_rt, turnK_nx, turnK_rt, turnK_bk, turnK_ct,
  wp_addI, wp_addS, wp_addT, wp_subI, wp_mulI, wp_mulS, wp_fdivI, wp_modI, wp_powI, ltD_int, leD_int, gtD_int, geD_int, eqV_int, eqV_str, wp_itemT, wp_itemR, wp_itemS, lenD_tup, lenD_rol, wp_lenS, intD_int, intD_bl, wp_intS, absD_int, minD_int, strD_str, wp_strI, wp_listS, truR_bl, sliceD_tup, sliceD_rol, wp_sliceS, wp_tup, wp_lst, wp_ifE, wp_andT, wp_orT, wp_notT, wp_appN, startsD_str,
  Dn.envOf, var, con, Dn.bin, app, consA, nilA, test, slice, noO, someO, List.map_cons, List.map_nil, List.cons_append, List.nil_append, List.replicate_succ, List.replicate_zero, List.length_cons, List.length_nil, List.getElem?_cons_zero, List.getElem?_cons_succ, List.set_cons_zero, List.set_cons_succ, List.append_nil,
  Nat.add_one_sub_one, Nat.reduceAdd, Nat.reduceSub, Nat.reduceLeDiff, Nat.sub_zero, Nat.zero_add, if_true, if_false, ite_true, ite_false, Bool.false_eq_true, reduceIte, Bool.not_true, Bool.not_false, Bool.not_eq_true', Nat.zero_le, true_and, and_true, decide_eq_true_eq, Nat.reduceEqDiff, Option.some.injEq, exists_eq_left', reduceCtorEq, atI_zero, atI_one, atI_two, List.set_cons_zero, List.set_cons_succ, wp_kdE, wp_kdAt, wp_fldE, wp_methE, wp_meth, wp_methRs, wp_star, wp_starT, wp_rng1, wp_rngAt, cut_tail, Option.map_some, SX.S_cat, SX.S_len, LIM, List.append_assoc, q_is, q_words, q_lp, q_rp, q_isp, q_sp, q_col, q_dot, wp_recv r3 rd_m6]
    refine wp_mono (wp_finish r3 hl hd4) fun _ s4 q4 => ?_
    obtain ⟨r4, t4⟩ := q4
    refine ⟨rfl, ?_, ((t1.trans t2).trans t3).trans t4⟩
    have e : i + (Wd.is m k).t.length = i + l_is.length + 1 + (m ++ 58 :: TL.joinL [46] k).length + 1 := by
      unfold Wd.t
      simp only [List.length_append, List.length_cons, List.length_nil]
      omega
    rw [e]
    exact r4
  | .un w, hok, hht, n, p, l, i, dp, st, rest, hn, r0, hl, hd, ho, hdp => by
    unfold Wd.ht at hn hht
    unfold Wd.dep at hdp
    obtain ⟨n, rfl⟩ : ∃ m, n = m + 3 := ⟨n - 3, by omega⟩
    refine wp_head (n := n + 1) (k := w.ht + 2) (hd := l_not) (ss := [l_words]) (ds := [w.d]) (ts := [w.t]) (rest := rest) r0 hl alone_not rfl shapes_not (fun s hs => by
      rw [List.mem_singleton.mp hs]
      exact tok_lit rfl) hd rfl rfl (by simp) (fun _ => by omega) (fun d hd => by
      rw [List.mem_singleton.mp hd]
      exact wd_py hok) (by omega) fun j s d t i' rest' st hs hds hts hr hdr hst => ?_
    obtain rfl : j = 0 := by
      have := (List.getElem?_eq_some_iff.mp hs).1
      simpa using this
    cases hs
    cases hds
    cases hts
    rw [F_read_item_succ]
    unfold b_read_item
    simp only [wp_run, wp_bind, wp_ok, wp_bad, wpS_seq, Dn.wpS_set, wpS_ret, wpS_if, wpS_expr, wpS_skip, wpS_par, wpS_par3, wpS_asg, wpS_itemS, wpS_fldS, wpS_for, wpS_nx, wpS_rt, wpS_bk, wpS_ct, wpS_bad, wp_lc, wpS_never, thenK_nx, thenK_rt, thenK_bk, thenK_ct, outK_nx, outK_rt, turnK_nx, turnK_rt, turnK_bk, turnK_ct,
  wp_addI, wp_addS, wp_addT, wp_subI, wp_mulI, wp_mulS, wp_fdivI, wp_modI, wp_powI, ltD_int, leD_int, gtD_int, geD_int, eqV_int, eqV_str, wp_itemT, wp_itemR, wp_itemS, lenD_tup, lenD_rol, wp_lenS, intD_int, intD_bl, wp_intS, absD_int, minD_int, strD_str, wp_strI, wp_listS, truR_bl, sliceD_tup, sliceD_rol, wp_sliceS, wp_tup, wp_lst, wp_ifE, wp_andT, wp_orT, wp_notT, wp_appN, startsD_str,
  Dn.envOf, var, con, Dn.bin, app, consA, nilA, test, slice, noO, someO, List.map_cons, List.map_nil, List.cons_append, List.nil_append, List.replicate_succ, List.replicate_zero, List.length_cons, List.length_nil, List.getElem?_cons_zero, List.getElem?_cons_succ, List.set_cons_zero, List.set_cons_succ, List.append_nil,
  Nat.add_one_sub_one, Nat.reduceAdd, Nat.reduceSub, Nat.reduceLeDiff, Nat.sub_zero, Nat.zero_add, if_true, if_false, ite_true, ite_false, Bool.false_eq_true, reduceIte, Bool.not_true, Bool.not_false, Bool.not_eq_true', Nat.zero_le, true_and, and_true, decide_eq_true_eq, Nat.reduceEqDiff, Option.some.injEq, exists_eq_left', reduceCtorEq, atI_zero, atI_one, atI_two, List.set_cons_zero, List.set_cons_succ, wp_kdE, wp_kdAt, wp_fldE, wp_methE, wp_meth, wp_methRs, wp_star, wp_starT, wp_rng1, wp_rngAt, cut_tail, Option.map_some, SX.S_cat, SX.S_len, LIM, List.append_assoc, q_is, q_words, q_lp, q_rp, q_isp, q_sp, q_col, q_dot, beq_self_eq_true]
    exact wp_read_words w hok (by omega) n p l i' (dp + 1) st rest' (by omega) hr hl hdr hst (by omega)
  | .bi o a b, hok, hht, n, p, l, i, dp, st, rest, hn, r0, hl, hd, ho, hdp => by
    unfold Wd.ht at hn hht
    unfold Wd.dep at hdp
    obtain ⟨n, rfl⟩ : ∃ m, n = m + 3 := ⟨n - 3, by omega⟩
    have et : (Wd.bi o a b).t = (if o then l_and else l_or) ++ (40 :: (TL.joinL [32] [a.t, b.t] ++ [41])) := by
      simp [Wd.t, TL.joinL]
    have q := wp_head (n := n + 1) (k := max a.ht b.ht + 2) (hd := if o then l_and else l_or) (ss := [l_words, l_words]) (ds := [a.d, b.d]) (ts := [a.t, b.t]) (rest := rest) r0 hl (alone_bi o) (by cases o <;> rfl) (shapes_bi o) (fun s hs => by
      simp only [List.mem_cons, List.not_mem_nil, or_false] at hs
      rcases hs with rfl | rfl <;> exact tok_lit rfl) (by rw [hd, et]; rfl) rfl rfl (by simp) (fun _ => by omega) (fun d hd => by
      simp only [List.mem_cons, List.not_mem_nil, or_false] at hd
      rcases hd with rfl | rfl
      · exact (wd_py hok.1).mono (by omega)
      · exact (wd_py hok.2).mono (by omega)) (by omega) fun j s d t i' rest' st hs hds hts hr hdr hst => ?_
    · rw [et]
      exact q
    · rw [F_read_item_succ]
      unfold b_read_item
      have hi : j < 2 := (List.getElem?_eq_some_iff.mp hs).1
      rcases (show j = 0 ∨ j = 1 by omega) with rfl | rfl
      · cases hs
        cases hds
        cases hts
        simp only [wp_run, wp_bind, wp_ok, wp_bad, wpS_seq, Dn.wpS_set, wpS_ret, wpS_if, wpS_expr, wpS_skip, wpS_par, wpS_par3, wpS_asg, wpS_itemS, wpS_fldS, wpS_for, wpS_nx, wpS_rt, wpS_bk, wpS_ct, wpS_bad, wp_lc, wpS_never, thenK_nx, thenK_rt, thenK_bk, thenK_ct, outK_nx, outK_rt, turnK_nx, turnK_rt, turnK_bk, turnK_ct,
  wp_addI, wp_addS, wp_addT, wp_subI, wp_mulI, wp_mulS, wp_fdivI, wp_modI, wp_powI, ltD_int, leD_int, gtD_int, geD_int, eqV_int, eqV_str, wp_itemT, wp_itemR, wp_itemS, lenD_tup, lenD_rol, wp_lenS, intD_int, intD_bl, wp_intS, absD_int, minD_int, strD_str, wp_strI, wp_listS, truR_bl, sliceD_tup, sliceD_rol, wp_sliceS, wp_tup, wp_lst, wp_ifE, wp_andT, wp_orT, wp_notT, wp_appN, startsD_str,
  Dn.envOf, var, con, Dn.bin, app, consA, nilA, test, slice, noO, someO, List.map_cons, List.map_nil, List.cons_append, List.nil_append, List.replicate_succ, List.replicate_zero, List.length_cons, List.length_nil, List.getElem?_cons_zero, List.getElem?_cons_succ, List.set_cons_zero, List.set_cons_succ, List.append_nil,
  Nat.add_one_sub_one, Nat.reduceAdd, Nat.reduceSub, Nat.reduceLeDiff, Nat.sub_zero, Nat.zero_add, if_true, if_false, ite_true, ite_false, Bool.false_eq_true, reduceIte, Bool.not_true, Bool.not_false, Bool.not_eq_true', Nat.zero_le, true_and, and_true, decide_eq_true_eq, Nat.reduceEqDiff, Option.some.injEq, exists_eq_left', reduceCtorEq, atI_zero, atI_one, atI_two, List.set_cons_zero, List.set_cons_succ, wp_kdE, wp_kdAt, wp_fldE, wp_methE, wp_meth, wp_methRs, wp_star, wp_starT, wp_rng1, wp_rngAt, cut_tail, Option.map_some, SX.S_cat, SX.S_len, LIM, List.append_assoc, q_is, q_words, q_lp, q_rp, q_isp, q_sp, q_col, q_dot, beq_self_eq_true]
        exact wp_read_words a hok.1 (by omega) n p l i' (dp + 1) st rest' (by omega) hr hl hdr hst (by omega)
      · cases hs
        cases hds
        cases hts
        simp only [wp_run, wp_bind, wp_ok, wp_bad, wpS_seq, Dn.wpS_set, wpS_ret, wpS_if, wpS_expr, wpS_skip, wpS_par, wpS_par3, wpS_asg, wpS_itemS, wpS_fldS, wpS_for, wpS_nx, wpS_rt, wpS_bk, wpS_ct, wpS_bad, wp_lc, wpS_never, thenK_nx, thenK_rt, thenK_bk, thenK_ct, outK_nx, outK_rt, turnK_nx, turnK_rt, turnK_bk, turnK_ct,
  wp_addI, wp_addS, wp_addT, wp_subI, wp_mulI, wp_mulS, wp_fdivI, wp_modI, wp_powI, ltD_int, leD_int, gtD_int, geD_int, eqV_int, eqV_str, wp_itemT, wp_itemR, wp_itemS, lenD_tup, lenD_rol, wp_lenS, intD_int, intD_bl, wp_intS, absD_int, minD_int, strD_str, wp_strI, wp_listS, truR_bl, sliceD_tup, sliceD_rol, wp_sliceS, wp_tup, wp_lst, wp_ifE, wp_andT, wp_orT, wp_notT, wp_appN, startsD_str,
  Dn.envOf, var, con, Dn.bin, app, consA, nilA, test, slice, noO, someO, List.map_cons, List.map_nil, List.cons_append, List.nil_append, List.replicate_succ, List.replicate_zero, List.length_cons, List.length_nil, List.getElem?_cons_zero, List.getElem?_cons_succ, List.set_cons_zero, List.set_cons_succ, List.append_nil,
  Nat.add_one_sub_one, Nat.reduceAdd, Nat.reduceSub, Nat.reduceLeDiff, Nat.sub_zero, Nat.zero_add, if_true, if_false, ite_true, ite_false, Bool.false_eq_true, reduceIte, Bool.not_true, Bool.not_false, Bool.not_eq_true', Nat.zero_le, true_and, and_true, decide_eq_true_eq, Nat.reduceEqDiff, Option.some.injEq, exists_eq_left', reduceCtorEq, atI_zero, atI_one, atI_two, List.set_cons_zero, List.set_cons_succ, wp_kdE, wp_kdAt, wp_fldE, wp_methE, wp_meth, wp_methRs, wp_star, wp_starT, wp_rng1, wp_rngAt, cut_tail, Option.map_some, SX.S_cat, SX.S_len, LIM, List.append_assoc, q_is, q_words, q_lp, q_rp, q_isp, q_sp, q_col, q_dot, beq_self_eq_true]
        exact wp_read_words b hok.2 (by omega) n p l i' (dp + 1) st rest' (by omega) hr hl hdr hst (by omega)
/-- the whole text -/
theorem ext_of (h : ∀ (i : Nat) (c : Cell), st[i]? = some c → st'[i]? = some c) : Ext st st' := by
  unfold Ext
  rw [List.prefix_iff_getElem?]
  intro i hi
  exact h i _ (by simp [hi])
theorem isi_s {l : List Nat} : isiD [T l, .ty "str"] st = .ok (.bl true) st := by
  have e : L2.kitB "str" "str" = some true := by decide +kernel
  show (match L2.kitB "str" "str" with
    | some b => Res.ok (D.bl b) st
    | none => .bad) = _
  rw [e]
theorem wp_parse {w : Wd} (hok : w.ok) (hht : w.ht ≤ 18) (hdep : w.dep ≤ 9) (hs : w.sz ≤ 100000) : wp (F_parse_words [T w.t] st) fun d st' => d = w.d ∧ Ext st st' := by
  have hl := Wd.len hok
  unfold F_parse_words b_parse_words
  simp only [wp_run, wp_bind, wp_ok, wp_bad, wpS_seq, Dn.wpS_set, wpS_ret, wpS_if, wpS_expr, wpS_skip, wpS_par, wpS_par3, wpS_asg, wpS_itemS, wpS_fldS, wpS_for, wpS_nx, wpS_rt, wpS_bk, wpS_ct, wpS_bad, wp_lc, wpS_never, thenK_nx, thenK_rt, thenK_bk, thenK_ct, outK_nx, outK_rt, turnK_nx, turnK_rt, turnK_bk, turnK_ct,
  wp_addI, wp_addS, wp_addT, wp_subI, wp_mulI, wp_mulS, wp_fdivI, wp_modI, wp_powI, ltD_int, leD_int, gtD_int, geD_int, eqV_int, eqV_str, wp_itemT, wp_itemR, wp_itemS, lenD_tup, lenD_rol, wp_lenS, intD_int, intD_bl, wp_intS, absD_int, minD_int, strD_str, wp_strI, wp_listS, truR_bl, sliceD_tup, sliceD_rol, wp_sliceS, wp_tup, wp_lst, wp_ifE, wp_andT, wp_orT, wp_notT, wp_appN, startsD_str,
  Dn.envOf, var, con, Dn.bin, app, consA, nilA, test, slice, noO, someO, List.map_cons, List.map_nil, List.cons_append, List.nil_append, List.replicate_succ, List.replicate_zero, List.length_cons, List.length_nil, List.getElem?_cons_zero, List.getElem?_cons_succ, List.set_cons_zero, List.set_cons_succ, List.append_nil,
  Nat.add_one_sub_one, Nat.reduceAdd, Nat.reduceSub, Nat.reduceLeDiff, Nat.sub_zero, Nat.zero_add, if_true, if_false, ite_true, ite_false, Bool.false_eq_true, reduceIte, Bool.not_true, Bool.not_false, Bool.not_eq_true', Nat.zero_le, true_and, and_true, decide_eq_true_eq, Nat.reduceEqDiff, Option.some.injEq, exists_eq_left', reduceCtorEq, atI_zero, atI_one, atI_two, List.set_cons_zero, List.set_cons_succ, wp_kdE, wp_kdAt, wp_fldE, wp_methE, wp_meth, wp_methRs, wp_star, wp_starT, wp_rng1, wp_rngAt, cut_tail, Option.map_some, SX.S_cat, SX.S_len, LIM, List.append_assoc, q_is, q_words, q_lp, q_rp, q_isp, q_sp, q_col, q_dot]
  rw [isi_s]
  simp only [wp_run, wp_bind, wp_ok, wp_bad, wpS_seq, Dn.wpS_set, wpS_ret, wpS_if, wpS_expr, wpS_skip, wpS_par, wpS_par3, wpS_asg, wpS_itemS, wpS_fldS, wpS_for, wpS_nx, wpS_rt, wpS_bk, wpS_ct, wpS_bad, wp_lc, wpS_never, thenK_nx, thenK_rt, thenK_bk, thenK_ct, outK_nx, outK_rt, turnK_nx, turnK_rt, turnK_bk, turnK_ct,
  wp_addI, wp_addS, wp_addT, wp_subI, wp_mulI, wp_mulS, wp_fdivI, wp_modI, wp_powI, ltD_int, leD_int, gtD_int, geD_int, eqV_int, eqV_str, wp_itemT, wp_itemR, wp_itemS, lenD_tup, lenD_rol, wp_lenS, intD_int, intD_bl, wp_intS, absD_int, minD_int, strD_str, wp_strI, wp_listS, truR_bl, sliceD_tup, sliceD_rol, wp_sliceS, wp_tup, wp_lst, wp_ifE, wp_andT, wp_orT, wp_notT, wp_appN, startsD_str,
  Dn.envOf, var, con, Dn.bin, app, consA, nilA, test, slice, noO, someO, List.map_cons, List.map_nil, List.cons_append, List.nil_append, List.replicate_succ, List.replicate_zero, List.length_cons, List.length_nil, List.getElem?_cons_zero, List.getElem?_cons_succ, List.set_cons_zero, List.set_cons_succ, List.append_nil,
  Nat.add_one_sub_one, Nat.reduceAdd, Nat.reduceSub, Nat.reduceLeDiff, Nat.sub_zero, Nat.zero_add, if_true, if_false, ite_true, ite_false, Bool.false_eq_true, reduceIte, Bool.not_true, Bool.not_false, Bool.not_eq_true', Nat.zero_le, true_and, and_true, decide_eq_true_eq, Nat.reduceEqDiff, Option.some.injEq, exists_eq_left', reduceCtorEq, atI_zero, atI_one, atI_two, List.set_cons_zero, List.set_cons_succ, wp_kdE, wp_kdAt, wp_fldE, wp_methE, wp_meth, wp_methRs, wp_star, wp_starT, wp_rng1, wp_rngAt, cut_tail, Option.map_some, SX.S_cat, SX.S_len, LIM, List.append_assoc]
  refine wp_make ?_
  simp only [wp_run, wp_bind, wp_ok, wp_bad, wpS_seq, Dn.wpS_set, wpS_ret, wpS_if, wpS_expr, wpS_skip, wpS_par, wpS_par3, wpS_asg, wpS_itemS, wpS_fldS, wpS_for, wpS_nx, wpS_rt, wpS_bk, wpS_ct, wpS_bad, wp_lc, wpS_never, thenK_nx, thenK_rt, thenK_bk, thenK_ct, outK_nx, outK_rt, turnK_nx, turnK_rt, turnK_bk, turnK_ct,
  wp_addI, wp_addS, wp_addT, wp_subI, wp_mulI, wp_mulS, wp_fdivI, wp_modI, wp_powI, ltD_int, leD_int, gtD_int, geD_int, eqV_int, eqV_str, wp_itemT, wp_itemR, wp_itemS, lenD_tup, lenD_rol, wp_lenS, intD_int, intD_bl, wp_intS, absD_int, minD_int, strD_str, wp_strI, wp_listS, truR_bl, sliceD_tup, sliceD_rol, wp_sliceS, wp_tup, wp_lst, wp_ifE, wp_andT, wp_orT, wp_notT, wp_appN, startsD_str,
  Dn.envOf, var, con, Dn.bin, app, consA, nilA, test, slice, noO, someO, List.map_cons, List.map_nil, List.cons_append, List.nil_append, List.replicate_succ, List.replicate_zero, List.length_cons, List.length_nil, List.getElem?_cons_zero, List.getElem?_cons_succ, List.set_cons_zero, List.set_cons_succ, List.append_nil,
  Nat.add_one_sub_one, Nat.reduceAdd, Nat.reduceSub, Nat.reduceLeDiff, Nat.sub_zero, Nat.zero_add, if_true, if_false, ite_true, ite_false, Bool.false_eq_true, reduceIte, Bool.not_true, Bool.not_false, Bool.not_eq_true', Nat.zero_le, true_and, and_true, decide_eq_true_eq, Nat.reduceEqDiff, Option.some.injEq, exists_eq_left', reduceCtorEq, atI_zero, atI_one, atI_two, List.set_cons_zero, List.set_cons_succ, wp_kdE, wp_kdAt, wp_fldE, wp_methE, wp_meth, wp_methRs, wp_star, wp_starT, wp_rng1, wp_rngAt, cut_tail, Option.map_some, SX.S_cat, SX.S_len, LIM, List.append_assoc]
  have hp : (st ++ [Cell.ins "Reader" []])[st.length]? = some (.ins "Reader" []) := get_last
  unfold F_Reader___init__ b_Reader___init__
  simp only [wp_run, wp_bind, wp_ok, wp_bad, wpS_seq, Dn.wpS_set, wpS_ret, wpS_if, wpS_expr, wpS_skip, wpS_par, wpS_par3, wpS_asg, wpS_itemS, wpS_fldS, wpS_for, wpS_nx, wpS_rt, wpS_bk, wpS_ct, wpS_bad, wp_lc, wpS_never, thenK_nx, thenK_rt, thenK_bk, thenK_ct, outK_nx, outK_rt, turnK_nx, turnK_rt, turnK_bk, turnK_ct,
  wp_addI, wp_addS, wp_addT, wp_subI, wp_mulI, wp_mulS, wp_fdivI, wp_modI, wp_powI, ltD_int, leD_int, gtD_int, geD_int, eqV_int, eqV_str, wp_itemT, wp_itemR, wp_itemS, lenD_tup, lenD_rol, wp_lenS, intD_int, intD_bl, wp_intS, absD_int, minD_int, strD_str, wp_strI, wp_listS, truR_bl, sliceD_tup, sliceD_rol, wp_sliceS, wp_tup, wp_lst, wp_ifE, wp_andT, wp_orT, wp_notT, wp_appN, startsD_str,
  Dn.envOf, var, con, Dn.bin, app, consA, nilA, test, slice, noO, someO, List.map_cons, List.map_nil, List.cons_append, List.nil_append, List.replicate_succ, List.replicate_zero, List.length_cons, List.length_nil, List.getElem?_cons_zero, List.getElem?_cons_succ, List.set_cons_zero, List.set_cons_succ, List.append_nil,
  Nat.add_one_sub_one, Nat.reduceAdd, Nat.reduceSub, Nat.reduceLeDiff, Nat.sub_zero, Nat.zero_add, if_true, if_false, ite_true, ite_false, Bool.false_eq_true, reduceIte, Bool.not_true, Bool.not_false, Bool.not_eq_true', Nat.zero_le, true_and, and_true, decide_eq_true_eq, Nat.reduceEqDiff, Option.some.injEq, exists_eq_left', reduceCtorEq, atI_zero, atI_one, atI_two, List.set_cons_zero, List.set_cons_succ, wp_kdE, wp_kdAt, wp_fldE, wp_methE, wp_meth, wp_methRs, wp_star, wp_starT, wp_rng1, wp_rngAt, cut_tail, Option.map_some, SX.S_cat, SX.S_len, LIM, List.append_assoc]
  rw [wpS_fldAt hp (by decide)]
  simp only [wp_run, wp_bind, wp_ok, wp_bad, wpS_seq, Dn.wpS_set, wpS_ret, wpS_if, wpS_expr, wpS_skip, wpS_par, wpS_par3, wpS_asg, wpS_itemS, wpS_fldS, wpS_for, wpS_nx, wpS_rt, wpS_bk, wpS_ct, wpS_bad, wp_lc, wpS_never, thenK_nx, thenK_rt, thenK_bk, thenK_ct, outK_nx, outK_rt, turnK_nx, turnK_rt, turnK_bk, turnK_ct,
  wp_addI, wp_addS, wp_addT, wp_subI, wp_mulI, wp_mulS, wp_fdivI, wp_modI, wp_powI, ltD_int, leD_int, gtD_int, geD_int, eqV_int, eqV_str, wp_itemT, wp_itemR, wp_itemS, lenD_tup, lenD_rol, wp_lenS, intD_int, intD_bl, wp_intS, absD_int, minD_int, strD_str, wp_strI, wp_listS, truR_bl, sliceD_tup, sliceD_rol, wp_sliceS, wp_tup, wp_lst, wp_ifE, wp_andT, wp_orT, wp_notT, wp_appN, startsD_str,
  Dn.envOf, var, con, Dn.bin, app, consA, nilA, test, slice, noO, someO, List.map_cons, List.map_nil, List.cons_append, List.nil_append, List.replicate_succ, List.replicate_zero, List.length_cons, List.length_nil, List.getElem?_cons_zero, List.getElem?_cons_succ, List.set_cons_zero, List.set_cons_succ, List.append_nil,
  Nat.add_one_sub_one, Nat.reduceAdd, Nat.reduceSub, Nat.reduceLeDiff, Nat.sub_zero, Nat.zero_add, if_true, if_false, ite_true, ite_false, Bool.false_eq_true, reduceIte, Bool.not_true, Bool.not_false, Bool.not_eq_true', Nat.zero_le, true_and, and_true, decide_eq_true_eq, Nat.reduceEqDiff, Option.some.injEq, exists_eq_left', reduceCtorEq, atI_zero, atI_one, atI_two, List.set_cons_zero, List.set_cons_succ, wp_kdE, wp_kdAt, wp_fldE, wp_methE, wp_meth, wp_methRs, wp_star, wp_starT, wp_rng1, wp_rngAt, cut_tail, Option.map_some, SX.S_cat, SX.S_len, LIM, List.append_assoc]
  rw [wpS_fldAt (fs := putD (Str.ofString "text") (T w.t) []) (set_get hp) (show (1 : Nat) < 900 by decide)]
  simp only [wp_run, wp_bind, wp_ok, wp_bad, wpS_seq, Dn.wpS_set, wpS_ret, wpS_if, wpS_expr, wpS_skip, wpS_par, wpS_par3, wpS_asg, wpS_itemS, wpS_fldS, wpS_for, wpS_nx, wpS_rt, wpS_bk, wpS_ct, wpS_bad, wp_lc, wpS_never, thenK_nx, thenK_rt, thenK_bk, thenK_ct, outK_nx, outK_rt, turnK_nx, turnK_rt, turnK_bk, turnK_ct,
  wp_addI, wp_addS, wp_addT, wp_subI, wp_mulI, wp_mulS, wp_fdivI, wp_modI, wp_powI, ltD_int, leD_int, gtD_int, geD_int, eqV_int, eqV_str, wp_itemT, wp_itemR, wp_itemS, lenD_tup, lenD_rol, wp_lenS, intD_int, intD_bl, wp_intS, absD_int, minD_int, strD_str, wp_strI, wp_listS, truR_bl, sliceD_tup, sliceD_rol, wp_sliceS, wp_tup, wp_lst, wp_ifE, wp_andT, wp_orT, wp_notT, wp_appN, startsD_str,
  Dn.envOf, var, con, Dn.bin, app, consA, nilA, test, slice, noO, someO, List.map_cons, List.map_nil, List.cons_append, List.nil_append, List.replicate_succ, List.replicate_zero, List.length_cons, List.length_nil, List.getElem?_cons_zero, List.getElem?_cons_succ, List.set_cons_zero, List.set_cons_succ, List.append_nil,
  Nat.add_one_sub_one, Nat.reduceAdd, Nat.reduceSub, Nat.reduceLeDiff, Nat.sub_zero, Nat.zero_add, if_true, if_false, ite_true, ite_false, Bool.false_eq_true, reduceIte, Bool.not_true, Bool.not_false, Bool.not_eq_true', Nat.zero_le, true_and, and_true, decide_eq_true_eq, Nat.reduceEqDiff, Option.some.injEq, exists_eq_left', reduceCtorEq, atI_zero, atI_one, atI_two, List.set_cons_zero, List.set_cons_succ, wp_kdE, wp_kdAt, wp_fldE, wp_methE, wp_meth, wp_methRs, wp_star, wp_starT, wp_rng1, wp_rngAt, cut_tail, Option.map_some, SX.S_cat, SX.S_len, LIM, List.append_assoc]
  rw [wpS_fldAt (fs := putD (Str.ofString "position") (.int 0) (putD (Str.ofString "text") (T w.t) [])) (set_get (set_get hp)) (show (2 : Nat) < 900 by decide)]
  have hr : Rd st.length w.t 0 0 ((((st ++ [Cell.ins "Reader" []]).set st.length (Cell.ins "Reader" (putD "text" (T w.t) []))).set st.length (Cell.ins "Reader" (putD "position" (D.int 0) (putD "text" (T w.t) [])))).set st.length (Cell.ins "Reader" (putD "depth" (D.int 0) (putD "position" (D.int 0) (putD "text" (T w.t) []))))) := set_get (set_get (set_get hp))
  have hk : Kp st.length (st ++ [Cell.ins "Reader" []]) ((((st ++ [Cell.ins "Reader" []]).set st.length (Cell.ins "Reader" (putD "text" (T w.t) []))).set st.length (Cell.ins "Reader" (putD "position" (D.int 0) (putD "text" (T w.t) [])))).set st.length (Cell.ins "Reader" (putD "depth" (D.int 0) (putD "position" (D.int 0) (putD "text" (T w.t) []))))) := (Kp.set.trans Kp.set).trans Kp.set
  revert hr hk
  generalize ((((st ++ [Cell.ins "Reader" []]).set st.length (Cell.ins "Reader" (putD "text" (T w.t) []))).set st.length (Cell.ins "Reader" (putD "position" (D.int 0) (putD "text" (T w.t) [])))).set st.length (Cell.ins "Reader" (putD "depth" (D.int 0) (putD "position" (D.int 0) (putD "text" (T w.t) []))))) = s1
  intro hr hk
  simp only [wp_run, wp_bind, wp_ok, wp_bad, wpS_seq, Dn.wpS_set, wpS_ret, wpS_if, wpS_expr, wpS_skip, wpS_par, wpS_par3, wpS_asg, wpS_itemS, wpS_fldS, wpS_for, wpS_nx, wpS_rt, wpS_bk, wpS_ct, wpS_bad, wp_lc, wpS_never, thenK_nx, thenK_rt, thenK_bk, thenK_ct, outK_nx, outK_rt, turnK_nx, turnK_rt, turnK_bk, turnK_ct,
  wp_addI, wp_addS, wp_addT, wp_subI, wp_mulI, wp_mulS, wp_fdivI, wp_modI, wp_powI, ltD_int, leD_int, gtD_int, geD_int, eqV_int, eqV_str, wp_itemT, wp_itemR, wp_itemS, lenD_tup, lenD_rol, wp_lenS, intD_int, intD_bl, wp_intS, absD_int, minD_int, strD_str, wp_strI, wp_listS, truR_bl, sliceD_tup, sliceD_rol, wp_sliceS, wp_tup, wp_lst, wp_ifE, wp_andT, wp_orT, wp_notT, wp_appN, startsD_str,
  Dn.envOf, var, con, Dn.bin, app, consA, nilA, test, slice, noO, someO, List.map_cons, List.map_nil, List.cons_append, List.nil_append, List.replicate_succ, List.replicate_zero, List.length_cons, List.length_nil, List.getElem?_cons_zero, List.getElem?_cons_succ, List.set_cons_zero, List.set_cons_succ, List.append_nil,
  Nat.add_one_sub_one, Nat.reduceAdd, Nat.reduceSub, Nat.reduceLeDiff, Nat.sub_zero, Nat.zero_add, if_true, if_false, ite_true, ite_false, Bool.false_eq_true, reduceIte, Bool.not_true, Bool.not_false, Bool.not_eq_true', Nat.zero_le, true_and, and_true, decide_eq_true_eq, Nat.reduceEqDiff, Option.some.injEq, exists_eq_left', reduceCtorEq, atI_zero, atI_one, atI_two, List.set_cons_zero, List.set_cons_succ, wp_kdE, wp_kdAt, wp_fldE, wp_methE, wp_meth, wp_methRs, wp_star, wp_starT, wp_rng1, wp_rngAt, cut_tail, Option.map_some, SX.S_cat, SX.S_len, LIM, List.append_assoc]
  refine wp_mono (wp_read_words w hok (by omega) 60 st.length w.t 0 0 s1 [] (by omega) hr (by omega) (by simp) (fun c r e => by cases e) (by omega)) fun d s2 q2 => ?_
  obtain ⟨rfl, r2, t2⟩ := q2
  simp only [wp_run, wp_bind, wp_ok, wp_bad, wpS_seq, Dn.wpS_set, wpS_ret, wpS_if, wpS_expr, wpS_skip, wpS_par, wpS_par3, wpS_asg, wpS_itemS, wpS_fldS, wpS_for, wpS_nx, wpS_rt, wpS_bk, wpS_ct, wpS_bad, wp_lc, wpS_never, thenK_nx, thenK_rt, thenK_bk, thenK_ct, outK_nx, outK_rt, turnK_nx, turnK_rt, turnK_bk, turnK_ct,
  wp_addI, wp_addS, wp_addT, wp_subI, wp_mulI, wp_mulS, wp_fdivI, wp_modI, wp_powI, ltD_int, leD_int, gtD_int, geD_int, eqV_int, eqV_str, wp_itemT, wp_itemR, wp_itemS, lenD_tup, lenD_rol, wp_lenS, intD_int, intD_bl, wp_intS, absD_int, minD_int, strD_str, wp_strI, wp_listS, truR_bl, sliceD_tup, sliceD_rol, wp_sliceS, wp_tup, wp_lst, wp_ifE, wp_andT, wp_orT, wp_notT, wp_appN, startsD_str,
  Dn.envOf, var, con, Dn.bin, app, consA, nilA, test, slice, noO, someO, List.map_cons, List.map_nil, List.cons_append, List.nil_append, List.replicate_succ, List.replicate_zero, List.length_cons, List.length_nil, List.getElem?_cons_zero, List.getElem?_cons_succ, List.set_cons_zero, List.set_cons_succ, List.append_nil,
  Nat.add_one_sub_one, Nat.reduceAdd, Nat.reduceSub, Nat.reduceLeDiff, Nat.sub_zero, Nat.zero_add, if_true, if_false, ite_true, ite_false, Bool.false_eq_true, reduceIte, Bool.not_true, Bool.not_false, Bool.not_eq_true', Nat.zero_le, true_and, and_true, decide_eq_true_eq, Nat.reduceEqDiff, Option.some.injEq, exists_eq_left', reduceCtorEq, atI_zero, atI_one, atI_two, List.set_cons_zero, List.set_cons_succ, wp_kdE, wp_kdAt, wp_fldE, wp_methE, wp_meth, wp_methRs, wp_star, wp_starT, wp_rng1, wp_rngAt, cut_tail, Option.map_some, SX.S_cat, SX.S_len, LIM, List.append_assoc, wp_recv r2 rd_m7]
  unfold F_Reader_end b_Reader_end
  simp only [wp_run, wp_bind, wp_ok, wp_bad, wpS_seq, Dn.wpS_set, wpS_ret, wpS_if, wpS_expr, wpS_skip, wpS_par, wpS_par3, wpS_asg, wpS_itemS, wpS_fldS, wpS_for, wpS_nx, wpS_rt, wpS_bk, wpS_ct, wpS_bad, wp_lc, wpS_never, thenK_nx, thenK_rt, thenK_bk, thenK_ct, outK_nx, outK_rt, turnK_nx, turnK_rt, turnK_bk, turnK_ct,
  wp_addI, wp_addS, wp_addT, wp_subI, wp_mulI, wp_mulS, wp_fdivI, wp_modI, wp_powI, ltD_int, leD_int, gtD_int, geD_int, eqV_int, eqV_str, wp_itemT, wp_itemR, wp_itemS, lenD_tup, lenD_rol, wp_lenS, intD_int, intD_bl, wp_intS, absD_int, minD_int, strD_str, wp_strI, wp_listS, truR_bl, sliceD_tup, sliceD_rol, wp_sliceS, wp_tup, wp_lst, wp_ifE, wp_andT, wp_orT, wp_notT, wp_appN, startsD_str,
  Dn.envOf, var, con, Dn.bin, app, consA, nilA, test, slice, noO, someO, List.map_cons, List.map_nil, List.cons_append, List.nil_append, List.replicate_succ, List.replicate_zero, List.length_cons, List.length_nil, List.getElem?_cons_zero, List.getElem?_cons_succ, List.set_cons_zero, List.set_cons_succ, List.append_nil,
  Nat.add_one_sub_one, Nat.reduceAdd, Nat.reduceSub, Nat.reduceLeDiff, Nat.sub_zero, Nat.zero_add, if_true, if_false, ite_true, ite_false, Bool.false_eq_true, reduceIte, Bool.not_true, Bool.not_false, Bool.not_eq_true', Nat.zero_le, true_and, and_true, decide_eq_true_eq, Nat.reduceEqDiff, Option.some.injEq, exists_eq_left', reduceCtorEq, atI_zero, atI_one, atI_two, List.set_cons_zero, List.set_cons_succ, wp_kdE, wp_kdAt, wp_fldE, wp_methE, wp_meth, wp_methRs, wp_star, wp_starT, wp_rng1, wp_rngAt, cut_tail, Option.map_some, SX.S_cat, SX.S_len, LIM, List.append_assoc, wp_fldR r2, rd_pos, rd_text]
  refine ⟨by omega, ?_⟩
  rw [if_neg (by omega)]
  refine ext_of fun i c hc => ?_
  have hlt : i < st.length := (List.getElem?_eq_some_iff.mp hc).1
  exact (hk.trans t2) i c (by omega) (get_app hc)
end
end T91


set_option Elab.async false
set_option linter.all false
set_option maxRecDepth 100000
set_option maxHeartbeats 4000000
set_option autoImplicit false
namespace T91
open PySem Dn
section
variable {n m : Nat} {st st' s : Store} {Q : D → Store → Prop}
theorem e_drop : F_law_drop = F_drop := rfl
theorem e_pick : F_law_pick = F_pick := rfl
theorem gr_set {c : Cell} {i : Nat} (g : Gr n m st s) (hi : st.length ≤ i) (S : Sp n m st) : Gr n m st (s.set i c) := by
  have h1 : i ≠ n := by have := S.lt; omega
  have h2 : i ≠ m := by have := S.lt; omega
  refine ⟨fun j d k1 k2 k => ?_, g.sp.set h1 h2 c⟩
  have hl : j < st.length := (List.getElem?_eq_some_iff.mp k).1
  rw [List.getElem?_set_ne (by omega)]
  exact g.keep j d k1 k2 k
theorem gr_cell {i : Nat} {ds : List D} (g : Gr n m st s) (h1 : i ≠ n) (h2 : i ≠ m) (h : cellL st i = some ds) : cellL s i = some ds := cellL_of (g.keep i _ h1 h2 (cellL_some h))
theorem gr_push {c : Cell} (g : Gr n m st s) : Gr n m st (s ++ [c]) := g.trans (Gr.push g.sp c)
theorem gr_len (g : Gr n m st s) (S : Sp n m st) : st.length ≤ s.length := by
  by_cases h : st.length ≤ s.length
  · exact h
  · have hl : s.length < st.length := by omega
    have k1 := g.sp.ne_len
    have e : st[s.length]? = some st[s.length] := by simp
    have := (List.getElem?_eq_some_iff.mp (g.keep _ _ k1.1 k1.2 e)).1
    omega
/-- a list made by a comprehension over anything -/
theorem wp_gen {P : D → Prop} {e : ME} {x : Nat} {vs : List Nat} {r : Dn.Env} {vals : List D} (hS : Sp n m st) (hv : vals.length < 4000000)
    (he : ∀ d s, Gr n m st s → wp (e ((wipeE r vs).set x (some d)) s) fun y s' => P y ∧ Gr n m s s')
    (h : ∀ ds s, ds.length = vals.length → (∀ y ∈ ds, P y) → Gr n m st s → cellL s st.length = some ds → Q (.loc st.length) s) : wp (lcN [] (.nm x) yes e (wipeE r vs) st.length vals (st ++ [.lst []])) Q := by
  have hne := hS.ne_len
  refine wp_lcN (fun l s => ∃ ds : List D, ds.length + l.length = vals.length ∧ (∀ y ∈ ds, P y) ∧ Gr n m st s ∧ cellL s st.length = some ds) (fun _ _ _ => oks_nil) ?_ ?_ _ _ ⟨[], by simp, fun _ h => (by cases h), Gr.push hS _, cellL_of get_last⟩
  · rintro s ⟨ds, h1, h2, h3, h4⟩
    exact h ds s (by simpa using h1) h2 h3 h4
  · rintro d l s ⟨ds, h1, h2, h3, h4⟩
    refine ⟨_, rfl, ?_⟩
    simp only [yes, wp_ok, if_true]
    refine wp_mono (he d s h3) fun y s2 hy => ?_
    obtain ⟨p1, g1⟩ := hy
    have h5 := gr_cell g1 hne.1 hne.2 h4
    rw [List.length_cons] at h1
    refine ⟨ds, h5, by show _ < 4000000; omega, ds ++ [y], by simp; omega, fun z hz => ?_, gr_set (h3.trans g1) (Nat.le_refl _) hS, cellL_of (set_get (cellL_some h5))⟩
    rcases List.mem_append.mp hz with k | k
    · exact h2 z k
    · rw [List.mem_singleton.mp k]
      exact p1
theorem joinL_one : ∀ cs : List Nat, TL.joinL [] (cs.map fun c => [c]) = cs
  | [] => rfl
  | [c] => rfl
  | c :: d :: r => by
    have := joinL_one (d :: r)
    simp only [List.map_cons] at this ⊢
    rw [TL.joinL, this]
    rfl
theorem letters_of : ∀ {ds : List D}, (∀ y ∈ ds, ∃ c, y = T [c] ∧ 97 ≤ c ∧ c ≤ 122) → ∃ cs : List Nat, ds = (cs.map fun c => [c]).map T ∧ ∀ c ∈ cs, 97 ≤ c ∧ c ≤ 122
  | [], _ => ⟨[], rfl, fun _ h => by cases h⟩
  | d :: ds, h => by
    obtain ⟨c, e, h1⟩ := h d List.mem_cons_self
    obtain ⟨cs, e2, h2⟩ := letters_of fun y hy => h y (List.mem_cons_of_mem _ hy)
    refine ⟨c :: cs, by rw [e, e2]; rfl, fun x hx => ?_⟩
    rcases List.mem_cons.mp hx with k | k
    · rw [k]
      exact h1
    · exact h2 x k
theorem nm_lit {l : List Nat} (h : (!l.isEmpty && decide (l.length ≤ 8) && l.all fun c => decide (97 ≤ c) && decide (c ≤ 122)) = true) : Nm l := by
  simp only [Bool.and_eq_true, decide_eq_true_eq, Bool.not_eq_true', List.all_eq_true] at h
  refine ⟨fun e => ?_, h.1.2, fun c hc => h.2 c hc⟩
  rw [e] at h
  exact absurd h.1.1 (by simp)
theorem wp_name1 (hS : Sp n m st) (h : ∀ l s, Nm l → Gr n m st s → Q (T l) s) : wp (F_law_name [.loc n] st) Q := by
  have hne := hS.ne_len
  unfold F_law_name b_law_name
  simp only [wp_run, wp_bind, wp_ok, wp_bad, wpS_seq, Dn.wpS_set, wpS_ret, wpS_if, wpS_expr, wpS_skip, wpS_par, wpS_par3, wpS_asg, wpS_itemS, wpS_fldS, wpS_for, wpS_nx, wpS_rt, wpS_bk, wpS_ct, wpS_bad, wp_lc, wpS_never, thenK_nx, thenK_rt, thenK_bk, thenK_ct, outK_nx, outK_rt, turnK_nx, turnK_rt, turnK_bk, turnK_ct,
  wp_addI, wp_addS, wp_addT, wp_subI, wp_mulI, wp_mulS, wp_fdivI, wp_modI, wp_powI, ltD_int, leD_int, gtD_int, geD_int, eqV_int, eqV_str, wp_itemT, wp_itemR, wp_itemS, lenD_tup, lenD_rol, wp_lenS, intD_int, intD_bl, wp_intS, absD_int, minD_int, strD_str, wp_strI, wp_listS, truR_bl, sliceD_tup, sliceD_rol, wp_sliceS, wp_tup, wp_lst, wp_ifE, wp_andT, wp_orT, wp_notT, wp_appN, startsD_str,
  Dn.envOf, var, con, Dn.bin, app, consA, nilA, test, slice, noO, someO, List.map_cons, List.map_nil, List.cons_append, List.nil_append, List.replicate_succ, List.replicate_zero, List.length_cons, List.length_nil, List.getElem?_cons_zero, List.getElem?_cons_succ, List.set_cons_zero, List.set_cons_succ, List.append_nil,
  Nat.add_one_sub_one, Nat.reduceAdd, Nat.reduceSub, Nat.reduceLeDiff, Nat.sub_zero, Nat.zero_add, if_true, if_false, ite_true, ite_false, Bool.false_eq_true, reduceIte, Bool.not_true, Bool.not_false, Bool.not_eq_true', Nat.zero_le, true_and, and_true, decide_eq_true_eq, Nat.reduceEqDiff, Option.some.injEq, exists_eq_left', reduceCtorEq, atI_zero, atI_one, atI_two, List.set_cons_zero, List.set_cons_succ, wp_kdE, wp_kdAt, wp_fldE, wp_methE, wp_meth, wp_methRs, wp_star, wp_starT, wp_rng1, wp_rngAt, cut_tail, Option.map_some, SX.S_cat, SX.S_len, LIM, e_drop]
  have hS1 := hS.push (.lst [D.str "a", D.str "z", D.str "home", D.str "list", D.str "zzzzzzzz", D.str "all", D.str "not", D.str "is", D.str "left", D.str "abcdefgh", D.str "to", D.str "deep"])
  refine wp_drop hS1 (by omega) (by omega) fun j s1 h0 h1 g1 => ?_
  simp only [wp_run, wp_bind, wp_ok, wp_bad, wpS_seq, Dn.wpS_set, wpS_ret, wpS_if, wpS_expr, wpS_skip, wpS_par, wpS_par3, wpS_asg, wpS_itemS, wpS_fldS, wpS_for, wpS_nx, wpS_rt, wpS_bk, wpS_ct, wpS_bad, wp_lc, wpS_never, thenK_nx, thenK_rt, thenK_bk, thenK_ct, outK_nx, outK_rt, turnK_nx, turnK_rt, turnK_bk, turnK_ct,
  wp_addI, wp_addS, wp_addT, wp_subI, wp_mulI, wp_mulS, wp_fdivI, wp_modI, wp_powI, ltD_int, leD_int, gtD_int, geD_int, eqV_int, eqV_str, wp_itemT, wp_itemR, wp_itemS, lenD_tup, lenD_rol, wp_lenS, intD_int, intD_bl, wp_intS, absD_int, minD_int, strD_str, wp_strI, wp_listS, truR_bl, sliceD_tup, sliceD_rol, wp_sliceS, wp_tup, wp_lst, wp_ifE, wp_andT, wp_orT, wp_notT, wp_appN, startsD_str,
  Dn.envOf, var, con, Dn.bin, app, consA, nilA, test, slice, noO, someO, List.map_cons, List.map_nil, List.cons_append, List.nil_append, List.replicate_succ, List.replicate_zero, List.length_cons, List.length_nil, List.getElem?_cons_zero, List.getElem?_cons_succ, List.set_cons_zero, List.set_cons_succ, List.append_nil,
  Nat.add_one_sub_one, Nat.reduceAdd, Nat.reduceSub, Nat.reduceLeDiff, Nat.sub_zero, Nat.zero_add, if_true, if_false, ite_true, ite_false, Bool.false_eq_true, reduceIte, Bool.not_true, Bool.not_false, Bool.not_eq_true', Nat.zero_le, true_and, and_true, decide_eq_true_eq, Nat.reduceEqDiff, Option.some.injEq, exists_eq_left', reduceCtorEq, atI_zero, atI_one, atI_two, List.set_cons_zero, List.set_cons_succ, wp_kdE, wp_kdAt, wp_fldE, wp_methE, wp_meth, wp_methRs, wp_star, wp_starT, wp_rng1, wp_rngAt, cut_tail, Option.map_some, SX.S_cat, SX.S_len, LIM]
  refine ⟨⟨by omega, by omega⟩, ?_⟩
  have hcell := gr_cell g1 hne.1 hne.2 (cellL_of get_last)
  refine wp_gen (P := fun y => ∃ c, y = T [c] ∧ 97 ≤ c ∧ c ≤ 122) g1.sp (by simp; omega) (fun d s g => ?_) fun ds s2 hl hP g2 hc2 => ?_
  · have hq : Str.ofString "abyz" = SX.S [97, 98, 121, 122] := rfl
    have hch : chars (SX.S [97, 98, 121, 122]) = [T [97], T [98], T [121], T [122]] := rfl
    simp only [wp_run, wp_bind, wp_ok, wp_bad, wpS_seq, Dn.wpS_set, wpS_ret, wpS_if, wpS_expr, wpS_skip, wpS_par, wpS_par3, wpS_asg, wpS_itemS, wpS_fldS, wpS_for, wpS_nx, wpS_rt, wpS_bk, wpS_ct, wpS_bad, wp_lc, wpS_never, thenK_nx, thenK_rt, thenK_bk, thenK_ct, outK_nx, outK_rt, turnK_nx, turnK_rt, turnK_bk, turnK_ct,
  wp_addI, wp_addS, wp_addT, wp_subI, wp_mulI, wp_mulS, wp_fdivI, wp_modI, wp_powI, ltD_int, leD_int, gtD_int, geD_int, eqV_int, eqV_str, wp_itemT, wp_itemR, wp_itemS, lenD_tup, lenD_rol, wp_lenS, intD_int, intD_bl, wp_intS, absD_int, minD_int, strD_str, wp_strI, wp_listS, truR_bl, sliceD_tup, sliceD_rol, wp_sliceS, wp_tup, wp_lst, wp_ifE, wp_andT, wp_orT, wp_notT, wp_appN, startsD_str,
  Dn.envOf, var, con, Dn.bin, app, consA, nilA, test, slice, noO, someO, List.map_cons, List.map_nil, List.cons_append, List.nil_append, List.replicate_succ, List.replicate_zero, List.length_cons, List.length_nil, List.getElem?_cons_zero, List.getElem?_cons_succ, List.set_cons_zero, List.set_cons_succ, List.append_nil,
  Nat.add_one_sub_one, Nat.reduceAdd, Nat.reduceSub, Nat.reduceLeDiff, Nat.sub_zero, Nat.zero_add, if_true, if_false, ite_true, ite_false, Bool.false_eq_true, reduceIte, Bool.not_true, Bool.not_false, Bool.not_eq_true', Nat.zero_le, true_and, and_true, decide_eq_true_eq, Nat.reduceEqDiff, Option.some.injEq, exists_eq_left', reduceCtorEq, atI_zero, atI_one, atI_two, List.set_cons_zero, List.set_cons_succ, wp_kdE, wp_kdAt, wp_fldE, wp_methE, wp_meth, wp_methRs, wp_star, wp_starT, wp_rng1, wp_rngAt, cut_tail, Option.map_some, SX.S_cat, SX.S_len, LIM, e_pick, wipeE, hq, hch]
    refine wp_pick (g.sp.push _) (ds := [T [97], T [98], T [121], T [122]]) (seqD_loc.trans (cellL_of get_last)) (by simp) (show (4 : Nat) ≤ 4000000 by decide) (fun q e => by cases e; exact g.sp.ne_len) fun d s' hd g' => ?_
    refine ⟨?_, (Gr.push g.sp _).trans g'⟩
    have hd' : d ∈ [T [97], T [98], T [121], T [122]] := hd
    simp only [List.mem_cons, List.not_mem_nil, or_false] at hd'
    rcases hd' with rfl | rfl | rfl | rfl
    · exact ⟨97, rfl, by decide⟩
    · exact ⟨98, rfl, by decide⟩
    · exact ⟨121, rfl, by decide⟩
    · exact ⟨122, rfl, by decide⟩
  · obtain ⟨cs, rfl, hcs⟩ := letters_of hP
    have q0 : Str.ofString "" = SX.S [] := by rfl
    simp only [wp_run, wp_bind, wp_ok, wp_bad, wpS_seq, Dn.wpS_set, wpS_ret, wpS_if, wpS_expr, wpS_skip, wpS_par, wpS_par3, wpS_asg, wpS_itemS, wpS_fldS, wpS_for, wpS_nx, wpS_rt, wpS_bk, wpS_ct, wpS_bad, wp_lc, wpS_never, thenK_nx, thenK_rt, thenK_bk, thenK_ct, outK_nx, outK_rt, turnK_nx, turnK_rt, turnK_bk, turnK_ct,
  wp_addI, wp_addS, wp_addT, wp_subI, wp_mulI, wp_mulS, wp_fdivI, wp_modI, wp_powI, ltD_int, leD_int, gtD_int, geD_int, eqV_int, eqV_str, wp_itemT, wp_itemR, wp_itemS, lenD_tup, lenD_rol, wp_lenS, intD_int, intD_bl, wp_intS, absD_int, minD_int, strD_str, wp_strI, wp_listS, truR_bl, sliceD_tup, sliceD_rol, wp_sliceS, wp_tup, wp_lst, wp_ifE, wp_andT, wp_orT, wp_notT, wp_appN, startsD_str,
  Dn.envOf, var, con, Dn.bin, app, consA, nilA, test, slice, noO, someO, List.map_cons, List.map_nil, List.cons_append, List.nil_append, List.replicate_succ, List.replicate_zero, List.length_cons, List.length_nil, List.getElem?_cons_zero, List.getElem?_cons_succ, List.set_cons_zero, List.set_cons_succ, List.append_nil,
  Nat.add_one_sub_one, Nat.reduceAdd, Nat.reduceSub, Nat.reduceLeDiff, Nat.sub_zero, Nat.zero_add, if_true, if_false, ite_true, ite_false, Bool.false_eq_true, reduceIte, Bool.not_true, Bool.not_false, Bool.not_eq_true', Nat.zero_le, true_and, and_true, decide_eq_true_eq, Nat.reduceEqDiff, Option.some.injEq, exists_eq_left', reduceCtorEq, atI_zero, atI_one, atI_two, List.set_cons_zero, List.set_cons_succ, wp_kdE, wp_kdAt, wp_fldE, wp_methE, wp_meth, wp_methRs, wp_star, wp_starT, wp_rng1, wp_rngAt, cut_tail, Option.map_some, SX.S_cat, SX.S_len, LIM, q0]
    rw [wp_joinT (l := cs.map fun c => [c]) (x := .loc s1.length) (st := s2) hc2, joinL_one]
    simp only [List.length_map, List.length_range] at hl
    have hcl : 0 < cs.length ∧ cs.length ≤ 8 := by omega
    have hsum : ((cs.map fun c => [c]).map List.length).sum = cs.length := by
      clear hcell hc2 hP hl hcs hcl
      induction cs with
      | nil => rfl
      | cons c cs ih => simp at ih ⊢; omega
    simp only [wp_run, wp_bind, wp_ok, wp_bad, wpS_seq, Dn.wpS_set, wpS_ret, wpS_if, wpS_expr, wpS_skip, wpS_par, wpS_par3, wpS_asg, wpS_itemS, wpS_fldS, wpS_for, wpS_nx, wpS_rt, wpS_bk, wpS_ct, wpS_bad, wp_lc, wpS_never, thenK_nx, thenK_rt, thenK_bk, thenK_ct, outK_nx, outK_rt, turnK_nx, turnK_rt, turnK_bk, turnK_ct,
  wp_addI, wp_addS, wp_addT, wp_subI, wp_mulI, wp_mulS, wp_fdivI, wp_modI, wp_powI, ltD_int, leD_int, gtD_int, geD_int, eqV_int, eqV_str, wp_itemT, wp_itemR, wp_itemS, lenD_tup, lenD_rol, wp_lenS, intD_int, intD_bl, wp_intS, absD_int, minD_int, strD_str, wp_strI, wp_listS, truR_bl, sliceD_tup, sliceD_rol, wp_sliceS, wp_tup, wp_lst, wp_ifE, wp_andT, wp_orT, wp_notT, wp_appN, startsD_str,
  Dn.envOf, var, con, Dn.bin, app, consA, nilA, test, slice, noO, someO, List.map_cons, List.map_nil, List.cons_append, List.nil_append, List.replicate_succ, List.replicate_zero, List.length_cons, List.length_nil, List.getElem?_cons_zero, List.getElem?_cons_succ, List.set_cons_zero, List.set_cons_succ, List.append_nil,
  Nat.add_one_sub_one, Nat.reduceAdd, Nat.reduceSub, Nat.reduceLeDiff, Nat.sub_zero, Nat.zero_add, if_true, if_false, ite_true, ite_false, Bool.false_eq_true, reduceIte, Bool.not_true, Bool.not_false, Bool.not_eq_true', Nat.zero_le, true_and, and_true, decide_eq_true_eq, Nat.reduceEqDiff, Option.some.injEq, exists_eq_left', reduceCtorEq, atI_zero, atI_one, atI_two, List.set_cons_zero, List.set_cons_succ, wp_kdE, wp_kdAt, wp_fldE, wp_methE, wp_meth, wp_methRs, wp_star, wp_starT, wp_rng1, wp_rngAt, cut_tail, Option.map_some, SX.S_cat, SX.S_len, LIM, List.length_map, hsum]
    refine ⟨by omega, ?_⟩
    have hcell2 := gr_cell g2 hne.1 hne.2 hcell
    rw [wp_addL (st := s2 ++ [Cell.lst [T cs]]) (cellL_of (get_app (cellL_some hcell2))) (cellL_of get_last)]
    refine ⟨by show _ ≤ 4000000; simp, ?_⟩
    have hgr : Gr n m st (s2 ++ [Cell.lst [T cs]]) := gr_push (((Gr.push hS _).trans g1).trans g2)
    simp only [wp_run, wp_bind, wp_ok, wp_bad, wpS_seq, Dn.wpS_set, wpS_ret, wpS_if, wpS_expr, wpS_skip, wpS_par, wpS_par3, wpS_asg, wpS_itemS, wpS_fldS, wpS_for, wpS_nx, wpS_rt, wpS_bk, wpS_ct, wpS_bad, wp_lc, wpS_never, thenK_nx, thenK_rt, thenK_bk, thenK_ct, outK_nx, outK_rt, turnK_nx, turnK_rt, turnK_bk, turnK_ct,
  wp_addI, wp_addS, wp_addT, wp_subI, wp_mulI, wp_mulS, wp_fdivI, wp_modI, wp_powI, ltD_int, leD_int, gtD_int, geD_int, eqV_int, eqV_str, wp_itemT, wp_itemR, wp_itemS, lenD_tup, lenD_rol, wp_lenS, intD_int, intD_bl, wp_intS, absD_int, minD_int, strD_str, wp_strI, wp_listS, truR_bl, sliceD_tup, sliceD_rol, wp_sliceS, wp_tup, wp_lst, wp_ifE, wp_andT, wp_orT, wp_notT, wp_appN, startsD_str,
  Dn.envOf, var, con, Dn.bin, app, consA, nilA, test, slice, noO, someO, List.map_cons, List.map_nil, List.cons_append, List.nil_append, List.replicate_succ, List.replicate_zero, List.length_cons, List.length_nil, List.getElem?_cons_zero, List.getElem?_cons_succ, List.set_cons_zero, List.set_cons_succ, List.append_nil,
  Nat.add_one_sub_one, Nat.reduceAdd, Nat.reduceSub, Nat.reduceLeDiff, Nat.sub_zero, Nat.zero_add, if_true, if_false, ite_true, ite_false, Bool.false_eq_true, reduceIte, Bool.not_true, Bool.not_false, Bool.not_eq_true', Nat.zero_le, true_and, and_true, decide_eq_true_eq, Nat.reduceEqDiff, Option.some.injEq, exists_eq_left', reduceCtorEq, atI_zero, atI_one, atI_two, List.set_cons_zero, List.set_cons_succ, wp_kdE, wp_kdAt, wp_fldE, wp_methE, wp_meth, wp_methRs, wp_star, wp_starT, wp_rng1, wp_rngAt, cut_tail, Option.map_some, SX.S_cat, SX.S_len, LIM, e_pick]
    refine wp_pick (hgr.sp.push _) (seqD_loc.trans (cellL_of get_last)) ?_ ?_ (fun q e => by cases e; exact hgr.sp.ne_len) fun d s' hd g' => ?_
    · simp
    · show _ ≤ 4000000
      simp
    have fin : ∀ l, d = T l → Nm l → Q d s' := fun l e hn => by rw [e]; exact h l s' hn ((gr_push hgr).trans g')
    simp only [List.cons_append, List.nil_append, List.mem_cons, List.not_mem_nil, or_false] at hd
    rcases hd with rfl | rfl | rfl | rfl | rfl | rfl | rfl | rfl | rfl | rfl | rfl | rfl | rfl
    · exact fin [97] rfl (nm_lit rfl)
    · exact fin [122] rfl (nm_lit rfl)
    · exact fin [104, 111, 109, 101] rfl (nm_lit rfl)
    · exact fin [108, 105, 115, 116] rfl (nm_lit rfl)
    · exact fin [122, 122, 122, 122, 122, 122, 122, 122] rfl (nm_lit rfl)
    · exact fin [97, 108, 108] rfl (nm_lit rfl)
    · exact fin [110, 111, 116] rfl (nm_lit rfl)
    · exact fin [105, 115] rfl (nm_lit rfl)
    · exact fin [108, 101, 102, 116] rfl (nm_lit rfl)
    · exact fin [97, 98, 99, 100, 101, 102, 103, 104] rfl (nm_lit rfl)
    · exact fin [116, 111] rfl (nm_lit rfl)
    · exact fin [100, 101, 101, 112] rfl (nm_lit rfl)
    · refine fin cs rfl ⟨fun e => ?_, by omega, hcs⟩
      rw [e] at hcl
      exact absurd hcl.1 (by simp)
end
end T91


set_option Elab.async false
set_option linter.all false
set_option maxRecDepth 100000
set_option maxHeartbeats 4000000
set_option autoImplicit false
namespace T91
open PySem Dn
/-- words of so many brackets -/
def Gd (b : Nat) (d : D) : Prop := ∃ w : Wd, d = w.d ∧ w.ok ∧ w.dep ≤ b ∧ w.ht ≤ b ∧ w.sz + 10 ≤ 140 * 2 ^ b
theorem Gd.mono {b c : Nat} {d : D} (h : Gd b d) (hb : b ≤ c) : Gd c d := by
  obtain ⟨w, h1, h2, h3, h4, h5⟩ := h
  have : 2 ^ b ≤ 2 ^ c := Nat.pow_le_pow_right (by decide) hb
  exact ⟨w, h1, h2, by omega, by omega, by omega⟩
theorem gd_not {b : Nat} {d : D} (h : Gd b d) : Gd (b + 1) (.tup [T l_not, d]) := by
  obtain ⟨w, rfl, h2, h3, h4, h5⟩ := h
  have : 2 ^ (b + 1) = 2 * 2 ^ b := by rw [Nat.pow_succ]; omega
  have h0 : 0 < 2 ^ b := Nat.pow_pos (by decide)
  refine ⟨.un w, rfl, h2, by simp only [Wd.dep]; omega, by simp only [Wd.ht]; omega, by simp only [Wd.sz]; omega⟩
theorem gd_bi {b : Nat} {o : Bool} {d e : D} (h : Gd b d) (k : Gd b e) : Gd (b + 1) (.tup [T (if o then l_and else l_or), d, e]) := by
  obtain ⟨w, rfl, h2, h3, h4, h5⟩ := h
  obtain ⟨v, rfl, k2, k3, k4, k5⟩ := k
  have : 2 ^ (b + 1) = 2 * 2 ^ b := by rw [Nat.pow_succ]; omega
  refine ⟨.bi o w v, rfl, ⟨h2, k2⟩, by simp only [Wd.dep]; omega, by simp only [Wd.ht]; omega, by simp only [Wd.sz]; omega⟩
theorem gd_sim {h : H9} {its : List It} (hk : ItsOk h.srt its) : Gd 1 (.tup (T h.t :: its.map It.d)) :=
  ⟨.sim h its, rfl, hk, by simp only [Wd.dep]; split <;> omega, by simp only [Wd.ht]; omega, by simp only [Wd.sz]; omega⟩
theorem gd_sim0 {h : H9} (hk : ItsOk h.srt []) : Gd 0 (.tup [T h.t]) :=
  ⟨.sim h [], rfl, hk, by simp [Wd.dep], by simp only [Wd.ht]; omega, by simp only [Wd.sz]; omega⟩
theorem gd_is {m : List Nat} {k : List (List Nat)} (hm : Nm m) (hk : ∀ x ∈ k, Nm x) (hl : k.length ≤ 12) : Gd 1 (.tup [T l_is, T m, .tup (k.map T)]) :=
  ⟨.is m k, rfl, ⟨hm, hk⟩, by simp only [Wd.dep]; omega, by simp only [Wd.ht]; omega, by simp only [Wd.sz]; omega⟩
def AppOk (d : D) : Prop := ∃ (a b c : D) (ms ss : List (List Nat)), d = .tup [a, .tup (ms.map T), .tup (ss.map T), b, c] ∧ ms ≠ [] ∧ ss ≠ [] ∧ ms.length ≤ 10 ∧ ss.length ≤ 10 ∧ (∀ x ∈ ms, Nm x) ∧ ∀ x ∈ ss, Nm x
theorem names_of : ∀ {ds : List D}, (∀ y ∈ ds, ∃ l, y = T l ∧ Nm l) → ∃ k : List (List Nat), ds = k.map T ∧ ∀ x ∈ k, Nm x
  | [], _ => ⟨[], rfl, fun _ h => by cases h⟩
  | d :: ds, h => by
    obtain ⟨c, e, h1⟩ := h d List.mem_cons_self
    obtain ⟨cs, e2, h2⟩ := names_of fun y hy => h y (List.mem_cons_of_mem _ hy)
    refine ⟨c :: cs, by rw [e, e2]; rfl, fun x hx => ?_⟩
    rcases List.mem_cons.mp hx with k | k
    · rw [k]
      exact h1
    · exact h2 x k
section
variable {n m : Nat} {st st' s : Store} {Q : D → Store → Prop}
/-- one of some names -/
theorem wp_pickN {k : List (List Nat)} (hS : Sp n m st) (h0 : k ≠ []) (hl : k.length ≤ 10) (hn : ∀ x ∈ k, Nm x) (h : ∀ l s, Nm l → Gr n m st s → Q (T l) s) : wp (F_pick [.loc n, .tup (k.map T)] st) Q := by
  refine wp_pick hS (ds := k.map T) rfl (by simpa using h0) (by show _ ≤ 4000000; simp; omega) (fun q e => by cases e) fun d s hd g => ?_
  obtain ⟨l, h1, rfl⟩ := List.mem_map.mp hd
  exact h l s (hn l h1) g
/-- one of the items of a new list -/
theorem wp_pickL {ds : List D} (hS : Sp n m st) (h0 : ds ≠ []) (hl : ds.length ≤ 1000) (h : ∀ d s, d ∈ ds → Gr n m st s → Q d s) : wp (F_pick [.loc n, .loc st.length] (st ++ [.lst ds])) Q := by
  refine wp_pick (hS.push _) (seqD_loc.trans (cellL_of get_last)) h0 (by show _ ≤ 4000000; omega) (fun q e => by cases e; exact hS.ne_len) fun d s hd g => h d s hd ((Gr.push hS _).trans g)
theorem wp_sign (hS : Sp n m st) (h : ∀ c s, (c = 60 ∨ c = 61 ∨ c = 62) → Gr n m st s → Q (T [c]) s) : wp (F_pick [.loc n, .loc st.length] (st ++ [.lst [D.str "<", D.str "=", D.str ">"]])) Q := by
  refine wp_pickL hS (by simp) (by simp) fun d s hd g => ?_
  simp only [List.mem_cons, List.not_mem_nil, or_false] at hd
  rcases hd with rfl | rfl | rfl
  · exact h 60 s (.inl rfl) g
  · exact h 61 s (.inr (.inl rfl)) g
  · exact h 62 s (.inr (.inr rfl)) g
theorem wp_basic {d : D} (hS : Sp n m st) (ha : AppOk d) (h : ∀ d s, Gd 1 d → Gr n m st s → Q d s) : wp (F_law_basic [.loc n, d, .int 9] st) Q := by
  obtain ⟨a, b, c, ms, ss, rfl, m0, s0, m1, s1, hm, hs⟩ := ha
  unfold F_law_basic b_law_basic
  simp only [wp_run, wp_bind, wp_ok, wp_bad, wpS_seq, Dn.wpS_set, wpS_ret, wpS_if, wpS_expr, wpS_skip, wpS_par, wpS_par3, wpS_asg, wpS_itemS, wpS_fldS, wpS_for, wpS_nx, wpS_rt, wpS_bk, wpS_ct, wpS_bad, wp_lc, wpS_never, thenK_nx, thenK_rt, thenK_bk, thenK_ct, outK_nx, outK_rt, turnK_nx, turnK_rt, turnK_bk, turnK_ct,
  wp_addI, wp_addS, wp_addT, wp_subI, wp_mulI, wp_mulS, wp_fdivI, wp_modI, wp_powI, ltD_int, leD_int, gtD_int, geD_int, eqV_int, eqV_str, wp_itemT, wp_itemR, wp_itemS, lenD_tup, lenD_rol, wp_lenS, intD_int, intD_bl, wp_intS, absD_int, minD_int, strD_str, wp_strI, wp_listS, truR_bl, sliceD_tup, sliceD_rol, wp_sliceS, wp_tup, wp_lst, wp_ifE, wp_andT, wp_orT, wp_notT, wp_appN, startsD_str,
  Dn.envOf, var, con, Dn.bin, app, consA, nilA, test, slice, noO, someO, List.map_cons, List.map_nil, List.cons_append, List.nil_append, List.replicate_succ, List.replicate_zero, List.length_cons, List.length_nil, List.getElem?_cons_zero, List.getElem?_cons_succ, List.set_cons_zero, List.set_cons_succ, List.append_nil,
  Nat.add_one_sub_one, Nat.reduceAdd, Nat.reduceSub, Nat.reduceLeDiff, Nat.sub_zero, Nat.zero_add, if_true, if_false, ite_true, ite_false, Bool.false_eq_true, reduceIte, Bool.not_true, Bool.not_false, Bool.not_eq_true', Nat.zero_le, true_and, and_true, decide_eq_true_eq, Nat.reduceEqDiff, Option.some.injEq, exists_eq_left', reduceCtorEq, atI_zero, atI_one, atI_two, List.set_cons_zero, List.set_cons_succ, wp_kdE, wp_kdAt, wp_fldE, wp_methE, wp_meth, wp_methRs, wp_star, wp_starT, wp_rng1, wp_rngAt, cut_tail, Option.map_some, SX.S_cat, SX.S_len, LIM, e_pick, e_drop]
  refine wp_pickN hS s0 s1 hs fun t1 st1 hn1 g1 => ?_
  refine wp_pickN g1.sp s0 s1 hs fun t2 st2 hn2 g2 => ?_
  have g2 := g1.trans g2
  simp only [wp_run, wp_bind, wp_ok, wp_bad, wpS_seq, Dn.wpS_set, wpS_ret, wpS_if, wpS_expr, wpS_skip, wpS_par, wpS_par3, wpS_asg, wpS_itemS, wpS_fldS, wpS_for, wpS_nx, wpS_rt, wpS_bk, wpS_ct, wpS_bad, wp_lc, wpS_never, thenK_nx, thenK_rt, thenK_bk, thenK_ct, outK_nx, outK_rt, turnK_nx, turnK_rt, turnK_bk, turnK_ct,
  wp_addI, wp_addS, wp_addT, wp_subI, wp_mulI, wp_mulS, wp_fdivI, wp_modI, wp_powI, ltD_int, leD_int, gtD_int, geD_int, eqV_int, eqV_str, wp_itemT, wp_itemR, wp_itemS, lenD_tup, lenD_rol, wp_lenS, intD_int, intD_bl, wp_intS, absD_int, minD_int, strD_str, wp_strI, wp_listS, truR_bl, sliceD_tup, sliceD_rol, wp_sliceS, wp_tup, wp_lst, wp_ifE, wp_andT, wp_orT, wp_notT, wp_appN, startsD_str,
  Dn.envOf, var, con, Dn.bin, app, consA, nilA, test, slice, noO, someO, List.map_cons, List.map_nil, List.cons_append, List.nil_append, List.replicate_succ, List.replicate_zero, List.length_cons, List.length_nil, List.getElem?_cons_zero, List.getElem?_cons_succ, List.set_cons_zero, List.set_cons_succ, List.append_nil,
  Nat.add_one_sub_one, Nat.reduceAdd, Nat.reduceSub, Nat.reduceLeDiff, Nat.sub_zero, Nat.zero_add, if_true, if_false, ite_true, ite_false, Bool.false_eq_true, reduceIte, Bool.not_true, Bool.not_false, Bool.not_eq_true', Nat.zero_le, true_and, and_true, decide_eq_true_eq, Nat.reduceEqDiff, Option.some.injEq, exists_eq_left', reduceCtorEq, atI_zero, atI_one, atI_two, List.set_cons_zero, List.set_cons_succ, wp_kdE, wp_kdAt, wp_fldE, wp_methE, wp_meth, wp_methRs, wp_star, wp_starT, wp_rng1, wp_rngAt, cut_tail, Option.map_some, SX.S_cat, SX.S_len, LIM, Tg.put, putAll]
  refine wp_sign g2.sp fun sg st3 hsg g3 => ?_
  have g3 := g2.trans g3
  try simp only [wp_run, wp_bind, wp_ok, wp_bad, wpS_seq, Dn.wpS_set, wpS_ret, wpS_if, wpS_expr, wpS_skip, wpS_par, wpS_par3, wpS_asg, wpS_itemS, wpS_fldS, wpS_for, wpS_nx, wpS_rt, wpS_bk, wpS_ct, wpS_bad, wp_lc, wpS_never, thenK_nx, thenK_rt, thenK_bk, thenK_ct, outK_nx, outK_rt, turnK_nx, turnK_rt, turnK_bk, turnK_ct,
  wp_addI, wp_addS, wp_addT, wp_subI, wp_mulI, wp_mulS, wp_fdivI, wp_modI, wp_powI, ltD_int, leD_int, gtD_int, geD_int, eqV_int, eqV_str, wp_itemT, wp_itemR, wp_itemS, lenD_tup, lenD_rol, wp_lenS, intD_int, intD_bl, wp_intS, absD_int, minD_int, strD_str, wp_strI, wp_listS, truR_bl, sliceD_tup, sliceD_rol, wp_sliceS, wp_tup, wp_lst, wp_ifE, wp_andT, wp_orT, wp_notT, wp_appN, startsD_str,
  Dn.envOf, var, con, Dn.bin, app, consA, nilA, test, slice, noO, someO, List.map_cons, List.map_nil, List.cons_append, List.nil_append, List.replicate_succ, List.replicate_zero, List.length_cons, List.length_nil, List.getElem?_cons_zero, List.getElem?_cons_succ, List.set_cons_zero, List.set_cons_succ, List.append_nil,
  Nat.add_one_sub_one, Nat.reduceAdd, Nat.reduceSub, Nat.reduceLeDiff, Nat.sub_zero, Nat.zero_add, if_true, if_false, ite_true, ite_false, Bool.false_eq_true, reduceIte, Bool.not_true, Bool.not_false, Bool.not_eq_true', Nat.zero_le, true_and, and_true, decide_eq_true_eq, Nat.reduceEqDiff, Option.some.injEq, exists_eq_left', reduceCtorEq, atI_zero, atI_one, atI_two, List.set_cons_zero, List.set_cons_succ, wp_kdE, wp_kdAt, wp_fldE, wp_methE, wp_meth, wp_methRs, wp_star, wp_starT, wp_rng1, wp_rngAt, cut_tail, Option.map_some, SX.S_cat, SX.S_len, LIM]
  refine wp_drop g3.sp (by omega) (by omega) fun j st4 h0 h1 g4 => ?_
  have g4 := g3.trans g4
  try simp only [wp_run, wp_bind, wp_ok, wp_bad, wpS_seq, Dn.wpS_set, wpS_ret, wpS_if, wpS_expr, wpS_skip, wpS_par, wpS_par3, wpS_asg, wpS_itemS, wpS_fldS, wpS_for, wpS_nx, wpS_rt, wpS_bk, wpS_ct, wpS_bad, wp_lc, wpS_never, thenK_nx, thenK_rt, thenK_bk, thenK_ct, outK_nx, outK_rt, turnK_nx, turnK_rt, turnK_bk, turnK_ct,
  wp_addI, wp_addS, wp_addT, wp_subI, wp_mulI, wp_mulS, wp_fdivI, wp_modI, wp_powI, ltD_int, leD_int, gtD_int, geD_int, eqV_int, eqV_str, wp_itemT, wp_itemR, wp_itemS, lenD_tup, lenD_rol, wp_lenS, intD_int, intD_bl, wp_intS, absD_int, minD_int, strD_str, wp_strI, wp_listS, truR_bl, sliceD_tup, sliceD_rol, wp_sliceS, wp_tup, wp_lst, wp_ifE, wp_andT, wp_orT, wp_notT, wp_appN, startsD_str,
  Dn.envOf, var, con, Dn.bin, app, consA, nilA, test, slice, noO, someO, List.map_cons, List.map_nil, List.cons_append, List.nil_append, List.replicate_succ, List.replicate_zero, List.length_cons, List.length_nil, List.getElem?_cons_zero, List.getElem?_cons_succ, List.set_cons_zero, List.set_cons_succ, List.append_nil,
  Nat.add_one_sub_one, Nat.reduceAdd, Nat.reduceSub, Nat.reduceLeDiff, Nat.sub_zero, Nat.zero_add, if_true, if_false, ite_true, ite_false, Bool.false_eq_true, reduceIte, Bool.not_true, Bool.not_false, Bool.not_eq_true', Nat.zero_le, true_and, and_true, decide_eq_true_eq, Nat.reduceEqDiff, Option.some.injEq, exists_eq_left', reduceCtorEq, atI_zero, atI_one, atI_two, List.set_cons_zero, List.set_cons_succ, wp_kdE, wp_kdAt, wp_fldE, wp_methE, wp_meth, wp_methRs, wp_star, wp_starT, wp_rng1, wp_rngAt, cut_tail, Option.map_some, SX.S_cat, SX.S_len, LIM]
  refine wp_pickN g4.sp m0 m1 hm fun t3 st5 hn3 g5 => ?_
  have g5 := g4.trans g5
  have hne5 := g5.sp.ne_len
  try simp only [wp_run, wp_bind, wp_ok, wp_bad, wpS_seq, Dn.wpS_set, wpS_ret, wpS_if, wpS_expr, wpS_skip, wpS_par, wpS_par3, wpS_asg, wpS_itemS, wpS_fldS, wpS_for, wpS_nx, wpS_rt, wpS_bk, wpS_ct, wpS_bad, wp_lc, wpS_never, thenK_nx, thenK_rt, thenK_bk, thenK_ct, outK_nx, outK_rt, turnK_nx, turnK_rt, turnK_bk, turnK_ct,
  wp_addI, wp_addS, wp_addT, wp_subI, wp_mulI, wp_mulS, wp_fdivI, wp_modI, wp_powI, ltD_int, leD_int, gtD_int, geD_int, eqV_int, eqV_str, wp_itemT, wp_itemR, wp_itemS, lenD_tup, lenD_rol, wp_lenS, intD_int, intD_bl, wp_intS, absD_int, minD_int, strD_str, wp_strI, wp_listS, truR_bl, sliceD_tup, sliceD_rol, wp_sliceS, wp_tup, wp_lst, wp_ifE, wp_andT, wp_orT, wp_notT, wp_appN, startsD_str,
  Dn.envOf, var, con, Dn.bin, app, consA, nilA, test, slice, noO, someO, List.map_cons, List.map_nil, List.cons_append, List.nil_append, List.replicate_succ, List.replicate_zero, List.length_cons, List.length_nil, List.getElem?_cons_zero, List.getElem?_cons_succ, List.set_cons_zero, List.set_cons_succ, List.append_nil,
  Nat.add_one_sub_one, Nat.reduceAdd, Nat.reduceSub, Nat.reduceLeDiff, Nat.sub_zero, Nat.zero_add, if_true, if_false, ite_true, ite_false, Bool.false_eq_true, reduceIte, Bool.not_true, Bool.not_false, Bool.not_eq_true', Nat.zero_le, true_and, and_true, decide_eq_true_eq, Nat.reduceEqDiff, Option.some.injEq, exists_eq_left', reduceCtorEq, atI_zero, atI_one, atI_two, List.set_cons_zero, List.set_cons_succ, wp_kdE, wp_kdAt, wp_fldE, wp_methE, wp_meth, wp_methRs, wp_star, wp_starT, wp_rng1, wp_rngAt, cut_tail, Option.map_some, SX.S_cat, SX.S_len, LIM]
  rw [wp_addL (cellL_of (get_app get_last)) (cellL_of get_last)]
  refine ⟨by show _ ≤ 4000000; simp, ?_⟩
  have g6 := gr_push (c := .lst [.tup [.str "on", T t1, T t2], .tup [.str "on", T t1, T t2], .tup [.str "count", T t1, T [sg], .int j], .tup [.str "count", T t1, T [sg], .int j], .tup [.str "deep", T [sg], .int j]]) (gr_push (c := .lst [.tup [.str "all"], .tup [.str "left"], .tup [.str "mode", T t3], .tup [.str "top", T t1], .tup [.str "bottom", T t1], .tup [.str "has", T t1]]) g5)
  have g7 := fun c => gr_push (c := c) g6
  have hlast := fun (ds : List D) => cellL_of (get_last (st := (st5 ++ [Cell.lst [D.tup [D.str "all"], D.tup [D.str "left"], D.tup [D.str "mode", T t3], D.tup [D.str "top", T t1], D.tup [D.str "bottom", T t1], D.tup [D.str "has", T t1]]]) ++ [Cell.lst [D.tup [D.str "on", T t1, T t2], D.tup [D.str "on", T t1, T t2], D.tup [D.str "count", T t1, T [sg], D.int j], D.tup [D.str "count", T t1, T [sg], D.int j], D.tup [D.str "deep", T [sg], D.int j]]]) (d := .lst ds))
  have hneL := g6.sp.ne_len
  try simp only [wp_run, wp_bind, wp_ok, wp_bad, wpS_seq, Dn.wpS_set, wpS_ret, wpS_if, wpS_expr, wpS_skip, wpS_par, wpS_par3, wpS_asg, wpS_itemS, wpS_fldS, wpS_for, wpS_nx, wpS_rt, wpS_bk, wpS_ct, wpS_bad, wp_lc, wpS_never, thenK_nx, thenK_rt, thenK_bk, thenK_ct, outK_nx, outK_rt, turnK_nx, turnK_rt, turnK_bk, turnK_ct,
  wp_addI, wp_addS, wp_addT, wp_subI, wp_mulI, wp_mulS, wp_fdivI, wp_modI, wp_powI, ltD_int, leD_int, gtD_int, geD_int, eqV_int, eqV_str, wp_itemT, wp_itemR, wp_itemS, lenD_tup, lenD_rol, wp_lenS, intD_int, intD_bl, wp_intS, absD_int, minD_int, strD_str, wp_strI, wp_listS, truR_bl, sliceD_tup, sliceD_rol, wp_sliceS, wp_tup, wp_lst, wp_ifE, wp_andT, wp_orT, wp_notT, wp_appN, startsD_str,
  Dn.envOf, var, con, Dn.bin, app, consA, nilA, test, slice, noO, someO, List.map_cons, List.map_nil, List.cons_append, List.nil_append, List.replicate_succ, List.replicate_zero, List.length_cons, List.length_nil, List.getElem?_cons_zero, List.getElem?_cons_succ, List.set_cons_zero, List.set_cons_succ, List.append_nil,
  Nat.add_one_sub_one, Nat.reduceAdd, Nat.reduceSub, Nat.reduceLeDiff, Nat.sub_zero, Nat.zero_add, if_true, if_false, ite_true, ite_false, Bool.false_eq_true, reduceIte, Bool.not_true, Bool.not_false, Bool.not_eq_true', Nat.zero_le, true_and, and_true, decide_eq_true_eq, Nat.reduceEqDiff, Option.some.injEq, exists_eq_left', reduceCtorEq, atI_zero, atI_one, atI_two, List.set_cons_zero, List.set_cons_succ, wp_kdE, wp_kdAt, wp_fldE, wp_methE, wp_meth, wp_methRs, wp_star, wp_starT, wp_rng1, wp_rngAt, cut_tail, Option.map_some, SX.S_cat, SX.S_len, LIM]
  refine wp_drop (g7 _).sp (by omega) (by omega) fun i st7 i0 i1 g8 => ?_
  have hc7 := gr_cell g8 hneL.1 hneL.2 (hlast _)
  have g8 := (g7 _).trans g8
  try simp only [wp_run, wp_bind, wp_ok, wp_bad, wpS_seq, Dn.wpS_set, wpS_ret, wpS_if, wpS_expr, wpS_skip, wpS_par, wpS_par3, wpS_asg, wpS_itemS, wpS_fldS, wpS_for, wpS_nx, wpS_rt, wpS_bk, wpS_ct, wpS_bad, wp_lc, wpS_never, thenK_nx, thenK_rt, thenK_bk, thenK_ct, outK_nx, outK_rt, turnK_nx, turnK_rt, turnK_bk, turnK_ct,
  wp_addI, wp_addS, wp_addT, wp_subI, wp_mulI, wp_mulS, wp_fdivI, wp_modI, wp_powI, ltD_int, leD_int, gtD_int, geD_int, eqV_int, eqV_str, wp_itemT, wp_itemR, wp_itemS, lenD_tup, lenD_rol, wp_lenS, intD_int, intD_bl, wp_intS, absD_int, minD_int, strD_str, wp_strI, wp_listS, truR_bl, sliceD_tup, sliceD_rol, wp_sliceS, wp_tup, wp_lst, wp_ifE, wp_andT, wp_orT, wp_notT, wp_appN, startsD_str,
  Dn.envOf, var, con, Dn.bin, app, consA, nilA, test, slice, noO, someO, List.map_cons, List.map_nil, List.cons_append, List.nil_append, List.replicate_succ, List.replicate_zero, List.length_cons, List.length_nil, List.getElem?_cons_zero, List.getElem?_cons_succ, List.set_cons_zero, List.set_cons_succ, List.append_nil,
  Nat.add_one_sub_one, Nat.reduceAdd, Nat.reduceSub, Nat.reduceLeDiff, Nat.sub_zero, Nat.zero_add, if_true, if_false, ite_true, ite_false, Bool.false_eq_true, reduceIte, Bool.not_true, Bool.not_false, Bool.not_eq_true', Nat.zero_le, true_and, and_true, decide_eq_true_eq, Nat.reduceEqDiff, Option.some.injEq, exists_eq_left', reduceCtorEq, atI_zero, atI_one, atI_two, List.set_cons_zero, List.set_cons_succ, wp_kdE, wp_kdAt, wp_fldE, wp_methE, wp_meth, wp_methRs, wp_star, wp_starT, wp_rng1, wp_rngAt, cut_tail, Option.map_some, SX.S_cat, SX.S_len, LIM]
  refine ⟨⟨by omega, by omega⟩, ?_⟩
  refine wp_gen (P := fun y => ∃ l, y = T l ∧ Nm l) g8.sp (by simp; omega) (fun dd s g => ?_) fun ds st8 hl hP g9 hc8 => ?_
  · simp only [wp_run, wp_bind, wp_ok, wp_bad, wpS_seq, Dn.wpS_set, wpS_ret, wpS_if, wpS_expr, wpS_skip, wpS_par, wpS_par3, wpS_asg, wpS_itemS, wpS_fldS, wpS_for, wpS_nx, wpS_rt, wpS_bk, wpS_ct, wpS_bad, wp_lc, wpS_never, thenK_nx, thenK_rt, thenK_bk, thenK_ct, outK_nx, outK_rt, turnK_nx, turnK_rt, turnK_bk, turnK_ct,
  wp_addI, wp_addS, wp_addT, wp_subI, wp_mulI, wp_mulS, wp_fdivI, wp_modI, wp_powI, ltD_int, leD_int, gtD_int, geD_int, eqV_int, eqV_str, wp_itemT, wp_itemR, wp_itemS, lenD_tup, lenD_rol, wp_lenS, intD_int, intD_bl, wp_intS, absD_int, minD_int, strD_str, wp_strI, wp_listS, truR_bl, sliceD_tup, sliceD_rol, wp_sliceS, wp_tup, wp_lst, wp_ifE, wp_andT, wp_orT, wp_notT, wp_appN, startsD_str,
  Dn.envOf, var, con, Dn.bin, app, consA, nilA, test, slice, noO, someO, List.map_cons, List.map_nil, List.cons_append, List.nil_append, List.replicate_succ, List.replicate_zero, List.length_cons, List.length_nil, List.getElem?_cons_zero, List.getElem?_cons_succ, List.set_cons_zero, List.set_cons_succ, List.append_nil,
  Nat.add_one_sub_one, Nat.reduceAdd, Nat.reduceSub, Nat.reduceLeDiff, Nat.sub_zero, Nat.zero_add, if_true, if_false, ite_true, ite_false, Bool.false_eq_true, reduceIte, Bool.not_true, Bool.not_false, Bool.not_eq_true', Nat.zero_le, true_and, and_true, decide_eq_true_eq, Nat.reduceEqDiff, Option.some.injEq, exists_eq_left', reduceCtorEq, atI_zero, atI_one, atI_two, List.set_cons_zero, List.set_cons_succ, wp_kdE, wp_kdAt, wp_fldE, wp_methE, wp_meth, wp_methRs, wp_star, wp_starT, wp_rng1, wp_rngAt, cut_tail, Option.map_some, SX.S_cat, SX.S_len, LIM, wipeE, e_pick]
    refine wp_pickL g.sp (by simp) (by simp) fun x s' hx g' => ⟨?_, g'⟩
    simp only [List.mem_cons, List.not_mem_nil, or_false] at hx
    rcases hx with rfl | rfl | rfl
    · exact ⟨t1, rfl, hn1⟩
    · exact ⟨t1, rfl, hn1⟩
    · exact ⟨t2, rfl, hn2⟩
  · obtain ⟨k, rfl, hk⟩ := names_of hP
    have hc8' := gr_cell g9 hneL.1 hneL.2 hc7
    have g9 := g8.trans g9
    try simp only [wp_run, wp_bind, wp_ok, wp_bad, wpS_seq, Dn.wpS_set, wpS_ret, wpS_if, wpS_expr, wpS_skip, wpS_par, wpS_par3, wpS_asg, wpS_itemS, wpS_fldS, wpS_for, wpS_nx, wpS_rt, wpS_bk, wpS_ct, wpS_bad, wp_lc, wpS_never, thenK_nx, thenK_rt, thenK_bk, thenK_ct, outK_nx, outK_rt, turnK_nx, turnK_rt, turnK_bk, turnK_ct,
  wp_addI, wp_addS, wp_addT, wp_subI, wp_mulI, wp_mulS, wp_fdivI, wp_modI, wp_powI, ltD_int, leD_int, gtD_int, geD_int, eqV_int, eqV_str, wp_itemT, wp_itemR, wp_itemS, lenD_tup, lenD_rol, wp_lenS, intD_int, intD_bl, wp_intS, absD_int, minD_int, strD_str, wp_strI, wp_listS, truR_bl, sliceD_tup, sliceD_rol, wp_sliceS, wp_tup, wp_lst, wp_ifE, wp_andT, wp_orT, wp_notT, wp_appN, startsD_str,
  Dn.envOf, var, con, Dn.bin, app, consA, nilA, test, slice, noO, someO, List.map_cons, List.map_nil, List.cons_append, List.nil_append, List.replicate_succ, List.replicate_zero, List.length_cons, List.length_nil, List.getElem?_cons_zero, List.getElem?_cons_succ, List.set_cons_zero, List.set_cons_succ, List.append_nil,
  Nat.add_one_sub_one, Nat.reduceAdd, Nat.reduceSub, Nat.reduceLeDiff, Nat.sub_zero, Nat.zero_add, if_true, if_false, ite_true, ite_false, Bool.false_eq_true, reduceIte, Bool.not_true, Bool.not_false, Bool.not_eq_true', Nat.zero_le, true_and, and_true, decide_eq_true_eq, Nat.reduceEqDiff, Option.some.injEq, exists_eq_left', reduceCtorEq, atI_zero, atI_one, atI_two, List.set_cons_zero, List.set_cons_succ, wp_kdE, wp_kdAt, wp_fldE, wp_methE, wp_meth, wp_methRs, wp_star, wp_starT, wp_rng1, wp_rngAt, cut_tail, Option.map_some, SX.S_cat, SX.S_len, LIM]
    rw [tupleD_seq (x := .loc st7.length) (ds := k.map T) hc8]
    simp only [List.length_map, List.length_range] at hl
    try simp only [wp_run, wp_bind, wp_ok, wp_bad, wpS_seq, Dn.wpS_set, wpS_ret, wpS_if, wpS_expr, wpS_skip, wpS_par, wpS_par3, wpS_asg, wpS_itemS, wpS_fldS, wpS_for, wpS_nx, wpS_rt, wpS_bk, wpS_ct, wpS_bad, wp_lc, wpS_never, thenK_nx, thenK_rt, thenK_bk, thenK_ct, outK_nx, outK_rt, turnK_nx, turnK_rt, turnK_bk, turnK_ct,
  wp_addI, wp_addS, wp_addT, wp_subI, wp_mulI, wp_mulS, wp_fdivI, wp_modI, wp_powI, ltD_int, leD_int, gtD_int, geD_int, eqV_int, eqV_str, wp_itemT, wp_itemR, wp_itemS, lenD_tup, lenD_rol, wp_lenS, intD_int, intD_bl, wp_intS, absD_int, minD_int, strD_str, wp_strI, wp_listS, truR_bl, sliceD_tup, sliceD_rol, wp_sliceS, wp_tup, wp_lst, wp_ifE, wp_andT, wp_orT, wp_notT, wp_appN, startsD_str,
  Dn.envOf, var, con, Dn.bin, app, consA, nilA, test, slice, noO, someO, List.map_cons, List.map_nil, List.cons_append, List.nil_append, List.replicate_succ, List.replicate_zero, List.length_cons, List.length_nil, List.getElem?_cons_zero, List.getElem?_cons_succ, List.set_cons_zero, List.set_cons_succ, List.append_nil,
  Nat.add_one_sub_one, Nat.reduceAdd, Nat.reduceSub, Nat.reduceLeDiff, Nat.sub_zero, Nat.zero_add, if_true, if_false, ite_true, ite_false, Bool.false_eq_true, reduceIte, Bool.not_true, Bool.not_false, Bool.not_eq_true', Nat.zero_le, true_and, and_true, decide_eq_true_eq, Nat.reduceEqDiff, Option.some.injEq, exists_eq_left', reduceCtorEq, atI_zero, atI_one, atI_two, List.set_cons_zero, List.set_cons_succ, wp_kdE, wp_kdAt, wp_fldE, wp_methE, wp_meth, wp_methRs, wp_star, wp_starT, wp_rng1, wp_rngAt, cut_tail, Option.map_some, SX.S_cat, SX.S_len, LIM]
    refine wp_pickN g9.sp m0 m1 hm fun t4 st9 hn4 g10 => ?_
    have hc9 := gr_cell g10 hneL.1 hneL.2 hc8'
    have g10 := g9.trans g10
    try simp only [wp_run, wp_bind, wp_ok, wp_bad, wpS_seq, Dn.wpS_set, wpS_ret, wpS_if, wpS_expr, wpS_skip, wpS_par, wpS_par3, wpS_asg, wpS_itemS, wpS_fldS, wpS_for, wpS_nx, wpS_rt, wpS_bk, wpS_ct, wpS_bad, wp_lc, wpS_never, thenK_nx, thenK_rt, thenK_bk, thenK_ct, outK_nx, outK_rt, turnK_nx, turnK_rt, turnK_bk, turnK_ct,
  wp_addI, wp_addS, wp_addT, wp_subI, wp_mulI, wp_mulS, wp_fdivI, wp_modI, wp_powI, ltD_int, leD_int, gtD_int, geD_int, eqV_int, eqV_str, wp_itemT, wp_itemR, wp_itemS, lenD_tup, lenD_rol, wp_lenS, intD_int, intD_bl, wp_intS, absD_int, minD_int, strD_str, wp_strI, wp_listS, truR_bl, sliceD_tup, sliceD_rol, wp_sliceS, wp_tup, wp_lst, wp_ifE, wp_andT, wp_orT, wp_notT, wp_appN, startsD_str,
  Dn.envOf, var, con, Dn.bin, app, consA, nilA, test, slice, noO, someO, List.map_cons, List.map_nil, List.cons_append, List.nil_append, List.replicate_succ, List.replicate_zero, List.length_cons, List.length_nil, List.getElem?_cons_zero, List.getElem?_cons_succ, List.set_cons_zero, List.set_cons_succ, List.append_nil,
  Nat.add_one_sub_one, Nat.reduceAdd, Nat.reduceSub, Nat.reduceLeDiff, Nat.sub_zero, Nat.zero_add, if_true, if_false, ite_true, ite_false, Bool.false_eq_true, reduceIte, Bool.not_true, Bool.not_false, Bool.not_eq_true', Nat.zero_le, true_and, and_true, decide_eq_true_eq, Nat.reduceEqDiff, Option.some.injEq, exists_eq_left', reduceCtorEq, atI_zero, atI_one, atI_two, List.set_cons_zero, List.set_cons_succ, wp_kdE, wp_kdAt, wp_fldE, wp_methE, wp_meth, wp_methRs, wp_star, wp_starT, wp_rng1, wp_rngAt, cut_tail, Option.map_some, SX.S_cat, SX.S_len, LIM]
    rw [wp_addL (st := st9 ++ [_]) (cellL_of (get_app (cellL_some hc9))) (cellL_of get_last)]
    refine ⟨by show _ ≤ 4000000; simp, ?_⟩
    simp only [wp_run, wp_bind, wp_ok, wp_bad, wpS_seq, Dn.wpS_set, wpS_ret, wpS_if, wpS_expr, wpS_skip, wpS_par, wpS_par3, wpS_asg, wpS_itemS, wpS_fldS, wpS_for, wpS_nx, wpS_rt, wpS_bk, wpS_ct, wpS_bad, wp_lc, wpS_never, thenK_nx, thenK_rt, thenK_bk, thenK_ct, outK_nx, outK_rt, turnK_nx, turnK_rt, turnK_bk, turnK_ct,
  wp_addI, wp_addS, wp_addT, wp_subI, wp_mulI, wp_mulS, wp_fdivI, wp_modI, wp_powI, ltD_int, leD_int, gtD_int, geD_int, eqV_int, eqV_str, wp_itemT, wp_itemR, wp_itemS, lenD_tup, lenD_rol, wp_lenS, intD_int, intD_bl, wp_intS, absD_int, minD_int, strD_str, wp_strI, wp_listS, truR_bl, sliceD_tup, sliceD_rol, wp_sliceS, wp_tup, wp_lst, wp_ifE, wp_andT, wp_orT, wp_notT, wp_appN, startsD_str,
  Dn.envOf, var, con, Dn.bin, app, consA, nilA, test, slice, noO, someO, List.map_cons, List.map_nil, List.cons_append, List.nil_append, List.replicate_succ, List.replicate_zero, List.length_cons, List.length_nil, List.getElem?_cons_zero, List.getElem?_cons_succ, List.set_cons_zero, List.set_cons_succ, List.append_nil,
  Nat.add_one_sub_one, Nat.reduceAdd, Nat.reduceSub, Nat.reduceLeDiff, Nat.sub_zero, Nat.zero_add, if_true, if_false, ite_true, ite_false, Bool.false_eq_true, reduceIte, Bool.not_true, Bool.not_false, Bool.not_eq_true', Nat.zero_le, true_and, and_true, decide_eq_true_eq, Nat.reduceEqDiff, Option.some.injEq, exists_eq_left', reduceCtorEq, atI_zero, atI_one, atI_two, List.set_cons_zero, List.set_cons_succ, wp_kdE, wp_kdAt, wp_fldE, wp_methE, wp_meth, wp_methRs, wp_star, wp_starT, wp_rng1, wp_rngAt, cut_tail, Option.map_some, SX.S_cat, SX.S_len, LIM, e_pick]
    refine wp_pickL (gr_push g10).sp (by simp) (by simp) fun x s' hx g' => ?_
    have g' := (gr_push g10).trans g'
    have fin : ∀ h' its, x = .tup (T (H9.t h') :: its.map It.d) → ItsOk h'.srt its → Q x s' := fun h' its e hk => h x s' (by rw [e]; exact gd_sim hk) g'
    obtain ⟨j, rfl⟩ : ∃ q : Nat, j = q := ⟨j.toNat, (Int.toNat_of_nonneg h0).symm⟩
    have hj : j < 10 ^ 9 := by omega
    simp only [List.cons_append, List.nil_append, List.mem_cons, List.not_mem_nil, or_false] at hx
    rcases hx with e | e | e | e | e | e | e | e | e | e | e | e
    · exact fin .all [] e .nil
    · exact fin .left [] e .nil
    · exact fin .mode [.nm t3] e (.cons hn3 .nil)
    · exact fin .top [.nm t1] e (.cons hn1 .nil)
    · exact fin .bottom [.nm t1] e (.cons hn1 .nil)
    · exact fin .has [.nm t1] e (.cons hn1 .nil)
    · exact fin .on [.nm t1, .nm t2] e (.cons hn1 (.cons hn2 .nil))
    · exact fin .on [.nm t1, .nm t2] e (.cons hn1 (.cons hn2 .nil))
    · exact fin .count [.nm t1, .sg sg, .no j] e (.cons hn1 (.cons hsg (.cons hj .nil)))
    · exact fin .count [.nm t1, .sg sg, .no j] e (.cons hn1 (.cons hsg (.cons hj .nil)))
    · exact fin .deep [.sg sg, .no j] e (.cons hsg (.cons hj .nil))
    · refine h x s' ?_ g'
      rw [e]
      exact gd_is hn4 hk (by omega)
end
end T91


set_option Elab.async false
set_option linter.all false
set_option maxRecDepth 100000
set_option maxHeartbeats 4000000
set_option autoImplicit false
namespace T91
open PySem Dn
section
variable {n m : Nat} {st st' s : Store} {Q : D → Store → Prop}
theorem wp_words1 : ∀ (deep : Nat) (k : Nat) (d : D) (st : Store) (Q : D → Store → Prop), 1 ≤ deep → deep ≤ 5 → deep ≤ k → Sp n m st → AppOk d → (∀ e s, Gd deep e → Gr n m st s → Q e s) → wp (F_law_words k [.loc n, d, .int (deep : Nat), .int 9] st) Q := by
  intro deep
  induction deep with
  | zero => intro k d st Q h1; omega
  | succ deep ih =>
    intro k d st Q h1 h2 h3 hS ha h
    obtain ⟨k, rfl⟩ : ∃ j, k = j + 1 := ⟨k - 1, by omega⟩
    rw [F_law_words_succ]
    unfold b_law_words
    simp only [wp_run, wp_bind, wp_ok, wp_bad, wpS_seq, Dn.wpS_set, wpS_ret, wpS_if, wpS_expr, wpS_skip, wpS_par, wpS_par3, wpS_asg, wpS_itemS, wpS_fldS, wpS_for, wpS_nx, wpS_rt, wpS_bk, wpS_ct, wpS_bad, wp_lc, wpS_never, thenK_nx, thenK_rt, thenK_bk, thenK_ct, outK_nx, outK_rt, turnK_nx, turnK_rt, turnK_bk, turnK_ct,
  wp_addI, wp_addS, wp_addT, wp_subI, wp_mulI, wp_mulS, wp_fdivI, wp_modI, wp_powI, ltD_int, leD_int, gtD_int, geD_int, eqV_int, eqV_str, wp_itemT, wp_itemR, wp_itemS, lenD_tup, lenD_rol, wp_lenS, intD_int, intD_bl, wp_intS, absD_int, minD_int, strD_str, wp_strI, wp_listS, truR_bl, sliceD_tup, sliceD_rol, wp_sliceS, wp_tup, wp_lst, wp_ifE, wp_andT, wp_orT, wp_notT, wp_appN, startsD_str,
  Dn.envOf, var, con, Dn.bin, app, consA, nilA, test, slice, noO, someO, List.map_cons, List.map_nil, List.cons_append, List.nil_append, List.replicate_succ, List.replicate_zero, List.length_cons, List.length_nil, List.getElem?_cons_zero, List.getElem?_cons_succ, List.set_cons_zero, List.set_cons_succ, List.append_nil,
  Nat.add_one_sub_one, Nat.reduceAdd, Nat.reduceSub, Nat.reduceLeDiff, Nat.sub_zero, Nat.zero_add, if_true, if_false, ite_true, ite_false, Bool.false_eq_true, reduceIte, Bool.not_true, Bool.not_false, Bool.not_eq_true', Nat.zero_le, true_and, and_true, decide_eq_true_eq, Nat.reduceEqDiff, Option.some.injEq, exists_eq_left', reduceCtorEq, atI_zero, atI_one, atI_two, List.set_cons_zero, List.set_cons_succ, wp_kdE, wp_kdAt, wp_fldE, wp_methE, wp_meth, wp_methRs, wp_star, wp_starT, wp_rng1, wp_rngAt, cut_tail, Option.map_some, SX.S_cat, SX.S_len, LIM, e_drop]
    -- the way
    have leaf : ∀ s, Gr n m st s → wp (F_law_basic [.loc n, d, .int 9] s) Q := fun s g => wp_basic g.sp ha fun e s' he g' => h e s' (he.mono (by omega)) (g.trans g')
    by_cases hd : deep = 0
    · subst hd
      rw [if_neg (by omega)]
      exact leaf st (Gr.refl hS)
    · rw [if_pos (by omega)]
      refine wp_drop hS (by omega) (by omega) fun w s1 w0 w1 g1 => ?_
      try simp only [wp_run, wp_bind, wp_ok, wp_bad, wpS_seq, Dn.wpS_set, wpS_ret, wpS_if, wpS_expr, wpS_skip, wpS_par, wpS_par3, wpS_asg, wpS_itemS, wpS_fldS, wpS_for, wpS_nx, wpS_rt, wpS_bk, wpS_ct, wpS_bad, wp_lc, wpS_never, thenK_nx, thenK_rt, thenK_bk, thenK_ct, outK_nx, outK_rt, turnK_nx, turnK_rt, turnK_bk, turnK_ct,
  wp_addI, wp_addS, wp_addT, wp_subI, wp_mulI, wp_mulS, wp_fdivI, wp_modI, wp_powI, ltD_int, leD_int, gtD_int, geD_int, eqV_int, eqV_str, wp_itemT, wp_itemR, wp_itemS, lenD_tup, lenD_rol, wp_lenS, intD_int, intD_bl, wp_intS, absD_int, minD_int, strD_str, wp_strI, wp_listS, truR_bl, sliceD_tup, sliceD_rol, wp_sliceS, wp_tup, wp_lst, wp_ifE, wp_andT, wp_orT, wp_notT, wp_appN, startsD_str,
  Dn.envOf, var, con, Dn.bin, app, consA, nilA, test, slice, noO, someO, List.map_cons, List.map_nil, List.cons_append, List.nil_append, List.replicate_succ, List.replicate_zero, List.length_cons, List.length_nil, List.getElem?_cons_zero, List.getElem?_cons_succ, List.set_cons_zero, List.set_cons_succ, List.append_nil,
  Nat.add_one_sub_one, Nat.reduceAdd, Nat.reduceSub, Nat.reduceLeDiff, Nat.sub_zero, Nat.zero_add, if_true, if_false, ite_true, ite_false, Bool.false_eq_true, reduceIte, Bool.not_true, Bool.not_false, Bool.not_eq_true', Nat.zero_le, true_and, and_true, decide_eq_true_eq, Nat.reduceEqDiff, Option.some.injEq, exists_eq_left', reduceCtorEq, atI_zero, atI_one, atI_two, List.set_cons_zero, List.set_cons_succ, wp_kdE, wp_kdAt, wp_fldE, wp_methE, wp_meth, wp_methRs, wp_star, wp_starT, wp_rng1, wp_rngAt, cut_tail, Option.map_some, SX.S_cat, SX.S_len, LIM]
      by_cases hw : 2 < w
      · rw [if_pos hw]
        exact leaf s1 g1
      · rw [if_neg hw]
        have e1 : (((deep + 1 : Nat) : Int) - 1) = (deep : Nat) := by omega
        rw [e1]
        refine ih k d s1 _ (by omega) (by omega) (by omega) g1.sp ha fun x s2 hx g2 => ?_
        have g2 := g1.trans g2
        try simp only [wp_run, wp_bind, wp_ok, wp_bad, wpS_seq, Dn.wpS_set, wpS_ret, wpS_if, wpS_expr, wpS_skip, wpS_par, wpS_par3, wpS_asg, wpS_itemS, wpS_fldS, wpS_for, wpS_nx, wpS_rt, wpS_bk, wpS_ct, wpS_bad, wp_lc, wpS_never, thenK_nx, thenK_rt, thenK_bk, thenK_ct, outK_nx, outK_rt, turnK_nx, turnK_rt, turnK_bk, turnK_ct,
  wp_addI, wp_addS, wp_addT, wp_subI, wp_mulI, wp_mulS, wp_fdivI, wp_modI, wp_powI, ltD_int, leD_int, gtD_int, geD_int, eqV_int, eqV_str, wp_itemT, wp_itemR, wp_itemS, lenD_tup, lenD_rol, wp_lenS, intD_int, intD_bl, wp_intS, absD_int, minD_int, strD_str, wp_strI, wp_listS, truR_bl, sliceD_tup, sliceD_rol, wp_sliceS, wp_tup, wp_lst, wp_ifE, wp_andT, wp_orT, wp_notT, wp_appN, startsD_str,
  Dn.envOf, var, con, Dn.bin, app, consA, nilA, test, slice, noO, someO, List.map_cons, List.map_nil, List.cons_append, List.nil_append, List.replicate_succ, List.replicate_zero, List.length_cons, List.length_nil, List.getElem?_cons_zero, List.getElem?_cons_succ, List.set_cons_zero, List.set_cons_succ, List.append_nil,
  Nat.add_one_sub_one, Nat.reduceAdd, Nat.reduceSub, Nat.reduceLeDiff, Nat.sub_zero, Nat.zero_add, if_true, if_false, ite_true, ite_false, Bool.false_eq_true, reduceIte, Bool.not_true, Bool.not_false, Bool.not_eq_true', Nat.zero_le, true_and, and_true, decide_eq_true_eq, Nat.reduceEqDiff, Option.some.injEq, exists_eq_left', reduceCtorEq, atI_zero, atI_one, atI_two, List.set_cons_zero, List.set_cons_succ, wp_kdE, wp_kdAt, wp_fldE, wp_methE, wp_meth, wp_methRs, wp_star, wp_starT, wp_rng1, wp_rngAt, cut_tail, Option.map_some, SX.S_cat, SX.S_len, LIM]
        by_cases hw2 : w = 2
        · subst hw2
          try simp only [wp_run, wp_bind, wp_ok, wp_bad, wpS_seq, Dn.wpS_set, wpS_ret, wpS_if, wpS_expr, wpS_skip, wpS_par, wpS_par3, wpS_asg, wpS_itemS, wpS_fldS, wpS_for, wpS_nx, wpS_rt, wpS_bk, wpS_ct, wpS_bad, wp_lc, wpS_never, thenK_nx, thenK_rt, thenK_bk, thenK_ct, outK_nx, outK_rt, turnK_nx, turnK_rt, turnK_bk, turnK_ct,
  wp_addI, wp_addS, wp_addT, wp_subI, wp_mulI, wp_mulS, wp_fdivI, wp_modI, wp_powI, ltD_int, leD_int, gtD_int, geD_int, eqV_int, eqV_str, wp_itemT, wp_itemR, wp_itemS, lenD_tup, lenD_rol, wp_lenS, intD_int, intD_bl, wp_intS, absD_int, minD_int, strD_str, wp_strI, wp_listS, truR_bl, sliceD_tup, sliceD_rol, wp_sliceS, wp_tup, wp_lst, wp_ifE, wp_andT, wp_orT, wp_notT, wp_appN, startsD_str,
  Dn.envOf, var, con, Dn.bin, app, consA, nilA, test, slice, noO, someO, List.map_cons, List.map_nil, List.cons_append, List.nil_append, List.replicate_succ, List.replicate_zero, List.length_cons, List.length_nil, List.getElem?_cons_zero, List.getElem?_cons_succ, List.set_cons_zero, List.set_cons_succ, List.append_nil,
  Nat.add_one_sub_one, Nat.reduceAdd, Nat.reduceSub, Nat.reduceLeDiff, Nat.sub_zero, Nat.zero_add, if_true, if_false, ite_true, ite_false, Bool.false_eq_true, reduceIte, Bool.not_true, Bool.not_false, Bool.not_eq_true', Nat.zero_le, true_and, and_true, decide_eq_true_eq, Nat.reduceEqDiff, Option.some.injEq, exists_eq_left', reduceCtorEq, atI_zero, atI_one, atI_two, List.set_cons_zero, List.set_cons_succ, wp_kdE, wp_kdAt, wp_fldE, wp_methE, wp_meth, wp_methRs, wp_star, wp_starT, wp_rng1, wp_rngAt, cut_tail, Option.map_some, SX.S_cat, SX.S_len, LIM, beq_self_eq_true]
          exact h _ s2 (gd_not hx) g2
        · have hb : (w == 2) = false := by rw [beq_eq_false_iff_ne]; exact hw2
          rw [hb]
          try simp only [wp_run, wp_bind, wp_ok, wp_bad, wpS_seq, Dn.wpS_set, wpS_ret, wpS_if, wpS_expr, wpS_skip, wpS_par, wpS_par3, wpS_asg, wpS_itemS, wpS_fldS, wpS_for, wpS_nx, wpS_rt, wpS_bk, wpS_ct, wpS_bad, wp_lc, wpS_never, thenK_nx, thenK_rt, thenK_bk, thenK_ct, outK_nx, outK_rt, turnK_nx, turnK_rt, turnK_bk, turnK_ct,
  wp_addI, wp_addS, wp_addT, wp_subI, wp_mulI, wp_mulS, wp_fdivI, wp_modI, wp_powI, ltD_int, leD_int, gtD_int, geD_int, eqV_int, eqV_str, wp_itemT, wp_itemR, wp_itemS, lenD_tup, lenD_rol, wp_lenS, intD_int, intD_bl, wp_intS, absD_int, minD_int, strD_str, wp_strI, wp_listS, truR_bl, sliceD_tup, sliceD_rol, wp_sliceS, wp_tup, wp_lst, wp_ifE, wp_andT, wp_orT, wp_notT, wp_appN, startsD_str,
  Dn.envOf, var, con, Dn.bin, app, consA, nilA, test, slice, noO, someO, List.map_cons, List.map_nil, List.cons_append, List.nil_append, List.replicate_succ, List.replicate_zero, List.length_cons, List.length_nil, List.getElem?_cons_zero, List.getElem?_cons_succ, List.set_cons_zero, List.set_cons_succ, List.append_nil,
  Nat.add_one_sub_one, Nat.reduceAdd, Nat.reduceSub, Nat.reduceLeDiff, Nat.sub_zero, Nat.zero_add, if_true, if_false, ite_true, ite_false, Bool.false_eq_true, reduceIte, Bool.not_true, Bool.not_false, Bool.not_eq_true', Nat.zero_le, true_and, and_true, decide_eq_true_eq, Nat.reduceEqDiff, Option.some.injEq, exists_eq_left', reduceCtorEq, atI_zero, atI_one, atI_two, List.set_cons_zero, List.set_cons_succ, wp_kdE, wp_kdAt, wp_fldE, wp_methE, wp_meth, wp_methRs, wp_star, wp_starT, wp_rng1, wp_rngAt, cut_tail, Option.map_some, SX.S_cat, SX.S_len, LIM]
          have fin : ∀ o : Bool, wp (F_law_words k [.loc n, d, .int (deep : Nat), .int 9] (s2 ++ [Cell.lst [D.str "and", D.str "or"]])) (fun y st1 => Q (.tup [T (if o then l_and else l_or), x, y]) st1) := fun o =>
            ih k d _ _ (by omega) (by omega) (by omega) (g2.sp.push _) ha fun y s3 hy g3 => h _ s3 (gd_bi hx hy) ((gr_push g2).trans g3)
          rw [wp_itemL (cellL_of get_last)]
          rcases (show w = 0 ∨ w = 1 by omega) with rfl | rfl
          · refine ⟨_, atI_zero, ?_⟩
            try simp only [wp_run, wp_bind, wp_ok, wp_bad, wpS_seq, Dn.wpS_set, wpS_ret, wpS_if, wpS_expr, wpS_skip, wpS_par, wpS_par3, wpS_asg, wpS_itemS, wpS_fldS, wpS_for, wpS_nx, wpS_rt, wpS_bk, wpS_ct, wpS_bad, wp_lc, wpS_never, thenK_nx, thenK_rt, thenK_bk, thenK_ct, outK_nx, outK_rt, turnK_nx, turnK_rt, turnK_bk, turnK_ct,
  wp_addI, wp_addS, wp_addT, wp_subI, wp_mulI, wp_mulS, wp_fdivI, wp_modI, wp_powI, ltD_int, leD_int, gtD_int, geD_int, eqV_int, eqV_str, wp_itemT, wp_itemR, wp_itemS, lenD_tup, lenD_rol, wp_lenS, intD_int, intD_bl, wp_intS, absD_int, minD_int, strD_str, wp_strI, wp_listS, truR_bl, sliceD_tup, sliceD_rol, wp_sliceS, wp_tup, wp_lst, wp_ifE, wp_andT, wp_orT, wp_notT, wp_appN, startsD_str,
  Dn.envOf, var, con, Dn.bin, app, consA, nilA, test, slice, noO, someO, List.map_cons, List.map_nil, List.cons_append, List.nil_append, List.replicate_succ, List.replicate_zero, List.length_cons, List.length_nil, List.getElem?_cons_zero, List.getElem?_cons_succ, List.set_cons_zero, List.set_cons_succ, List.append_nil,
  Nat.add_one_sub_one, Nat.reduceAdd, Nat.reduceSub, Nat.reduceLeDiff, Nat.sub_zero, Nat.zero_add, if_true, if_false, ite_true, ite_false, Bool.false_eq_true, reduceIte, Bool.not_true, Bool.not_false, Bool.not_eq_true', Nat.zero_le, true_and, and_true, decide_eq_true_eq, Nat.reduceEqDiff, Option.some.injEq, exists_eq_left', reduceCtorEq, atI_zero, atI_one, atI_two, List.set_cons_zero, List.set_cons_succ, wp_kdE, wp_kdAt, wp_fldE, wp_methE, wp_meth, wp_methRs, wp_star, wp_starT, wp_rng1, wp_rngAt, cut_tail, Option.map_some, SX.S_cat, SX.S_len, LIM]
            exact fin true
          · refine ⟨_, atI_one, ?_⟩
            try simp only [wp_run, wp_bind, wp_ok, wp_bad, wpS_seq, Dn.wpS_set, wpS_ret, wpS_if, wpS_expr, wpS_skip, wpS_par, wpS_par3, wpS_asg, wpS_itemS, wpS_fldS, wpS_for, wpS_nx, wpS_rt, wpS_bk, wpS_ct, wpS_bad, wp_lc, wpS_never, thenK_nx, thenK_rt, thenK_bk, thenK_ct, outK_nx, outK_rt, turnK_nx, turnK_rt, turnK_bk, turnK_ct,
  wp_addI, wp_addS, wp_addT, wp_subI, wp_mulI, wp_mulS, wp_fdivI, wp_modI, wp_powI, ltD_int, leD_int, gtD_int, geD_int, eqV_int, eqV_str, wp_itemT, wp_itemR, wp_itemS, lenD_tup, lenD_rol, wp_lenS, intD_int, intD_bl, wp_intS, absD_int, minD_int, strD_str, wp_strI, wp_listS, truR_bl, sliceD_tup, sliceD_rol, wp_sliceS, wp_tup, wp_lst, wp_ifE, wp_andT, wp_orT, wp_notT, wp_appN, startsD_str,
  Dn.envOf, var, con, Dn.bin, app, consA, nilA, test, slice, noO, someO, List.map_cons, List.map_nil, List.cons_append, List.nil_append, List.replicate_succ, List.replicate_zero, List.length_cons, List.length_nil, List.getElem?_cons_zero, List.getElem?_cons_succ, List.set_cons_zero, List.set_cons_succ, List.append_nil,
  Nat.add_one_sub_one, Nat.reduceAdd, Nat.reduceSub, Nat.reduceLeDiff, Nat.sub_zero, Nat.zero_add, if_true, if_false, ite_true, ite_false, Bool.false_eq_true, reduceIte, Bool.not_true, Bool.not_false, Bool.not_eq_true', Nat.zero_le, true_and, and_true, decide_eq_true_eq, Nat.reduceEqDiff, Option.some.injEq, exists_eq_left', reduceCtorEq, atI_zero, atI_one, atI_two, List.set_cons_zero, List.set_cons_succ, wp_kdE, wp_kdAt, wp_fldE, wp_methE, wp_meth, wp_methRs, wp_star, wp_starT, wp_rng1, wp_rngAt, cut_tail, Option.map_some, SX.S_cat, SX.S_len, LIM]
            exact fin false
theorem wp_far : ∀ (b : Nat) (k : Nat) (st : Store) (Q : D → Store → Prop), b ≤ 9 → b + 1 ≤ k → Sp n m st → (∀ e s, Gd b e → Gr n m st s → Q e s) → wp (F_law_far k [.loc n, .int (b : Nat)] st) Q := by
  intro b
  induction b using Nat.strongRecOn with
  | _ b ih =>
    intro k st Q h2 h3 hS h
    obtain ⟨k, rfl⟩ : ∃ j, k = j + 1 := ⟨k - 1, by omega⟩
    rw [F_law_far_succ]
    unfold b_law_far
    simp only [wp_run, wp_bind, wp_ok, wp_bad, wpS_seq, Dn.wpS_set, wpS_ret, wpS_if, wpS_expr, wpS_skip, wpS_par, wpS_par3, wpS_asg, wpS_itemS, wpS_fldS, wpS_for, wpS_nx, wpS_rt, wpS_bk, wpS_ct, wpS_bad, wp_lc, wpS_never, thenK_nx, thenK_rt, thenK_bk, thenK_ct, outK_nx, outK_rt, turnK_nx, turnK_rt, turnK_bk, turnK_ct,
  wp_addI, wp_addS, wp_addT, wp_subI, wp_mulI, wp_mulS, wp_fdivI, wp_modI, wp_powI, ltD_int, leD_int, gtD_int, geD_int, eqV_int, eqV_str, wp_itemT, wp_itemR, wp_itemS, lenD_tup, lenD_rol, wp_lenS, intD_int, intD_bl, wp_intS, absD_int, minD_int, strD_str, wp_strI, wp_listS, truR_bl, sliceD_tup, sliceD_rol, wp_sliceS, wp_tup, wp_lst, wp_ifE, wp_andT, wp_orT, wp_notT, wp_appN, startsD_str,
  Dn.envOf, var, con, Dn.bin, app, consA, nilA, test, slice, noO, someO, List.map_cons, List.map_nil, List.cons_append, List.nil_append, List.replicate_succ, List.replicate_zero, List.length_cons, List.length_nil, List.getElem?_cons_zero, List.getElem?_cons_succ, List.set_cons_zero, List.set_cons_succ, List.append_nil,
  Nat.add_one_sub_one, Nat.reduceAdd, Nat.reduceSub, Nat.reduceLeDiff, Nat.sub_zero, Nat.zero_add, if_true, if_false, ite_true, ite_false, Bool.false_eq_true, reduceIte, Bool.not_true, Bool.not_false, Bool.not_eq_true', Nat.zero_le, true_and, and_true, decide_eq_true_eq, Nat.reduceEqDiff, Option.some.injEq, exists_eq_left', reduceCtorEq, atI_zero, atI_one, atI_two, List.set_cons_zero, List.set_cons_succ, wp_kdE, wp_kdAt, wp_fldE, wp_methE, wp_meth, wp_methRs, wp_star, wp_starT, wp_rng1, wp_rngAt, cut_tail, Option.map_some, SX.S_cat, SX.S_len, LIM, e_drop, e_pick]
    by_cases hb0 : b = 0
    · subst hb0
      have e0 : (((0 : Nat) : Int) == 0) = true := by rfl
      rw [e0]
      try simp only [wp_run, wp_bind, wp_ok, wp_bad, wpS_seq, Dn.wpS_set, wpS_ret, wpS_if, wpS_expr, wpS_skip, wpS_par, wpS_par3, wpS_asg, wpS_itemS, wpS_fldS, wpS_for, wpS_nx, wpS_rt, wpS_bk, wpS_ct, wpS_bad, wp_lc, wpS_never, thenK_nx, thenK_rt, thenK_bk, thenK_ct, outK_nx, outK_rt, turnK_nx, turnK_rt, turnK_bk, turnK_ct,
  wp_addI, wp_addS, wp_addT, wp_subI, wp_mulI, wp_mulS, wp_fdivI, wp_modI, wp_powI, ltD_int, leD_int, gtD_int, geD_int, eqV_int, eqV_str, wp_itemT, wp_itemR, wp_itemS, lenD_tup, lenD_rol, wp_lenS, intD_int, intD_bl, wp_intS, absD_int, minD_int, strD_str, wp_strI, wp_listS, truR_bl, sliceD_tup, sliceD_rol, wp_sliceS, wp_tup, wp_lst, wp_ifE, wp_andT, wp_orT, wp_notT, wp_appN, startsD_str,
  Dn.envOf, var, con, Dn.bin, app, consA, nilA, test, slice, noO, someO, List.map_cons, List.map_nil, List.cons_append, List.nil_append, List.replicate_succ, List.replicate_zero, List.length_cons, List.length_nil, List.getElem?_cons_zero, List.getElem?_cons_succ, List.set_cons_zero, List.set_cons_succ, List.append_nil,
  Nat.add_one_sub_one, Nat.reduceAdd, Nat.reduceSub, Nat.reduceLeDiff, Nat.sub_zero, Nat.zero_add, if_true, if_false, ite_true, ite_false, Bool.false_eq_true, reduceIte, Bool.not_true, Bool.not_false, Bool.not_eq_true', Nat.zero_le, true_and, and_true, decide_eq_true_eq, Nat.reduceEqDiff, Option.some.injEq, exists_eq_left', reduceCtorEq, atI_zero, atI_one, atI_two, List.set_cons_zero, List.set_cons_succ, wp_kdE, wp_kdAt, wp_fldE, wp_methE, wp_meth, wp_methRs, wp_star, wp_starT, wp_rng1, wp_rngAt, cut_tail, Option.map_some, SX.S_cat, SX.S_len, LIM]
      refine wp_pickL hS (by simp) (by simp) fun d s hd g => h d s ?_ g
      simp only [List.mem_cons, List.not_mem_nil, or_false] at hd
      rcases hd with rfl | rfl
      · exact gd_sim0 (h := .all) .nil
      · exact gd_sim0 (h := .left) .nil
    · have e0 : (((b : Nat) : Int) == 0) = false := by rw [beq_eq_false_iff_ne]; omega
      rw [e0]
      have h0 : 0 < 2 ^ b := Nat.pow_pos (by decide)
      -- the last way
      have leaf : ∀ (s : Store) (w : Int), Gr n m st s → w = 3 → wpS (seqS (parS3 5 6 7 (consA (appN 1 F_law_name (consA (var 0) nilA)) (consA (appN 1 F_law_name (consA (var 0) nilA)) (consA (appN 2 F_law_pick (consA (var 0) (consA (lstE (consA (con (.str "<")) (consA (con (.str "=")) (consA (con (.str ">")) nilA)))) nilA))) nilA)))) (seqS (setS 8 (appN 2 F_law_pick (consA (var 0) (consA (lstE (consA (con (.int 0)) (consA (con (.int 7)) (consA (con (.int 10)) (consA (con (.int 999999999)) (consA (appN 2 F_law_drop (consA (var 0) (consA (Dn.bin powD (con (.int 10)) (con (.int 9))) nilA))) nilA)))))) nilA)))) (seqS (setS 9 (app tupleD (consA (lcE (.nm 10) (rngW1 (consA (appN 2 F_law_drop (consA (var 0) (consA (con (.int 13)) nilA))) nilA)) yes (appN 1 F_law_name (consA (var 0) nilA)) [10]) nilA))) (seqS (setS 11 (lstE (consA (tupE (consA (con (.str "mode")) (consA (var 5) nilA))) (consA (tupE (consA (con (.str "top")) (consA (var 5) nilA))) (consA (tupE (consA (con (.str "bottom")) (consA (var 5) nilA))) (consA (tupE (consA (con (.str "has")) (consA (var 6) nilA))) (consA (tupE (consA (con (.str "on")) (consA (var 5) (consA (var 6) nilA)))) (consA (tupE (consA (con (.str "count")) (consA (var 5) (consA (var 7) (consA (var 8) nilA))))) nilA)))))))) (retS (appN 2 F_law_pick (consA (var 0) (consA (Dn.bin addD (var 11) (lstE (consA (tupE (consA (con (.str "deep")) (consA (var 7) (consA (var 8) nilA)))) (consA (tupE (consA (con (.str "all")) nilA)) (consA (tupE (consA (con (.str "is")) (consA (var 5) (consA (var 9) nilA)))) (consA (tupE (consA (con (.str "is")) (consA (var 6) (consA (var 9) nilA)))) nilA)))))) nilA)))))))
          [some (.loc n), some (.int (b : Nat)), some (.int w), none, none, none, none, none, none, none, none, none] s) (outK Q) := by
        intro s w g hw
        simp only [wp_run, wp_bind, wp_ok, wp_bad, wpS_seq, Dn.wpS_set, wpS_ret, wpS_if, wpS_expr, wpS_skip, wpS_par, wpS_par3, wpS_asg, wpS_itemS, wpS_fldS, wpS_for, wpS_nx, wpS_rt, wpS_bk, wpS_ct, wpS_bad, wp_lc, wpS_never, thenK_nx, thenK_rt, thenK_bk, thenK_ct, outK_nx, outK_rt, turnK_nx, turnK_rt, turnK_bk, turnK_ct,
  wp_addI, wp_addS, wp_addT, wp_subI, wp_mulI, wp_mulS, wp_fdivI, wp_modI, wp_powI, ltD_int, leD_int, gtD_int, geD_int, eqV_int, eqV_str, wp_itemT, wp_itemR, wp_itemS, lenD_tup, lenD_rol, wp_lenS, intD_int, intD_bl, wp_intS, absD_int, minD_int, strD_str, wp_strI, wp_listS, truR_bl, sliceD_tup, sliceD_rol, wp_sliceS, wp_tup, wp_lst, wp_ifE, wp_andT, wp_orT, wp_notT, wp_appN, startsD_str,
  Dn.envOf, var, con, Dn.bin, app, consA, nilA, test, slice, noO, someO, List.map_cons, List.map_nil, List.cons_append, List.nil_append, List.replicate_succ, List.replicate_zero, List.length_cons, List.length_nil, List.getElem?_cons_zero, List.getElem?_cons_succ, List.set_cons_zero, List.set_cons_succ, List.append_nil,
  Nat.add_one_sub_one, Nat.reduceAdd, Nat.reduceSub, Nat.reduceLeDiff, Nat.sub_zero, Nat.zero_add, if_true, if_false, ite_true, ite_false, Bool.false_eq_true, reduceIte, Bool.not_true, Bool.not_false, Bool.not_eq_true', Nat.zero_le, true_and, and_true, decide_eq_true_eq, Nat.reduceEqDiff, Option.some.injEq, exists_eq_left', reduceCtorEq, atI_zero, atI_one, atI_two, List.set_cons_zero, List.set_cons_succ, wp_kdE, wp_kdAt, wp_fldE, wp_methE, wp_meth, wp_methRs, wp_star, wp_starT, wp_rng1, wp_rngAt, cut_tail, Option.map_some, SX.S_cat, SX.S_len, LIM, e_drop, e_pick]
        refine wp_name1 g.sp fun t1 s1 hn1 g1 => ?_
        have g1 := g.trans g1
        try simp only [wp_run, wp_bind, wp_ok, wp_bad, wpS_seq, Dn.wpS_set, wpS_ret, wpS_if, wpS_expr, wpS_skip, wpS_par, wpS_par3, wpS_asg, wpS_itemS, wpS_fldS, wpS_for, wpS_nx, wpS_rt, wpS_bk, wpS_ct, wpS_bad, wp_lc, wpS_never, thenK_nx, thenK_rt, thenK_bk, thenK_ct, outK_nx, outK_rt, turnK_nx, turnK_rt, turnK_bk, turnK_ct,
  wp_addI, wp_addS, wp_addT, wp_subI, wp_mulI, wp_mulS, wp_fdivI, wp_modI, wp_powI, ltD_int, leD_int, gtD_int, geD_int, eqV_int, eqV_str, wp_itemT, wp_itemR, wp_itemS, lenD_tup, lenD_rol, wp_lenS, intD_int, intD_bl, wp_intS, absD_int, minD_int, strD_str, wp_strI, wp_listS, truR_bl, sliceD_tup, sliceD_rol, wp_sliceS, wp_tup, wp_lst, wp_ifE, wp_andT, wp_orT, wp_notT, wp_appN, startsD_str,
  Dn.envOf, var, con, Dn.bin, app, consA, nilA, test, slice, noO, someO, List.map_cons, List.map_nil, List.cons_append, List.nil_append, List.replicate_succ, List.replicate_zero, List.length_cons, List.length_nil, List.getElem?_cons_zero, List.getElem?_cons_succ, List.set_cons_zero, List.set_cons_succ, List.append_nil,
  Nat.add_one_sub_one, Nat.reduceAdd, Nat.reduceSub, Nat.reduceLeDiff, Nat.sub_zero, Nat.zero_add, if_true, if_false, ite_true, ite_false, Bool.false_eq_true, reduceIte, Bool.not_true, Bool.not_false, Bool.not_eq_true', Nat.zero_le, true_and, and_true, decide_eq_true_eq, Nat.reduceEqDiff, Option.some.injEq, exists_eq_left', reduceCtorEq, atI_zero, atI_one, atI_two, List.set_cons_zero, List.set_cons_succ, wp_kdE, wp_kdAt, wp_fldE, wp_methE, wp_meth, wp_methRs, wp_star, wp_starT, wp_rng1, wp_rngAt, cut_tail, Option.map_some, SX.S_cat, SX.S_len, LIM]
        refine wp_name1 g1.sp fun t2 s2 hn2 g2 => ?_
        have g2 := g1.trans g2
        try simp only [wp_run, wp_bind, wp_ok, wp_bad, wpS_seq, Dn.wpS_set, wpS_ret, wpS_if, wpS_expr, wpS_skip, wpS_par, wpS_par3, wpS_asg, wpS_itemS, wpS_fldS, wpS_for, wpS_nx, wpS_rt, wpS_bk, wpS_ct, wpS_bad, wp_lc, wpS_never, thenK_nx, thenK_rt, thenK_bk, thenK_ct, outK_nx, outK_rt, turnK_nx, turnK_rt, turnK_bk, turnK_ct,
  wp_addI, wp_addS, wp_addT, wp_subI, wp_mulI, wp_mulS, wp_fdivI, wp_modI, wp_powI, ltD_int, leD_int, gtD_int, geD_int, eqV_int, eqV_str, wp_itemT, wp_itemR, wp_itemS, lenD_tup, lenD_rol, wp_lenS, intD_int, intD_bl, wp_intS, absD_int, minD_int, strD_str, wp_strI, wp_listS, truR_bl, sliceD_tup, sliceD_rol, wp_sliceS, wp_tup, wp_lst, wp_ifE, wp_andT, wp_orT, wp_notT, wp_appN, startsD_str,
  Dn.envOf, var, con, Dn.bin, app, consA, nilA, test, slice, noO, someO, List.map_cons, List.map_nil, List.cons_append, List.nil_append, List.replicate_succ, List.replicate_zero, List.length_cons, List.length_nil, List.getElem?_cons_zero, List.getElem?_cons_succ, List.set_cons_zero, List.set_cons_succ, List.append_nil,
  Nat.add_one_sub_one, Nat.reduceAdd, Nat.reduceSub, Nat.reduceLeDiff, Nat.sub_zero, Nat.zero_add, if_true, if_false, ite_true, ite_false, Bool.false_eq_true, reduceIte, Bool.not_true, Bool.not_false, Bool.not_eq_true', Nat.zero_le, true_and, and_true, decide_eq_true_eq, Nat.reduceEqDiff, Option.some.injEq, exists_eq_left', reduceCtorEq, atI_zero, atI_one, atI_two, List.set_cons_zero, List.set_cons_succ, wp_kdE, wp_kdAt, wp_fldE, wp_methE, wp_meth, wp_methRs, wp_star, wp_starT, wp_rng1, wp_rngAt, cut_tail, Option.map_some, SX.S_cat, SX.S_len, LIM]
        refine wp_sign g2.sp fun sg s3 hsg g3 => ?_
        have g3 := g2.trans g3
        try simp only [wp_run, wp_bind, wp_ok, wp_bad, wpS_seq, Dn.wpS_set, wpS_ret, wpS_if, wpS_expr, wpS_skip, wpS_par, wpS_par3, wpS_asg, wpS_itemS, wpS_fldS, wpS_for, wpS_nx, wpS_rt, wpS_bk, wpS_ct, wpS_bad, wp_lc, wpS_never, thenK_nx, thenK_rt, thenK_bk, thenK_ct, outK_nx, outK_rt, turnK_nx, turnK_rt, turnK_bk, turnK_ct,
  wp_addI, wp_addS, wp_addT, wp_subI, wp_mulI, wp_mulS, wp_fdivI, wp_modI, wp_powI, ltD_int, leD_int, gtD_int, geD_int, eqV_int, eqV_str, wp_itemT, wp_itemR, wp_itemS, lenD_tup, lenD_rol, wp_lenS, intD_int, intD_bl, wp_intS, absD_int, minD_int, strD_str, wp_strI, wp_listS, truR_bl, sliceD_tup, sliceD_rol, wp_sliceS, wp_tup, wp_lst, wp_ifE, wp_andT, wp_orT, wp_notT, wp_appN, startsD_str,
  Dn.envOf, var, con, Dn.bin, app, consA, nilA, test, slice, noO, someO, List.map_cons, List.map_nil, List.cons_append, List.nil_append, List.replicate_succ, List.replicate_zero, List.length_cons, List.length_nil, List.getElem?_cons_zero, List.getElem?_cons_succ, List.set_cons_zero, List.set_cons_succ, List.append_nil,
  Nat.add_one_sub_one, Nat.reduceAdd, Nat.reduceSub, Nat.reduceLeDiff, Nat.sub_zero, Nat.zero_add, if_true, if_false, ite_true, ite_false, Bool.false_eq_true, reduceIte, Bool.not_true, Bool.not_false, Bool.not_eq_true', Nat.zero_le, true_and, and_true, decide_eq_true_eq, Nat.reduceEqDiff, Option.some.injEq, exists_eq_left', reduceCtorEq, atI_zero, atI_one, atI_two, List.set_cons_zero, List.set_cons_succ, wp_kdE, wp_kdAt, wp_fldE, wp_methE, wp_meth, wp_methRs, wp_star, wp_starT, wp_rng1, wp_rngAt, cut_tail, Option.map_some, SX.S_cat, SX.S_len, LIM]
        refine ⟨⟨by decide, by decide, by decide⟩, ?_⟩
        refine wp_drop g3.sp (by decide) (by decide) fun j s4 j0 j1 g4 => ?_
        have g4 := g3.trans g4
        have j1 : j < 1000000000 := j1
        try simp only [wp_run, wp_bind, wp_ok, wp_bad, wpS_seq, Dn.wpS_set, wpS_ret, wpS_if, wpS_expr, wpS_skip, wpS_par, wpS_par3, wpS_asg, wpS_itemS, wpS_fldS, wpS_for, wpS_nx, wpS_rt, wpS_bk, wpS_ct, wpS_bad, wp_lc, wpS_never, thenK_nx, thenK_rt, thenK_bk, thenK_ct, outK_nx, outK_rt, turnK_nx, turnK_rt, turnK_bk, turnK_ct,
  wp_addI, wp_addS, wp_addT, wp_subI, wp_mulI, wp_mulS, wp_fdivI, wp_modI, wp_powI, ltD_int, leD_int, gtD_int, geD_int, eqV_int, eqV_str, wp_itemT, wp_itemR, wp_itemS, lenD_tup, lenD_rol, wp_lenS, intD_int, intD_bl, wp_intS, absD_int, minD_int, strD_str, wp_strI, wp_listS, truR_bl, sliceD_tup, sliceD_rol, wp_sliceS, wp_tup, wp_lst, wp_ifE, wp_andT, wp_orT, wp_notT, wp_appN, startsD_str,
  Dn.envOf, var, con, Dn.bin, app, consA, nilA, test, slice, noO, someO, List.map_cons, List.map_nil, List.cons_append, List.nil_append, List.replicate_succ, List.replicate_zero, List.length_cons, List.length_nil, List.getElem?_cons_zero, List.getElem?_cons_succ, List.set_cons_zero, List.set_cons_succ, List.append_nil,
  Nat.add_one_sub_one, Nat.reduceAdd, Nat.reduceSub, Nat.reduceLeDiff, Nat.sub_zero, Nat.zero_add, if_true, if_false, ite_true, ite_false, Bool.false_eq_true, reduceIte, Bool.not_true, Bool.not_false, Bool.not_eq_true', Nat.zero_le, true_and, and_true, decide_eq_true_eq, Nat.reduceEqDiff, Option.some.injEq, exists_eq_left', reduceCtorEq, atI_zero, atI_one, atI_two, List.set_cons_zero, List.set_cons_succ, wp_kdE, wp_kdAt, wp_fldE, wp_methE, wp_meth, wp_methRs, wp_star, wp_starT, wp_rng1, wp_rngAt, cut_tail, Option.map_some, SX.S_cat, SX.S_len, LIM]
        refine wp_pickL g4.sp (by simp) (by simp) fun x s5 hx g5 => ?_
        have g5 := g4.trans g5
        obtain ⟨j, rfl⟩ : ∃ q : Nat, j = q := ⟨j.toNat, (Int.toNat_of_nonneg j0).symm⟩
        have hx2 : ∃ i : Nat, x = .int (i : Nat) ∧ i < 10 ^ 9 := by
          simp only [List.mem_cons, List.not_mem_nil, or_false] at hx
          rcases hx with rfl | rfl | rfl | rfl | rfl
          · exact ⟨0, rfl, by decide⟩
          · exact ⟨7, rfl, by decide⟩
          · exact ⟨10, rfl, by decide⟩
          · exact ⟨999999999, rfl, by decide⟩
          · exact ⟨j, rfl, by omega⟩
        obtain ⟨i, rfl, hi⟩ := hx2
        try simp only [wp_run, wp_bind, wp_ok, wp_bad, wpS_seq, Dn.wpS_set, wpS_ret, wpS_if, wpS_expr, wpS_skip, wpS_par, wpS_par3, wpS_asg, wpS_itemS, wpS_fldS, wpS_for, wpS_nx, wpS_rt, wpS_bk, wpS_ct, wpS_bad, wp_lc, wpS_never, thenK_nx, thenK_rt, thenK_bk, thenK_ct, outK_nx, outK_rt, turnK_nx, turnK_rt, turnK_bk, turnK_ct,
  wp_addI, wp_addS, wp_addT, wp_subI, wp_mulI, wp_mulS, wp_fdivI, wp_modI, wp_powI, ltD_int, leD_int, gtD_int, geD_int, eqV_int, eqV_str, wp_itemT, wp_itemR, wp_itemS, lenD_tup, lenD_rol, wp_lenS, intD_int, intD_bl, wp_intS, absD_int, minD_int, strD_str, wp_strI, wp_listS, truR_bl, sliceD_tup, sliceD_rol, wp_sliceS, wp_tup, wp_lst, wp_ifE, wp_andT, wp_orT, wp_notT, wp_appN, startsD_str,
  Dn.envOf, var, con, Dn.bin, app, consA, nilA, test, slice, noO, someO, List.map_cons, List.map_nil, List.cons_append, List.nil_append, List.replicate_succ, List.replicate_zero, List.length_cons, List.length_nil, List.getElem?_cons_zero, List.getElem?_cons_succ, List.set_cons_zero, List.set_cons_succ, List.append_nil,
  Nat.add_one_sub_one, Nat.reduceAdd, Nat.reduceSub, Nat.reduceLeDiff, Nat.sub_zero, Nat.zero_add, if_true, if_false, ite_true, ite_false, Bool.false_eq_true, reduceIte, Bool.not_true, Bool.not_false, Bool.not_eq_true', Nat.zero_le, true_and, and_true, decide_eq_true_eq, Nat.reduceEqDiff, Option.some.injEq, exists_eq_left', reduceCtorEq, atI_zero, atI_one, atI_two, List.set_cons_zero, List.set_cons_succ, wp_kdE, wp_kdAt, wp_fldE, wp_methE, wp_meth, wp_methRs, wp_star, wp_starT, wp_rng1, wp_rngAt, cut_tail, Option.map_some, SX.S_cat, SX.S_len, LIM]
        refine wp_drop g5.sp (by omega) (by omega) fun q s6 q0 q1 g6 => ?_
        have g6 := g5.trans g6
        try simp only [wp_run, wp_bind, wp_ok, wp_bad, wpS_seq, Dn.wpS_set, wpS_ret, wpS_if, wpS_expr, wpS_skip, wpS_par, wpS_par3, wpS_asg, wpS_itemS, wpS_fldS, wpS_for, wpS_nx, wpS_rt, wpS_bk, wpS_ct, wpS_bad, wp_lc, wpS_never, thenK_nx, thenK_rt, thenK_bk, thenK_ct, outK_nx, outK_rt, turnK_nx, turnK_rt, turnK_bk, turnK_ct,
  wp_addI, wp_addS, wp_addT, wp_subI, wp_mulI, wp_mulS, wp_fdivI, wp_modI, wp_powI, ltD_int, leD_int, gtD_int, geD_int, eqV_int, eqV_str, wp_itemT, wp_itemR, wp_itemS, lenD_tup, lenD_rol, wp_lenS, intD_int, intD_bl, wp_intS, absD_int, minD_int, strD_str, wp_strI, wp_listS, truR_bl, sliceD_tup, sliceD_rol, wp_sliceS, wp_tup, wp_lst, wp_ifE, wp_andT, wp_orT, wp_notT, wp_appN, startsD_str,
  Dn.envOf, var, con, Dn.bin, app, consA, nilA, test, slice, noO, someO, List.map_cons, List.map_nil, List.cons_append, List.nil_append, List.replicate_succ, List.replicate_zero, List.length_cons, List.length_nil, List.getElem?_cons_zero, List.getElem?_cons_succ, List.set_cons_zero, List.set_cons_succ, List.append_nil,
  Nat.add_one_sub_one, Nat.reduceAdd, Nat.reduceSub, Nat.reduceLeDiff, Nat.sub_zero, Nat.zero_add, if_true, if_false, ite_true, ite_false, Bool.false_eq_true, reduceIte, Bool.not_true, Bool.not_false, Bool.not_eq_true', Nat.zero_le, true_and, and_true, decide_eq_true_eq, Nat.reduceEqDiff, Option.some.injEq, exists_eq_left', reduceCtorEq, atI_zero, atI_one, atI_two, List.set_cons_zero, List.set_cons_succ, wp_kdE, wp_kdAt, wp_fldE, wp_methE, wp_meth, wp_methRs, wp_star, wp_starT, wp_rng1, wp_rngAt, cut_tail, Option.map_some, SX.S_cat, SX.S_len, LIM]
        refine ⟨⟨by omega, by omega⟩, ?_⟩
        refine wp_gen (P := fun y => ∃ l, y = T l ∧ Nm l) g6.sp (by simp; omega) (fun dd s g => ?_) fun ds s7 hl hP g7 hc7 => ?_
        · simp only [wp_run, wp_bind, wp_ok, wp_bad, wpS_seq, Dn.wpS_set, wpS_ret, wpS_if, wpS_expr, wpS_skip, wpS_par, wpS_par3, wpS_asg, wpS_itemS, wpS_fldS, wpS_for, wpS_nx, wpS_rt, wpS_bk, wpS_ct, wpS_bad, wp_lc, wpS_never, thenK_nx, thenK_rt, thenK_bk, thenK_ct, outK_nx, outK_rt, turnK_nx, turnK_rt, turnK_bk, turnK_ct,
  wp_addI, wp_addS, wp_addT, wp_subI, wp_mulI, wp_mulS, wp_fdivI, wp_modI, wp_powI, ltD_int, leD_int, gtD_int, geD_int, eqV_int, eqV_str, wp_itemT, wp_itemR, wp_itemS, lenD_tup, lenD_rol, wp_lenS, intD_int, intD_bl, wp_intS, absD_int, minD_int, strD_str, wp_strI, wp_listS, truR_bl, sliceD_tup, sliceD_rol, wp_sliceS, wp_tup, wp_lst, wp_ifE, wp_andT, wp_orT, wp_notT, wp_appN, startsD_str,
  Dn.envOf, var, con, Dn.bin, app, consA, nilA, test, slice, noO, someO, List.map_cons, List.map_nil, List.cons_append, List.nil_append, List.replicate_succ, List.replicate_zero, List.length_cons, List.length_nil, List.getElem?_cons_zero, List.getElem?_cons_succ, List.set_cons_zero, List.set_cons_succ, List.append_nil,
  Nat.add_one_sub_one, Nat.reduceAdd, Nat.reduceSub, Nat.reduceLeDiff, Nat.sub_zero, Nat.zero_add, if_true, if_false, ite_true, ite_false, Bool.false_eq_true, reduceIte, Bool.not_true, Bool.not_false, Bool.not_eq_true', Nat.zero_le, true_and, and_true, decide_eq_true_eq, Nat.reduceEqDiff, Option.some.injEq, exists_eq_left', reduceCtorEq, atI_zero, atI_one, atI_two, List.set_cons_zero, List.set_cons_succ, wp_kdE, wp_kdAt, wp_fldE, wp_methE, wp_meth, wp_methRs, wp_star, wp_starT, wp_rng1, wp_rngAt, cut_tail, Option.map_some, SX.S_cat, SX.S_len, LIM, wipeE]
          exact wp_name1 g.sp fun l s' hl g' => ⟨⟨l, rfl, hl⟩, g'⟩
        · obtain ⟨ks, rfl, hks⟩ := names_of hP
          have g7 := g6.trans g7
          simp only [List.length_map, List.length_range] at hl
          rw [tupleD_seq (x := .loc s6.length) (ds := ks.map T) hc7]
          try simp only [wp_run, wp_bind, wp_ok, wp_bad, wpS_seq, Dn.wpS_set, wpS_ret, wpS_if, wpS_expr, wpS_skip, wpS_par, wpS_par3, wpS_asg, wpS_itemS, wpS_fldS, wpS_for, wpS_nx, wpS_rt, wpS_bk, wpS_ct, wpS_bad, wp_lc, wpS_never, thenK_nx, thenK_rt, thenK_bk, thenK_ct, outK_nx, outK_rt, turnK_nx, turnK_rt, turnK_bk, turnK_ct,
  wp_addI, wp_addS, wp_addT, wp_subI, wp_mulI, wp_mulS, wp_fdivI, wp_modI, wp_powI, ltD_int, leD_int, gtD_int, geD_int, eqV_int, eqV_str, wp_itemT, wp_itemR, wp_itemS, lenD_tup, lenD_rol, wp_lenS, intD_int, intD_bl, wp_intS, absD_int, minD_int, strD_str, wp_strI, wp_listS, truR_bl, sliceD_tup, sliceD_rol, wp_sliceS, wp_tup, wp_lst, wp_ifE, wp_andT, wp_orT, wp_notT, wp_appN, startsD_str,
  Dn.envOf, var, con, Dn.bin, app, consA, nilA, test, slice, noO, someO, List.map_cons, List.map_nil, List.cons_append, List.nil_append, List.replicate_succ, List.replicate_zero, List.length_cons, List.length_nil, List.getElem?_cons_zero, List.getElem?_cons_succ, List.set_cons_zero, List.set_cons_succ, List.append_nil,
  Nat.add_one_sub_one, Nat.reduceAdd, Nat.reduceSub, Nat.reduceLeDiff, Nat.sub_zero, Nat.zero_add, if_true, if_false, ite_true, ite_false, Bool.false_eq_true, reduceIte, Bool.not_true, Bool.not_false, Bool.not_eq_true', Nat.zero_le, true_and, and_true, decide_eq_true_eq, Nat.reduceEqDiff, Option.some.injEq, exists_eq_left', reduceCtorEq, atI_zero, atI_one, atI_two, List.set_cons_zero, List.set_cons_succ, wp_kdE, wp_kdAt, wp_fldE, wp_methE, wp_meth, wp_methRs, wp_star, wp_starT, wp_rng1, wp_rngAt, cut_tail, Option.map_some, SX.S_cat, SX.S_len, LIM]
          rw [wp_addL (cellL_of (get_app get_last)) (cellL_of get_last)]
          refine ⟨by show _ ≤ 4000000; simp, ?_⟩
          try simp only [wp_run, wp_bind, wp_ok, wp_bad, wpS_seq, Dn.wpS_set, wpS_ret, wpS_if, wpS_expr, wpS_skip, wpS_par, wpS_par3, wpS_asg, wpS_itemS, wpS_fldS, wpS_for, wpS_nx, wpS_rt, wpS_bk, wpS_ct, wpS_bad, wp_lc, wpS_never, thenK_nx, thenK_rt, thenK_bk, thenK_ct, outK_nx, outK_rt, turnK_nx, turnK_rt, turnK_bk, turnK_ct,
  wp_addI, wp_addS, wp_addT, wp_subI, wp_mulI, wp_mulS, wp_fdivI, wp_modI, wp_powI, ltD_int, leD_int, gtD_int, geD_int, eqV_int, eqV_str, wp_itemT, wp_itemR, wp_itemS, lenD_tup, lenD_rol, wp_lenS, intD_int, intD_bl, wp_intS, absD_int, minD_int, strD_str, wp_strI, wp_listS, truR_bl, sliceD_tup, sliceD_rol, wp_sliceS, wp_tup, wp_lst, wp_ifE, wp_andT, wp_orT, wp_notT, wp_appN, startsD_str,
  Dn.envOf, var, con, Dn.bin, app, consA, nilA, test, slice, noO, someO, List.map_cons, List.map_nil, List.cons_append, List.nil_append, List.replicate_succ, List.replicate_zero, List.length_cons, List.length_nil, List.getElem?_cons_zero, List.getElem?_cons_succ, List.set_cons_zero, List.set_cons_succ, List.append_nil,
  Nat.add_one_sub_one, Nat.reduceAdd, Nat.reduceSub, Nat.reduceLeDiff, Nat.sub_zero, Nat.zero_add, if_true, if_false, ite_true, ite_false, Bool.false_eq_true, reduceIte, Bool.not_true, Bool.not_false, Bool.not_eq_true', Nat.zero_le, true_and, and_true, decide_eq_true_eq, Nat.reduceEqDiff, Option.some.injEq, exists_eq_left', reduceCtorEq, atI_zero, atI_one, atI_two, List.set_cons_zero, List.set_cons_succ, wp_kdE, wp_kdAt, wp_fldE, wp_methE, wp_meth, wp_methRs, wp_star, wp_starT, wp_rng1, wp_rngAt, cut_tail, Option.map_some, SX.S_cat, SX.S_len, LIM]
          refine wp_pickL (gr_push (gr_push g7)).sp (by simp) (by simp) fun x s' hx g' => ?_
          have g' := (gr_push (gr_push g7)).trans g'
          have fin : ∀ h' its, x = .tup (T (H9.t h') :: its.map It.d) → ItsOk h'.srt its → Q x s' := fun h' its e hk => h x s' (by rw [e]; exact (gd_sim hk).mono (by omega)) g'
          simp only [List.cons_append, List.nil_append, List.mem_cons, List.not_mem_nil, or_false] at hx
          rcases hx with e | e | e | e | e | e | e | e | e | e
          · exact fin .mode [.nm t1] e (.cons hn1 .nil)
          · exact fin .top [.nm t1] e (.cons hn1 .nil)
          · exact fin .bottom [.nm t1] e (.cons hn1 .nil)
          · exact fin .has [.nm t2] e (.cons hn2 .nil)
          · exact fin .on [.nm t1, .nm t2] e (.cons hn1 (.cons hn2 .nil))
          · exact fin .count [.nm t1, .sg sg, .no i] e (.cons hn1 (.cons hsg (.cons hi .nil)))
          · exact fin .deep [.sg sg, .no i] e (.cons hsg (.cons hi .nil))
          · exact fin .all [] e .nil
          · refine h x s' ?_ g'
            rw [e]
            exact (gd_is hn1 hks (by omega)).mono (by omega)
          · refine h x s' ?_ g'
            rw [e]
            exact (gd_is hn2 hks (by omega)).mono (by omega)
      try simp only [wp_run, wp_bind, wp_ok, wp_bad, wpS_seq, Dn.wpS_set, wpS_ret, wpS_if, wpS_expr, wpS_skip, wpS_par, wpS_par3, wpS_asg, wpS_itemS, wpS_fldS, wpS_for, wpS_nx, wpS_rt, wpS_bk, wpS_ct, wpS_bad, wp_lc, wpS_never, thenK_nx, thenK_rt, thenK_bk, thenK_ct, outK_nx, outK_rt, turnK_nx, turnK_rt, turnK_bk, turnK_ct,
  wp_addI, wp_addS, wp_addT, wp_subI, wp_mulI, wp_mulS, wp_fdivI, wp_modI, wp_powI, ltD_int, leD_int, gtD_int, geD_int, eqV_int, eqV_str, wp_itemT, wp_itemR, wp_itemS, lenD_tup, lenD_rol, wp_lenS, intD_int, intD_bl, wp_intS, absD_int, minD_int, strD_str, wp_strI, wp_listS, truR_bl, sliceD_tup, sliceD_rol, wp_sliceS, wp_tup, wp_lst, wp_ifE, wp_andT, wp_orT, wp_notT, wp_appN, startsD_str,
  Dn.envOf, var, con, Dn.bin, app, consA, nilA, test, slice, noO, someO, List.map_cons, List.map_nil, List.cons_append, List.nil_append, List.replicate_succ, List.replicate_zero, List.length_cons, List.length_nil, List.getElem?_cons_zero, List.getElem?_cons_succ, List.set_cons_zero, List.set_cons_succ, List.append_nil,
  Nat.add_one_sub_one, Nat.reduceAdd, Nat.reduceSub, Nat.reduceLeDiff, Nat.sub_zero, Nat.zero_add, if_true, if_false, ite_true, ite_false, Bool.false_eq_true, reduceIte, Bool.not_true, Bool.not_false, Bool.not_eq_true', Nat.zero_le, true_and, and_true, decide_eq_true_eq, Nat.reduceEqDiff, Option.some.injEq, exists_eq_left', reduceCtorEq, atI_zero, atI_one, atI_two, List.set_cons_zero, List.set_cons_succ, wp_kdE, wp_kdAt, wp_fldE, wp_methE, wp_meth, wp_methRs, wp_star, wp_starT, wp_rng1, wp_rngAt, cut_tail, Option.map_some, SX.S_cat, SX.S_len, LIM]
      by_cases hb1 : b = 1
      · subst hb1
        rw [if_neg (by omega)]
        have := leaf st 3 (Gr.refl hS) rfl
        simp only [wp_run, wp_bind, wp_ok, wp_bad, wpS_seq, Dn.wpS_set, wpS_ret, wpS_if, wpS_expr, wpS_skip, wpS_par, wpS_par3, wpS_asg, wpS_itemS, wpS_fldS, wpS_for, wpS_nx, wpS_rt, wpS_bk, wpS_ct, wpS_bad, wp_lc, wpS_never, thenK_nx, thenK_rt, thenK_bk, thenK_ct, outK_nx, outK_rt, turnK_nx, turnK_rt, turnK_bk, turnK_ct,
  wp_addI, wp_addS, wp_addT, wp_subI, wp_mulI, wp_mulS, wp_fdivI, wp_modI, wp_powI, ltD_int, leD_int, gtD_int, geD_int, eqV_int, eqV_str, wp_itemT, wp_itemR, wp_itemS, lenD_tup, lenD_rol, wp_lenS, intD_int, intD_bl, wp_intS, absD_int, minD_int, strD_str, wp_strI, wp_listS, truR_bl, sliceD_tup, sliceD_rol, wp_sliceS, wp_tup, wp_lst, wp_ifE, wp_andT, wp_orT, wp_notT, wp_appN, startsD_str,
  Dn.envOf, var, con, Dn.bin, app, consA, nilA, test, slice, noO, someO, List.map_cons, List.map_nil, List.cons_append, List.nil_append, List.replicate_succ, List.replicate_zero, List.length_cons, List.length_nil, List.getElem?_cons_zero, List.getElem?_cons_succ, List.set_cons_zero, List.set_cons_succ, List.append_nil,
  Nat.add_one_sub_one, Nat.reduceAdd, Nat.reduceSub, Nat.reduceLeDiff, Nat.sub_zero, Nat.zero_add, if_true, if_false, ite_true, ite_false, Bool.false_eq_true, reduceIte, Bool.not_true, Bool.not_false, Bool.not_eq_true', Nat.zero_le, true_and, and_true, decide_eq_true_eq, Nat.reduceEqDiff, Option.some.injEq, exists_eq_left', reduceCtorEq, atI_zero, atI_one, atI_two, List.set_cons_zero, List.set_cons_succ, wp_kdE, wp_kdAt, wp_fldE, wp_methE, wp_meth, wp_methRs, wp_star, wp_starT, wp_rng1, wp_rngAt, cut_tail, Option.map_some, SX.S_cat, SX.S_len, LIM, e_drop, e_pick] at this
        exact this
      · rw [if_pos (by omega)]
        refine wp_drop hS (by omega) (by omega) fun w s1 w0 w1 g1 => ?_
        try simp only [wp_run, wp_bind, wp_ok, wp_bad, wpS_seq, Dn.wpS_set, wpS_ret, wpS_if, wpS_expr, wpS_skip, wpS_par, wpS_par3, wpS_asg, wpS_itemS, wpS_fldS, wpS_for, wpS_nx, wpS_rt, wpS_bk, wpS_ct, wpS_bad, wp_lc, wpS_never, thenK_nx, thenK_rt, thenK_bk, thenK_ct, outK_nx, outK_rt, turnK_nx, turnK_rt, turnK_bk, turnK_ct,
  wp_addI, wp_addS, wp_addT, wp_subI, wp_mulI, wp_mulS, wp_fdivI, wp_modI, wp_powI, ltD_int, leD_int, gtD_int, geD_int, eqV_int, eqV_str, wp_itemT, wp_itemR, wp_itemS, lenD_tup, lenD_rol, wp_lenS, intD_int, intD_bl, wp_intS, absD_int, minD_int, strD_str, wp_strI, wp_listS, truR_bl, sliceD_tup, sliceD_rol, wp_sliceS, wp_tup, wp_lst, wp_ifE, wp_andT, wp_orT, wp_notT, wp_appN, startsD_str,
  Dn.envOf, var, con, Dn.bin, app, consA, nilA, test, slice, noO, someO, List.map_cons, List.map_nil, List.cons_append, List.nil_append, List.replicate_succ, List.replicate_zero, List.length_cons, List.length_nil, List.getElem?_cons_zero, List.getElem?_cons_succ, List.set_cons_zero, List.set_cons_succ, List.append_nil,
  Nat.add_one_sub_one, Nat.reduceAdd, Nat.reduceSub, Nat.reduceLeDiff, Nat.sub_zero, Nat.zero_add, if_true, if_false, ite_true, ite_false, Bool.false_eq_true, reduceIte, Bool.not_true, Bool.not_false, Bool.not_eq_true', Nat.zero_le, true_and, and_true, decide_eq_true_eq, Nat.reduceEqDiff, Option.some.injEq, exists_eq_left', reduceCtorEq, atI_zero, atI_one, atI_two, List.set_cons_zero, List.set_cons_succ, wp_kdE, wp_kdAt, wp_fldE, wp_methE, wp_meth, wp_methRs, wp_star, wp_starT, wp_rng1, wp_rngAt, cut_tail, Option.map_some, SX.S_cat, SX.S_len, LIM]
        have e1 : (((b : Nat) : Int) - 1) = ((b - 1 : Nat) : Int) := by omega
        by_cases hw2 : w = 2
        · subst hw2
          try simp only [wp_run, wp_bind, wp_ok, wp_bad, wpS_seq, Dn.wpS_set, wpS_ret, wpS_if, wpS_expr, wpS_skip, wpS_par, wpS_par3, wpS_asg, wpS_itemS, wpS_fldS, wpS_for, wpS_nx, wpS_rt, wpS_bk, wpS_ct, wpS_bad, wp_lc, wpS_never, thenK_nx, thenK_rt, thenK_bk, thenK_ct, outK_nx, outK_rt, turnK_nx, turnK_rt, turnK_bk, turnK_ct,
  wp_addI, wp_addS, wp_addT, wp_subI, wp_mulI, wp_mulS, wp_fdivI, wp_modI, wp_powI, ltD_int, leD_int, gtD_int, geD_int, eqV_int, eqV_str, wp_itemT, wp_itemR, wp_itemS, lenD_tup, lenD_rol, wp_lenS, intD_int, intD_bl, wp_intS, absD_int, minD_int, strD_str, wp_strI, wp_listS, truR_bl, sliceD_tup, sliceD_rol, wp_sliceS, wp_tup, wp_lst, wp_ifE, wp_andT, wp_orT, wp_notT, wp_appN, startsD_str,
  Dn.envOf, var, con, Dn.bin, app, consA, nilA, test, slice, noO, someO, List.map_cons, List.map_nil, List.cons_append, List.nil_append, List.replicate_succ, List.replicate_zero, List.length_cons, List.length_nil, List.getElem?_cons_zero, List.getElem?_cons_succ, List.set_cons_zero, List.set_cons_succ, List.append_nil,
  Nat.add_one_sub_one, Nat.reduceAdd, Nat.reduceSub, Nat.reduceLeDiff, Nat.sub_zero, Nat.zero_add, if_true, if_false, ite_true, ite_false, Bool.false_eq_true, reduceIte, Bool.not_true, Bool.not_false, Bool.not_eq_true', Nat.zero_le, true_and, and_true, decide_eq_true_eq, Nat.reduceEqDiff, Option.some.injEq, exists_eq_left', reduceCtorEq, atI_zero, atI_one, atI_two, List.set_cons_zero, List.set_cons_succ, wp_kdE, wp_kdAt, wp_fldE, wp_methE, wp_meth, wp_methRs, wp_star, wp_starT, wp_rng1, wp_rngAt, cut_tail, Option.map_some, SX.S_cat, SX.S_len, LIM, beq_self_eq_true]
          rw [e1]
          refine ih (b - 1) (by omega) k s1 _ (by omega) (by omega) g1.sp fun x s2 hx g2 => h _ s2 ?_ (g1.trans g2)
          have := gd_not hx
          rw [show b - 1 + 1 = b by omega] at this
          exact this
        · have hb : (w == 2) = false := by rw [beq_eq_false_iff_ne]; exact hw2
          rw [hb]
          try simp only [wp_run, wp_bind, wp_ok, wp_bad, wpS_seq, Dn.wpS_set, wpS_ret, wpS_if, wpS_expr, wpS_skip, wpS_par, wpS_par3, wpS_asg, wpS_itemS, wpS_fldS, wpS_for, wpS_nx, wpS_rt, wpS_bk, wpS_ct, wpS_bad, wp_lc, wpS_never, thenK_nx, thenK_rt, thenK_bk, thenK_ct, outK_nx, outK_rt, turnK_nx, turnK_rt, turnK_bk, turnK_ct,
  wp_addI, wp_addS, wp_addT, wp_subI, wp_mulI, wp_mulS, wp_fdivI, wp_modI, wp_powI, ltD_int, leD_int, gtD_int, geD_int, eqV_int, eqV_str, wp_itemT, wp_itemR, wp_itemS, lenD_tup, lenD_rol, wp_lenS, intD_int, intD_bl, wp_intS, absD_int, minD_int, strD_str, wp_strI, wp_listS, truR_bl, sliceD_tup, sliceD_rol, wp_sliceS, wp_tup, wp_lst, wp_ifE, wp_andT, wp_orT, wp_notT, wp_appN, startsD_str,
  Dn.envOf, var, con, Dn.bin, app, consA, nilA, test, slice, noO, someO, List.map_cons, List.map_nil, List.cons_append, List.nil_append, List.replicate_succ, List.replicate_zero, List.length_cons, List.length_nil, List.getElem?_cons_zero, List.getElem?_cons_succ, List.set_cons_zero, List.set_cons_succ, List.append_nil,
  Nat.add_one_sub_one, Nat.reduceAdd, Nat.reduceSub, Nat.reduceLeDiff, Nat.sub_zero, Nat.zero_add, if_true, if_false, ite_true, ite_false, Bool.false_eq_true, reduceIte, Bool.not_true, Bool.not_false, Bool.not_eq_true', Nat.zero_le, true_and, and_true, decide_eq_true_eq, Nat.reduceEqDiff, Option.some.injEq, exists_eq_left', reduceCtorEq, atI_zero, atI_one, atI_two, List.set_cons_zero, List.set_cons_succ, wp_kdE, wp_kdAt, wp_fldE, wp_methE, wp_meth, wp_methRs, wp_star, wp_starT, wp_rng1, wp_rngAt, cut_tail, Option.map_some, SX.S_cat, SX.S_len, LIM]
          by_cases hw3 : w < 2
          · rw [if_pos hw3]
            have e2 : (if ((b : Nat) : Int) < 3 then ((b : Nat) : Int) else 3) = ((min 3 b : Nat) : Int) := by
              split <;> omega
            rw [e2]
            refine wp_drop g1.sp (by omega) (by omega) fun q s2 q0 q1 g2 => ?_
            have g2 := g1.trans g2
            obtain ⟨q, rfl⟩ : ∃ r : Nat, q = r := ⟨q.toNat, (Int.toNat_of_nonneg q0).symm⟩
            try simp only [wp_run, wp_bind, wp_ok, wp_bad, wpS_seq, Dn.wpS_set, wpS_ret, wpS_if, wpS_expr, wpS_skip, wpS_par, wpS_par3, wpS_asg, wpS_itemS, wpS_fldS, wpS_for, wpS_nx, wpS_rt, wpS_bk, wpS_ct, wpS_bad, wp_lc, wpS_never, thenK_nx, thenK_rt, thenK_bk, thenK_ct, outK_nx, outK_rt, turnK_nx, turnK_rt, turnK_bk, turnK_ct,
  wp_addI, wp_addS, wp_addT, wp_subI, wp_mulI, wp_mulS, wp_fdivI, wp_modI, wp_powI, ltD_int, leD_int, gtD_int, geD_int, eqV_int, eqV_str, wp_itemT, wp_itemR, wp_itemS, lenD_tup, lenD_rol, wp_lenS, intD_int, intD_bl, wp_intS, absD_int, minD_int, strD_str, wp_strI, wp_listS, truR_bl, sliceD_tup, sliceD_rol, wp_sliceS, wp_tup, wp_lst, wp_ifE, wp_andT, wp_orT, wp_notT, wp_appN, startsD_str,
  Dn.envOf, var, con, Dn.bin, app, consA, nilA, test, slice, noO, someO, List.map_cons, List.map_nil, List.cons_append, List.nil_append, List.replicate_succ, List.replicate_zero, List.length_cons, List.length_nil, List.getElem?_cons_zero, List.getElem?_cons_succ, List.set_cons_zero, List.set_cons_succ, List.append_nil,
  Nat.add_one_sub_one, Nat.reduceAdd, Nat.reduceSub, Nat.reduceLeDiff, Nat.sub_zero, Nat.zero_add, if_true, if_false, ite_true, ite_false, Bool.false_eq_true, reduceIte, Bool.not_true, Bool.not_false, Bool.not_eq_true', Nat.zero_le, true_and, and_true, decide_eq_true_eq, Nat.reduceEqDiff, Option.some.injEq, exists_eq_left', reduceCtorEq, atI_zero, atI_one, atI_two, List.set_cons_zero, List.set_cons_succ, wp_kdE, wp_kdAt, wp_fldE, wp_methE, wp_meth, wp_methRs, wp_star, wp_starT, wp_rng1, wp_rngAt, cut_tail, Option.map_some, SX.S_cat, SX.S_len, LIM]
            refine ih q (by omega) k s2 _ (by omega) (by omega) g2.sp fun x s3 hx g3 => ?_
            have g3 := g2.trans g3
            have hx := hx.mono (show q ≤ b - 1 by omega)
            try simp only [wp_run, wp_bind, wp_ok, wp_bad, wpS_seq, Dn.wpS_set, wpS_ret, wpS_if, wpS_expr, wpS_skip, wpS_par, wpS_par3, wpS_asg, wpS_itemS, wpS_fldS, wpS_for, wpS_nx, wpS_rt, wpS_bk, wpS_ct, wpS_bad, wp_lc, wpS_never, thenK_nx, thenK_rt, thenK_bk, thenK_ct, outK_nx, outK_rt, turnK_nx, turnK_rt, turnK_bk, turnK_ct,
  wp_addI, wp_addS, wp_addT, wp_subI, wp_mulI, wp_mulS, wp_fdivI, wp_modI, wp_powI, ltD_int, leD_int, gtD_int, geD_int, eqV_int, eqV_str, wp_itemT, wp_itemR, wp_itemS, lenD_tup, lenD_rol, wp_lenS, intD_int, intD_bl, wp_intS, absD_int, minD_int, strD_str, wp_strI, wp_listS, truR_bl, sliceD_tup, sliceD_rol, wp_sliceS, wp_tup, wp_lst, wp_ifE, wp_andT, wp_orT, wp_notT, wp_appN, startsD_str,
  Dn.envOf, var, con, Dn.bin, app, consA, nilA, test, slice, noO, someO, List.map_cons, List.map_nil, List.cons_append, List.nil_append, List.replicate_succ, List.replicate_zero, List.length_cons, List.length_nil, List.getElem?_cons_zero, List.getElem?_cons_succ, List.set_cons_zero, List.set_cons_succ, List.append_nil,
  Nat.add_one_sub_one, Nat.reduceAdd, Nat.reduceSub, Nat.reduceLeDiff, Nat.sub_zero, Nat.zero_add, if_true, if_false, ite_true, ite_false, Bool.false_eq_true, reduceIte, Bool.not_true, Bool.not_false, Bool.not_eq_true', Nat.zero_le, true_and, and_true, decide_eq_true_eq, Nat.reduceEqDiff, Option.some.injEq, exists_eq_left', reduceCtorEq, atI_zero, atI_one, atI_two, List.set_cons_zero, List.set_cons_succ, wp_kdE, wp_kdAt, wp_fldE, wp_methE, wp_meth, wp_methRs, wp_star, wp_starT, wp_rng1, wp_rngAt, cut_tail, Option.map_some, SX.S_cat, SX.S_len, LIM]
            rw [e1]
            refine ih (b - 1) (by omega) k s3 _ (by omega) (by omega) g3.sp fun y s4 hy g4 => ?_
            have g4 := g3.trans g4
            try simp only [wp_run, wp_bind, wp_ok, wp_bad, wpS_seq, Dn.wpS_set, wpS_ret, wpS_if, wpS_expr, wpS_skip, wpS_par, wpS_par3, wpS_asg, wpS_itemS, wpS_fldS, wpS_for, wpS_nx, wpS_rt, wpS_bk, wpS_ct, wpS_bad, wp_lc, wpS_never, thenK_nx, thenK_rt, thenK_bk, thenK_ct, outK_nx, outK_rt, turnK_nx, turnK_rt, turnK_bk, turnK_ct,
  wp_addI, wp_addS, wp_addT, wp_subI, wp_mulI, wp_mulS, wp_fdivI, wp_modI, wp_powI, ltD_int, leD_int, gtD_int, geD_int, eqV_int, eqV_str, wp_itemT, wp_itemR, wp_itemS, lenD_tup, lenD_rol, wp_lenS, intD_int, intD_bl, wp_intS, absD_int, minD_int, strD_str, wp_strI, wp_listS, truR_bl, sliceD_tup, sliceD_rol, wp_sliceS, wp_tup, wp_lst, wp_ifE, wp_andT, wp_orT, wp_notT, wp_appN, startsD_str,
  Dn.envOf, var, con, Dn.bin, app, consA, nilA, test, slice, noO, someO, List.map_cons, List.map_nil, List.cons_append, List.nil_append, List.replicate_succ, List.replicate_zero, List.length_cons, List.length_nil, List.getElem?_cons_zero, List.getElem?_cons_succ, List.set_cons_zero, List.set_cons_succ, List.append_nil,
  Nat.add_one_sub_one, Nat.reduceAdd, Nat.reduceSub, Nat.reduceLeDiff, Nat.sub_zero, Nat.zero_add, if_true, if_false, ite_true, ite_false, Bool.false_eq_true, reduceIte, Bool.not_true, Bool.not_false, Bool.not_eq_true', Nat.zero_le, true_and, and_true, decide_eq_true_eq, Nat.reduceEqDiff, Option.some.injEq, exists_eq_left', reduceCtorEq, atI_zero, atI_one, atI_two, List.set_cons_zero, List.set_cons_succ, wp_kdE, wp_kdAt, wp_fldE, wp_methE, wp_meth, wp_methRs, wp_star, wp_starT, wp_rng1, wp_rngAt, cut_tail, Option.map_some, SX.S_cat, SX.S_len, LIM]
            refine wp_pickL g4.sp (by simp) (by simp) fun z s5 hz g5 => h z s5 ?_ (g4.trans g5)
            have fin : ∀ (o : Bool) (u v : D), Gd (b - 1) u → Gd (b - 1) v → z = .tup [T (if o then l_and else l_or), u, v] → Gd b z := fun o u v hu hv e => by
              have := gd_bi (o := o) hu hv
              rw [show b - 1 + 1 = b by omega] at this
              rw [e]
              exact this
            simp only [List.mem_cons, List.not_mem_nil, or_false] at hz
            rcases hz with e | e | e
            · exact fin true y x hy hx e
            · exact fin false x y hx hy e
            · exact fin true x y hx hy e
          · rw [if_neg hw3]
            have := leaf s1 w g1 (by omega)
            simp only [wp_run, wp_bind, wp_ok, wp_bad, wpS_seq, Dn.wpS_set, wpS_ret, wpS_if, wpS_expr, wpS_skip, wpS_par, wpS_par3, wpS_asg, wpS_itemS, wpS_fldS, wpS_for, wpS_nx, wpS_rt, wpS_bk, wpS_ct, wpS_bad, wp_lc, wpS_never, thenK_nx, thenK_rt, thenK_bk, thenK_ct, outK_nx, outK_rt, turnK_nx, turnK_rt, turnK_bk, turnK_ct,
  wp_addI, wp_addS, wp_addT, wp_subI, wp_mulI, wp_mulS, wp_fdivI, wp_modI, wp_powI, ltD_int, leD_int, gtD_int, geD_int, eqV_int, eqV_str, wp_itemT, wp_itemR, wp_itemS, lenD_tup, lenD_rol, wp_lenS, intD_int, intD_bl, wp_intS, absD_int, minD_int, strD_str, wp_strI, wp_listS, truR_bl, sliceD_tup, sliceD_rol, wp_sliceS, wp_tup, wp_lst, wp_ifE, wp_andT, wp_orT, wp_notT, wp_appN, startsD_str,
  Dn.envOf, var, con, Dn.bin, app, consA, nilA, test, slice, noO, someO, List.map_cons, List.map_nil, List.cons_append, List.nil_append, List.replicate_succ, List.replicate_zero, List.length_cons, List.length_nil, List.getElem?_cons_zero, List.getElem?_cons_succ, List.set_cons_zero, List.set_cons_succ, List.append_nil,
  Nat.add_one_sub_one, Nat.reduceAdd, Nat.reduceSub, Nat.reduceLeDiff, Nat.sub_zero, Nat.zero_add, if_true, if_false, ite_true, ite_false, Bool.false_eq_true, reduceIte, Bool.not_true, Bool.not_false, Bool.not_eq_true', Nat.zero_le, true_and, and_true, decide_eq_true_eq, Nat.reduceEqDiff, Option.some.injEq, exists_eq_left', reduceCtorEq, atI_zero, atI_one, atI_two, List.set_cons_zero, List.set_cons_succ, wp_kdE, wp_kdAt, wp_fldE, wp_methE, wp_meth, wp_methRs, wp_star, wp_starT, wp_rng1, wp_rngAt, cut_tail, Option.map_some, SX.S_cat, SX.S_len, LIM, e_drop, e_pick] at this
            exact this
end
end T91


set_option Elab.async false
set_option linter.all false
set_option maxRecDepth 100000
set_option maxHeartbeats 4000000
set_option autoImplicit false
namespace T91
open PySem Dn
section
variable {n m : Nat} {st st' s : Store} {Q : D → Store → Prop}
def seqAt (d : D) (st : Store) : Res (List D × List (Nat × List D)) := match d with
  | .str z => .ok (chars z, []) st
  | .tup ds => .ok (ds, []) st
  | .rol ds => .ok (ds, []) st
  | .loc n => match cellL st n with
    | some ds => .ok (ds, [(n, ds)]) st
    | none => .bad
  | _ => .bad
theorem wp_seqW {f : ME} {r : Dn.Env} {Q : List D × List (Nat × List D) → Store → Prop} : wp (seqW f r st) Q = wp (f r st) (fun d st1 => wp (seqAt d st1) Q) := wp_bind
theorem wp_seqAtT {ds : List D} {Q : List D × List (Nat × List D) → Store → Prop} : wp (seqAt (.tup ds) st) Q = Q (ds, []) st := rfl
theorem wp_seqAtR {ds : List D} {Q : List D × List (Nat × List D) → Store → Prop} : wp (seqAt (.rol ds) st) Q = Q (ds, []) st := rfl
theorem wp_seqAtL {p : Nat} {ds : List D} {Q : List D × List (Nat × List D) → Store → Prop} (h : cellL st p = some ds) : wp (seqAt (.loc p) st) Q = Q (ds, [(p, ds)]) st := by
  unfold seqAt
  simp only [h, wp_ok]
/-! ### words side by side -/
def GL (i : Nat) (d : D) : Prop := ∃ w : Wd, d = w.d ∧ w.ok ∧ w.dep ≤ i + 1 ∧ w.ht ≤ i + 1 ∧ w.sz ≤ 60 + 300 * i
theorem gl_step {i : Nat} {o : Bool} {d e : D} (h : Gd 1 d) (k : GL i e) : GL (i + 1) (.tup [T (if o then l_and else l_or), d, e]) := by
  obtain ⟨w, rfl, h2, h3, h4, h5⟩ := h
  obtain ⟨v, rfl, k2, k3, k4, k5⟩ := k
  refine ⟨.bi o w v, rfl, ⟨h2, k2⟩, by simp only [Wd.dep]; omega, by simp only [Wd.ht]; omega, by simp only [Wd.sz]; omega⟩
theorem wp_long {many : Int} (hS : Sp n m st) (h0 : 0 ≤ many) (h8 : many ≤ 8) (h : ∀ e s, GL 8 e → Gr n m st s → Q e s) : wp (F_law_long [.loc n, .int many] st) Q := by
  unfold F_law_long b_law_long
  simp only [wp_run, wp_bind, wp_ok, wp_bad, wpS_seq, Dn.wpS_set, wpS_ret, wpS_if, wpS_expr, wpS_skip, wpS_par, wpS_par3, wpS_asg, wpS_itemS, wpS_fldS, wpS_for, wpS_nx, wpS_rt, wpS_bk, wpS_ct, wpS_bad, wp_lc, wpS_never, thenK_nx, thenK_rt, thenK_bk, thenK_ct, outK_nx, outK_rt, turnK_nx, turnK_rt, turnK_bk, turnK_ct,
  wp_addI, wp_addS, wp_addT, wp_subI, wp_mulI, wp_mulS, wp_fdivI, wp_modI, wp_powI, ltD_int, leD_int, gtD_int, geD_int, eqV_int, eqV_str, wp_itemT, wp_itemR, wp_itemS, lenD_tup, lenD_rol, wp_lenS, intD_int, intD_bl, wp_intS, absD_int, minD_int, strD_str, wp_strI, wp_listS, truR_bl, sliceD_tup, sliceD_rol, wp_sliceS, wp_tup, wp_lst, wp_ifE, wp_andT, wp_orT, wp_notT, wp_appN, startsD_str,
  Dn.envOf, var, con, Dn.bin, app, consA, nilA, test, slice, noO, someO, List.map_cons, List.map_nil, List.cons_append, List.nil_append, List.replicate_succ, List.replicate_zero, List.length_cons, List.length_nil, List.getElem?_cons_zero, List.getElem?_cons_succ, List.set_cons_zero, List.set_cons_succ, List.append_nil,
  Nat.add_one_sub_one, Nat.reduceAdd, Nat.reduceSub, Nat.reduceLeDiff, Nat.sub_zero, Nat.zero_add, if_true, if_false, ite_true, ite_false, Bool.false_eq_true, reduceIte, Bool.not_true, Bool.not_false, Bool.not_eq_true', Nat.zero_le, true_and, and_true, decide_eq_true_eq, Nat.reduceEqDiff, Option.some.injEq, exists_eq_left', reduceCtorEq, atI_zero, atI_one, atI_two, List.set_cons_zero, List.set_cons_succ, wp_kdE, wp_kdAt, wp_fldE, wp_methE, wp_meth, wp_methRs, wp_star, wp_starT, wp_rng1, wp_rngAt, cut_tail, Option.map_some, SX.S_cat, SX.S_len, LIM, e_pick]
  refine ⟨⟨by omega, by omega⟩, ?_⟩
  refine wpS_forN (fun l r s => ∃ i w o, i + l.length = many.toNat ∧ r = [some (.loc n), some (.int many), some w, o] ∧ GL i w ∧ Gr n m st s) (fun _ _ _ _ => oks_nil) ?_ ?_ _ _ _ ⟨0, .tup [.str "left"], none, by simp, rfl, ⟨.sim .left [], rfl, .nil, by simp [Wd.dep], by simp [Wd.ht], by simp [Wd.sz]⟩, Gr.refl hS⟩
  · rintro r s ⟨i, w, o, h1, rfl, hg, g⟩
    try simp only [wp_run, wp_bind, wp_ok, wp_bad, wpS_seq, Dn.wpS_set, wpS_ret, wpS_if, wpS_expr, wpS_skip, wpS_par, wpS_par3, wpS_asg, wpS_itemS, wpS_fldS, wpS_for, wpS_nx, wpS_rt, wpS_bk, wpS_ct, wpS_bad, wp_lc, wpS_never, thenK_nx, thenK_rt, thenK_bk, thenK_ct, outK_nx, outK_rt, turnK_nx, turnK_rt, turnK_bk, turnK_ct,
  wp_addI, wp_addS, wp_addT, wp_subI, wp_mulI, wp_mulS, wp_fdivI, wp_modI, wp_powI, ltD_int, leD_int, gtD_int, geD_int, eqV_int, eqV_str, wp_itemT, wp_itemR, wp_itemS, lenD_tup, lenD_rol, wp_lenS, intD_int, intD_bl, wp_intS, absD_int, minD_int, strD_str, wp_strI, wp_listS, truR_bl, sliceD_tup, sliceD_rol, wp_sliceS, wp_tup, wp_lst, wp_ifE, wp_andT, wp_orT, wp_notT, wp_appN, startsD_str,
  Dn.envOf, var, con, Dn.bin, app, consA, nilA, test, slice, noO, someO, List.map_cons, List.map_nil, List.cons_append, List.nil_append, List.replicate_succ, List.replicate_zero, List.length_cons, List.length_nil, List.getElem?_cons_zero, List.getElem?_cons_succ, List.set_cons_zero, List.set_cons_succ, List.append_nil,
  Nat.add_one_sub_one, Nat.reduceAdd, Nat.reduceSub, Nat.reduceLeDiff, Nat.sub_zero, Nat.zero_add, if_true, if_false, ite_true, ite_false, Bool.false_eq_true, reduceIte, Bool.not_true, Bool.not_false, Bool.not_eq_true', Nat.zero_le, true_and, and_true, decide_eq_true_eq, Nat.reduceEqDiff, Option.some.injEq, exists_eq_left', reduceCtorEq, atI_zero, atI_one, atI_two, List.set_cons_zero, List.set_cons_succ, wp_kdE, wp_kdAt, wp_fldE, wp_methE, wp_meth, wp_methRs, wp_star, wp_starT, wp_rng1, wp_rngAt, cut_tail, Option.map_some, SX.S_cat, SX.S_len, LIM]
    obtain ⟨v, rfl, k2, k3, k4, k5⟩ := hg
    rw [List.length_nil] at h1
    exact h _ s ⟨v, rfl, k2, by omega, by omega, by omega⟩ g
  · rintro d l r s ⟨i, w, o, h1, rfl, hg, g⟩
    refine ⟨_, rfl, ?_⟩
    try simp only [wp_run, wp_bind, wp_ok, wp_bad, wpS_seq, Dn.wpS_set, wpS_ret, wpS_if, wpS_expr, wpS_skip, wpS_par, wpS_par3, wpS_asg, wpS_itemS, wpS_fldS, wpS_for, wpS_nx, wpS_rt, wpS_bk, wpS_ct, wpS_bad, wp_lc, wpS_never, thenK_nx, thenK_rt, thenK_bk, thenK_ct, outK_nx, outK_rt, turnK_nx, turnK_rt, turnK_bk, turnK_ct,
  wp_addI, wp_addS, wp_addT, wp_subI, wp_mulI, wp_mulS, wp_fdivI, wp_modI, wp_powI, ltD_int, leD_int, gtD_int, geD_int, eqV_int, eqV_str, wp_itemT, wp_itemR, wp_itemS, lenD_tup, lenD_rol, wp_lenS, intD_int, intD_bl, wp_intS, absD_int, minD_int, strD_str, wp_strI, wp_listS, truR_bl, sliceD_tup, sliceD_rol, wp_sliceS, wp_tup, wp_lst, wp_ifE, wp_andT, wp_orT, wp_notT, wp_appN, startsD_str,
  Dn.envOf, var, con, Dn.bin, app, consA, nilA, test, slice, noO, someO, List.map_cons, List.map_nil, List.cons_append, List.nil_append, List.replicate_succ, List.replicate_zero, List.length_cons, List.length_nil, List.getElem?_cons_zero, List.getElem?_cons_succ, List.set_cons_zero, List.set_cons_succ, List.append_nil,
  Nat.add_one_sub_one, Nat.reduceAdd, Nat.reduceSub, Nat.reduceLeDiff, Nat.sub_zero, Nat.zero_add, if_true, if_false, ite_true, ite_false, Bool.false_eq_true, reduceIte, Bool.not_true, Bool.not_false, Bool.not_eq_true', Nat.zero_le, true_and, and_true, decide_eq_true_eq, Nat.reduceEqDiff, Option.some.injEq, exists_eq_left', reduceCtorEq, atI_zero, atI_one, atI_two, List.set_cons_zero, List.set_cons_succ, wp_kdE, wp_kdAt, wp_fldE, wp_methE, wp_meth, wp_methRs, wp_star, wp_starT, wp_rng1, wp_rngAt, cut_tail, Option.map_some, SX.S_cat, SX.S_len, LIM, e_pick]
    refine wp_pickL g.sp (by simp) (by simp) fun x s1 hx g1 => ?_
    have g1 := g.trans g1
    try simp only [wp_run, wp_bind, wp_ok, wp_bad, wpS_seq, Dn.wpS_set, wpS_ret, wpS_if, wpS_expr, wpS_skip, wpS_par, wpS_par3, wpS_asg, wpS_itemS, wpS_fldS, wpS_for, wpS_nx, wpS_rt, wpS_bk, wpS_ct, wpS_bad, wp_lc, wpS_never, thenK_nx, thenK_rt, thenK_bk, thenK_ct, outK_nx, outK_rt, turnK_nx, turnK_rt, turnK_bk, turnK_ct,
  wp_addI, wp_addS, wp_addT, wp_subI, wp_mulI, wp_mulS, wp_fdivI, wp_modI, wp_powI, ltD_int, leD_int, gtD_int, geD_int, eqV_int, eqV_str, wp_itemT, wp_itemR, wp_itemS, lenD_tup, lenD_rol, wp_lenS, intD_int, intD_bl, wp_intS, absD_int, minD_int, strD_str, wp_strI, wp_listS, truR_bl, sliceD_tup, sliceD_rol, wp_sliceS, wp_tup, wp_lst, wp_ifE, wp_andT, wp_orT, wp_notT, wp_appN, startsD_str,
  Dn.envOf, var, con, Dn.bin, app, consA, nilA, test, slice, noO, someO, List.map_cons, List.map_nil, List.cons_append, List.nil_append, List.replicate_succ, List.replicate_zero, List.length_cons, List.length_nil, List.getElem?_cons_zero, List.getElem?_cons_succ, List.set_cons_zero, List.set_cons_succ, List.append_nil,
  Nat.add_one_sub_one, Nat.reduceAdd, Nat.reduceSub, Nat.reduceLeDiff, Nat.sub_zero, Nat.zero_add, if_true, if_false, ite_true, ite_false, Bool.false_eq_true, reduceIte, Bool.not_true, Bool.not_false, Bool.not_eq_true', Nat.zero_le, true_and, and_true, decide_eq_true_eq, Nat.reduceEqDiff, Option.some.injEq, exists_eq_left', reduceCtorEq, atI_zero, atI_one, atI_two, List.set_cons_zero, List.set_cons_succ, wp_kdE, wp_kdAt, wp_fldE, wp_methE, wp_meth, wp_methRs, wp_star, wp_starT, wp_rng1, wp_rngAt, cut_tail, Option.map_some, SX.S_cat, SX.S_len, LIM]
    refine wp_far 1 60 s1 _ (by decide) (by decide) g1.sp fun y s2 hy g2 => ?_
    have g2 := g1.trans g2
    try simp only [wp_run, wp_bind, wp_ok, wp_bad, wpS_seq, Dn.wpS_set, wpS_ret, wpS_if, wpS_expr, wpS_skip, wpS_par, wpS_par3, wpS_asg, wpS_itemS, wpS_fldS, wpS_for, wpS_nx, wpS_rt, wpS_bk, wpS_ct, wpS_bad, wp_lc, wpS_never, thenK_nx, thenK_rt, thenK_bk, thenK_ct, outK_nx, outK_rt, turnK_nx, turnK_rt, turnK_bk, turnK_ct,
  wp_addI, wp_addS, wp_addT, wp_subI, wp_mulI, wp_mulS, wp_fdivI, wp_modI, wp_powI, ltD_int, leD_int, gtD_int, geD_int, eqV_int, eqV_str, wp_itemT, wp_itemR, wp_itemS, lenD_tup, lenD_rol, wp_lenS, intD_int, intD_bl, wp_intS, absD_int, minD_int, strD_str, wp_strI, wp_listS, truR_bl, sliceD_tup, sliceD_rol, wp_sliceS, wp_tup, wp_lst, wp_ifE, wp_andT, wp_orT, wp_notT, wp_appN, startsD_str,
  Dn.envOf, var, con, Dn.bin, app, consA, nilA, test, slice, noO, someO, List.map_cons, List.map_nil, List.cons_append, List.nil_append, List.replicate_succ, List.replicate_zero, List.length_cons, List.length_nil, List.getElem?_cons_zero, List.getElem?_cons_succ, List.set_cons_zero, List.set_cons_succ, List.append_nil,
  Nat.add_one_sub_one, Nat.reduceAdd, Nat.reduceSub, Nat.reduceLeDiff, Nat.sub_zero, Nat.zero_add, if_true, if_false, ite_true, ite_false, Bool.false_eq_true, reduceIte, Bool.not_true, Bool.not_false, Bool.not_eq_true', Nat.zero_le, true_and, and_true, decide_eq_true_eq, Nat.reduceEqDiff, Option.some.injEq, exists_eq_left', reduceCtorEq, atI_zero, atI_one, atI_two, List.set_cons_zero, List.set_cons_succ, wp_kdE, wp_kdAt, wp_fldE, wp_methE, wp_meth, wp_methRs, wp_star, wp_starT, wp_rng1, wp_rngAt, cut_tail, Option.map_some, SX.S_cat, SX.S_len, LIM]
    rw [List.length_cons] at h1
    simp only [List.mem_cons, List.not_mem_nil, or_false] at hx
    rcases hx with rfl | rfl
    · exact ⟨i + 1, _, _, by omega, rfl, gl_step (o := true) hy hg, g2⟩
    · exact ⟨i + 1, _, _, by omega, rfl, gl_step (o := false) hy hg, g2⟩
/-! ### apps -/
def ActOk (d : D) : Prop := ∃ a : List (List Nat), d = .tup (a.map T) ∧ a ≠ [] ∧ ∀ x ∈ a, Tok' x
def TapOk (d : D) : Prop := ∃ (a b c e : List Nat) (act : D), d = .tup [T a, T b, T c, act, T e] ∧ Tok' a ∧ Tok' b ∧ Tok' c ∧ Tok' e ∧ ActOk act
theorem wp_act {ss : List (List Nat)} {pa : Nat} {a1 a2 : List Nat} (hS : Sp n m st) (s0 : ss ≠ []) (s1 : ss.length ≤ 10) (hs : ∀ x ∈ ss, Nm x) (hp1 : pa ≠ n) (hp2 : pa ≠ m) (hc : cellL st pa = some [T a1, T a2]) (h1 : Nm a1) (h2 : Nm a2)
    (h : ∀ d s, ActOk d → Gr n m st s → Q d s) : wp (F_law_act [.loc n, .tup (ss.map T), .loc pa] st) Q := by
  unfold F_law_act b_law_act
  simp only [wp_run, wp_bind, wp_ok, wp_bad, wpS_seq, Dn.wpS_set, wpS_ret, wpS_if, wpS_expr, wpS_skip, wpS_par, wpS_par3, wpS_asg, wpS_itemS, wpS_fldS, wpS_for, wpS_nx, wpS_rt, wpS_bk, wpS_ct, wpS_bad, wp_lc, wpS_never, thenK_nx, thenK_rt, thenK_bk, thenK_ct, outK_nx, outK_rt, turnK_nx, turnK_rt, turnK_bk, turnK_ct,
  wp_addI, wp_addS, wp_addT, wp_subI, wp_mulI, wp_mulS, wp_fdivI, wp_modI, wp_powI, ltD_int, leD_int, gtD_int, geD_int, eqV_int, eqV_str, wp_itemT, wp_itemR, wp_itemS, lenD_tup, lenD_rol, wp_lenS, intD_int, intD_bl, wp_intS, absD_int, minD_int, strD_str, wp_strI, wp_listS, truR_bl, sliceD_tup, sliceD_rol, wp_sliceS, wp_tup, wp_lst, wp_ifE, wp_andT, wp_orT, wp_notT, wp_appN, startsD_str,
  Dn.envOf, var, con, Dn.bin, app, consA, nilA, test, slice, noO, someO, List.map_cons, List.map_nil, List.cons_append, List.nil_append, List.replicate_succ, List.replicate_zero, List.length_cons, List.length_nil, List.getElem?_cons_zero, List.getElem?_cons_succ, List.set_cons_zero, List.set_cons_succ, List.append_nil,
  Nat.add_one_sub_one, Nat.reduceAdd, Nat.reduceSub, Nat.reduceLeDiff, Nat.sub_zero, Nat.zero_add, if_true, if_false, ite_true, ite_false, Bool.false_eq_true, reduceIte, Bool.not_true, Bool.not_false, Bool.not_eq_true', Nat.zero_le, true_and, and_true, decide_eq_true_eq, Nat.reduceEqDiff, Option.some.injEq, exists_eq_left', reduceCtorEq, atI_zero, atI_one, atI_two, List.set_cons_zero, List.set_cons_succ, wp_kdE, wp_kdAt, wp_fldE, wp_methE, wp_meth, wp_methRs, wp_star, wp_starT, wp_rng1, wp_rngAt, cut_tail, Option.map_some, SX.S_cat, SX.S_len, LIM, e_drop, e_pick]
  refine wp_drop hS (by omega) (by omega) fun w st1 w0 w1 g1 => ?_
  have two : ∀ (u l : List Nat), Tok' u → Nm l → ActOk (.tup [T u, T l]) := fun u l hu hl => ⟨[u, l], rfl, by simp, fun x hx => by
    simp only [List.mem_cons, List.not_mem_nil, or_false] at hx
    rcases hx with rfl | rfl
    · exact hu
    · exact nm_tok hl⟩
  try simp only [wp_run, wp_bind, wp_ok, wp_bad, wpS_seq, Dn.wpS_set, wpS_ret, wpS_if, wpS_expr, wpS_skip, wpS_par, wpS_par3, wpS_asg, wpS_itemS, wpS_fldS, wpS_for, wpS_nx, wpS_rt, wpS_bk, wpS_ct, wpS_bad, wp_lc, wpS_never, thenK_nx, thenK_rt, thenK_bk, thenK_ct, outK_nx, outK_rt, turnK_nx, turnK_rt, turnK_bk, turnK_ct,
  wp_addI, wp_addS, wp_addT, wp_subI, wp_mulI, wp_mulS, wp_fdivI, wp_modI, wp_powI, ltD_int, leD_int, gtD_int, geD_int, eqV_int, eqV_str, wp_itemT, wp_itemR, wp_itemS, lenD_tup, lenD_rol, wp_lenS, intD_int, intD_bl, wp_intS, absD_int, minD_int, strD_str, wp_strI, wp_listS, truR_bl, sliceD_tup, sliceD_rol, wp_sliceS, wp_tup, wp_lst, wp_ifE, wp_andT, wp_orT, wp_notT, wp_appN, startsD_str,
  Dn.envOf, var, con, Dn.bin, app, consA, nilA, test, slice, noO, someO, List.map_cons, List.map_nil, List.cons_append, List.nil_append, List.replicate_succ, List.replicate_zero, List.length_cons, List.length_nil, List.getElem?_cons_zero, List.getElem?_cons_succ, List.set_cons_zero, List.set_cons_succ, List.append_nil,
  Nat.add_one_sub_one, Nat.reduceAdd, Nat.reduceSub, Nat.reduceLeDiff, Nat.sub_zero, Nat.zero_add, if_true, if_false, ite_true, ite_false, Bool.false_eq_true, reduceIte, Bool.not_true, Bool.not_false, Bool.not_eq_true', Nat.zero_le, true_and, and_true, decide_eq_true_eq, Nat.reduceEqDiff, Option.some.injEq, exists_eq_left', reduceCtorEq, atI_zero, atI_one, atI_two, List.set_cons_zero, List.set_cons_succ, wp_kdE, wp_kdAt, wp_fldE, wp_methE, wp_meth, wp_methRs, wp_star, wp_starT, wp_rng1, wp_rngAt, cut_tail, Option.map_some, SX.S_cat, SX.S_len, LIM]
  by_cases c1 : w < 3
  · rw [if_pos c1]
    exact wp_pickN g1.sp s0 s1 hs fun l s hl g => h _ s (two [111, 112, 101, 110] l (tok_lit rfl) hl) (g1.trans g)
  · rw [if_neg c1]
    by_cases c2 : w = 3
    · subst c2
      simp only [wp_run, wp_bind, wp_ok, wp_bad, wpS_seq, Dn.wpS_set, wpS_ret, wpS_if, wpS_expr, wpS_skip, wpS_par, wpS_par3, wpS_asg, wpS_itemS, wpS_fldS, wpS_for, wpS_nx, wpS_rt, wpS_bk, wpS_ct, wpS_bad, wp_lc, wpS_never, thenK_nx, thenK_rt, thenK_bk, thenK_ct, outK_nx, outK_rt, turnK_nx, turnK_rt, turnK_bk, turnK_ct,
  wp_addI, wp_addS, wp_addT, wp_subI, wp_mulI, wp_mulS, wp_fdivI, wp_modI, wp_powI, ltD_int, leD_int, gtD_int, geD_int, eqV_int, eqV_str, wp_itemT, wp_itemR, wp_itemS, lenD_tup, lenD_rol, wp_lenS, intD_int, intD_bl, wp_intS, absD_int, minD_int, strD_str, wp_strI, wp_listS, truR_bl, sliceD_tup, sliceD_rol, wp_sliceS, wp_tup, wp_lst, wp_ifE, wp_andT, wp_orT, wp_notT, wp_appN, startsD_str,
  Dn.envOf, var, con, Dn.bin, app, consA, nilA, test, slice, noO, someO, List.map_cons, List.map_nil, List.cons_append, List.nil_append, List.replicate_succ, List.replicate_zero, List.length_cons, List.length_nil, List.getElem?_cons_zero, List.getElem?_cons_succ, List.set_cons_zero, List.set_cons_succ, List.append_nil,
  Nat.add_one_sub_one, Nat.reduceAdd, Nat.reduceSub, Nat.reduceLeDiff, Nat.sub_zero, Nat.zero_add, if_true, if_false, ite_true, ite_false, Bool.false_eq_true, reduceIte, Bool.not_true, Bool.not_false, Bool.not_eq_true', Nat.zero_le, true_and, and_true, decide_eq_true_eq, Nat.reduceEqDiff, Option.some.injEq, exists_eq_left', reduceCtorEq, atI_zero, atI_one, atI_two, List.set_cons_zero, List.set_cons_succ, wp_kdE, wp_kdAt, wp_fldE, wp_methE, wp_meth, wp_methRs, wp_star, wp_starT, wp_rng1, wp_rngAt, cut_tail, Option.map_some, SX.S_cat, SX.S_len, LIM, beq_self_eq_true]
      exact wp_pickN g1.sp s0 s1 hs fun l s hl g => h _ s (two [112, 117, 116] l (tok_lit rfl) hl) (g1.trans g)
    · have hb : (w == 3) = false := by rw [beq_eq_false_iff_ne]; exact c2
      simp only [wp_run, wp_bind, wp_ok, wp_bad, wpS_seq, Dn.wpS_set, wpS_ret, wpS_if, wpS_expr, wpS_skip, wpS_par, wpS_par3, wpS_asg, wpS_itemS, wpS_fldS, wpS_for, wpS_nx, wpS_rt, wpS_bk, wpS_ct, wpS_bad, wp_lc, wpS_never, thenK_nx, thenK_rt, thenK_bk, thenK_ct, outK_nx, outK_rt, turnK_nx, turnK_rt, turnK_bk, turnK_ct,
  wp_addI, wp_addS, wp_addT, wp_subI, wp_mulI, wp_mulS, wp_fdivI, wp_modI, wp_powI, ltD_int, leD_int, gtD_int, geD_int, eqV_int, eqV_str, wp_itemT, wp_itemR, wp_itemS, lenD_tup, lenD_rol, wp_lenS, intD_int, intD_bl, wp_intS, absD_int, minD_int, strD_str, wp_strI, wp_listS, truR_bl, sliceD_tup, sliceD_rol, wp_sliceS, wp_tup, wp_lst, wp_ifE, wp_andT, wp_orT, wp_notT, wp_appN, startsD_str,
  Dn.envOf, var, con, Dn.bin, app, consA, nilA, test, slice, noO, someO, List.map_cons, List.map_nil, List.cons_append, List.nil_append, List.replicate_succ, List.replicate_zero, List.length_cons, List.length_nil, List.getElem?_cons_zero, List.getElem?_cons_succ, List.set_cons_zero, List.set_cons_succ, List.append_nil,
  Nat.add_one_sub_one, Nat.reduceAdd, Nat.reduceSub, Nat.reduceLeDiff, Nat.sub_zero, Nat.zero_add, if_true, if_false, ite_true, ite_false, Bool.false_eq_true, reduceIte, Bool.not_true, Bool.not_false, Bool.not_eq_true', Nat.zero_le, true_and, and_true, decide_eq_true_eq, Nat.reduceEqDiff, Option.some.injEq, exists_eq_left', reduceCtorEq, atI_zero, atI_one, atI_two, List.set_cons_zero, List.set_cons_succ, wp_kdE, wp_kdAt, wp_fldE, wp_methE, wp_meth, wp_methRs, wp_star, wp_starT, wp_rng1, wp_rngAt, cut_tail, Option.map_some, SX.S_cat, SX.S_len, LIM, hb]
      by_cases c3 : w < 6
      · rw [if_pos c3]
        exact h _ st1 ⟨[[98, 97, 99, 107]], rfl, by simp, fun x hx => by rw [List.mem_singleton.mp hx]; exact tok_lit rfl⟩ g1
      · rw [if_neg c3]
        refine wp_pick g1.sp (ds := [T a1, T a2]) (gr_cell g1 hp1 hp2 hc) (by simp) (show (2 : Nat) ≤ 4000000 by decide) (fun q e => by cases e; exact ⟨hp1, hp2⟩) fun d s hd g => ?_
        simp only [List.mem_cons, List.not_mem_nil, or_false] at hd
        rcases hd with rfl | rfl
        · exact h _ s (two [116, 111] a1 (tok_lit rfl) h1) (g1.trans g)
        · exact h _ s (two [116, 111] a2 (tok_lit rfl) h2) (g1.trans g)
theorem act_py {d : D} (h : ActOk d) : PyOk 1 d := by
  obtain ⟨a, rfl, -, h1⟩ := h
  exact pyOk_tup (k := 0) fun x hx => by
    obtain ⟨y, hy, rfl⟩ := List.mem_map.mp hx
    exact pyOk_T (h1 y hy)
theorem tap_py {d : D} (h : TapOk d) : PyOk 2 d := by
  obtain ⟨a, b, c, e, act, rfl, h1, h2, h3, h4, h5⟩ := h
  refine pyOk_tup (k := 1) fun x hx => ?_
  simp only [List.mem_cons, List.not_mem_nil, or_false] at hx
  rcases hx with rfl | rfl | rfl | rfl | rfl
  · exact (pyOk_T h1).mono (by omega)
  · exact (pyOk_T h2).mono (by omega)
  · exact (pyOk_T h3).mono (by omega)
  · exact act_py h5
  · exact (pyOk_T h4).mono (by omega)
theorem alike_T : ∀ a b : List (List Nat), PySem.W.alikeAll (a.map fun x => PyData.str (SX.S x)) (b.map fun x => PyData.str (SX.S x)) = true
  | [], _ => by simp [PySem.W.alikeAll]
  | _ :: _, [] => by simp [PySem.W.alikeAll]
  | x :: a, y :: b => by
    rw [List.map_cons, List.map_cons, PySem.W.alikeAll, alike_T a b]
    simp [PySem.W.alike]
theorem enc_tap {d : D} (h : TapOk d) : ∃ (a b c e : List Nat) (k : List (List Nat)), encD st d = .tuple [.str (SX.S a), .str (SX.S b), .str (SX.S c), .tuple (k.map fun x => PyData.str (SX.S x)), .str (SX.S e)] := by
  obtain ⟨a, b, c, e, act, rfl, h1, h2, h3, h4, k, rfl, -, h5⟩ := h
  refine ⟨a, b, c, e, k, ?_⟩
  unfold encD
  have e1 : pyD st 58 (D.str (SX.S a)) = some (.str (SX.S a)) := by rw [pyD]
  simp only [pyD, pyDs, py_T (k := 58) (by decide), Option.map_some, Option.getD_some]
theorem wp_sorted {p : Nat} {ds : List D} (hc : cellL st p = some ds) (hd : ∀ d ∈ ds, TapOk d) (hl : ds.length ≤ 1000) (h : ∀ ds', Q (.loc st.length) (st ++ [.lst ds'])) : wp (sortedD [.loc p] st) Q := by
  have c : (∀ d ∈ ds, ∃ p, pyD st 60 d = some p) ∧ PySem.W.AllAlike (ds.map (encD st)) ∧ PySem.W.Sortable (ds.map (encD st)) ∧ ds.length ≤ LIM ∧ (∀ d ∈ ds, (encD st d).depth ≤ 60) := by
    refine ⟨fun d hx => ?_, fun x hx y hy => ?_, .inl fun x hx => ?_, by show _ ≤ 4000000; omega, fun d hx => ?_⟩
    · obtain ⟨q, h1, -, -⟩ := tap_py (hd d hx)
      exact ⟨q, h1 st 60 (by omega)⟩
    · obtain ⟨d, h1, rfl⟩ := List.mem_map.mp hx
      obtain ⟨d', h1', rfl⟩ := List.mem_map.mp hy
      obtain ⟨a, b, c, e, k, e1⟩ := enc_tap (st := st) (hd d h1)
      obtain ⟨a', b', c', e', k', e1'⟩ := enc_tap (st := st) (hd d' h1')
      rw [e1, e1']
      simp [PySem.W.alike, PySem.W.alikeAll, alike_T]
    · obtain ⟨d, h1, rfl⟩ := List.mem_map.mp hx
      obtain ⟨a, b, c, e, k, e1⟩ := enc_tap (st := st) (hd d h1)
      exact ⟨_, _, e1⟩
    · obtain ⟨q, h1, -, h3⟩ := tap_py (hd d hx)
      unfold encD
      rw [h1 st 60 (by omega)]
      show q.depth ≤ 60
      omega
  unfold sortedD
  simp only [seqD_loc, hc]
  rw [if_pos c]
  exact h _
end
end T91


set_option Elab.async false
set_option linter.all false
set_option maxRecDepth 100000
set_option maxHeartbeats 4000000
set_option autoImplicit false
namespace T91
open PySem Dn
section
variable {n m : Nat} {st st' s : Store} {Q : D → Store → Prop}
theorem wp_app (hS : Sp n m st) (h : ∀ e s, AppOk e → Gr n m st s → Q e s) : wp (F_law_app [.loc n, .int 2] st) Q := by
  unfold F_law_app b_law_app
  simp only [wp_run, wp_bind, wp_ok, wp_bad, wpS_seq, Dn.wpS_set, wpS_ret, wpS_if, wpS_expr, wpS_skip, wpS_par, wpS_par3, wpS_asg, wpS_itemS, wpS_fldS, wpS_for, wpS_nx, wpS_rt, wpS_bk, wpS_ct, wpS_bad, wp_lc, wpS_never, thenK_nx, thenK_rt, thenK_bk, thenK_ct, outK_nx, outK_rt, turnK_nx, turnK_rt, turnK_bk, turnK_ct,
  wp_addI, wp_addS, wp_addT, wp_subI, wp_mulI, wp_mulS, wp_fdivI, wp_modI, wp_powI, ltD_int, leD_int, gtD_int, geD_int, eqV_int, eqV_str, wp_itemT, wp_itemR, wp_itemS, lenD_tup, lenD_rol, wp_lenS, intD_int, intD_bl, wp_intS, absD_int, minD_int, strD_str, wp_strI, wp_listS, truR_bl, sliceD_tup, sliceD_rol, wp_sliceS, wp_tup, wp_lst, wp_ifE, wp_andT, wp_orT, wp_notT, wp_appN, startsD_str,
  Dn.envOf, var, con, Dn.bin, app, consA, nilA, test, slice, noO, someO, List.map_cons, List.map_nil, List.cons_append, List.nil_append, List.replicate_succ, List.replicate_zero, List.length_cons, List.length_nil, List.getElem?_cons_zero, List.getElem?_cons_succ, List.set_cons_zero, List.set_cons_succ, List.append_nil,
  Nat.add_one_sub_one, Nat.reduceAdd, Nat.reduceSub, Nat.reduceLeDiff, Nat.sub_zero, Nat.zero_add, if_true, if_false, ite_true, ite_false, Bool.false_eq_true, reduceIte, Bool.not_true, Bool.not_false, Bool.not_eq_true', Nat.zero_le, true_and, and_true, decide_eq_true_eq, Nat.reduceEqDiff, Option.some.injEq, exists_eq_left', reduceCtorEq, atI_zero, atI_one, atI_two, List.set_cons_zero, List.set_cons_succ, wp_kdE, wp_kdAt, wp_fldE, wp_methE, wp_meth, wp_methRs, wp_star, wp_starT, wp_rng1, wp_rngAt, cut_tail, Option.map_some, SX.S_cat, SX.S_len, LIM, e_pick, e_drop]
  refine wp_pickL hS (by simp) (by simp) fun md s1 hmd g1 => ?_
  have hmd2 : ∃ ms : List (List Nat), md = .tup (ms.map T) ∧ ms ≠ [] ∧ ms.length ≤ 3 ∧ ∀ x ∈ ms, Nm x := by
    have fin : ∀ ms : List (List Nat), md = .tup (ms.map T) → ms ≠ [] → ms.length ≤ 3 → (ms.all fun l => (!l.isEmpty && decide (l.length ≤ 8) && l.all fun c => decide (97 ≤ c) && decide (c ≤ 122))) = true → ∃ ms : List (List Nat), md = .tup (ms.map T) ∧ ms ≠ [] ∧ ms.length ≤ 3 ∧ ∀ x ∈ ms, Nm x := fun ms e h0 h1 h2 => ⟨ms, e, h0, h1, fun x hx => nm_lit (List.all_eq_true.mp h2 x hx)⟩
    simp only [List.mem_cons, List.not_mem_nil, or_false] at hmd
    rcases hmd with e | e | e | e
    · exact fin [[103, 117, 101, 115, 116], [109, 101, 109, 98, 101, 114]] e (by simp) (by simp) rfl
    · exact fin [[97]] e (by simp) (by simp) rfl
    · exact fin [[100, 97, 121], [110, 105, 103, 104, 116], [122, 122, 122, 122, 122, 122, 122, 122]] e (by simp) (by simp) rfl
    · exact fin [[97], [97, 98]] e (by simp) (by simp) rfl
  obtain ⟨ms, rfl, m0, m1, hm⟩ := hmd2
  try simp only [wp_run, wp_bind, wp_ok, wp_bad, wpS_seq, Dn.wpS_set, wpS_ret, wpS_if, wpS_expr, wpS_skip, wpS_par, wpS_par3, wpS_asg, wpS_itemS, wpS_fldS, wpS_for, wpS_nx, wpS_rt, wpS_bk, wpS_ct, wpS_bad, wp_lc, wpS_never, thenK_nx, thenK_rt, thenK_bk, thenK_ct, outK_nx, outK_rt, turnK_nx, turnK_rt, turnK_bk, turnK_ct,
  wp_addI, wp_addS, wp_addT, wp_subI, wp_mulI, wp_mulS, wp_fdivI, wp_modI, wp_powI, ltD_int, leD_int, gtD_int, geD_int, eqV_int, eqV_str, wp_itemT, wp_itemR, wp_itemS, lenD_tup, lenD_rol, wp_lenS, intD_int, intD_bl, wp_intS, absD_int, minD_int, strD_str, wp_strI, wp_listS, truR_bl, sliceD_tup, sliceD_rol, wp_sliceS, wp_tup, wp_lst, wp_ifE, wp_andT, wp_orT, wp_notT, wp_appN, startsD_str,
  Dn.envOf, var, con, Dn.bin, app, consA, nilA, test, slice, noO, someO, List.map_cons, List.map_nil, List.cons_append, List.nil_append, List.replicate_succ, List.replicate_zero, List.length_cons, List.length_nil, List.getElem?_cons_zero, List.getElem?_cons_succ, List.set_cons_zero, List.set_cons_succ, List.append_nil,
  Nat.add_one_sub_one, Nat.reduceAdd, Nat.reduceSub, Nat.reduceLeDiff, Nat.sub_zero, Nat.zero_add, if_true, if_false, ite_true, ite_false, Bool.false_eq_true, reduceIte, Bool.not_true, Bool.not_false, Bool.not_eq_true', Nat.zero_le, true_and, and_true, decide_eq_true_eq, Nat.reduceEqDiff, Option.some.injEq, exists_eq_left', reduceCtorEq, atI_zero, atI_one, atI_two, List.set_cons_zero, List.set_cons_succ, wp_kdE, wp_kdAt, wp_fldE, wp_methE, wp_meth, wp_methRs, wp_star, wp_starT, wp_rng1, wp_rngAt, cut_tail, Option.map_some, SX.S_cat, SX.S_len, LIM]
  refine wp_pickL g1.sp (by simp) (by simp) fun sc s2 hsc g2 => ?_
  have hsc2 : ∃ ms : List (List Nat), sc = .tup (ms.map T) ∧ ms ≠ [] ∧ ms.length ≤ 4 ∧ ∀ x ∈ ms, Nm x := by
    have fin : ∀ ms : List (List Nat), sc = .tup (ms.map T) → ms ≠ [] → ms.length ≤ 4 → (ms.all fun l => (!l.isEmpty && decide (l.length ≤ 8) && l.all fun c => decide (97 ≤ c) && decide (c ≤ 122))) = true → ∃ ms : List (List Nat), sc = .tup (ms.map T) ∧ ms ≠ [] ∧ ms.length ≤ 4 ∧ ∀ x ∈ ms, Nm x := fun ms e h0 h1 h2 => ⟨ms, e, h0, h1, fun x hx => nm_lit (List.all_eq_true.mp h2 x hx)⟩
    simp only [List.mem_cons, List.not_mem_nil, or_false] at hsc
    rcases hsc with e | e | e | e | e
    · exact fin [[99, 97, 114, 116], [104, 111, 109, 101], [108, 105, 115, 116]] e (by simp) (by simp) rfl
    · exact fin [[120]] e (by simp) (by simp) rfl
    · exact fin [[97], [98]] e (by simp) (by simp) rfl
    · exact fin [[98], [98, 98]] e (by simp) (by simp) rfl
    · exact fin [[97], [97, 97], [98], [108, 111, 110, 103, 110, 97, 109, 101]] e (by simp) (by simp) rfl
  obtain ⟨ss, rfl, s0, s1', hs⟩ := hsc2
  have g2 := g1.trans g2
  try simp only [wp_run, wp_bind, wp_ok, wp_bad, wpS_seq, Dn.wpS_set, wpS_ret, wpS_if, wpS_expr, wpS_skip, wpS_par, wpS_par3, wpS_asg, wpS_itemS, wpS_fldS, wpS_for, wpS_nx, wpS_rt, wpS_bk, wpS_ct, wpS_bad, wp_lc, wpS_never, thenK_nx, thenK_rt, thenK_bk, thenK_ct, outK_nx, outK_rt, turnK_nx, turnK_rt, turnK_bk, turnK_ct,
  wp_addI, wp_addS, wp_addT, wp_subI, wp_mulI, wp_mulS, wp_fdivI, wp_modI, wp_powI, ltD_int, leD_int, gtD_int, geD_int, eqV_int, eqV_str, wp_itemT, wp_itemR, wp_itemS, lenD_tup, lenD_rol, wp_lenS, intD_int, intD_bl, wp_intS, absD_int, minD_int, strD_str, wp_strI, wp_listS, truR_bl, sliceD_tup, sliceD_rol, wp_sliceS, wp_tup, wp_lst, wp_ifE, wp_andT, wp_orT, wp_notT, wp_appN, startsD_str,
  Dn.envOf, var, con, Dn.bin, app, consA, nilA, test, slice, noO, someO, List.map_cons, List.map_nil, List.cons_append, List.nil_append, List.replicate_succ, List.replicate_zero, List.length_cons, List.length_nil, List.getElem?_cons_zero, List.getElem?_cons_succ, List.set_cons_zero, List.set_cons_succ, List.append_nil,
  Nat.add_one_sub_one, Nat.reduceAdd, Nat.reduceSub, Nat.reduceLeDiff, Nat.sub_zero, Nat.zero_add, if_true, if_false, ite_true, ite_false, Bool.false_eq_true, reduceIte, Bool.not_true, Bool.not_false, Bool.not_eq_true', Nat.zero_le, true_and, and_true, decide_eq_true_eq, Nat.reduceEqDiff, Option.some.injEq, exists_eq_left', reduceCtorEq, atI_zero, atI_one, atI_two, List.set_cons_zero, List.set_cons_succ, wp_kdE, wp_kdAt, wp_fldE, wp_methE, wp_meth, wp_methRs, wp_star, wp_starT, wp_rng1, wp_rngAt, cut_tail, Option.map_some, SX.S_cat, SX.S_len, LIM]
  refine wp_pickN g2.sp s0 (by omega) hs fun a1 s3 ha1 g3 => ?_
  have g3 := g2.trans g3
  try simp only [wp_run, wp_bind, wp_ok, wp_bad, wpS_seq, Dn.wpS_set, wpS_ret, wpS_if, wpS_expr, wpS_skip, wpS_par, wpS_par3, wpS_asg, wpS_itemS, wpS_fldS, wpS_for, wpS_nx, wpS_rt, wpS_bk, wpS_ct, wpS_bad, wp_lc, wpS_never, thenK_nx, thenK_rt, thenK_bk, thenK_ct, outK_nx, outK_rt, turnK_nx, turnK_rt, turnK_bk, turnK_ct,
  wp_addI, wp_addS, wp_addT, wp_subI, wp_mulI, wp_mulS, wp_fdivI, wp_modI, wp_powI, ltD_int, leD_int, gtD_int, geD_int, eqV_int, eqV_str, wp_itemT, wp_itemR, wp_itemS, lenD_tup, lenD_rol, wp_lenS, intD_int, intD_bl, wp_intS, absD_int, minD_int, strD_str, wp_strI, wp_listS, truR_bl, sliceD_tup, sliceD_rol, wp_sliceS, wp_tup, wp_lst, wp_ifE, wp_andT, wp_orT, wp_notT, wp_appN, startsD_str,
  Dn.envOf, var, con, Dn.bin, app, consA, nilA, test, slice, noO, someO, List.map_cons, List.map_nil, List.cons_append, List.nil_append, List.replicate_succ, List.replicate_zero, List.length_cons, List.length_nil, List.getElem?_cons_zero, List.getElem?_cons_succ, List.set_cons_zero, List.set_cons_succ, List.append_nil,
  Nat.add_one_sub_one, Nat.reduceAdd, Nat.reduceSub, Nat.reduceLeDiff, Nat.sub_zero, Nat.zero_add, if_true, if_false, ite_true, ite_false, Bool.false_eq_true, reduceIte, Bool.not_true, Bool.not_false, Bool.not_eq_true', Nat.zero_le, true_and, and_true, decide_eq_true_eq, Nat.reduceEqDiff, Option.some.injEq, exists_eq_left', reduceCtorEq, atI_zero, atI_one, atI_two, List.set_cons_zero, List.set_cons_succ, wp_kdE, wp_kdAt, wp_fldE, wp_methE, wp_meth, wp_methRs, wp_star, wp_starT, wp_rng1, wp_rngAt, cut_tail, Option.map_some, SX.S_cat, SX.S_len, LIM]
  refine wp_pickN g3.sp s0 (by omega) hs fun a2 s4 ha2 g4 => ?_
  have g4 := g3.trans g4
  have hne4 := g4.sp.ne_len
  have g5 := gr_push (c := .lst [T a1, T a2]) g4
  have hne5 := g5.sp.ne_len
  have hca : cellL (s4 ++ [Cell.lst [T a1, T a2]] ++ [Cell.lst []]) s4.length = some [T a1, T a2] := cellL_of (get_app get_last)
  have hct : cellL (s4 ++ [Cell.lst [T a1, T a2]] ++ [Cell.lst []]) (s4 ++ [Cell.lst [T a1, T a2]]).length = some [] := cellL_of get_last
  have g6 := gr_push (c := .lst []) g5
  have hpt : s4.length ≠ (s4 ++ [Cell.lst [T a1, T a2]]).length := by simp
  have hptl : st.length ≤ (s4 ++ [Cell.lst [T a1, T a2]]).length := gr_len g5 hS
  have hlt : (s4 ++ [Cell.lst [T a1, T a2]]).length < (s4 ++ [Cell.lst [T a1, T a2]] ++ [Cell.lst []]).length := by simp
  try simp only [wp_run, wp_bind, wp_ok, wp_bad, wpS_seq, Dn.wpS_set, wpS_ret, wpS_if, wpS_expr, wpS_skip, wpS_par, wpS_par3, wpS_asg, wpS_itemS, wpS_fldS, wpS_for, wpS_nx, wpS_rt, wpS_bk, wpS_ct, wpS_bad, wp_lc, wpS_never, thenK_nx, thenK_rt, thenK_bk, thenK_ct, outK_nx, outK_rt, turnK_nx, turnK_rt, turnK_bk, turnK_ct,
  wp_addI, wp_addS, wp_addT, wp_subI, wp_mulI, wp_mulS, wp_fdivI, wp_modI, wp_powI, ltD_int, leD_int, gtD_int, geD_int, eqV_int, eqV_str, wp_itemT, wp_itemR, wp_itemS, lenD_tup, lenD_rol, wp_lenS, intD_int, intD_bl, wp_intS, absD_int, minD_int, strD_str, wp_strI, wp_listS, truR_bl, sliceD_tup, sliceD_rol, wp_sliceS, wp_tup, wp_lst, wp_ifE, wp_andT, wp_orT, wp_notT, wp_appN, startsD_str,
  Dn.envOf, var, con, Dn.bin, app, consA, nilA, test, slice, noO, someO, List.map_cons, List.map_nil, List.cons_append, List.nil_append, List.replicate_succ, List.replicate_zero, List.length_cons, List.length_nil, List.getElem?_cons_zero, List.getElem?_cons_succ, List.set_cons_zero, List.set_cons_succ, List.append_nil,
  Nat.add_one_sub_one, Nat.reduceAdd, Nat.reduceSub, Nat.reduceLeDiff, Nat.sub_zero, Nat.zero_add, if_true, if_false, ite_true, ite_false, Bool.false_eq_true, reduceIte, Bool.not_true, Bool.not_false, Bool.not_eq_true', Nat.zero_le, true_and, and_true, decide_eq_true_eq, Nat.reduceEqDiff, Option.some.injEq, exists_eq_left', reduceCtorEq, atI_zero, atI_one, atI_two, List.set_cons_zero, List.set_cons_succ, wp_kdE, wp_kdAt, wp_fldE, wp_methE, wp_meth, wp_methRs, wp_star, wp_starT, wp_rng1, wp_rngAt, cut_tail, Option.map_some, SX.S_cat, SX.S_len, LIM]
  revert hca hct g6 hpt hptl hne5 hlt
  generalize (s4 ++ [Cell.lst [T a1, T a2]]).length = pt
  generalize s4 ++ [Cell.lst [T a1, T a2]] ++ [Cell.lst []] = s6
  revert hne4
  generalize s4.length = pa
  intro hne4 hne5 hca hct g6 hpt hptl hlt
  -- what stands all along
  let J : Nat → Store → Prop := fun most s => (∃ taps, cellL s pt = some taps ∧ (∀ d ∈ taps, TapOk d) ∧ taps.length ≤ most) ∧ cellL s pa = some [T a1, T a2] ∧ Gr n m st s ∧ pt < s.length
  have tnm : ∀ x ∈ ms, Tok' x := fun x hx => nm_tok (hm x hx)
  have tns : ∀ x ∈ ss, Tok' x := fun x hx => nm_tok (hs x hx)
  have hJ0 : J 0 s6 := ⟨⟨[], hct, (fun _ h => by cases h), Nat.le_refl _⟩, hca, g6, hlt⟩
  rw [wp_seqW]
  try simp only [wp_run, wp_bind, wp_ok, wp_bad, wpS_seq, Dn.wpS_set, wpS_ret, wpS_if, wpS_expr, wpS_skip, wpS_par, wpS_par3, wpS_asg, wpS_itemS, wpS_fldS, wpS_for, wpS_nx, wpS_rt, wpS_bk, wpS_ct, wpS_bad, wp_lc, wpS_never, thenK_nx, thenK_rt, thenK_bk, thenK_ct, outK_nx, outK_rt, turnK_nx, turnK_rt, turnK_bk, turnK_ct,
  wp_addI, wp_addS, wp_addT, wp_subI, wp_mulI, wp_mulS, wp_fdivI, wp_modI, wp_powI, ltD_int, leD_int, gtD_int, geD_int, eqV_int, eqV_str, wp_itemT, wp_itemR, wp_itemS, lenD_tup, lenD_rol, wp_lenS, intD_int, intD_bl, wp_intS, absD_int, minD_int, strD_str, wp_strI, wp_listS, truR_bl, sliceD_tup, sliceD_rol, wp_sliceS, wp_tup, wp_lst, wp_ifE, wp_andT, wp_orT, wp_notT, wp_appN, startsD_str,
  Dn.envOf, var, con, Dn.bin, app, consA, nilA, test, slice, noO, someO, List.map_cons, List.map_nil, List.cons_append, List.nil_append, List.replicate_succ, List.replicate_zero, List.length_cons, List.length_nil, List.getElem?_cons_zero, List.getElem?_cons_succ, List.set_cons_zero, List.set_cons_succ, List.append_nil,
  Nat.add_one_sub_one, Nat.reduceAdd, Nat.reduceSub, Nat.reduceLeDiff, Nat.sub_zero, Nat.zero_add, if_true, if_false, ite_true, ite_false, Bool.false_eq_true, reduceIte, Bool.not_true, Bool.not_false, Bool.not_eq_true', Nat.zero_le, true_and, and_true, decide_eq_true_eq, Nat.reduceEqDiff, Option.some.injEq, exists_eq_left', reduceCtorEq, atI_zero, atI_one, atI_two, List.set_cons_zero, List.set_cons_succ, wp_kdE, wp_kdAt, wp_fldE, wp_methE, wp_meth, wp_methRs, wp_star, wp_starT, wp_rng1, wp_rngAt, cut_tail, Option.map_some, SX.S_cat, SX.S_len, LIM, wp_seqAtT]
  refine wpS_forN (fun l r s => ∃ i o3 o7 o8 o9 o10, i + l.length = ms.length ∧ (∀ d ∈ l, ∃ x, d = T x ∧ Nm x) ∧ r = [some (.loc n), some (.int 2), some (.tup (ms.map T)), o3, some (.tup (ss.map T)), some (.loc pa), some (.loc pt), o7, o8, o9, o10] ∧ J (i * 20) s) (fun _ _ _ _ => oks_nil) ?_ ?_ _ _ _ ⟨0, _, none, none, none, none, by simp, fun d hd => by
      obtain ⟨x, hx, rfl⟩ := List.mem_map.mp hd
      exact ⟨x, rfl, hm x hx⟩, rfl, by simpa using hJ0⟩
  · rintro r s ⟨i, o3, o7, o8, o9, o10, h1, -, rfl, ⟨taps, k1, k2, k3⟩, k4, k5, k6⟩
    rw [List.length_nil] at h1
    try simp only [wp_run, wp_bind, wp_ok, wp_bad, wpS_seq, Dn.wpS_set, wpS_ret, wpS_if, wpS_expr, wpS_skip, wpS_par, wpS_par3, wpS_asg, wpS_itemS, wpS_fldS, wpS_for, wpS_nx, wpS_rt, wpS_bk, wpS_ct, wpS_bad, wp_lc, wpS_never, thenK_nx, thenK_rt, thenK_bk, thenK_ct, outK_nx, outK_rt, turnK_nx, turnK_rt, turnK_bk, turnK_ct,
  wp_addI, wp_addS, wp_addT, wp_subI, wp_mulI, wp_mulS, wp_fdivI, wp_modI, wp_powI, ltD_int, leD_int, gtD_int, geD_int, eqV_int, eqV_str, wp_itemT, wp_itemR, wp_itemS, lenD_tup, lenD_rol, wp_lenS, intD_int, intD_bl, wp_intS, absD_int, minD_int, strD_str, wp_strI, wp_listS, truR_bl, sliceD_tup, sliceD_rol, wp_sliceS, wp_tup, wp_lst, wp_ifE, wp_andT, wp_orT, wp_notT, wp_appN, startsD_str,
  Dn.envOf, var, con, Dn.bin, app, consA, nilA, test, slice, noO, someO, List.map_cons, List.map_nil, List.cons_append, List.nil_append, List.replicate_succ, List.replicate_zero, List.length_cons, List.length_nil, List.getElem?_cons_zero, List.getElem?_cons_succ, List.set_cons_zero, List.set_cons_succ, List.append_nil,
  Nat.add_one_sub_one, Nat.reduceAdd, Nat.reduceSub, Nat.reduceLeDiff, Nat.sub_zero, Nat.zero_add, if_true, if_false, ite_true, ite_false, Bool.false_eq_true, reduceIte, Bool.not_true, Bool.not_false, Bool.not_eq_true', Nat.zero_le, true_and, and_true, decide_eq_true_eq, Nat.reduceEqDiff, Option.some.injEq, exists_eq_left', reduceCtorEq, atI_zero, atI_one, atI_two, List.set_cons_zero, List.set_cons_succ, wp_kdE, wp_kdAt, wp_fldE, wp_methE, wp_meth, wp_methRs, wp_star, wp_starT, wp_rng1, wp_rngAt, cut_tail, Option.map_some, SX.S_cat, SX.S_len, LIM]
    refine wp_pickN k5.sp m0 (by omega) hm fun t1 s7 hn1 g7 => ?_
    have c7 := gr_cell g7 hne5.1 hne5.2 k1
    have g7 := k5.trans g7
    try simp only [wp_run, wp_bind, wp_ok, wp_bad, wpS_seq, Dn.wpS_set, wpS_ret, wpS_if, wpS_expr, wpS_skip, wpS_par, wpS_par3, wpS_asg, wpS_itemS, wpS_fldS, wpS_for, wpS_nx, wpS_rt, wpS_bk, wpS_ct, wpS_bad, wp_lc, wpS_never, thenK_nx, thenK_rt, thenK_bk, thenK_ct, outK_nx, outK_rt, turnK_nx, turnK_rt, turnK_bk, turnK_ct,
  wp_addI, wp_addS, wp_addT, wp_subI, wp_mulI, wp_mulS, wp_fdivI, wp_modI, wp_powI, ltD_int, leD_int, gtD_int, geD_int, eqV_int, eqV_str, wp_itemT, wp_itemR, wp_itemS, lenD_tup, lenD_rol, wp_lenS, intD_int, intD_bl, wp_intS, absD_int, minD_int, strD_str, wp_strI, wp_listS, truR_bl, sliceD_tup, sliceD_rol, wp_sliceS, wp_tup, wp_lst, wp_ifE, wp_andT, wp_orT, wp_notT, wp_appN, startsD_str,
  Dn.envOf, var, con, Dn.bin, app, consA, nilA, test, slice, noO, someO, List.map_cons, List.map_nil, List.cons_append, List.nil_append, List.replicate_succ, List.replicate_zero, List.length_cons, List.length_nil, List.getElem?_cons_zero, List.getElem?_cons_succ, List.set_cons_zero, List.set_cons_succ, List.append_nil,
  Nat.add_one_sub_one, Nat.reduceAdd, Nat.reduceSub, Nat.reduceLeDiff, Nat.sub_zero, Nat.zero_add, if_true, if_false, ite_true, ite_false, Bool.false_eq_true, reduceIte, Bool.not_true, Bool.not_false, Bool.not_eq_true', Nat.zero_le, true_and, and_true, decide_eq_true_eq, Nat.reduceEqDiff, Option.some.injEq, exists_eq_left', reduceCtorEq, atI_zero, atI_one, atI_two, List.set_cons_zero, List.set_cons_succ, wp_kdE, wp_kdAt, wp_fldE, wp_methE, wp_meth, wp_methRs, wp_star, wp_starT, wp_rng1, wp_rngAt, cut_tail, Option.map_some, SX.S_cat, SX.S_len, LIM]
    refine wp_pickN g7.sp s0 (by omega) hs fun t2 s8 hn2 g8 => ?_
    have c8 := gr_cell g8 hne5.1 hne5.2 c7
    have g8 := g7.trans g8
    try simp only [wp_run, wp_bind, wp_ok, wp_bad, wpS_seq, Dn.wpS_set, wpS_ret, wpS_if, wpS_expr, wpS_skip, wpS_par, wpS_par3, wpS_asg, wpS_itemS, wpS_fldS, wpS_for, wpS_nx, wpS_rt, wpS_bk, wpS_ct, wpS_bad, wp_lc, wpS_never, thenK_nx, thenK_rt, thenK_bk, thenK_ct, outK_nx, outK_rt, turnK_nx, turnK_rt, turnK_bk, turnK_ct,
  wp_addI, wp_addS, wp_addT, wp_subI, wp_mulI, wp_mulS, wp_fdivI, wp_modI, wp_powI, ltD_int, leD_int, gtD_int, geD_int, eqV_int, eqV_str, wp_itemT, wp_itemR, wp_itemS, lenD_tup, lenD_rol, wp_lenS, intD_int, intD_bl, wp_intS, absD_int, minD_int, strD_str, wp_strI, wp_listS, truR_bl, sliceD_tup, sliceD_rol, wp_sliceS, wp_tup, wp_lst, wp_ifE, wp_andT, wp_orT, wp_notT, wp_appN, startsD_str,
  Dn.envOf, var, con, Dn.bin, app, consA, nilA, test, slice, noO, someO, List.map_cons, List.map_nil, List.cons_append, List.nil_append, List.replicate_succ, List.replicate_zero, List.length_cons, List.length_nil, List.getElem?_cons_zero, List.getElem?_cons_succ, List.set_cons_zero, List.set_cons_succ, List.append_nil,
  Nat.add_one_sub_one, Nat.reduceAdd, Nat.reduceSub, Nat.reduceLeDiff, Nat.sub_zero, Nat.zero_add, if_true, if_false, ite_true, ite_false, Bool.false_eq_true, reduceIte, Bool.not_true, Bool.not_false, Bool.not_eq_true', Nat.zero_le, true_and, and_true, decide_eq_true_eq, Nat.reduceEqDiff, Option.some.injEq, exists_eq_left', reduceCtorEq, atI_zero, atI_one, atI_two, List.set_cons_zero, List.set_cons_succ, wp_kdE, wp_kdAt, wp_fldE, wp_methE, wp_meth, wp_methRs, wp_star, wp_starT, wp_rng1, wp_rngAt, cut_tail, Option.map_some, SX.S_cat, SX.S_len, LIM]
    refine wp_sorted c8 k2 (by omega) fun ds' => ?_
    rw [sliceD_loc (cellL_of get_last)]
    try simp only [wp_run, wp_bind, wp_ok, wp_bad, wpS_seq, Dn.wpS_set, wpS_ret, wpS_if, wpS_expr, wpS_skip, wpS_par, wpS_par3, wpS_asg, wpS_itemS, wpS_fldS, wpS_for, wpS_nx, wpS_rt, wpS_bk, wpS_ct, wpS_bad, wp_lc, wpS_never, thenK_nx, thenK_rt, thenK_bk, thenK_ct, outK_nx, outK_rt, turnK_nx, turnK_rt, turnK_bk, turnK_ct,
  wp_addI, wp_addS, wp_addT, wp_subI, wp_mulI, wp_mulS, wp_fdivI, wp_modI, wp_powI, ltD_int, leD_int, gtD_int, geD_int, eqV_int, eqV_str, wp_itemT, wp_itemR, wp_itemS, lenD_tup, lenD_rol, wp_lenS, intD_int, intD_bl, wp_intS, absD_int, minD_int, strD_str, wp_strI, wp_listS, truR_bl, sliceD_tup, sliceD_rol, wp_sliceS, wp_tup, wp_lst, wp_ifE, wp_andT, wp_orT, wp_notT, wp_appN, startsD_str,
  Dn.envOf, var, con, Dn.bin, app, consA, nilA, test, slice, noO, someO, List.map_cons, List.map_nil, List.cons_append, List.nil_append, List.replicate_succ, List.replicate_zero, List.length_cons, List.length_nil, List.getElem?_cons_zero, List.getElem?_cons_succ, List.set_cons_zero, List.set_cons_succ, List.append_nil,
  Nat.add_one_sub_one, Nat.reduceAdd, Nat.reduceSub, Nat.reduceLeDiff, Nat.sub_zero, Nat.zero_add, if_true, if_false, ite_true, ite_false, Bool.false_eq_true, reduceIte, Bool.not_true, Bool.not_false, Bool.not_eq_true', Nat.zero_le, true_and, and_true, decide_eq_true_eq, Nat.reduceEqDiff, Option.some.injEq, exists_eq_left', reduceCtorEq, atI_zero, atI_one, atI_two, List.set_cons_zero, List.set_cons_succ, wp_kdE, wp_kdAt, wp_fldE, wp_methE, wp_meth, wp_methRs, wp_star, wp_starT, wp_rng1, wp_rngAt, cut_tail, Option.map_some, SX.S_cat, SX.S_len, LIM]
    rw [tupleD_seq (x := .loc _) (seqD_loc.trans (cellL_of get_last))]
    try simp only [wp_run, wp_bind, wp_ok, wp_bad, wpS_seq, Dn.wpS_set, wpS_ret, wpS_if, wpS_expr, wpS_skip, wpS_par, wpS_par3, wpS_asg, wpS_itemS, wpS_fldS, wpS_for, wpS_nx, wpS_rt, wpS_bk, wpS_ct, wpS_bad, wp_lc, wpS_never, thenK_nx, thenK_rt, thenK_bk, thenK_ct, outK_nx, outK_rt, turnK_nx, turnK_rt, turnK_bk, turnK_ct,
  wp_addI, wp_addS, wp_addT, wp_subI, wp_mulI, wp_mulS, wp_fdivI, wp_modI, wp_powI, ltD_int, leD_int, gtD_int, geD_int, eqV_int, eqV_str, wp_itemT, wp_itemR, wp_itemS, lenD_tup, lenD_rol, wp_lenS, intD_int, intD_bl, wp_intS, absD_int, minD_int, strD_str, wp_strI, wp_listS, truR_bl, sliceD_tup, sliceD_rol, wp_sliceS, wp_tup, wp_lst, wp_ifE, wp_andT, wp_orT, wp_notT, wp_appN, startsD_str,
  Dn.envOf, var, con, Dn.bin, app, consA, nilA, test, slice, noO, someO, List.map_cons, List.map_nil, List.cons_append, List.nil_append, List.replicate_succ, List.replicate_zero, List.length_cons, List.length_nil, List.getElem?_cons_zero, List.getElem?_cons_succ, List.set_cons_zero, List.set_cons_succ, List.append_nil,
  Nat.add_one_sub_one, Nat.reduceAdd, Nat.reduceSub, Nat.reduceLeDiff, Nat.sub_zero, Nat.zero_add, if_true, if_false, ite_true, ite_false, Bool.false_eq_true, reduceIte, Bool.not_true, Bool.not_false, Bool.not_eq_true', Nat.zero_le, true_and, and_true, decide_eq_true_eq, Nat.reduceEqDiff, Option.some.injEq, exists_eq_left', reduceCtorEq, atI_zero, atI_one, atI_two, List.set_cons_zero, List.set_cons_succ, wp_kdE, wp_kdAt, wp_fldE, wp_methE, wp_meth, wp_methRs, wp_star, wp_starT, wp_rng1, wp_rngAt, cut_tail, Option.map_some, SX.S_cat, SX.S_len, LIM]
    exact h _ _ ⟨_, _, _, ms, ss, rfl, m0, s0, by omega, by omega, hm, hs⟩ (gr_push (gr_push g8))
  · rintro d l r s ⟨i, o3, o7, o8, o9, o10, h1, hl, rfl, hJ⟩
    obtain ⟨t3, rfl, hn3⟩ := hl d List.mem_cons_self
    refine ⟨_, rfl, ?_⟩
    rw [wpS_for, wp_seqW]
    try simp only [wp_run, wp_bind, wp_ok, wp_bad, wpS_seq, Dn.wpS_set, wpS_ret, wpS_if, wpS_expr, wpS_skip, wpS_par, wpS_par3, wpS_asg, wpS_itemS, wpS_fldS, wpS_for, wpS_nx, wpS_rt, wpS_bk, wpS_ct, wpS_bad, wp_lc, wpS_never, thenK_nx, thenK_rt, thenK_bk, thenK_ct, outK_nx, outK_rt, turnK_nx, turnK_rt, turnK_bk, turnK_ct,
  wp_addI, wp_addS, wp_addT, wp_subI, wp_mulI, wp_mulS, wp_fdivI, wp_modI, wp_powI, ltD_int, leD_int, gtD_int, geD_int, eqV_int, eqV_str, wp_itemT, wp_itemR, wp_itemS, lenD_tup, lenD_rol, wp_lenS, intD_int, intD_bl, wp_intS, absD_int, minD_int, strD_str, wp_strI, wp_listS, truR_bl, sliceD_tup, sliceD_rol, wp_sliceS, wp_tup, wp_lst, wp_ifE, wp_andT, wp_orT, wp_notT, wp_appN, startsD_str,
  Dn.envOf, var, con, Dn.bin, app, consA, nilA, test, slice, noO, someO, List.map_cons, List.map_nil, List.cons_append, List.nil_append, List.replicate_succ, List.replicate_zero, List.length_cons, List.length_nil, List.getElem?_cons_zero, List.getElem?_cons_succ, List.set_cons_zero, List.set_cons_succ, List.append_nil,
  Nat.add_one_sub_one, Nat.reduceAdd, Nat.reduceSub, Nat.reduceLeDiff, Nat.sub_zero, Nat.zero_add, if_true, if_false, ite_true, ite_false, Bool.false_eq_true, reduceIte, Bool.not_true, Bool.not_false, Bool.not_eq_true', Nat.zero_le, true_and, and_true, decide_eq_true_eq, Nat.reduceEqDiff, Option.some.injEq, exists_eq_left', reduceCtorEq, atI_zero, atI_one, atI_two, List.set_cons_zero, List.set_cons_succ, wp_kdE, wp_kdAt, wp_fldE, wp_methE, wp_meth, wp_methRs, wp_star, wp_starT, wp_rng1, wp_rngAt, cut_tail, Option.map_some, SX.S_cat, SX.S_len, LIM, wp_seqAtT]
    rw [List.length_cons] at h1
    refine wpS_forN (fun l2 r s => ∃ i2 o3 o8 o9 o10, i2 + l2.length = ss.length ∧ (∀ d ∈ l2, ∃ x, d = T x ∧ Nm x) ∧ r = [some (.loc n), some (.int 2), some (.tup (ms.map T)), o3, some (.tup (ss.map T)), some (.loc pa), some (.loc pt), some (T t3), o8, o9, o10] ∧ J (i * 20 + i2 * 5) s) (fun _ _ _ _ => oks_nil) ?_ ?_ _ _ _ ⟨0, _, _, _, _, by simp, fun d hd => by
        obtain ⟨x, hx, rfl⟩ := List.mem_map.mp hd
        exact ⟨x, rfl, hs x hx⟩, rfl, by simpa using hJ⟩
    · rintro r s ⟨i2, o3, o8, o9, o10, h2, -, rfl, ⟨taps, k1, k2, k3⟩, k4⟩
      rw [List.length_nil] at h2
      exact ⟨i + 1, _, _, _, _, _, by omega, fun d hd => hl d (List.mem_cons_of_mem _ hd), rfl, ⟨taps, k1, k2, by omega⟩, k4⟩
    · rintro d l2 r s ⟨i2, o3, o8, o9, o10, h2, hl2, rfl, hJ⟩
      obtain ⟨t4, rfl, hn4⟩ := hl2 d List.mem_cons_self
      refine ⟨_, rfl, ?_⟩
      rw [List.length_cons] at h2
      obtain ⟨⟨taps, k1, k2, k3⟩, k4, k5, k6⟩ := hJ
      rw [wpS_for, wp_seqW]
      try simp only [wp_run, wp_bind, wp_ok, wp_bad, wpS_seq, Dn.wpS_set, wpS_ret, wpS_if, wpS_expr, wpS_skip, wpS_par, wpS_par3, wpS_asg, wpS_itemS, wpS_fldS, wpS_for, wpS_nx, wpS_rt, wpS_bk, wpS_ct, wpS_bad, wp_lc, wpS_never, thenK_nx, thenK_rt, thenK_bk, thenK_ct, outK_nx, outK_rt, turnK_nx, turnK_rt, turnK_bk, turnK_ct,
  wp_addI, wp_addS, wp_addT, wp_subI, wp_mulI, wp_mulS, wp_fdivI, wp_modI, wp_powI, ltD_int, leD_int, gtD_int, geD_int, eqV_int, eqV_str, wp_itemT, wp_itemR, wp_itemS, lenD_tup, lenD_rol, wp_lenS, intD_int, intD_bl, wp_intS, absD_int, minD_int, strD_str, wp_strI, wp_listS, truR_bl, sliceD_tup, sliceD_rol, wp_sliceS, wp_tup, wp_lst, wp_ifE, wp_andT, wp_orT, wp_notT, wp_appN, startsD_str,
  Dn.envOf, var, con, Dn.bin, app, consA, nilA, test, slice, noO, someO, List.map_cons, List.map_nil, List.cons_append, List.nil_append, List.replicate_succ, List.replicate_zero, List.length_cons, List.length_nil, List.getElem?_cons_zero, List.getElem?_cons_succ, List.set_cons_zero, List.set_cons_succ, List.append_nil,
  Nat.add_one_sub_one, Nat.reduceAdd, Nat.reduceSub, Nat.reduceLeDiff, Nat.sub_zero, Nat.zero_add, if_true, if_false, ite_true, ite_false, Bool.false_eq_true, reduceIte, Bool.not_true, Bool.not_false, Bool.not_eq_true', Nat.zero_le, true_and, and_true, decide_eq_true_eq, Nat.reduceEqDiff, Option.some.injEq, exists_eq_left', reduceCtorEq, atI_zero, atI_one, atI_two, List.set_cons_zero, List.set_cons_succ, wp_kdE, wp_kdAt, wp_fldE, wp_methE, wp_meth, wp_methRs, wp_star, wp_starT, wp_rng1, wp_rngAt, cut_tail, Option.map_some, SX.S_cat, SX.S_len, LIM]
      refine wp_drop (k5.sp.push _) (by omega) (by omega) fun w s7 w0 w1 g7 => ?_
      have hneq := k5.sp.ne_len
      have hb : cellL s7 s.length = some [D.str "back", D.str "go", D.str "more", D.str "x", D.str "zzzzzzzz"] := gr_cell g7 hneq.1 hneq.2 (cellL_of get_last)
      have k1 := gr_cell g7 hne5.1 hne5.2 (cellL_of (get_app (cellL_some k1)))
      have k4 := gr_cell g7 hne4.1 hne4.2 (cellL_of (get_app (cellL_some k4)))
      have g7 := (gr_push k5).trans g7
      have k6 : pt < s7.length := (List.getElem?_eq_some_iff.mp (cellL_some k1)).1
      try simp only [wp_run, wp_bind, wp_ok, wp_bad, wpS_seq, Dn.wpS_set, wpS_ret, wpS_if, wpS_expr, wpS_skip, wpS_par, wpS_par3, wpS_asg, wpS_itemS, wpS_fldS, wpS_for, wpS_nx, wpS_rt, wpS_bk, wpS_ct, wpS_bad, wp_lc, wpS_never, thenK_nx, thenK_rt, thenK_bk, thenK_ct, outK_nx, outK_rt, turnK_nx, turnK_rt, turnK_bk, turnK_ct,
  wp_addI, wp_addS, wp_addT, wp_subI, wp_mulI, wp_mulS, wp_fdivI, wp_modI, wp_powI, ltD_int, leD_int, gtD_int, geD_int, eqV_int, eqV_str, wp_itemT, wp_itemR, wp_itemS, lenD_tup, lenD_rol, wp_lenS, intD_int, intD_bl, wp_intS, absD_int, minD_int, strD_str, wp_strI, wp_listS, truR_bl, sliceD_tup, sliceD_rol, wp_sliceS, wp_tup, wp_lst, wp_ifE, wp_andT, wp_orT, wp_notT, wp_appN, startsD_str,
  Dn.envOf, var, con, Dn.bin, app, consA, nilA, test, slice, noO, someO, List.map_cons, List.map_nil, List.cons_append, List.nil_append, List.replicate_succ, List.replicate_zero, List.length_cons, List.length_nil, List.getElem?_cons_zero, List.getElem?_cons_succ, List.set_cons_zero, List.set_cons_succ, List.append_nil,
  Nat.add_one_sub_one, Nat.reduceAdd, Nat.reduceSub, Nat.reduceLeDiff, Nat.sub_zero, Nat.zero_add, if_true, if_false, ite_true, ite_false, Bool.false_eq_true, reduceIte, Bool.not_true, Bool.not_false, Bool.not_eq_true', Nat.zero_le, true_and, and_true, decide_eq_true_eq, Nat.reduceEqDiff, Option.some.injEq, exists_eq_left', reduceCtorEq, atI_zero, atI_one, atI_two, List.set_cons_zero, List.set_cons_succ, wp_kdE, wp_kdAt, wp_fldE, wp_methE, wp_meth, wp_methRs, wp_star, wp_starT, wp_rng1, wp_rngAt, cut_tail, Option.map_some, SX.S_cat, SX.S_len, LIM]
      rw [sliceD_loc hb]
      try simp only [wp_run, wp_bind, wp_ok, wp_bad, wpS_seq, Dn.wpS_set, wpS_ret, wpS_if, wpS_expr, wpS_skip, wpS_par, wpS_par3, wpS_asg, wpS_itemS, wpS_fldS, wpS_for, wpS_nx, wpS_rt, wpS_bk, wpS_ct, wpS_bad, wp_lc, wpS_never, thenK_nx, thenK_rt, thenK_bk, thenK_ct, outK_nx, outK_rt, turnK_nx, turnK_rt, turnK_bk, turnK_ct,
  wp_addI, wp_addS, wp_addT, wp_subI, wp_mulI, wp_mulS, wp_fdivI, wp_modI, wp_powI, ltD_int, leD_int, gtD_int, geD_int, eqV_int, eqV_str, wp_itemT, wp_itemR, wp_itemS, lenD_tup, lenD_rol, wp_lenS, intD_int, intD_bl, wp_intS, absD_int, minD_int, strD_str, wp_strI, wp_listS, truR_bl, sliceD_tup, sliceD_rol, wp_sliceS, wp_tup, wp_lst, wp_ifE, wp_andT, wp_orT, wp_notT, wp_appN, startsD_str,
  Dn.envOf, var, con, Dn.bin, app, consA, nilA, test, slice, noO, someO, List.map_cons, List.map_nil, List.cons_append, List.nil_append, List.replicate_succ, List.replicate_zero, List.length_cons, List.length_nil, List.getElem?_cons_zero, List.getElem?_cons_succ, List.set_cons_zero, List.set_cons_succ, List.append_nil,
  Nat.add_one_sub_one, Nat.reduceAdd, Nat.reduceSub, Nat.reduceLeDiff, Nat.sub_zero, Nat.zero_add, if_true, if_false, ite_true, ite_false, Bool.false_eq_true, reduceIte, Bool.not_true, Bool.not_false, Bool.not_eq_true', Nat.zero_le, true_and, and_true, decide_eq_true_eq, Nat.reduceEqDiff, Option.some.injEq, exists_eq_left', reduceCtorEq, atI_zero, atI_one, atI_two, List.set_cons_zero, List.set_cons_succ, wp_kdE, wp_kdAt, wp_fldE, wp_methE, wp_meth, wp_methRs, wp_star, wp_starT, wp_rng1, wp_rngAt, cut_tail, Option.map_some, SX.S_cat, SX.S_len, LIM]
      rw [wp_seqAtL (cellL_of get_last)]
      have hcut : ∀ d ∈ cut [D.str "back", D.str "go", D.str "more", D.str "x", D.str "zzzzzzzz"] none (some w), ∃ x, d = T x ∧ Nm x := fun d hd => by
        have hd := List.mem_of_mem_drop (List.mem_of_mem_take hd)
        simp only [List.mem_cons, List.not_mem_nil, or_false] at hd
        rcases hd with rfl | rfl | rfl | rfl | rfl
        · exact ⟨[98, 97, 99, 107], rfl, nm_lit rfl⟩
        · exact ⟨[103, 111], rfl, nm_lit rfl⟩
        · exact ⟨[109, 111, 114, 101], rfl, nm_lit rfl⟩
        · exact ⟨[120], rfl, nm_lit rfl⟩
        · exact ⟨[122, 122, 122, 122, 122, 122, 122, 122], rfl, nm_lit rfl⟩
      have hcl : (cut [D.str "back", D.str "go", D.str "more", D.str "x", D.str "zzzzzzzz"] none (some w)).length ≤ 5 := by
        unfold cut
        rw [List.length_take, List.length_drop]
        simp only [List.length_cons, List.length_nil]
        omega
      revert hcut hcl
      generalize cut [D.str "back", D.str "go", D.str "more", D.str "x", D.str "zzzzzzzz"] none (some w) = cc
      intro hcut hcl
      refine wpS_forN (fun l3 r s => ∃ i3 o3 o9 o10, i3 + l3.length = cc.length ∧ (∀ d ∈ l3, ∃ x, d = T x ∧ Nm x) ∧ r = [some (.loc n), some (.int 2), some (.tup (ms.map T)), o3, some (.tup (ss.map T)), some (.loc pa), some (.loc pt), some (T t3), some (T t4), o9, o10] ∧ J (i * 20 + i2 * 5 + i3) s ∧ cellL s s7.length = some cc) (fun _ _ s hI => ?_) ?_ ?_ _ _ _ ⟨0, _, _, _, by simp, hcut, rfl, ⟨⟨taps, cellL_of (get_app (cellL_some k1)), k2, by omega⟩, cellL_of (get_app (cellL_some k4)), gr_push g7, by simp; omega⟩, cellL_of get_last⟩
      · obtain ⟨_, _, _, _, _, _, _, _, h5⟩ := hI
        intro p hp
        rw [List.mem_singleton.mp hp]
        exact cellL_some h5
      · rintro r s ⟨i3, o3, o9, o10, h3, -, rfl, ⟨⟨taps, k1, k2, k3⟩, k4⟩, -⟩
        rw [List.length_nil] at h3
        exact ⟨i2 + 1, _, _, _, _, by omega, fun d hd => hl2 d (List.mem_cons_of_mem _ hd), rfl, ⟨taps, k1, k2, by omega⟩, k4⟩
      · rintro d l3 r s ⟨i3, o3, o9, o10, h3, hl3, rfl, ⟨⟨taps, k1, k2, k3⟩, k4, k5, k6⟩, hcc⟩
        obtain ⟨t5, rfl, hn5⟩ := hl3 d List.mem_cons_self
        refine ⟨_, rfl, ?_⟩
        rw [List.length_cons] at h3
        have hne7 := g7.sp.ne_len
        simp only [wp_run, wp_bind, wp_ok, wp_bad, wpS_seq, Dn.wpS_set, wpS_ret, wpS_if, wpS_expr, wpS_skip, wpS_par, wpS_par3, wpS_asg, wpS_itemS, wpS_fldS, wpS_for, wpS_nx, wpS_rt, wpS_bk, wpS_ct, wpS_bad, wp_lc, wpS_never, thenK_nx, thenK_rt, thenK_bk, thenK_ct, outK_nx, outK_rt, turnK_nx, turnK_rt, turnK_bk, turnK_ct,
  wp_addI, wp_addS, wp_addT, wp_subI, wp_mulI, wp_mulS, wp_fdivI, wp_modI, wp_powI, ltD_int, leD_int, gtD_int, geD_int, eqV_int, eqV_str, wp_itemT, wp_itemR, wp_itemS, lenD_tup, lenD_rol, wp_lenS, intD_int, intD_bl, wp_intS, absD_int, minD_int, strD_str, wp_strI, wp_listS, truR_bl, sliceD_tup, sliceD_rol, wp_sliceS, wp_tup, wp_lst, wp_ifE, wp_andT, wp_orT, wp_notT, wp_appN, startsD_str,
  Dn.envOf, var, con, Dn.bin, app, consA, nilA, test, slice, noO, someO, List.map_cons, List.map_nil, List.cons_append, List.nil_append, List.replicate_succ, List.replicate_zero, List.length_cons, List.length_nil, List.getElem?_cons_zero, List.getElem?_cons_succ, List.set_cons_zero, List.set_cons_succ, List.append_nil,
  Nat.add_one_sub_one, Nat.reduceAdd, Nat.reduceSub, Nat.reduceLeDiff, Nat.sub_zero, Nat.zero_add, if_true, if_false, ite_true, ite_false, Bool.false_eq_true, reduceIte, Bool.not_true, Bool.not_false, Bool.not_eq_true', Nat.zero_le, true_and, and_true, decide_eq_true_eq, Nat.reduceEqDiff, Option.some.injEq, exists_eq_left', reduceCtorEq, atI_zero, atI_one, atI_two, List.set_cons_zero, List.set_cons_succ, wp_kdE, wp_kdAt, wp_fldE, wp_methE, wp_meth, wp_methRs, wp_star, wp_starT, wp_rng1, wp_rngAt, cut_tail, Option.map_some, SX.S_cat, SX.S_len, LIM, wp_methRl k1]
        refine wp_act k5.sp s0 (by omega) hs hne4.1 hne4.2 k4 ha1 ha2 fun act s8 hact g8 => ?_
        have k1 := gr_cell g8 hne5.1 hne5.2 k1
        have k4 := gr_cell g8 hne4.1 hne4.2 k4
        have hcc := gr_cell g8 hne7.1 hne7.2 hcc
        have k5 := k5.trans g8
        try simp only [wp_run, wp_bind, wp_ok, wp_bad, wpS_seq, Dn.wpS_set, wpS_ret, wpS_if, wpS_expr, wpS_skip, wpS_par, wpS_par3, wpS_asg, wpS_itemS, wpS_fldS, wpS_for, wpS_nx, wpS_rt, wpS_bk, wpS_ct, wpS_bad, wp_lc, wpS_never, thenK_nx, thenK_rt, thenK_bk, thenK_ct, outK_nx, outK_rt, turnK_nx, turnK_rt, turnK_bk, turnK_ct,
  wp_addI, wp_addS, wp_addT, wp_subI, wp_mulI, wp_mulS, wp_fdivI, wp_modI, wp_powI, ltD_int, leD_int, gtD_int, geD_int, eqV_int, eqV_str, wp_itemT, wp_itemR, wp_itemS, lenD_tup, lenD_rol, wp_lenS, intD_int, intD_bl, wp_intS, absD_int, minD_int, strD_str, wp_strI, wp_listS, truR_bl, sliceD_tup, sliceD_rol, wp_sliceS, wp_tup, wp_lst, wp_ifE, wp_andT, wp_orT, wp_notT, wp_appN, startsD_str,
  Dn.envOf, var, con, Dn.bin, app, consA, nilA, test, slice, noO, someO, List.map_cons, List.map_nil, List.cons_append, List.nil_append, List.replicate_succ, List.replicate_zero, List.length_cons, List.length_nil, List.getElem?_cons_zero, List.getElem?_cons_succ, List.set_cons_zero, List.set_cons_succ, List.append_nil,
  Nat.add_one_sub_one, Nat.reduceAdd, Nat.reduceSub, Nat.reduceLeDiff, Nat.sub_zero, Nat.zero_add, if_true, if_false, ite_true, ite_false, Bool.false_eq_true, reduceIte, Bool.not_true, Bool.not_false, Bool.not_eq_true', Nat.zero_le, true_and, and_true, decide_eq_true_eq, Nat.reduceEqDiff, Option.some.injEq, exists_eq_left', reduceCtorEq, atI_zero, atI_one, atI_two, List.set_cons_zero, List.set_cons_succ, wp_kdE, wp_kdAt, wp_fldE, wp_methE, wp_meth, wp_methRs, wp_star, wp_starT, wp_rng1, wp_rngAt, cut_tail, Option.map_some, SX.S_cat, SX.S_len, LIM, e_pick]
        refine wp_pickN k5.sp m0 (by omega) hm fun t6 s9 hn6 g9 => ?_
        have k1 := gr_cell g9 hne5.1 hne5.2 k1
        have k4 := gr_cell g9 hne4.1 hne4.2 k4
        have hcc := gr_cell g9 hne7.1 hne7.2 hcc
        have k5 := k5.trans g9
        try simp only [wp_run, wp_bind, wp_ok, wp_bad, wpS_seq, Dn.wpS_set, wpS_ret, wpS_if, wpS_expr, wpS_skip, wpS_par, wpS_par3, wpS_asg, wpS_itemS, wpS_fldS, wpS_for, wpS_nx, wpS_rt, wpS_bk, wpS_ct, wpS_bad, wp_lc, wpS_never, thenK_nx, thenK_rt, thenK_bk, thenK_ct, outK_nx, outK_rt, turnK_nx, turnK_rt, turnK_bk, turnK_ct,
  wp_addI, wp_addS, wp_addT, wp_subI, wp_mulI, wp_mulS, wp_fdivI, wp_modI, wp_powI, ltD_int, leD_int, gtD_int, geD_int, eqV_int, eqV_str, wp_itemT, wp_itemR, wp_itemS, lenD_tup, lenD_rol, wp_lenS, intD_int, intD_bl, wp_intS, absD_int, minD_int, strD_str, wp_strI, wp_listS, truR_bl, sliceD_tup, sliceD_rol, wp_sliceS, wp_tup, wp_lst, wp_ifE, wp_andT, wp_orT, wp_notT, wp_appN, startsD_str,
  Dn.envOf, var, con, Dn.bin, app, consA, nilA, test, slice, noO, someO, List.map_cons, List.map_nil, List.cons_append, List.nil_append, List.replicate_succ, List.replicate_zero, List.length_cons, List.length_nil, List.getElem?_cons_zero, List.getElem?_cons_succ, List.set_cons_zero, List.set_cons_succ, List.append_nil,
  Nat.add_one_sub_one, Nat.reduceAdd, Nat.reduceSub, Nat.reduceLeDiff, Nat.sub_zero, Nat.zero_add, if_true, if_false, ite_true, ite_false, Bool.false_eq_true, reduceIte, Bool.not_true, Bool.not_false, Bool.not_eq_true', Nat.zero_le, true_and, and_true, decide_eq_true_eq, Nat.reduceEqDiff, Option.some.injEq, exists_eq_left', reduceCtorEq, atI_zero, atI_one, atI_two, List.set_cons_zero, List.set_cons_succ, wp_kdE, wp_kdAt, wp_fldE, wp_methE, wp_meth, wp_methRs, wp_star, wp_starT, wp_rng1, wp_rngAt, cut_tail, Option.map_some, SX.S_cat, SX.S_len, LIM]
        rw [wp_append k1]
        refine ⟨by show _ < 4000000; omega, i3 + 1, _, _, _, by omega, fun d hd => hl3 d (List.mem_cons_of_mem _ hd), rfl, ⟨⟨_, cellL_of (set_get (cellL_some k1)), fun d hd => ?_, by simp; omega⟩, ?_, gr_set k5 hptl hS, by simpa using (List.getElem?_eq_some_iff.mp (cellL_some k1)).1⟩, ?_⟩
        · rcases List.mem_append.mp hd with e | e
          · exact k2 d e
          · rw [List.mem_singleton.mp e]
            exact ⟨t5, t3, t4, t6, act, rfl, nm_tok hn5, nm_tok hn3, nm_tok hn4, nm_tok hn6, hact⟩
        · refine cellL_of ?_
          rw [List.getElem?_set_ne (Ne.symm hpt)]
          exact cellL_some k4
        · refine cellL_of ?_
          rw [List.getElem?_set_ne (by omega)]
          exact cellL_some hcc
end
end T91


set_option Elab.async false
set_option linter.all false
set_option maxRecDepth 100000
set_option maxHeartbeats 4000000
set_option autoImplicit false
namespace T91
open PySem Dn
/-! ### repr -/
def PyS (k W : Nat) (d : D) : Prop := ∃ q : PyData, (∀ st n, k < n → pyD st n d = some q) ∧ q.showable = true ∧ q.hasDict = false ∧ q.depth ≤ k ∧ q.leavesShort 13 = true ∧ q.weight ≤ W ∧ Tok' q.shown.cps.toList
theorem PyS.mono {k j W V : Nat} {d : D} (h : PyS k W d) (hk : k ≤ j) (hW : W ≤ V) : PyS j V d := by
  obtain ⟨q, h1, h2, h3, h4, h5, h6, h7⟩ := h
  exact ⟨q, fun st n hn => h1 st n (by omega), h2, h3, by omega, h5, by omega, h7⟩
theorem char_tok (c : Char) : c.toNat < 1114112 := by
  have h : c.val.toNat < 55296 ∨ (57343 < c.val.toNat ∧ c.val.toNat < 1114112) := c.valid
  show c.val.toNat < 1114112
  omega
theorem digs_tok {l : List Char} : Tok' (l.map Char.toNat) := fun c hc => by
  obtain ⟨x, -, rfl⟩ := List.mem_map.mp hc
  exact char_tok x
theorem rep_tok {n : Nat} : Tok' (List.replicate n 48) := fun c hc => by
  rw [List.eq_of_mem_replicate hc]
  decide
theorem reprChar_tok {q c : Nat} (h : c < 1114112) : Tok' (Builtin.Str.reprChar q c) := by
  unfold Builtin.Str.reprChar
  dsimp only
  repeat' split
  · exact tok_cons (by decide) (tok_cons h (tok_lit rfl))
  · exact tok_lit rfl
  · exact tok_lit rfl
  · exact tok_lit rfl
  · exact tok_cons h (tok_lit rfl)
  · exact tok_app (tok_lit rfl) (tok_app rep_tok digs_tok)
  · exact tok_app (tok_lit rfl) (tok_app rep_tok digs_tok)
  · exact tok_app (tok_lit rfl) (tok_app rep_tok digs_tok)
theorem fold_tok {q : Nat} : ∀ (l : List Nat) (acc : Array Nat), Tok' l → Tok' acc.toList → Tok' (l.foldl (fun out c => out ++ (Builtin.Str.reprChar q c).toArray) acc).toList
  | [], acc, _, h => h
  | c :: r, acc, h, ha => by
    rw [List.foldl_cons]
    refine fold_tok r _ (fun x hx => h x (List.mem_cons_of_mem _ hx)) ?_
    rw [Array.toList_append, List.toList_toArray]
    exact tok_app ha (reprChar_tok (h c List.mem_cons_self))
theorem reprText_tok {l : List Nat} (h : Tok' l) : Tok' (reprText (SX.S l)).cps.toList := by
  have hq : reprQuote (SX.S l) < 1114112 := by
    unfold reprQuote
    split <;> decide
  show Tok' ((((SX.S l).cps.foldl (fun out c => out ++ (Builtin.Str.reprChar (reprQuote (SX.S l)) c).toArray) #[reprQuote (SX.S l)]).push (reprQuote (SX.S l)))).toList
  rw [Array.toList_push, ← Array.foldl_toList]
  exact tok_app (fold_tok _ _ h (tok_cons hq (tok_lit rfl))) (tok_cons hq (tok_lit rfl))
theorem pyS_T {l : List Nat} (h : Tok' l) : PyS 0 l.length (T l) := by
  refine ⟨.str (SX.S l), fun st n hn => ?_, by simp [PyData.showable], by simp [PyData.hasDict], by simp [PyData.depth], ?_, ?_, ?_⟩
  · obtain ⟨m, rfl⟩ : ∃ m, n = m + 1 := ⟨n - 1, by omega⟩
    rw [pyD]
  · simp only [PyData.leavesShort, List.all_eq_true, decide_eq_true_eq]
    intro c hc
    have := h c hc
    omega
  · simp [PyData.weight]
  · rw [PyData.shown]
    exact reprText_tok h
theorem pyS_num {n : Nat} (h : n < 10 ^ 9) : PyS 0 40 (.int (n : Nat)) := by
  refine ⟨.int (n : Nat), fun st k hn => ?_, ?_, by simp [PyData.hasDict], by simp [PyData.depth], ?_, ?_, ?_⟩
  · obtain ⟨m, rfl⟩ : ∃ m, k = m + 1 := ⟨k - 1, by omega⟩
    rw [pyD]
  · simp only [PyData.showable, decide_eq_true_eq]
    have e : ((n : Int)).natAbs = n := rfl
    rw [e]
    by_cases h0 : n = 0
    · subst h0
      decide
    · exact Nat.lt_trans ((Nat.log2_lt h0).mpr (show n < 2 ^ 30 by omega)) (by decide)
  · have e := PyData.shown_int_le (i := (n : Int)) (by show n < 10 ^ 12; omega)
    simp only [PyData.leavesShort, decide_eq_true_eq]
    exact e
  · rw [PyData.weight]
    split
    · omega
    · have e : ((n : Int)).natAbs = n := rfl
      rw [e]
      have hn0 : n ≠ 0 := by
        intro z
        subst z
        simp_all
      have := (Nat.log2_lt hn0).mpr (show n < 2 ^ 30 by omega)
      omega
  · rw [PyData.shown]
    have e : Str.ofString (toString ((n : Nat) : Int)) = SX.S (TL.numL n) := numS n
    show Tok' (Str.ofString (toString ((n : Nat) : Int))).cps.toList
    rw [e]
    exact num_tok n
theorem pyS_all {k : Nat} : ∀ {ds : List D} {Ws : List Nat}, ds.length = Ws.length → (∀ (i : Nat) (d : D) (W : Nat), ds[i]? = some d → Ws[i]? = some W → PyS k W d) → ∃ qs : List PyData, (∀ st n, k < n → pyDs st n ds = some qs) ∧ PyData.showableAll qs = true ∧ PyData.hasDictAll qs = false ∧ PyData.depthAll qs ≤ k ∧ PyData.leavesShortAll 13 qs = true ∧
    PyData.weightAll qs ≤ Ws.sum + Ws.length ∧ (∀ x ∈ PyData.shownAll qs, Tok' x.cps.toList)
  | [], [], _, _ => ⟨[], fun _ _ _ => by simp [pyDs], by simp [PyData.showableAll], by simp [PyData.hasDictAll], by simp [PyData.depthAll], by simp [PyData.leavesShortAll], by simp [PyData.weightAll], by simp [PyData.shownAll]⟩
  | d :: ds, W :: Ws, hl, h => by
    obtain ⟨q, h1, h2, h3, h4, h5, h6, h7⟩ := h 0 d W rfl rfl
    obtain ⟨qs, k1, k2, k3, k4, k5, k6, k7⟩ := pyS_all (ds := ds) (Ws := Ws) (by simpa using hl) fun i d W a b => h (i + 1) d W (by simpa using a) (by simpa using b)
    refine ⟨q :: qs, fun st n hn => ?_, ?_, ?_, ?_, ?_, ?_, ?_⟩
    · rw [pyDs, h1 st n hn, k1 st n hn]
    · simp [PyData.showableAll, h2, k2]
    · simp [PyData.hasDictAll, h3, k3]
    · simp only [PyData.depthAll]
      omega
    · simp [PyData.leavesShortAll, h5, k5]
    · simp only [PyData.weightAll, List.sum_cons, List.length_cons]
      omega
    · intro x hx
      simp only [PyData.shownAll, List.mem_cons] at hx
      rcases hx with rfl | hx
      · exact h7
      · exact k7 x hx
theorem tupleText_tok {ts : List Str} (h : ∀ x ∈ ts, Tok' x.cps.toList) : Tok' (tupleText ts).cps.toList := by
  unfold tupleText
  show Tok' (TL.tl (("(" : Str) ++ Str.join ", " ts ++ (if ts.length == 1 then ",)" else ")" : String)))
  rw [TL.tl_append, TL.tl_append, TL.tl_join]
  refine tok_app (tok_app (tok_lit rfl) (joinL_tok (tok_lit rfl) fun x hx => ?_)) ?_
  · obtain ⟨y, hy, rfl⟩ := List.mem_map.mp hx
    exact h y hy
  · split <;> exact tok_lit rfl
theorem pyS_tup {k : Nat} {ds : List D} {Ws : List Nat} (hl : ds.length = Ws.length) (h : ∀ (i : Nat) (d : D) (W : Nat), ds[i]? = some d → Ws[i]? = some W → PyS k W d) : PyS (k + 1) (Ws.sum + Ws.length) (.tup ds) := by
  obtain ⟨qs, h1, h2, h3, h4, h5, h6, h7⟩ := pyS_all hl h
  refine ⟨.tuple qs, fun st n hn => ?_, ?_, ?_, ?_, ?_, ?_, ?_⟩
  · obtain ⟨m, rfl⟩ : ∃ m, n = m + 1 := ⟨n - 1, by omega⟩
    rw [pyD, h1 st m (by omega)]
    rfl
  · simpa [PyData.showable] using h2
  · simpa [PyData.hasDict] using h3
  · simp only [PyData.depth]
    omega
  · simpa [PyData.leavesShort] using h5
  · simpa [PyData.weight] using h6
  · rw [PyData.shown]
    exact tupleText_tok h7
theorem repr_of {k W : Nat} {d : D} (h : PyS k W d) (hk : k ≤ 58) (hW : W ≤ 250000) (hs : isSeqD d = true) : ∃ sh : List Nat, Tok' sh ∧ ∀ (st : Store) (Q : D → Store → Prop), Q (T sh) st → wp (reprD [d] st) Q := by
  obtain ⟨q, h1, h2, h3, h4, h5, h6, h7⟩ := h
  refine ⟨q.shown.cps.toList, h7, fun st Q hQ => ?_⟩
  have h8 := PyData.shown_le 13 (by decide) q h5
  unfold reprD
  simp only [h1 st 60 (by omega)]
  rw [if_pos ⟨hs, h2, h3, by omega, by show _ ≤ 4000000; omega⟩]
  have e : SX.S q.shown.cps.toList = q.shown := SX.S_tl _
  show Q (.str q.shown) st
  rw [← e]
  exact hQ
theorem it_pyS {s : Sr} {i : It} (h : ItOk s i) : PyS 0 40 i.d := by
  cases s <;> cases i <;> first
    | exact h.elim
    | exact (pyS_T (nm_tok h)).mono (Nat.le_refl _) (by have := h.2.1; omega)
    | exact pyS_num h
    | exact (pyS_T (it_tok h)).mono (Nat.le_refl _) (by show 1 ≤ 40; decide)
theorem wd_pyS : ∀ {w : Wd}, w.ok → PyS (w.ht + 2) (3 * w.sz) w.d
  | .sim h its, k => by
    obtain ⟨h1, h2⟩ := its_len k
    obtain ⟨h3, h4⟩ := h9_len h
    refine (pyS_tup (k := 0) (ds := T h.t :: its.map It.d) (Ws := 6 :: its.map fun _ => 40) (by simp) fun i d W e1 e2 => ?_).mono (by omega) ?_
    · cases i with
      | zero =>
        cases e1
        cases e2
        exact (pyS_T (h9_tok h)).mono (Nat.le_refl _) h3
      | succ i =>
        simp only [List.getElem?_cons_succ, List.getElem?_map] at e1 e2
        obtain ⟨it, e3, rfl⟩ := Option.map_eq_some_iff.mp e1
        obtain ⟨it', e4, rfl⟩ := Option.map_eq_some_iff.mp e2
        obtain ⟨s, e5⟩ : ∃ s, h.srt[i]? = some s := by
          have hl := (List.getElem?_eq_some_iff.mp e3).1
          exact ⟨h.srt[i]'(by omega), by simp⟩
        exact it_pyS (its_get k e5 e3)
    · have : (its.map fun _ => 40).sum = 40 * its.length := by
        clear k h1 h2
        induction its with
        | nil => rfl
        | cons x xs ih => simp only [List.map_cons, List.sum_cons, List.length_cons]; omega
      simp only [List.sum_cons, List.length_cons, List.length_map, this, Wd.sz]
      omega
  | .is m k, h => by
    have hk : PyS 1 (9 * k.length) (.tup (k.map T)) := by
      refine (pyS_tup (k := 0) (ds := k.map T) (Ws := k.map fun _ => 8) (by simp) fun i d W e1 e2 => ?_).mono (Nat.le_refl _) ?_
      · simp only [List.getElem?_map] at e1 e2
        obtain ⟨x, e3, rfl⟩ := Option.map_eq_some_iff.mp e1
        obtain ⟨x', e4, rfl⟩ := Option.map_eq_some_iff.mp e2
        have := h.2 x (List.mem_of_getElem? e3)
        exact (pyS_T (nm_tok this)).mono (Nat.le_refl _) this.2.1
      · have : (k.map fun _ => 8).sum = 8 * k.length := by
          clear h
          induction k with
          | nil => rfl
          | cons x xs ih => simp only [List.map_cons, List.sum_cons, List.length_cons]; omega
        rw [this, List.length_map]
        omega
    refine (pyS_tup (k := 1) (ds := [T l_is, T m, .tup (k.map T)]) (Ws := [2, 8, 9 * k.length]) rfl fun i d W e1 e2 => ?_).mono (by omega) (by simp only [List.sum_cons, List.sum_nil, List.length_cons, List.length_nil, Wd.sz]; omega)
    match i with
    | 0 =>
      cases e1
      cases e2
      exact (pyS_T (tok_lit rfl)).mono (by omega) (by simp)
    | 1 =>
      cases e1
      cases e2
      exact (pyS_T (nm_tok h.1)).mono (by omega) h.1.2.1
    | 2 =>
      cases e1
      cases e2
      exact hk
    | i + 3 => simp at e1
  | .un w, h => by
    refine (pyS_tup (k := w.ht + 2) (ds := [T l_not, w.d]) (Ws := [3, 3 * w.sz]) rfl fun i d W e1 e2 => ?_).mono (by simp only [Wd.ht]; omega) (by simp only [List.sum_cons, List.sum_nil, List.length_cons, List.length_nil, Wd.sz]; omega)
    match i with
    | 0 =>
      cases e1
      cases e2
      exact (pyS_T (tok_lit rfl)).mono (by omega) (by simp)
    | 1 =>
      cases e1
      cases e2
      exact wd_pyS h
    | i + 2 => simp at e1
  | .bi o a b, h => by
    refine (pyS_tup (k := max a.ht b.ht + 2) (ds := [T (if o then l_and else l_or), a.d, b.d]) (Ws := [3, 3 * a.sz, 3 * b.sz]) rfl fun i d W e1 e2 => ?_).mono (by simp only [Wd.ht]; omega) (by simp only [List.sum_cons, List.sum_nil, List.length_cons, List.length_nil, Wd.sz]; omega)
    match i with
    | 0 =>
      cases e1
      cases e2
      refine (pyS_T (by cases o <;> exact tok_lit rfl)).mono (by omega) ?_
      cases o <;> decide
    | 1 =>
      cases e1
      cases e2
      exact (wd_pyS h.1).mono (by omega) (Nat.le_refl _)
    | 2 =>
      cases e1
      cases e2
      exact (wd_pyS h.2).mono (by omega) (Nat.le_refl _)
    | i + 3 => simp at e1
theorem wd_seq (w : Wd) : isSeqD w.d = true := by cases w <;> rfl
end T91


set_option Elab.async false
set_option linter.all false
set_option maxRecDepth 100000
set_option maxHeartbeats 4000000
set_option autoImplicit false
namespace T91
open PySem Dn
section
variable {n m : Nat} {st st' s : Store} {Q : D → Store → Prop}
theorem ints_of {l : List D} {ns : List Int} (h : l = ns.map D.int) : ∀ d ∈ l, ∃ i : Int, d = .int i := fun d hd => by
  rw [h] at hd
  obtain ⟨i, -, rfl⟩ := List.mem_map.mp hd
  exact ⟨i, rfl⟩
theorem wp_spring {ns : List Int} (hl : ns.length ≤ 63) (h : ∀ n m s, Sp n m s → Q (.loc n) s) (s0 : Store) : wp (F_law_spring [.rol (intsD ns)] s0) Q := by
  have hcut : ∀ d ∈ cut (intsD ns) none (some 60), ∃ i : Int, d = .int i := fun d hd => ints_of rfl d (List.mem_of_mem_drop (List.mem_of_mem_take hd))
  have hcl : (cut (intsD ns) none (some 60)).length ≤ 63 := by
    unfold cut
    rw [List.length_take, List.length_drop]
    unfold intsD
    rw [List.length_map]
    omega
  unfold F_law_spring b_law_spring
  simp only [wp_run, wp_bind, wp_ok, wp_bad, wpS_seq, Dn.wpS_set, wpS_ret, wpS_if, wpS_expr, wpS_skip, wpS_par, wpS_par3, wpS_asg, wpS_itemS, wpS_fldS, wpS_for, wpS_nx, wpS_rt, wpS_bk, wpS_ct, wpS_bad, wp_lc, wpS_never, thenK_nx, thenK_rt, thenK_bk, thenK_ct, outK_nx, outK_rt, turnK_nx, turnK_rt, turnK_bk, turnK_ct,
  wp_addI, wp_addS, wp_addT, wp_subI, wp_mulI, wp_mulS, wp_fdivI, wp_modI, wp_powI, ltD_int, leD_int, gtD_int, geD_int, eqV_int, eqV_str, wp_itemT, wp_itemR, wp_itemS, lenD_tup, lenD_rol, wp_lenS, intD_int, intD_bl, wp_intS, absD_int, minD_int, strD_str, wp_strI, wp_listS, truR_bl, sliceD_tup, sliceD_rol, wp_sliceS, wp_tup, wp_lst, wp_ifE, wp_andT, wp_orT, wp_notT, wp_appN, startsD_str,
  Dn.envOf, var, con, Dn.bin, app, consA, nilA, test, slice, noO, someO, List.map_cons, List.map_nil, List.cons_append, List.nil_append, List.replicate_succ, List.replicate_zero, List.length_cons, List.length_nil, List.getElem?_cons_zero, List.getElem?_cons_succ, List.set_cons_zero, List.set_cons_succ, List.append_nil,
  Nat.add_one_sub_one, Nat.reduceAdd, Nat.reduceSub, Nat.reduceLeDiff, Nat.sub_zero, Nat.zero_add, if_true, if_false, ite_true, ite_false, Bool.false_eq_true, reduceIte, Bool.not_true, Bool.not_false, Bool.not_eq_true', Nat.zero_le, true_and, and_true, decide_eq_true_eq, Nat.reduceEqDiff, Option.some.injEq, exists_eq_left', reduceCtorEq, atI_zero, atI_one, atI_two, List.set_cons_zero, List.set_cons_succ, wp_kdE, wp_kdAt, wp_fldE, wp_methE, wp_meth, wp_methRs, wp_star, wp_starT, wp_rng1, wp_rngAt, cut_tail, Option.map_some, SX.S_cat, SX.S_len, LIM, wp_seqW]
  revert hcut hcl
  generalize hcc : cut (intsD ns) none (some 60) = cc
  intro hcut hcl
  rw [wp_seqAtL (st := s0 ++ [Cell.lst cc]) (cellL_of get_last)]
  have hc0 : cellL (s0 ++ [Cell.lst cc]) s0.length = some cc := cellL_of get_last
  refine wpS_forN (fun l r s => ∃ (x : Int) (o : Option D), 0 ≤ x ∧ (∀ d ∈ l, ∃ i : Int, d = .int i) ∧ r = [some (.rol (intsD ns)), some (.int x), o] ∧ s = s0 ++ [Cell.lst cc]) (fun _ _ s hI => ?_) ?_ ?_ _ _ _ ⟨_, none, by unfold intsD; omega, hcut, rfl, rfl⟩
  · obtain ⟨_, _, _, _, _, rfl⟩ := hI
    intro p hp
    rw [List.mem_singleton.mp hp]
    exact cellL_some hc0
  · rintro r s ⟨x, o, hx, -, rfl, rfl⟩
    simp only [wp_run, wp_bind, wp_ok, wp_bad, wpS_seq, Dn.wpS_set, wpS_ret, wpS_if, wpS_expr, wpS_skip, wpS_par, wpS_par3, wpS_asg, wpS_itemS, wpS_fldS, wpS_for, wpS_nx, wpS_rt, wpS_bk, wpS_ct, wpS_bad, wp_lc, wpS_never, thenK_nx, thenK_rt, thenK_bk, thenK_ct, outK_nx, outK_rt, turnK_nx, turnK_rt, turnK_bk, turnK_ct,
  wp_addI, wp_addS, wp_addT, wp_subI, wp_mulI, wp_mulS, wp_fdivI, wp_modI, wp_powI, ltD_int, leD_int, gtD_int, geD_int, eqV_int, eqV_str, wp_itemT, wp_itemR, wp_itemS, lenD_tup, lenD_rol, wp_lenS, intD_int, intD_bl, wp_intS, absD_int, minD_int, strD_str, wp_strI, wp_listS, truR_bl, sliceD_tup, sliceD_rol, wp_sliceS, wp_tup, wp_lst, wp_ifE, wp_andT, wp_orT, wp_notT, wp_appN, startsD_str,
  Dn.envOf, var, con, Dn.bin, app, consA, nilA, test, slice, noO, someO, List.map_cons, List.map_nil, List.cons_append, List.nil_append, List.replicate_succ, List.replicate_zero, List.length_cons, List.length_nil, List.getElem?_cons_zero, List.getElem?_cons_succ, List.set_cons_zero, List.set_cons_succ, List.append_nil,
  Nat.add_one_sub_one, Nat.reduceAdd, Nat.reduceSub, Nat.reduceLeDiff, Nat.sub_zero, Nat.zero_add, if_true, if_false, ite_true, ite_false, Bool.false_eq_true, reduceIte, Bool.not_true, Bool.not_false, Bool.not_eq_true', Nat.zero_le, true_and, and_true, decide_eq_true_eq, Nat.reduceEqDiff, Option.some.injEq, exists_eq_left', reduceCtorEq, atI_zero, atI_one, atI_two, List.set_cons_zero, List.set_cons_succ, wp_kdE, wp_kdAt, wp_fldE, wp_methE, wp_meth, wp_methRs, wp_star, wp_starT, wp_rng1, wp_rngAt, cut_tail, Option.map_some, SX.S_cat, SX.S_len, LIM, wp_seqW, hcc]
    rw [wp_seqAtL (cellL_of get_last)]
    generalize s0 ++ [Cell.lst cc] = s1
    try simp only [wp_run, wp_bind, wp_ok, wp_bad, wpS_seq, Dn.wpS_set, wpS_ret, wpS_if, wpS_expr, wpS_skip, wpS_par, wpS_par3, wpS_asg, wpS_itemS, wpS_fldS, wpS_for, wpS_nx, wpS_rt, wpS_bk, wpS_ct, wpS_bad, wp_lc, wpS_never, thenK_nx, thenK_rt, thenK_bk, thenK_ct, outK_nx, outK_rt, turnK_nx, turnK_rt, turnK_bk, turnK_ct,
  wp_addI, wp_addS, wp_addT, wp_subI, wp_mulI, wp_mulS, wp_fdivI, wp_modI, wp_powI, ltD_int, leD_int, gtD_int, geD_int, eqV_int, eqV_str, wp_itemT, wp_itemR, wp_itemS, lenD_tup, lenD_rol, wp_lenS, intD_int, intD_bl, wp_intS, absD_int, minD_int, strD_str, wp_strI, wp_listS, truR_bl, sliceD_tup, sliceD_rol, wp_sliceS, wp_tup, wp_lst, wp_ifE, wp_andT, wp_orT, wp_notT, wp_appN, startsD_str,
  Dn.envOf, var, con, Dn.bin, app, consA, nilA, test, slice, noO, someO, List.map_cons, List.map_nil, List.cons_append, List.nil_append, List.replicate_succ, List.replicate_zero, List.length_cons, List.length_nil, List.getElem?_cons_zero, List.getElem?_cons_succ, List.set_cons_zero, List.set_cons_succ, List.append_nil,
  Nat.add_one_sub_one, Nat.reduceAdd, Nat.reduceSub, Nat.reduceLeDiff, Nat.sub_zero, Nat.zero_add, if_true, if_false, ite_true, ite_false, Bool.false_eq_true, reduceIte, Bool.not_true, Bool.not_false, Bool.not_eq_true', Nat.zero_le, true_and, and_true, decide_eq_true_eq, Nat.reduceEqDiff, Option.some.injEq, exists_eq_left', reduceCtorEq, atI_zero, atI_one, atI_two, List.set_cons_zero, List.set_cons_succ, wp_kdE, wp_kdAt, wp_fldE, wp_methE, wp_meth, wp_methRs, wp_star, wp_starT, wp_rng1, wp_rngAt, cut_tail, Option.map_some, SX.S_cat, SX.S_len, LIM]
    refine wp_lcN (fun l s => (∃ cs : List Int, cellL s (s1 ++ [Cell.lst cc]).length = some (cs.map D.int) ∧ (∀ c ∈ cs, 0 ≤ c) ∧ cs.length + l.length ≤ 63) ∧ (∀ d ∈ l, ∃ i : Int, d = .int i) ∧ cellL s s1.length = some cc) (fun _ s hI p hp => ?_) ?_ ?_ _ _ ⟨⟨[], cellL_of get_last, (fun _ h => by cases h), by simpa using hcl⟩, hcut, cellL_of (get_app get_last)⟩
    · rw [List.mem_singleton.mp hp]
      exact cellL_some hI.2.2
    · rintro s ⟨⟨cs, k1, k2, k3⟩, -, -⟩
      try simp only [wp_run, wp_bind, wp_ok, wp_bad, wpS_seq, Dn.wpS_set, wpS_ret, wpS_if, wpS_expr, wpS_skip, wpS_par, wpS_par3, wpS_asg, wpS_itemS, wpS_fldS, wpS_for, wpS_nx, wpS_rt, wpS_bk, wpS_ct, wpS_bad, wp_lc, wpS_never, thenK_nx, thenK_rt, thenK_bk, thenK_ct, outK_nx, outK_rt, turnK_nx, turnK_rt, turnK_bk, turnK_ct,
  wp_addI, wp_addS, wp_addT, wp_subI, wp_mulI, wp_mulS, wp_fdivI, wp_modI, wp_powI, ltD_int, leD_int, gtD_int, geD_int, eqV_int, eqV_str, wp_itemT, wp_itemR, wp_itemS, lenD_tup, lenD_rol, wp_lenS, intD_int, intD_bl, wp_intS, absD_int, minD_int, strD_str, wp_strI, wp_listS, truR_bl, sliceD_tup, sliceD_rol, wp_sliceS, wp_tup, wp_lst, wp_ifE, wp_andT, wp_orT, wp_notT, wp_appN, startsD_str,
  Dn.envOf, var, con, Dn.bin, app, consA, nilA, test, slice, noO, someO, List.map_cons, List.map_nil, List.cons_append, List.nil_append, List.replicate_succ, List.replicate_zero, List.length_cons, List.length_nil, List.getElem?_cons_zero, List.getElem?_cons_succ, List.set_cons_zero, List.set_cons_succ, List.append_nil,
  Nat.add_one_sub_one, Nat.reduceAdd, Nat.reduceSub, Nat.reduceLeDiff, Nat.sub_zero, Nat.zero_add, if_true, if_false, ite_true, ite_false, Bool.false_eq_true, reduceIte, Bool.not_true, Bool.not_false, Bool.not_eq_true', Nat.zero_le, true_and, and_true, decide_eq_true_eq, Nat.reduceEqDiff, Option.some.injEq, exists_eq_left', reduceCtorEq, atI_zero, atI_one, atI_two, List.set_cons_zero, List.set_cons_succ, wp_kdE, wp_kdAt, wp_fldE, wp_methE, wp_meth, wp_methRs, wp_star, wp_starT, wp_rng1, wp_rngAt, cut_tail, Option.map_some, SX.S_cat, SX.S_len, LIM]
      have hlt := (List.getElem?_eq_some_iff.mp (cellL_some k1)).1
      exact h s.length _ _ ⟨⟨cs, x, get_last, get_app (cellL_some k1), k2, hx⟩, by omega⟩
    · rintro d l s ⟨⟨cs, k1, k2, k3⟩, k4, k5⟩
      obtain ⟨i, rfl⟩ := k4 d List.mem_cons_self
      rw [List.length_cons] at k3
      refine ⟨_, rfl, ?_⟩
      simp only [wp_run, wp_bind, wp_ok, wp_bad, wpS_seq, Dn.wpS_set, wpS_ret, wpS_if, wpS_expr, wpS_skip, wpS_par, wpS_par3, wpS_asg, wpS_itemS, wpS_fldS, wpS_for, wpS_nx, wpS_rt, wpS_bk, wpS_ct, wpS_bad, wp_lc, wpS_never, thenK_nx, thenK_rt, thenK_bk, thenK_ct, outK_nx, outK_rt, turnK_nx, turnK_rt, turnK_bk, turnK_ct,
  wp_addI, wp_addS, wp_addT, wp_subI, wp_mulI, wp_mulS, wp_fdivI, wp_modI, wp_powI, ltD_int, leD_int, gtD_int, geD_int, eqV_int, eqV_str, wp_itemT, wp_itemR, wp_itemS, lenD_tup, lenD_rol, wp_lenS, intD_int, intD_bl, wp_intS, absD_int, minD_int, strD_str, wp_strI, wp_listS, truR_bl, sliceD_tup, sliceD_rol, wp_sliceS, wp_tup, wp_lst, wp_ifE, wp_andT, wp_orT, wp_notT, wp_appN, startsD_str,
  Dn.envOf, var, con, Dn.bin, app, consA, nilA, test, slice, noO, someO, List.map_cons, List.map_nil, List.cons_append, List.nil_append, List.replicate_succ, List.replicate_zero, List.length_cons, List.length_nil, List.getElem?_cons_zero, List.getElem?_cons_succ, List.set_cons_zero, List.set_cons_succ, List.append_nil,
  Nat.add_one_sub_one, Nat.reduceAdd, Nat.reduceSub, Nat.reduceLeDiff, Nat.sub_zero, Nat.zero_add, if_true, if_false, ite_true, ite_false, Bool.false_eq_true, reduceIte, Bool.not_true, Bool.not_false, Bool.not_eq_true', Nat.zero_le, true_and, and_true, decide_eq_true_eq, Nat.reduceEqDiff, Option.some.injEq, exists_eq_left', reduceCtorEq, atI_zero, atI_one, atI_two, List.set_cons_zero, List.set_cons_succ, wp_kdE, wp_kdAt, wp_fldE, wp_methE, wp_meth, wp_methRs, wp_star, wp_starT, wp_rng1, wp_rngAt, cut_tail, Option.map_some, SX.S_cat, SX.S_len, LIM, wipeE]
      refine ⟨⟨by decide, by decide, by decide⟩, ?_⟩
      by_cases hb : 10 ^ (18 : Int).toNat ≤ (if i < 0 then -i else i)
      · rw [if_pos hb]
        refine ⟨_, k1, by rw [List.length_map]; show _ < 4000000; omega, ⟨cs ++ [if i < 0 then -i else i], ?_, fun c hc => ?_, by simp; omega⟩, fun d hd => k4 d (List.mem_cons_of_mem _ hd), cellL_of ?_⟩
        · rw [cellL_of (set_get (cellL_some k1)), List.map_append]
          rfl
        · rcases List.mem_append.mp hc with e | e
          · exact k2 c e
          · rw [List.mem_singleton.mp e]
            split <;> omega
        · rw [List.getElem?_set_ne (by simp)]
          exact cellL_some k5
      · rw [if_neg hb]
        exact ⟨⟨cs, k1, k2, by omega⟩, fun d hd => k4 d (List.mem_cons_of_mem _ hd), k5⟩
  · rintro d l r s ⟨x, o, hx, hl2, rfl, rfl⟩
    obtain ⟨i, rfl⟩ := hl2 d List.mem_cons_self
    refine ⟨_, rfl, ?_⟩
    simp only [wp_run, wp_bind, wp_ok, wp_bad, wpS_seq, Dn.wpS_set, wpS_ret, wpS_if, wpS_expr, wpS_skip, wpS_par, wpS_par3, wpS_asg, wpS_itemS, wpS_fldS, wpS_for, wpS_nx, wpS_rt, wpS_bk, wpS_ct, wpS_bad, wp_lc, wpS_never, thenK_nx, thenK_rt, thenK_bk, thenK_ct, outK_nx, outK_rt, turnK_nx, turnK_rt, turnK_bk, turnK_ct,
  wp_addI, wp_addS, wp_addT, wp_subI, wp_mulI, wp_mulS, wp_fdivI, wp_modI, wp_powI, ltD_int, leD_int, gtD_int, geD_int, eqV_int, eqV_str, wp_itemT, wp_itemR, wp_itemS, lenD_tup, lenD_rol, wp_lenS, intD_int, intD_bl, wp_intS, absD_int, minD_int, strD_str, wp_strI, wp_listS, truR_bl, sliceD_tup, sliceD_rol, wp_sliceS, wp_tup, wp_lst, wp_ifE, wp_andT, wp_orT, wp_notT, wp_appN, startsD_str,
  Dn.envOf, var, con, Dn.bin, app, consA, nilA, test, slice, noO, someO, List.map_cons, List.map_nil, List.cons_append, List.nil_append, List.replicate_succ, List.replicate_zero, List.length_cons, List.length_nil, List.getElem?_cons_zero, List.getElem?_cons_succ, List.set_cons_zero, List.set_cons_succ, List.append_nil,
  Nat.add_one_sub_one, Nat.reduceAdd, Nat.reduceSub, Nat.reduceLeDiff, Nat.sub_zero, Nat.zero_add, if_true, if_false, ite_true, ite_false, Bool.false_eq_true, reduceIte, Bool.not_true, Bool.not_false, Bool.not_eq_true', Nat.zero_le, true_and, and_true, decide_eq_true_eq, Nat.reduceEqDiff, Option.some.injEq, exists_eq_left', reduceCtorEq, atI_zero, atI_one, atI_two, List.set_cons_zero, List.set_cons_succ, wp_kdE, wp_kdAt, wp_fldE, wp_methE, wp_meth, wp_methRs, wp_star, wp_starT, wp_rng1, wp_rngAt, cut_tail, Option.map_some, SX.S_cat, SX.S_len, LIM]
    exact ⟨.inr ⟨by decide, by decide⟩, .inl ⟨by decide, by decide⟩, by decide, _, _, Int.emod_nonneg _ (by decide), fun d hd => hl2 d (List.mem_cons_of_mem _ hd), rfl⟩
/-! ### the law -/
def GG (d : D) : Prop := ∃ w : Wd, d = w.d ∧ w.ok ∧ w.dep ≤ 9 ∧ w.ht ≤ 18 ∧ w.sz ≤ 80000
theorem gg_gd {b : Nat} {d : D} (h : Gd b d) (hb : b ≤ 9) : GG d := by
  obtain ⟨w, h1, h2, h3, h4, h5⟩ := h
  have : 2 ^ b ≤ 2 ^ 9 := Nat.pow_le_pow_right (by decide) hb
  exact ⟨w, h1, h2, by omega, by omega, by omega⟩
theorem gg_gl {d : D} (h : GL 8 d) : GG d := by
  obtain ⟨w, h1, h2, h3, h4, h5⟩ := h
  exact ⟨w, h1, h2, by omega, by omega, by omega⟩
theorem gg_big {k : List (List Nat)} (hk : ∀ x ∈ k, Nm x) (hl : k.length ≤ 2000) : GG (.tup [T l_not, .tup [T l_is, T [113], .tup (k.map T)]]) :=
  ⟨.un (.is [113] k), rfl, ⟨nm_lit rfl, hk⟩, by simp only [Wd.dep]; omega, by simp only [Wd.ht]; omega, by simp only [Wd.sz]; omega⟩
theorem eq_two {l : List Nat} (hl : Tok' l) : eqV' true (.loc st.length) (.loc (st ++ [Cell.lst [T l, T l]]).length) (st ++ [Cell.lst [T l, T l]] ++ [Cell.lst [T l, T l]]) = .ok (.bl false) (st ++ [Cell.lst [T l, T l]] ++ [Cell.lst [T l, T l]]) := by
  have two : ∀ x ∈ [l, l], Tok' x := fun x hx => by
    simp only [List.mem_cons, List.not_mem_nil, or_false] at hx
    rcases hx with rfl | rfl <;> exact hl
  have c1 : cellL (st ++ [Cell.lst [T l, T l]] ++ [Cell.lst [T l, T l]]) st.length = some ([l, l].map T) := cellL_of (get_app get_last)
  have c2 : cellL (st ++ [Cell.lst [T l, T l]] ++ [Cell.lst [T l, T l]]) (st ++ [Cell.lst [T l, T l]]).length = some ([l, l].map T) := cellL_of get_last
  rw [eq_T c1 c2 two two]
  simp
theorem eq_self {l : List Nat} : eqV' true (T l) (T l) st = .ok (.bl false) st := by
  rw [eqV_T]
  simp
/-- one of the words -/
theorem wp_one {w : Wd} {r0 r1 r2 r3 r4 r5 r6 o8 o9 : Option D} {I : Dn.Env → Store → Prop} {K : SR → Prop} (hok : w.ok) (hd : w.dep ≤ 9) (hh : w.ht ≤ 18) (hs : w.sz ≤ 80000)
    (h : ∀ o8 o9 s, Ext st s → I [r0, r1, r2, r3, r4, r5, r6, some w.d, o8, o9] s) :
    wpS ((seqS (parS 8 9 (consA (app reprD (consA (var 7) nilA)) (consA (appN 1 (F_law_words_text 60) (consA (var 7) nilA)) nilA))) (seqS (ifS (test (Dn.bin (eqV' true) (lstE (consA (appN 1 (F_words_text 60) (consA (var 7) nilA)) (consA (appN 1 (F_words_text 60) (consA (var 7) nilA)) nilA))) (lstE (consA (var 9) (consA (var 9) nilA))))) (retS (con (.bl false))) skip) (ifS (orT (test (Dn.bin (eqV' true) (lstE (consA (app reprD (consA (appN 1 F_parse_words (consA (var 9) nilA)) nilA)) (consA (app reprD (consA (appN 1 F_parse_words (consA (var 9) nilA)) nilA)) nilA))) (lstE (consA (var 8) (consA (var 8) nilA))))) (test (Dn.bin (eqV' true) (app reprD (consA (var 7) nilA)) (var 8)))) (retS (con (.bl false))) skip))) [r0, r1, r2, r3, r4, r5, r6, some w.d, o8, o9] st) (turnK I K) := by
  obtain ⟨sh, htok, hrepr⟩ := repr_of (wd_pyS hok) (by omega) (by omega) (wd_seq w)
  have ht := Wd.tok hok
  have hwt := fun st => wp_words_text w hok (by omega) 60 st (by omega)
  have hlt := fun st => wp_law_text w hok (by omega) 60 st (by omega)
  have hpa := fun st => wp_parse (st := st) hok hh hd (by omega)
  simp only [wp_run, wp_bind, wp_ok, wp_bad, wpS_seq, Dn.wpS_set, wpS_ret, wpS_if, wpS_expr, wpS_skip, wpS_par, wpS_par3, wpS_asg, wpS_itemS, wpS_fldS, wpS_for, wpS_nx, wpS_rt, wpS_bk, wpS_ct, wpS_bad, wp_lc, wpS_never, thenK_nx, thenK_rt, thenK_bk, thenK_ct, outK_nx, outK_rt, turnK_nx, turnK_rt, turnK_bk, turnK_ct,
  wp_addI, wp_addS, wp_addT, wp_subI, wp_mulI, wp_mulS, wp_fdivI, wp_modI, wp_powI, ltD_int, leD_int, gtD_int, geD_int, eqV_int, eqV_str, wp_itemT, wp_itemR, wp_itemS, lenD_tup, lenD_rol, wp_lenS, intD_int, intD_bl, wp_intS, absD_int, minD_int, strD_str, wp_strI, wp_listS, truR_bl, sliceD_tup, sliceD_rol, wp_sliceS, wp_tup, wp_lst, wp_ifE, wp_andT, wp_orT, wp_notT, wp_appN, startsD_str,
  Dn.envOf, var, con, Dn.bin, app, consA, nilA, test, slice, noO, someO, List.map_cons, List.map_nil, List.cons_append, List.nil_append, List.replicate_succ, List.replicate_zero, List.length_cons, List.length_nil, List.getElem?_cons_zero, List.getElem?_cons_succ, List.set_cons_zero, List.set_cons_succ, List.append_nil,
  Nat.add_one_sub_one, Nat.reduceAdd, Nat.reduceSub, Nat.reduceLeDiff, Nat.sub_zero, Nat.zero_add, if_true, if_false, ite_true, ite_false, Bool.false_eq_true, reduceIte, Bool.not_true, Bool.not_false, Bool.not_eq_true', Nat.zero_le, true_and, and_true, decide_eq_true_eq, Nat.reduceEqDiff, Option.some.injEq, exists_eq_left', reduceCtorEq, atI_zero, atI_one, atI_two, List.set_cons_zero, List.set_cons_succ, wp_kdE, wp_kdAt, wp_fldE, wp_methE, wp_meth, wp_methRs, wp_star, wp_starT, wp_rng1, wp_rngAt, cut_tail, Option.map_some, SX.S_cat, SX.S_len, LIM]
  refine hrepr st _ ?_
  refine wp_mono (hlt st) fun d s1 q1 => ?_
  obtain ⟨rfl, E1⟩ := q1
  try simp only [wp_run, wp_bind, wp_ok, wp_bad, wpS_seq, Dn.wpS_set, wpS_ret, wpS_if, wpS_expr, wpS_skip, wpS_par, wpS_par3, wpS_asg, wpS_itemS, wpS_fldS, wpS_for, wpS_nx, wpS_rt, wpS_bk, wpS_ct, wpS_bad, wp_lc, wpS_never, thenK_nx, thenK_rt, thenK_bk, thenK_ct, outK_nx, outK_rt, turnK_nx, turnK_rt, turnK_bk, turnK_ct,
  wp_addI, wp_addS, wp_addT, wp_subI, wp_mulI, wp_mulS, wp_fdivI, wp_modI, wp_powI, ltD_int, leD_int, gtD_int, geD_int, eqV_int, eqV_str, wp_itemT, wp_itemR, wp_itemS, lenD_tup, lenD_rol, wp_lenS, intD_int, intD_bl, wp_intS, absD_int, minD_int, strD_str, wp_strI, wp_listS, truR_bl, sliceD_tup, sliceD_rol, wp_sliceS, wp_tup, wp_lst, wp_ifE, wp_andT, wp_orT, wp_notT, wp_appN, startsD_str,
  Dn.envOf, var, con, Dn.bin, app, consA, nilA, test, slice, noO, someO, List.map_cons, List.map_nil, List.cons_append, List.nil_append, List.replicate_succ, List.replicate_zero, List.length_cons, List.length_nil, List.getElem?_cons_zero, List.getElem?_cons_succ, List.set_cons_zero, List.set_cons_succ, List.append_nil,
  Nat.add_one_sub_one, Nat.reduceAdd, Nat.reduceSub, Nat.reduceLeDiff, Nat.sub_zero, Nat.zero_add, if_true, if_false, ite_true, ite_false, Bool.false_eq_true, reduceIte, Bool.not_true, Bool.not_false, Bool.not_eq_true', Nat.zero_le, true_and, and_true, decide_eq_true_eq, Nat.reduceEqDiff, Option.some.injEq, exists_eq_left', reduceCtorEq, atI_zero, atI_one, atI_two, List.set_cons_zero, List.set_cons_succ, wp_kdE, wp_kdAt, wp_fldE, wp_methE, wp_meth, wp_methRs, wp_star, wp_starT, wp_rng1, wp_rngAt, cut_tail, Option.map_some, SX.S_cat, SX.S_len, LIM]
  refine wp_mono (hwt s1) fun d s2 q2 => ?_
  obtain ⟨rfl, E2⟩ := q2
  try simp only [wp_run, wp_bind, wp_ok, wp_bad, wpS_seq, Dn.wpS_set, wpS_ret, wpS_if, wpS_expr, wpS_skip, wpS_par, wpS_par3, wpS_asg, wpS_itemS, wpS_fldS, wpS_for, wpS_nx, wpS_rt, wpS_bk, wpS_ct, wpS_bad, wp_lc, wpS_never, thenK_nx, thenK_rt, thenK_bk, thenK_ct, outK_nx, outK_rt, turnK_nx, turnK_rt, turnK_bk, turnK_ct,
  wp_addI, wp_addS, wp_addT, wp_subI, wp_mulI, wp_mulS, wp_fdivI, wp_modI, wp_powI, ltD_int, leD_int, gtD_int, geD_int, eqV_int, eqV_str, wp_itemT, wp_itemR, wp_itemS, lenD_tup, lenD_rol, wp_lenS, intD_int, intD_bl, wp_intS, absD_int, minD_int, strD_str, wp_strI, wp_listS, truR_bl, sliceD_tup, sliceD_rol, wp_sliceS, wp_tup, wp_lst, wp_ifE, wp_andT, wp_orT, wp_notT, wp_appN, startsD_str,
  Dn.envOf, var, con, Dn.bin, app, consA, nilA, test, slice, noO, someO, List.map_cons, List.map_nil, List.cons_append, List.nil_append, List.replicate_succ, List.replicate_zero, List.length_cons, List.length_nil, List.getElem?_cons_zero, List.getElem?_cons_succ, List.set_cons_zero, List.set_cons_succ, List.append_nil,
  Nat.add_one_sub_one, Nat.reduceAdd, Nat.reduceSub, Nat.reduceLeDiff, Nat.sub_zero, Nat.zero_add, if_true, if_false, ite_true, ite_false, Bool.false_eq_true, reduceIte, Bool.not_true, Bool.not_false, Bool.not_eq_true', Nat.zero_le, true_and, and_true, decide_eq_true_eq, Nat.reduceEqDiff, Option.some.injEq, exists_eq_left', reduceCtorEq, atI_zero, atI_one, atI_two, List.set_cons_zero, List.set_cons_succ, wp_kdE, wp_kdAt, wp_fldE, wp_methE, wp_meth, wp_methRs, wp_star, wp_starT, wp_rng1, wp_rngAt, cut_tail, Option.map_some, SX.S_cat, SX.S_len, LIM]
  refine wp_mono (hwt s2) fun d s3 q3 => ?_
  obtain ⟨rfl, E3⟩ := q3
  try simp only [wp_run, wp_bind, wp_ok, wp_bad, wpS_seq, Dn.wpS_set, wpS_ret, wpS_if, wpS_expr, wpS_skip, wpS_par, wpS_par3, wpS_asg, wpS_itemS, wpS_fldS, wpS_for, wpS_nx, wpS_rt, wpS_bk, wpS_ct, wpS_bad, wp_lc, wpS_never, thenK_nx, thenK_rt, thenK_bk, thenK_ct, outK_nx, outK_rt, turnK_nx, turnK_rt, turnK_bk, turnK_ct,
  wp_addI, wp_addS, wp_addT, wp_subI, wp_mulI, wp_mulS, wp_fdivI, wp_modI, wp_powI, ltD_int, leD_int, gtD_int, geD_int, eqV_int, eqV_str, wp_itemT, wp_itemR, wp_itemS, lenD_tup, lenD_rol, wp_lenS, intD_int, intD_bl, wp_intS, absD_int, minD_int, strD_str, wp_strI, wp_listS, truR_bl, sliceD_tup, sliceD_rol, wp_sliceS, wp_tup, wp_lst, wp_ifE, wp_andT, wp_orT, wp_notT, wp_appN, startsD_str,
  Dn.envOf, var, con, Dn.bin, app, consA, nilA, test, slice, noO, someO, List.map_cons, List.map_nil, List.cons_append, List.nil_append, List.replicate_succ, List.replicate_zero, List.length_cons, List.length_nil, List.getElem?_cons_zero, List.getElem?_cons_succ, List.set_cons_zero, List.set_cons_succ, List.append_nil,
  Nat.add_one_sub_one, Nat.reduceAdd, Nat.reduceSub, Nat.reduceLeDiff, Nat.sub_zero, Nat.zero_add, if_true, if_false, ite_true, ite_false, Bool.false_eq_true, reduceIte, Bool.not_true, Bool.not_false, Bool.not_eq_true', Nat.zero_le, true_and, and_true, decide_eq_true_eq, Nat.reduceEqDiff, Option.some.injEq, exists_eq_left', reduceCtorEq, atI_zero, atI_one, atI_two, List.set_cons_zero, List.set_cons_succ, wp_kdE, wp_kdAt, wp_fldE, wp_methE, wp_meth, wp_methRs, wp_star, wp_starT, wp_rng1, wp_rngAt, cut_tail, Option.map_some, SX.S_cat, SX.S_len, LIM]
  rw [eq_two ht]
  try simp only [wp_run, wp_bind, wp_ok, wp_bad, wpS_seq, Dn.wpS_set, wpS_ret, wpS_if, wpS_expr, wpS_skip, wpS_par, wpS_par3, wpS_asg, wpS_itemS, wpS_fldS, wpS_for, wpS_nx, wpS_rt, wpS_bk, wpS_ct, wpS_bad, wp_lc, wpS_never, thenK_nx, thenK_rt, thenK_bk, thenK_ct, outK_nx, outK_rt, turnK_nx, turnK_rt, turnK_bk, turnK_ct,
  wp_addI, wp_addS, wp_addT, wp_subI, wp_mulI, wp_mulS, wp_fdivI, wp_modI, wp_powI, ltD_int, leD_int, gtD_int, geD_int, eqV_int, eqV_str, wp_itemT, wp_itemR, wp_itemS, lenD_tup, lenD_rol, wp_lenS, intD_int, intD_bl, wp_intS, absD_int, minD_int, strD_str, wp_strI, wp_listS, truR_bl, sliceD_tup, sliceD_rol, wp_sliceS, wp_tup, wp_lst, wp_ifE, wp_andT, wp_orT, wp_notT, wp_appN, startsD_str,
  Dn.envOf, var, con, Dn.bin, app, consA, nilA, test, slice, noO, someO, List.map_cons, List.map_nil, List.cons_append, List.nil_append, List.replicate_succ, List.replicate_zero, List.length_cons, List.length_nil, List.getElem?_cons_zero, List.getElem?_cons_succ, List.set_cons_zero, List.set_cons_succ, List.append_nil,
  Nat.add_one_sub_one, Nat.reduceAdd, Nat.reduceSub, Nat.reduceLeDiff, Nat.sub_zero, Nat.zero_add, if_true, if_false, ite_true, ite_false, Bool.false_eq_true, reduceIte, Bool.not_true, Bool.not_false, Bool.not_eq_true', Nat.zero_le, true_and, and_true, decide_eq_true_eq, Nat.reduceEqDiff, Option.some.injEq, exists_eq_left', reduceCtorEq, atI_zero, atI_one, atI_two, List.set_cons_zero, List.set_cons_succ, wp_kdE, wp_kdAt, wp_fldE, wp_methE, wp_meth, wp_methRs, wp_star, wp_starT, wp_rng1, wp_rngAt, cut_tail, Option.map_some, SX.S_cat, SX.S_len, LIM]
  have E4 := ((E1.trans E2).trans E3).trans ((Ext.push (c := .lst [T w.t, T w.t])).trans (Ext.push (c := .lst [T w.t, T w.t])))
  revert E4
  generalize s3 ++ [Cell.lst [T w.t, T w.t]] ++ [Cell.lst [T w.t, T w.t]] = s4
  intro E4
  refine wp_mono (hpa s4) fun d s5 q5 => ?_
  obtain ⟨rfl, E5⟩ := q5
  refine hrepr s5 _ ?_
  refine wp_mono (hpa s5) fun d s6 q6 => ?_
  obtain ⟨rfl, E6⟩ := q6
  refine hrepr s6 _ ?_
  try simp only [wp_run, wp_bind, wp_ok, wp_bad, wpS_seq, Dn.wpS_set, wpS_ret, wpS_if, wpS_expr, wpS_skip, wpS_par, wpS_par3, wpS_asg, wpS_itemS, wpS_fldS, wpS_for, wpS_nx, wpS_rt, wpS_bk, wpS_ct, wpS_bad, wp_lc, wpS_never, thenK_nx, thenK_rt, thenK_bk, thenK_ct, outK_nx, outK_rt, turnK_nx, turnK_rt, turnK_bk, turnK_ct,
  wp_addI, wp_addS, wp_addT, wp_subI, wp_mulI, wp_mulS, wp_fdivI, wp_modI, wp_powI, ltD_int, leD_int, gtD_int, geD_int, eqV_int, eqV_str, wp_itemT, wp_itemR, wp_itemS, lenD_tup, lenD_rol, wp_lenS, intD_int, intD_bl, wp_intS, absD_int, minD_int, strD_str, wp_strI, wp_listS, truR_bl, sliceD_tup, sliceD_rol, wp_sliceS, wp_tup, wp_lst, wp_ifE, wp_andT, wp_orT, wp_notT, wp_appN, startsD_str,
  Dn.envOf, var, con, Dn.bin, app, consA, nilA, test, slice, noO, someO, List.map_cons, List.map_nil, List.cons_append, List.nil_append, List.replicate_succ, List.replicate_zero, List.length_cons, List.length_nil, List.getElem?_cons_zero, List.getElem?_cons_succ, List.set_cons_zero, List.set_cons_succ, List.append_nil,
  Nat.add_one_sub_one, Nat.reduceAdd, Nat.reduceSub, Nat.reduceLeDiff, Nat.sub_zero, Nat.zero_add, if_true, if_false, ite_true, ite_false, Bool.false_eq_true, reduceIte, Bool.not_true, Bool.not_false, Bool.not_eq_true', Nat.zero_le, true_and, and_true, decide_eq_true_eq, Nat.reduceEqDiff, Option.some.injEq, exists_eq_left', reduceCtorEq, atI_zero, atI_one, atI_two, List.set_cons_zero, List.set_cons_succ, wp_kdE, wp_kdAt, wp_fldE, wp_methE, wp_meth, wp_methRs, wp_star, wp_starT, wp_rng1, wp_rngAt, cut_tail, Option.map_some, SX.S_cat, SX.S_len, LIM]
  rw [eq_two htok]
  try simp only [wp_run, wp_bind, wp_ok, wp_bad, wpS_seq, Dn.wpS_set, wpS_ret, wpS_if, wpS_expr, wpS_skip, wpS_par, wpS_par3, wpS_asg, wpS_itemS, wpS_fldS, wpS_for, wpS_nx, wpS_rt, wpS_bk, wpS_ct, wpS_bad, wp_lc, wpS_never, thenK_nx, thenK_rt, thenK_bk, thenK_ct, outK_nx, outK_rt, turnK_nx, turnK_rt, turnK_bk, turnK_ct,
  wp_addI, wp_addS, wp_addT, wp_subI, wp_mulI, wp_mulS, wp_fdivI, wp_modI, wp_powI, ltD_int, leD_int, gtD_int, geD_int, eqV_int, eqV_str, wp_itemT, wp_itemR, wp_itemS, lenD_tup, lenD_rol, wp_lenS, intD_int, intD_bl, wp_intS, absD_int, minD_int, strD_str, wp_strI, wp_listS, truR_bl, sliceD_tup, sliceD_rol, wp_sliceS, wp_tup, wp_lst, wp_ifE, wp_andT, wp_orT, wp_notT, wp_appN, startsD_str,
  Dn.envOf, var, con, Dn.bin, app, consA, nilA, test, slice, noO, someO, List.map_cons, List.map_nil, List.cons_append, List.nil_append, List.replicate_succ, List.replicate_zero, List.length_cons, List.length_nil, List.getElem?_cons_zero, List.getElem?_cons_succ, List.set_cons_zero, List.set_cons_succ, List.append_nil,
  Nat.add_one_sub_one, Nat.reduceAdd, Nat.reduceSub, Nat.reduceLeDiff, Nat.sub_zero, Nat.zero_add, if_true, if_false, ite_true, ite_false, Bool.false_eq_true, reduceIte, Bool.not_true, Bool.not_false, Bool.not_eq_true', Nat.zero_le, true_and, and_true, decide_eq_true_eq, Nat.reduceEqDiff, Option.some.injEq, exists_eq_left', reduceCtorEq, atI_zero, atI_one, atI_two, List.set_cons_zero, List.set_cons_succ, wp_kdE, wp_kdAt, wp_fldE, wp_methE, wp_meth, wp_methRs, wp_star, wp_starT, wp_rng1, wp_rngAt, cut_tail, Option.map_some, SX.S_cat, SX.S_len, LIM]
  refine hrepr _ _ ?_
  rw [eq_self]
  try simp only [wp_run, wp_bind, wp_ok, wp_bad, wpS_seq, Dn.wpS_set, wpS_ret, wpS_if, wpS_expr, wpS_skip, wpS_par, wpS_par3, wpS_asg, wpS_itemS, wpS_fldS, wpS_for, wpS_nx, wpS_rt, wpS_bk, wpS_ct, wpS_bad, wp_lc, wpS_never, thenK_nx, thenK_rt, thenK_bk, thenK_ct, outK_nx, outK_rt, turnK_nx, turnK_rt, turnK_bk, turnK_ct,
  wp_addI, wp_addS, wp_addT, wp_subI, wp_mulI, wp_mulS, wp_fdivI, wp_modI, wp_powI, ltD_int, leD_int, gtD_int, geD_int, eqV_int, eqV_str, wp_itemT, wp_itemR, wp_itemS, lenD_tup, lenD_rol, wp_lenS, intD_int, intD_bl, wp_intS, absD_int, minD_int, strD_str, wp_strI, wp_listS, truR_bl, sliceD_tup, sliceD_rol, wp_sliceS, wp_tup, wp_lst, wp_ifE, wp_andT, wp_orT, wp_notT, wp_appN, startsD_str,
  Dn.envOf, var, con, Dn.bin, app, consA, nilA, test, slice, noO, someO, List.map_cons, List.map_nil, List.cons_append, List.nil_append, List.replicate_succ, List.replicate_zero, List.length_cons, List.length_nil, List.getElem?_cons_zero, List.getElem?_cons_succ, List.set_cons_zero, List.set_cons_succ, List.append_nil,
  Nat.add_one_sub_one, Nat.reduceAdd, Nat.reduceSub, Nat.reduceLeDiff, Nat.sub_zero, Nat.zero_add, if_true, if_false, ite_true, ite_false, Bool.false_eq_true, reduceIte, Bool.not_true, Bool.not_false, Bool.not_eq_true', Nat.zero_le, true_and, and_true, decide_eq_true_eq, Nat.reduceEqDiff, Option.some.injEq, exists_eq_left', reduceCtorEq, atI_zero, atI_one, atI_two, List.set_cons_zero, List.set_cons_succ, wp_kdE, wp_kdAt, wp_fldE, wp_methE, wp_meth, wp_methRs, wp_star, wp_starT, wp_rng1, wp_rngAt, cut_tail, Option.map_some, SX.S_cat, SX.S_len, LIM]
  exact h _ _ _ (((E4.trans E5).trans E6).trans (Ext.push.trans Ext.push))
theorem flat_len {α : Type} {l : List α} : ∀ k : Nat, (List.replicate k l).flatten.length = k * l.length
  | 0 => by simp
  | k + 1 => by
    rw [List.replicate_succ, List.flatten_cons, List.length_append, flat_len k, Nat.add_mul, Nat.one_mul, Nat.add_comm]
theorem flat_mem {α : Type} {l : List α} {x : α} : ∀ {k : Nat}, x ∈ (List.replicate k l).flatten → x ∈ l
  | 0, h => by simp at h
  | k + 1, h => by
    rw [List.replicate_succ, List.flatten_cons] at h
    rcases List.mem_append.mp h with e | e
    · exact e
    · exact flat_mem e
theorem wp_law {ns : List Int} (hl : ns.length ≤ 63) : wp (F_law [.rol (intsD ns)] st) fun d _ => d = .bl true := by
  unfold F_law b_law
  simp only [wp_run, wp_bind, wp_ok, wp_bad, wpS_seq, Dn.wpS_set, wpS_ret, wpS_if, wpS_expr, wpS_skip, wpS_par, wpS_par3, wpS_asg, wpS_itemS, wpS_fldS, wpS_for, wpS_nx, wpS_rt, wpS_bk, wpS_ct, wpS_bad, wp_lc, wpS_never, thenK_nx, thenK_rt, thenK_bk, thenK_ct, outK_nx, outK_rt, turnK_nx, turnK_rt, turnK_bk, turnK_ct,
  wp_addI, wp_addS, wp_addT, wp_subI, wp_mulI, wp_mulS, wp_fdivI, wp_modI, wp_powI, ltD_int, leD_int, gtD_int, geD_int, eqV_int, eqV_str, wp_itemT, wp_itemR, wp_itemS, lenD_tup, lenD_rol, wp_lenS, intD_int, intD_bl, wp_intS, absD_int, minD_int, strD_str, wp_strI, wp_listS, truR_bl, sliceD_tup, sliceD_rol, wp_sliceS, wp_tup, wp_lst, wp_ifE, wp_andT, wp_orT, wp_notT, wp_appN, startsD_str,
  Dn.envOf, var, con, Dn.bin, app, consA, nilA, test, slice, noO, someO, List.map_cons, List.map_nil, List.cons_append, List.nil_append, List.replicate_succ, List.replicate_zero, List.length_cons, List.length_nil, List.getElem?_cons_zero, List.getElem?_cons_succ, List.set_cons_zero, List.set_cons_succ, List.append_nil,
  Nat.add_one_sub_one, Nat.reduceAdd, Nat.reduceSub, Nat.reduceLeDiff, Nat.sub_zero, Nat.zero_add, if_true, if_false, ite_true, ite_false, Bool.false_eq_true, reduceIte, Bool.not_true, Bool.not_false, Bool.not_eq_true', Nat.zero_le, true_and, and_true, decide_eq_true_eq, Nat.reduceEqDiff, Option.some.injEq, exists_eq_left', reduceCtorEq, atI_zero, atI_one, atI_two, List.set_cons_zero, List.set_cons_succ, wp_kdE, wp_kdAt, wp_fldE, wp_methE, wp_meth, wp_methRs, wp_star, wp_starT, wp_rng1, wp_rngAt, cut_tail, Option.map_some, SX.S_cat, SX.S_len, LIM, e_drop, e_pick]
  refine wp_spring hl (fun n m s0 hS => ?_) st
  try simp only [wp_run, wp_bind, wp_ok, wp_bad, wpS_seq, Dn.wpS_set, wpS_ret, wpS_if, wpS_expr, wpS_skip, wpS_par, wpS_par3, wpS_asg, wpS_itemS, wpS_fldS, wpS_for, wpS_nx, wpS_rt, wpS_bk, wpS_ct, wpS_bad, wp_lc, wpS_never, thenK_nx, thenK_rt, thenK_bk, thenK_ct, outK_nx, outK_rt, turnK_nx, turnK_rt, turnK_bk, turnK_ct,
  wp_addI, wp_addS, wp_addT, wp_subI, wp_mulI, wp_mulS, wp_fdivI, wp_modI, wp_powI, ltD_int, leD_int, gtD_int, geD_int, eqV_int, eqV_str, wp_itemT, wp_itemR, wp_itemS, lenD_tup, lenD_rol, wp_lenS, intD_int, intD_bl, wp_intS, absD_int, minD_int, strD_str, wp_strI, wp_listS, truR_bl, sliceD_tup, sliceD_rol, wp_sliceS, wp_tup, wp_lst, wp_ifE, wp_andT, wp_orT, wp_notT, wp_appN, startsD_str,
  Dn.envOf, var, con, Dn.bin, app, consA, nilA, test, slice, noO, someO, List.map_cons, List.map_nil, List.cons_append, List.nil_append, List.replicate_succ, List.replicate_zero, List.length_cons, List.length_nil, List.getElem?_cons_zero, List.getElem?_cons_succ, List.set_cons_zero, List.set_cons_succ, List.append_nil,
  Nat.add_one_sub_one, Nat.reduceAdd, Nat.reduceSub, Nat.reduceLeDiff, Nat.sub_zero, Nat.zero_add, if_true, if_false, ite_true, ite_false, Bool.false_eq_true, reduceIte, Bool.not_true, Bool.not_false, Bool.not_eq_true', Nat.zero_le, true_and, and_true, decide_eq_true_eq, Nat.reduceEqDiff, Option.some.injEq, exists_eq_left', reduceCtorEq, atI_zero, atI_one, atI_two, List.set_cons_zero, List.set_cons_succ, wp_kdE, wp_kdAt, wp_fldE, wp_methE, wp_meth, wp_methRs, wp_star, wp_starT, wp_rng1, wp_rngAt, cut_tail, Option.map_some, SX.S_cat, SX.S_len, LIM]
  refine ⟨⟨by decide, by decide⟩, ?_⟩
  refine wpS_forN (fun l r s => ∃ o2 o3 o4 o5 o6 o7 o8 o9, (∀ d ∈ l, ∃ i : Int, d = .int i) ∧ r = [some (.rol (intsD ns)), some (.loc n), o2, o3, o4, o5, o6, o7, o8, o9] ∧ Sp n m s) (fun _ _ _ _ => oks_nil) ?_ ?_ _ _ _ ⟨none, none, none, none, none, none, none, none, fun d hd => ?_, rfl, hS⟩
  · rintro r s ⟨o2, o3, o4, o5, o6, o7, o8, o9, -, rfl, -⟩
    try simp only [wp_run, wp_bind, wp_ok, wp_bad, wpS_seq, Dn.wpS_set, wpS_ret, wpS_if, wpS_expr, wpS_skip, wpS_par, wpS_par3, wpS_asg, wpS_itemS, wpS_fldS, wpS_for, wpS_nx, wpS_rt, wpS_bk, wpS_ct, wpS_bad, wp_lc, wpS_never, thenK_nx, thenK_rt, thenK_bk, thenK_ct, outK_nx, outK_rt, turnK_nx, turnK_rt, turnK_bk, turnK_ct,
  wp_addI, wp_addS, wp_addT, wp_subI, wp_mulI, wp_mulS, wp_fdivI, wp_modI, wp_powI, ltD_int, leD_int, gtD_int, geD_int, eqV_int, eqV_str, wp_itemT, wp_itemR, wp_itemS, lenD_tup, lenD_rol, wp_lenS, intD_int, intD_bl, wp_intS, absD_int, minD_int, strD_str, wp_strI, wp_listS, truR_bl, sliceD_tup, sliceD_rol, wp_sliceS, wp_tup, wp_lst, wp_ifE, wp_andT, wp_orT, wp_notT, wp_appN, startsD_str,
  Dn.envOf, var, con, Dn.bin, app, consA, nilA, test, slice, noO, someO, List.map_cons, List.map_nil, List.cons_append, List.nil_append, List.replicate_succ, List.replicate_zero, List.length_cons, List.length_nil, List.getElem?_cons_zero, List.getElem?_cons_succ, List.set_cons_zero, List.set_cons_succ, List.append_nil,
  Nat.add_one_sub_one, Nat.reduceAdd, Nat.reduceSub, Nat.reduceLeDiff, Nat.sub_zero, Nat.zero_add, if_true, if_false, ite_true, ite_false, Bool.false_eq_true, reduceIte, Bool.not_true, Bool.not_false, Bool.not_eq_true', Nat.zero_le, true_and, and_true, decide_eq_true_eq, Nat.reduceEqDiff, Option.some.injEq, exists_eq_left', reduceCtorEq, atI_zero, atI_one, atI_two, List.set_cons_zero, List.set_cons_succ, wp_kdE, wp_kdAt, wp_fldE, wp_methE, wp_meth, wp_methRs, wp_star, wp_starT, wp_rng1, wp_rngAt, cut_tail, Option.map_some, SX.S_cat, SX.S_len, LIM]
  · rintro d l r s ⟨o2, o3, o4, o5, o6, o7, o8, o9, hl2, rfl, hS⟩
    obtain ⟨tn, rfl⟩ := hl2 d List.mem_cons_self
    refine ⟨_, rfl, ?_⟩
    simp only [wp_run, wp_bind, wp_ok, wp_bad, wpS_seq, Dn.wpS_set, wpS_ret, wpS_if, wpS_expr, wpS_skip, wpS_par, wpS_par3, wpS_asg, wpS_itemS, wpS_fldS, wpS_for, wpS_nx, wpS_rt, wpS_bk, wpS_ct, wpS_bad, wp_lc, wpS_never, thenK_nx, thenK_rt, thenK_bk, thenK_ct, outK_nx, outK_rt, turnK_nx, turnK_rt, turnK_bk, turnK_ct,
  wp_addI, wp_addS, wp_addT, wp_subI, wp_mulI, wp_mulS, wp_fdivI, wp_modI, wp_powI, ltD_int, leD_int, gtD_int, geD_int, eqV_int, eqV_str, wp_itemT, wp_itemR, wp_itemS, lenD_tup, lenD_rol, wp_lenS, intD_int, intD_bl, wp_intS, absD_int, minD_int, strD_str, wp_strI, wp_listS, truR_bl, sliceD_tup, sliceD_rol, wp_sliceS, wp_tup, wp_lst, wp_ifE, wp_andT, wp_orT, wp_notT, wp_appN, startsD_str,
  Dn.envOf, var, con, Dn.bin, app, consA, nilA, test, slice, noO, someO, List.map_cons, List.map_nil, List.cons_append, List.nil_append, List.replicate_succ, List.replicate_zero, List.length_cons, List.length_nil, List.getElem?_cons_zero, List.getElem?_cons_succ, List.set_cons_zero, List.set_cons_succ, List.append_nil,
  Nat.add_one_sub_one, Nat.reduceAdd, Nat.reduceSub, Nat.reduceLeDiff, Nat.sub_zero, Nat.zero_add, if_true, if_false, ite_true, ite_false, Bool.false_eq_true, reduceIte, Bool.not_true, Bool.not_false, Bool.not_eq_true', Nat.zero_le, true_and, and_true, decide_eq_true_eq, Nat.reduceEqDiff, Option.some.injEq, exists_eq_left', reduceCtorEq, atI_zero, atI_one, atI_two, List.set_cons_zero, List.set_cons_succ, wp_kdE, wp_kdAt, wp_fldE, wp_methE, wp_meth, wp_methRs, wp_star, wp_starT, wp_rng1, wp_rngAt, cut_tail, Option.map_some, SX.S_cat, SX.S_len, LIM, e_drop, e_pick]
    refine wp_app hS fun apq s1 happ g1 => ?_
    try simp only [wp_run, wp_bind, wp_ok, wp_bad, wpS_seq, Dn.wpS_set, wpS_ret, wpS_if, wpS_expr, wpS_skip, wpS_par, wpS_par3, wpS_asg, wpS_itemS, wpS_fldS, wpS_for, wpS_nx, wpS_rt, wpS_bk, wpS_ct, wpS_bad, wp_lc, wpS_never, thenK_nx, thenK_rt, thenK_bk, thenK_ct, outK_nx, outK_rt, turnK_nx, turnK_rt, turnK_bk, turnK_ct,
  wp_addI, wp_addS, wp_addT, wp_subI, wp_mulI, wp_mulS, wp_fdivI, wp_modI, wp_powI, ltD_int, leD_int, gtD_int, geD_int, eqV_int, eqV_str, wp_itemT, wp_itemR, wp_itemS, lenD_tup, lenD_rol, wp_lenS, intD_int, intD_bl, wp_intS, absD_int, minD_int, strD_str, wp_strI, wp_listS, truR_bl, sliceD_tup, sliceD_rol, wp_sliceS, wp_tup, wp_lst, wp_ifE, wp_andT, wp_orT, wp_notT, wp_appN, startsD_str,
  Dn.envOf, var, con, Dn.bin, app, consA, nilA, test, slice, noO, someO, List.map_cons, List.map_nil, List.cons_append, List.nil_append, List.replicate_succ, List.replicate_zero, List.length_cons, List.length_nil, List.getElem?_cons_zero, List.getElem?_cons_succ, List.set_cons_zero, List.set_cons_succ, List.append_nil,
  Nat.add_one_sub_one, Nat.reduceAdd, Nat.reduceSub, Nat.reduceLeDiff, Nat.sub_zero, Nat.zero_add, if_true, if_false, ite_true, ite_false, Bool.false_eq_true, reduceIte, Bool.not_true, Bool.not_false, Bool.not_eq_true', Nat.zero_le, true_and, and_true, decide_eq_true_eq, Nat.reduceEqDiff, Option.some.injEq, exists_eq_left', reduceCtorEq, atI_zero, atI_one, atI_two, List.set_cons_zero, List.set_cons_succ, wp_kdE, wp_kdAt, wp_fldE, wp_methE, wp_meth, wp_methRs, wp_star, wp_starT, wp_rng1, wp_rngAt, cut_tail, Option.map_some, SX.S_cat, SX.S_len, LIM]
    refine wp_drop g1.sp (by omega) (by omega) fun j s2 j0 j1 g2 => ?_
    have e1 : (1 + j) = ((j.toNat + 1 : Nat) : Int) := by omega
    rw [wp_addI, e1]
    refine wp_words1 (j.toNat + 1) 60 apq s2 _ (by omega) (by omega) (by omega) g2.sp happ fun x1 s3 hx1 g3 => ?_
    have hx1 := gg_gd hx1 (by omega)
    try simp only [wp_run, wp_bind, wp_ok, wp_bad, wpS_seq, Dn.wpS_set, wpS_ret, wpS_if, wpS_expr, wpS_skip, wpS_par, wpS_par3, wpS_asg, wpS_itemS, wpS_fldS, wpS_for, wpS_nx, wpS_rt, wpS_bk, wpS_ct, wpS_bad, wp_lc, wpS_never, thenK_nx, thenK_rt, thenK_bk, thenK_ct, outK_nx, outK_rt, turnK_nx, turnK_rt, turnK_bk, turnK_ct,
  wp_addI, wp_addS, wp_addT, wp_subI, wp_mulI, wp_mulS, wp_fdivI, wp_modI, wp_powI, ltD_int, leD_int, gtD_int, geD_int, eqV_int, eqV_str, wp_itemT, wp_itemR, wp_itemS, lenD_tup, lenD_rol, wp_lenS, intD_int, intD_bl, wp_intS, absD_int, minD_int, strD_str, wp_strI, wp_listS, truR_bl, sliceD_tup, sliceD_rol, wp_sliceS, wp_tup, wp_lst, wp_ifE, wp_andT, wp_orT, wp_notT, wp_appN, startsD_str,
  Dn.envOf, var, con, Dn.bin, app, consA, nilA, test, slice, noO, someO, List.map_cons, List.map_nil, List.cons_append, List.nil_append, List.replicate_succ, List.replicate_zero, List.length_cons, List.length_nil, List.getElem?_cons_zero, List.getElem?_cons_succ, List.set_cons_zero, List.set_cons_succ, List.append_nil,
  Nat.add_one_sub_one, Nat.reduceAdd, Nat.reduceSub, Nat.reduceLeDiff, Nat.sub_zero, Nat.zero_add, if_true, if_false, ite_true, ite_false, Bool.false_eq_true, reduceIte, Bool.not_true, Bool.not_false, Bool.not_eq_true', Nat.zero_le, true_and, and_true, decide_eq_true_eq, Nat.reduceEqDiff, Option.some.injEq, exists_eq_left', reduceCtorEq, atI_zero, atI_one, atI_two, List.set_cons_zero, List.set_cons_succ, wp_kdE, wp_kdAt, wp_fldE, wp_methE, wp_meth, wp_methRs, wp_star, wp_starT, wp_rng1, wp_rngAt, cut_tail, Option.map_some, SX.S_cat, SX.S_len, LIM]
    refine wp_drop g3.sp (by omega) (by omega) fun j2 s4 j20 j21 g4 => ?_
    try simp only [wp_run, wp_bind, wp_ok, wp_bad, wpS_seq, Dn.wpS_set, wpS_ret, wpS_if, wpS_expr, wpS_skip, wpS_par, wpS_par3, wpS_asg, wpS_itemS, wpS_fldS, wpS_for, wpS_nx, wpS_rt, wpS_bk, wpS_ct, wpS_bad, wp_lc, wpS_never, thenK_nx, thenK_rt, thenK_bk, thenK_ct, outK_nx, outK_rt, turnK_nx, turnK_rt, turnK_bk, turnK_ct,
  wp_addI, wp_addS, wp_addT, wp_subI, wp_mulI, wp_mulS, wp_fdivI, wp_modI, wp_powI, ltD_int, leD_int, gtD_int, geD_int, eqV_int, eqV_str, wp_itemT, wp_itemR, wp_itemS, lenD_tup, lenD_rol, wp_lenS, intD_int, intD_bl, wp_intS, absD_int, minD_int, strD_str, wp_strI, wp_listS, truR_bl, sliceD_tup, sliceD_rol, wp_sliceS, wp_tup, wp_lst, wp_ifE, wp_andT, wp_orT, wp_notT, wp_appN, startsD_str,
  Dn.envOf, var, con, Dn.bin, app, consA, nilA, test, slice, noO, someO, List.map_cons, List.map_nil, List.cons_append, List.nil_append, List.replicate_succ, List.replicate_zero, List.length_cons, List.length_nil, List.getElem?_cons_zero, List.getElem?_cons_succ, List.set_cons_zero, List.set_cons_succ, List.append_nil,
  Nat.add_one_sub_one, Nat.reduceAdd, Nat.reduceSub, Nat.reduceLeDiff, Nat.sub_zero, Nat.zero_add, if_true, if_false, ite_true, ite_false, Bool.false_eq_true, reduceIte, Bool.not_true, Bool.not_false, Bool.not_eq_true', Nat.zero_le, true_and, and_true, decide_eq_true_eq, Nat.reduceEqDiff, Option.some.injEq, exists_eq_left', reduceCtorEq, atI_zero, atI_one, atI_two, List.set_cons_zero, List.set_cons_succ, wp_kdE, wp_kdAt, wp_fldE, wp_methE, wp_meth, wp_methRs, wp_star, wp_starT, wp_rng1, wp_rngAt, cut_tail, Option.map_some, SX.S_cat, SX.S_len, LIM]
    refine wp_long g4.sp j20 (by omega) fun x2 s5 hx2 g5 => ?_
    have hx2 := gg_gl hx2
    have hne5 := g5.sp.ne_len
    try simp only [wp_run, wp_bind, wp_ok, wp_bad, wpS_seq, Dn.wpS_set, wpS_ret, wpS_if, wpS_expr, wpS_skip, wpS_par, wpS_par3, wpS_asg, wpS_itemS, wpS_fldS, wpS_for, wpS_nx, wpS_rt, wpS_bk, wpS_ct, wpS_bad, wp_lc, wpS_never, thenK_nx, thenK_rt, thenK_bk, thenK_ct, outK_nx, outK_rt, turnK_nx, turnK_rt, turnK_bk, turnK_ct,
  wp_addI, wp_addS, wp_addT, wp_subI, wp_mulI, wp_mulS, wp_fdivI, wp_modI, wp_powI, ltD_int, leD_int, gtD_int, geD_int, eqV_int, eqV_str, wp_itemT, wp_itemR, wp_itemS, lenD_tup, lenD_rol, wp_lenS, intD_int, intD_bl, wp_intS, absD_int, minD_int, strD_str, wp_strI, wp_listS, truR_bl, sliceD_tup, sliceD_rol, wp_sliceS, wp_tup, wp_lst, wp_ifE, wp_andT, wp_orT, wp_notT, wp_appN, startsD_str,
  Dn.envOf, var, con, Dn.bin, app, consA, nilA, test, slice, noO, someO, List.map_cons, List.map_nil, List.cons_append, List.nil_append, List.replicate_succ, List.replicate_zero, List.length_cons, List.length_nil, List.getElem?_cons_zero, List.getElem?_cons_succ, List.set_cons_zero, List.set_cons_succ, List.append_nil,
  Nat.add_one_sub_one, Nat.reduceAdd, Nat.reduceSub, Nat.reduceLeDiff, Nat.sub_zero, Nat.zero_add, if_true, if_false, ite_true, ite_false, Bool.false_eq_true, reduceIte, Bool.not_true, Bool.not_false, Bool.not_eq_true', Nat.zero_le, true_and, and_true, decide_eq_true_eq, Nat.reduceEqDiff, Option.some.injEq, exists_eq_left', reduceCtorEq, atI_zero, atI_one, atI_two, List.set_cons_zero, List.set_cons_succ, wp_kdE, wp_kdAt, wp_fldE, wp_methE, wp_meth, wp_methRs, wp_star, wp_starT, wp_rng1, wp_rngAt, cut_tail, Option.map_some, SX.S_cat, SX.S_len, LIM]
    refine wp_drop (g5.sp.push _) (by omega) (by omega) fun j3 s6 j30 j31 g6 => ?_
    have c6 := gr_cell g6 hne5.1 hne5.2 (cellL_of get_last)
    have e2 : (1 + j3) = ((j3.toNat + 1 : Nat) : Int) := by omega
    rw [wp_addI, e2]
    refine wp_far (j3.toNat + 1) 60 s6 _ (by omega) (by omega) g6.sp fun x3 s7 hx3 g7 => ?_
    have hx3 := gg_gd hx3 (by omega)
    have c7 := gr_cell g7 hne5.1 hne5.2 c6
    try simp only [wp_run, wp_bind, wp_ok, wp_bad, wpS_seq, Dn.wpS_set, wpS_ret, wpS_if, wpS_expr, wpS_skip, wpS_par, wpS_par3, wpS_asg, wpS_itemS, wpS_fldS, wpS_for, wpS_nx, wpS_rt, wpS_bk, wpS_ct, wpS_bad, wp_lc, wpS_never, thenK_nx, thenK_rt, thenK_bk, thenK_ct, outK_nx, outK_rt, turnK_nx, turnK_rt, turnK_bk, turnK_ct,
  wp_addI, wp_addS, wp_addT, wp_subI, wp_mulI, wp_mulS, wp_fdivI, wp_modI, wp_powI, ltD_int, leD_int, gtD_int, geD_int, eqV_int, eqV_str, wp_itemT, wp_itemR, wp_itemS, lenD_tup, lenD_rol, wp_lenS, intD_int, intD_bl, wp_intS, absD_int, minD_int, strD_str, wp_strI, wp_listS, truR_bl, sliceD_tup, sliceD_rol, wp_sliceS, wp_tup, wp_lst, wp_ifE, wp_andT, wp_orT, wp_notT, wp_appN, startsD_str,
  Dn.envOf, var, con, Dn.bin, app, consA, nilA, test, slice, noO, someO, List.map_cons, List.map_nil, List.cons_append, List.nil_append, List.replicate_succ, List.replicate_zero, List.length_cons, List.length_nil, List.getElem?_cons_zero, List.getElem?_cons_succ, List.set_cons_zero, List.set_cons_succ, List.append_nil,
  Nat.add_one_sub_one, Nat.reduceAdd, Nat.reduceSub, Nat.reduceLeDiff, Nat.sub_zero, Nat.zero_add, if_true, if_false, ite_true, ite_false, Bool.false_eq_true, reduceIte, Bool.not_true, Bool.not_false, Bool.not_eq_true', Nat.zero_le, true_and, and_true, decide_eq_true_eq, Nat.reduceEqDiff, Option.some.injEq, exists_eq_left', reduceCtorEq, atI_zero, atI_one, atI_two, List.set_cons_zero, List.set_cons_succ, wp_kdE, wp_kdAt, wp_fldE, wp_methE, wp_meth, wp_methRs, wp_star, wp_starT, wp_rng1, wp_rngAt, cut_tail, Option.map_some, SX.S_cat, SX.S_len, LIM]
    refine wp_far 9 60 s7 _ (by omega) (by omega) g7.sp fun x4 s8 hx4 g8 => ?_
    have hx4 := gg_gd hx4 (by omega)
    have c8 := gr_cell g8 hne5.1 hne5.2 c7
    try simp only [wp_run, wp_bind, wp_ok, wp_bad, wpS_seq, Dn.wpS_set, wpS_ret, wpS_if, wpS_expr, wpS_skip, wpS_par, wpS_par3, wpS_asg, wpS_itemS, wpS_fldS, wpS_for, wpS_nx, wpS_rt, wpS_bk, wpS_ct, wpS_bad, wp_lc, wpS_never, thenK_nx, thenK_rt, thenK_bk, thenK_ct, outK_nx, outK_rt, turnK_nx, turnK_rt, turnK_bk, turnK_ct,
  wp_addI, wp_addS, wp_addT, wp_subI, wp_mulI, wp_mulS, wp_fdivI, wp_modI, wp_powI, ltD_int, leD_int, gtD_int, geD_int, eqV_int, eqV_str, wp_itemT, wp_itemR, wp_itemS, lenD_tup, lenD_rol, wp_lenS, intD_int, intD_bl, wp_intS, absD_int, minD_int, strD_str, wp_strI, wp_listS, truR_bl, sliceD_tup, sliceD_rol, wp_sliceS, wp_tup, wp_lst, wp_ifE, wp_andT, wp_orT, wp_notT, wp_appN, startsD_str,
  Dn.envOf, var, con, Dn.bin, app, consA, nilA, test, slice, noO, someO, List.map_cons, List.map_nil, List.cons_append, List.nil_append, List.replicate_succ, List.replicate_zero, List.length_cons, List.length_nil, List.getElem?_cons_zero, List.getElem?_cons_succ, List.set_cons_zero, List.set_cons_succ, List.append_nil,
  Nat.add_one_sub_one, Nat.reduceAdd, Nat.reduceSub, Nat.reduceLeDiff, Nat.sub_zero, Nat.zero_add, if_true, if_false, ite_true, ite_false, Bool.false_eq_true, reduceIte, Bool.not_true, Bool.not_false, Bool.not_eq_true', Nat.zero_le, true_and, and_true, decide_eq_true_eq, Nat.reduceEqDiff, Option.some.injEq, exists_eq_left', reduceCtorEq, atI_zero, atI_one, atI_two, List.set_cons_zero, List.set_cons_succ, wp_kdE, wp_kdAt, wp_fldE, wp_methE, wp_meth, wp_methRs, wp_star, wp_starT, wp_rng1, wp_rngAt, cut_tail, Option.map_some, SX.S_cat, SX.S_len, LIM]
    rw [wp_addL (st := s8 ++ [_]) (cellL_of (get_app (cellL_some c8))) (cellL_of get_last)]
    refine ⟨by show _ ≤ 4000000; simp, ?_⟩
    have g9 := gr_push (c := .lst [x3, x4]) g8
    have hneP := g9.sp.ne_len
    have cP : cellL (s8 ++ [Cell.lst [x3, x4]] ++ [Cell.lst ([x1, x2] ++ [x3, x4])]) (s8 ++ [Cell.lst [x3, x4]]).length = some ([x1, x2] ++ [x3, x4]) := cellL_of get_last
    have g10 := gr_push (c := .lst ([x1, x2] ++ [x3, x4])) g9
    have hall : ∀ d ∈ [x1, x2] ++ [x3, x4], GG d := fun d hd => by
      simp only [List.cons_append, List.nil_append, List.mem_cons, List.not_mem_nil, or_false] at hd
      rcases hd with rfl | rfl | rfl | rfl
      · exact hx1
      · exact hx2
      · exact hx3
      · exact hx4
    have hlen4 : ([x1, x2] ++ [x3, x4]).length = 4 := rfl
    have S10 := g10.sp
    clear g10 g9
    revert hneP cP S10 hall hlen4
    generalize (s8 ++ [Cell.lst [x3, x4]]).length = pP
    generalize s8 ++ [Cell.lst [x3, x4]] ++ [Cell.lst ([x1, x2] ++ [x3, x4])] = s10
    generalize [x1, x2] ++ [x3, x4] = four
    intro hneP cP hall hlen4 S10
    refine ⟨⟨by decide, by decide⟩, ?_⟩
    refine wp_gen (P := fun y => ∃ l, y = T l ∧ Nm l) S10 (by simp) (fun dd s g => ?_) fun ds s11 hlds hP g11 hc11 => ?_
    · simp only [wp_run, wp_bind, wp_ok, wp_bad, wpS_seq, Dn.wpS_set, wpS_ret, wpS_if, wpS_expr, wpS_skip, wpS_par, wpS_par3, wpS_asg, wpS_itemS, wpS_fldS, wpS_for, wpS_nx, wpS_rt, wpS_bk, wpS_ct, wpS_bad, wp_lc, wpS_never, thenK_nx, thenK_rt, thenK_bk, thenK_ct, outK_nx, outK_rt, turnK_nx, turnK_rt, turnK_bk, turnK_ct,
  wp_addI, wp_addS, wp_addT, wp_subI, wp_mulI, wp_mulS, wp_fdivI, wp_modI, wp_powI, ltD_int, leD_int, gtD_int, geD_int, eqV_int, eqV_str, wp_itemT, wp_itemR, wp_itemS, lenD_tup, lenD_rol, wp_lenS, intD_int, intD_bl, wp_intS, absD_int, minD_int, strD_str, wp_strI, wp_listS, truR_bl, sliceD_tup, sliceD_rol, wp_sliceS, wp_tup, wp_lst, wp_ifE, wp_andT, wp_orT, wp_notT, wp_appN, startsD_str,
  Dn.envOf, var, con, Dn.bin, app, consA, nilA, test, slice, noO, someO, List.map_cons, List.map_nil, List.cons_append, List.nil_append, List.replicate_succ, List.replicate_zero, List.length_cons, List.length_nil, List.getElem?_cons_zero, List.getElem?_cons_succ, List.set_cons_zero, List.set_cons_succ, List.append_nil,
  Nat.add_one_sub_one, Nat.reduceAdd, Nat.reduceSub, Nat.reduceLeDiff, Nat.sub_zero, Nat.zero_add, if_true, if_false, ite_true, ite_false, Bool.false_eq_true, reduceIte, Bool.not_true, Bool.not_false, Bool.not_eq_true', Nat.zero_le, true_and, and_true, decide_eq_true_eq, Nat.reduceEqDiff, Option.some.injEq, exists_eq_left', reduceCtorEq, atI_zero, atI_one, atI_two, List.set_cons_zero, List.set_cons_succ, wp_kdE, wp_kdAt, wp_fldE, wp_methE, wp_meth, wp_methRs, wp_star, wp_starT, wp_rng1, wp_rngAt, cut_tail, Option.map_some, SX.S_cat, SX.S_len, LIM, wipeE, e_pick]
      refine wp_pickL g.sp (by simp) (by simp) fun x s' hx g' => ⟨?_, g'⟩
      simp only [List.mem_cons, List.not_mem_nil, or_false] at hx
      rcases hx with rfl | rfl | rfl
      · exact ⟨[97], rfl, nm_lit rfl⟩
      · exact ⟨[98], rfl, nm_lit rfl⟩
      · exact ⟨[122], rfl, nm_lit rfl⟩
    · obtain ⟨ks, rfl, hks⟩ := names_of hP
      have hk7 : ks.length = 7 := by simpa using hlds
      have cP := gr_cell g11 hneP.1 hneP.2 cP
      rw [wp_mulL hc11]
      refine ⟨⟨by rw [List.length_map]; omega, by decide, by decide⟩, ?_⟩
      rw [tupleD_seq (seqD_loc.trans (cellL_of get_last))]
      have hbig : GG (.tup [T l_not, .tup [T l_is, T [113], .tup (List.replicate (Int.toNat 200) (ks.map T)).flatten]]) := by
        obtain ⟨k2, e, hk2⟩ := names_of (ds := (List.replicate (Int.toNat 200) (ks.map T)).flatten) fun y hy => by
          obtain ⟨x, hx, rfl⟩ := List.mem_map.mp (flat_mem hy)
          exact ⟨x, rfl, hks x hx⟩
        have hl2 : k2.length = 1400 := by
          have := congrArg List.length e
          rw [flat_len, List.length_map, List.length_map, hk7] at this
          exact this.symm
        rw [e]
        exact gg_big hk2 (by omega)
      revert hbig
      generalize (List.replicate (Int.toNat 200) (ks.map T)).flatten = stk
      intro hbig
      rw [wp_ok, wp_mulL (cellL_of get_last)]
      refine ⟨⟨by simp, by split <;> decide, by split <;> decide⟩, ?_⟩
      rw [wp_addL (cellL_of (get_app (get_app (get_app (cellL_some cP))))) (cellL_of get_last)]
      have hrep : (List.replicate (if (tn == 2) = true then (1 : Int) else 0).toNat [D.tup [D.str "not", D.tup [D.str "is", D.str "q", D.tup stk]]]).flatten.length ≤ 1 := by
        rw [flat_len]
        split <;> simp
      have hallr : ∀ d ∈ (List.replicate (if (tn == 2) = true then (1 : Int) else 0).toNat [D.tup [D.str "not", D.tup [D.str "is", D.str "q", D.tup stk]]]).flatten, GG d := fun d hd => by
        rw [List.mem_singleton.mp (flat_mem hd)]
        exact hbig
      revert hrep hallr
      generalize (List.replicate (if (tn == 2) = true then (1 : Int) else 0).toNat [D.tup [D.str "not", D.tup [D.str "is", D.str "q", D.tup stk]]]).flatten = more
      intro hrep hallr
      refine ⟨by show _ ≤ 4000000; omega, ?_⟩
      rw [wp_seqW]
      have S11 := ((g11.sp.push (.lst stk)).push (.lst [D.tup [D.str "not", D.tup [D.str "is", D.str "q", D.tup stk]]])).push (.lst more)
      revert S11
      generalize (s11 ++ [Cell.lst stk] ++ [Cell.lst [D.tup [D.str "not", D.tup [D.str "is", D.str "q", D.tup stk]]]] ++ [Cell.lst more]) = s12
      intro S11
      try simp only [wp_run, wp_bind, wp_ok, wp_bad, wpS_seq, Dn.wpS_set, wpS_ret, wpS_if, wpS_expr, wpS_skip, wpS_par, wpS_par3, wpS_asg, wpS_itemS, wpS_fldS, wpS_for, wpS_nx, wpS_rt, wpS_bk, wpS_ct, wpS_bad, wp_lc, wpS_never, thenK_nx, thenK_rt, thenK_bk, thenK_ct, outK_nx, outK_rt, turnK_nx, turnK_rt, turnK_bk, turnK_ct,
  wp_addI, wp_addS, wp_addT, wp_subI, wp_mulI, wp_mulS, wp_fdivI, wp_modI, wp_powI, ltD_int, leD_int, gtD_int, geD_int, eqV_int, eqV_str, wp_itemT, wp_itemR, wp_itemS, lenD_tup, lenD_rol, wp_lenS, intD_int, intD_bl, wp_intS, absD_int, minD_int, strD_str, wp_strI, wp_listS, truR_bl, sliceD_tup, sliceD_rol, wp_sliceS, wp_tup, wp_lst, wp_ifE, wp_andT, wp_orT, wp_notT, wp_appN, startsD_str,
  Dn.envOf, var, con, Dn.bin, app, consA, nilA, test, slice, noO, someO, List.map_cons, List.map_nil, List.cons_append, List.nil_append, List.replicate_succ, List.replicate_zero, List.length_cons, List.length_nil, List.getElem?_cons_zero, List.getElem?_cons_succ, List.set_cons_zero, List.set_cons_succ, List.append_nil,
  Nat.add_one_sub_one, Nat.reduceAdd, Nat.reduceSub, Nat.reduceLeDiff, Nat.sub_zero, Nat.zero_add, if_true, if_false, ite_true, ite_false, Bool.false_eq_true, reduceIte, Bool.not_true, Bool.not_false, Bool.not_eq_true', Nat.zero_le, true_and, and_true, decide_eq_true_eq, Nat.reduceEqDiff, Option.some.injEq, exists_eq_left', reduceCtorEq, atI_zero, atI_one, atI_two, List.set_cons_zero, List.set_cons_succ, wp_kdE, wp_kdAt, wp_fldE, wp_methE, wp_meth, wp_methRs, wp_star, wp_starT, wp_rng1, wp_rngAt, cut_tail, Option.map_some, SX.S_cat, SX.S_len, LIM]
      rw [wp_seqAtL (cellL_of get_last)]
      have hallL : ∀ d ∈ four ++ more, GG d := fun d hd => (List.mem_append.mp hd).elim (hall d) (hallr d)
      refine wpS_forN (fun l2 r s => (∀ d ∈ l2, GG d) ∧ (∃ o7 o8 o9, r = [some (.rol (intsD ns)), some (.loc n), some (.int tn), some apq, some (.loc s12.length), some (.tup stk), o6, o7, o8, o9]) ∧ Ext (s12 ++ [Cell.lst (four ++ more)]) s) (fun _ _ s hI p hp => ?_) ?_ ?_ _ _ _ ⟨hallL, ⟨_, _, _, rfl⟩, Ext.refl⟩
      · rw [List.mem_singleton.mp hp]
        exact hI.2.2.get get_last
      · rintro r s ⟨-, ⟨o7, o8, o9, rfl⟩, hE⟩
        rw [turnK_nx]
        exact ⟨_, _, _, _, _, _, _, _, fun d hd => hl2 d (List.mem_cons_of_mem _ hd), rfl, hE.sp (S11.push _)⟩
      · rintro d l3 r s ⟨hg, ⟨o7, o8, o9, rfl⟩, hE⟩
        obtain ⟨w, rfl, w1, w2, w3, w4⟩ := hg d List.mem_cons_self
        refine ⟨_, rfl, ?_⟩
        exact wp_one w1 w2 w3 w4 fun o8 o9 s2 hE2 => ⟨fun d hd => hg d (List.mem_cons_of_mem _ hd), ⟨_, _, _, rfl⟩, hE.trans hE2⟩
  · obtain ⟨i, -, rfl⟩ := List.mem_map.mp hd
    exact ⟨_, rfl⟩
end
theorem law91 (ns : List Int) (hl : ns.length ≤ 63) : ∃ st, F_law [.rol (intsD ns)] [] = .ok (.bl true) st := by
  obtain ⟨d, st, e, h⟩ := wp_ex (wp_law (st := []) hl)
  exact ⟨st, by rw [e, h]⟩
end T91


set_option Elab.async false
set_option linter.all false
set_option maxRecDepth 100000
set_option maxHeartbeats 0
namespace T91
open PySem PySem.Spec PyProof.Rows L2 Dn
theorem gfx {w : World} {h : Heap} {mg : Str → Option Value} (Y : hk.says w h) (G : h.Ns mainGlobals mg) : ∃ K, K.In h ∧ GFx w K mg := by
  obtain ⟨K, h1, h2, h3⟩ := Y
  exact ⟨K, h1, h2, h3, h, h1, G⟩
end T91
open PySem PySem.W PySem.Calls PyProof.Rows Dn
theorem fin91 (law : ∀ ns : List Int, ns.length ≤ 63 → ∃ st, T91.F_law [.rol (Dn.intsD ns)] [] = .ok (.bl true) st) : PySem.Challenge.rw_backstacks_k91_words_written_and_read.Holds := by
  w_on; o_law
  refine HandSHeadRun.head_any (r := OpenLaw.row PySem.Challenge.rw_backstacks_k91_words_written_and_read) (q := view (OpenLaw.row PySem.Challenge.rw_backstacks_k91_words_written_and_read).prog [36]) (H := T91.hk) (ob := T91.ob) (M := 20000) (loose := T91.loose)
    (d := HandSHeadRun.topDef (OpenLaw.row PySem.Challenge.rw_backstacks_k91_words_written_and_read).prog 36) (kwd := []) T91.ob_eq
    (by kernel_rfl) (fun s => by kernel_rfl) T91.headRun (by kernel_rfl) (by kernel_rfl) (by kernel_rfl) (by rfl) (by first | assumption | decide +kernel) (by decide +kernel) ⟨rfl, rfl, rfl, rfl, rfl, by decide +kernel⟩ ?hw ?hc
  case hw => w_witness2
  case hc =>
    refine Dn.walk_G (n := 63) (k := 66) (x := "_law_script") (F := T91.F_law) rfl (by decide) (by kernel_rfl) ⟨⟨rfl, by decide, by decide⟩, rfl⟩ ?F law
    intro w mg fa h Y G hmg0
    obtain ⟨K, KX, c⟩ := T91.gfx Y G
    have hmg : mg ("law" : PySem.Str) = some (.ref fa) := by
      have e : (HandSHeadRun.topDef (OpenLaw.row PySem.Challenge.rw_backstacks_k91_words_written_and_read).prog 36).name = ("law" : PySem.Str) := by kernel_rfl
      rw [← e]
      exact hmg0
    refine ⟨K, KX, fun base h1 h2 => ?_⟩
    have g := c.glo (T91.fa.length - 1) (x := "law") rfl
    rw [hmg] at g
    cases g
    exact T91.ok_law c


set_option maxHeartbeats 0
theorem PySem.Challenge.cw_backstacks_k91_words_written_and_read_holds : PySem.Challenge.rw_backstacks_k91_words_written_and_read.Holds := by
  exact fin91 T91.law91

