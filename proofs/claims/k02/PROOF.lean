import PyProof.Rows.All
import Wide.All
import OpenK.AllK
import Wide.FinOn
import HandS.ForMost
import HandS.ForExc
import HandS.HeadHook1
import HandS.TupAny
import HandS.TupMul
import HandS.Deep
import HandS.TupLe
import HandS.Wide
import HandS.Small
import HandS.Conv
import HandS.Zip
import HandS.Lambda
import HandS.IsInst
import HandS.SortInts
import HandS.More
import HandS.Strs
import HandS.Style
import PyProof.ReprRoads
import HandS.Iter
import HandS.TupSets
import HandS.Keys
import HandS.ExcInit
import HandS.ExcField
import HandS.TryMany
import KE.KRevSl
import HandS.SortOrd
import HandS.SortRule
import KE.KSortTupAny
import KE.KDictPairs
import KE.GoesMore
import HandS.Dict
import PyProof.EnumMake
import HandS.SetFor
import HandS.EndTab
import HandS.EndBits
import HandS.HeadHook2
import HandS.HeadHook4
import KE.KNest
import KE.KStateDown
import Lean
import HandS.Head0
import HandS.Head1
import HandS.Head2
import PySem.Challenge.RW_turnsall_k02_whole_lots
set_option Elab.async false
set_option linter.all false
set_option maxRecDepth 100000
set_option maxHeartbeats 0
/-! plain data, a store of lists and dicts, and how both lie in the abstract heap -/
namespace TA
open PySem PySem.Spec
open PyProof.Rows L2

inductive D where
  | non | bl (b : Bool) | int (i : Int) | str (x : Str) | ty (n : String) | tup (xs : List D) | loc (n : Nat) | glo (a : Addr) | rol (xs : List D)

inductive O where
  | lst (xs : List D)
  | dct (kvs : List (Key × D))
  | dlk (kvs : List (Key × D))

abbrev Sto := List O
abbrev En := List (Option D)
/-- a list that nobody changes: the script, or one of the module's own -/
def RoL (K : PySem.W.Frag) (H : Hp) (a : Addr) (xs : List V) : Prop := (∃ o, H a = some (.frz o (.lst xs))) ∨ ∀ H', SqL K H' a xs

mutual
def RelD (K : PySem.W.Frag) (R : List Addr) (H : Hp) : D → V → Prop
  | .non, v => v = .non
  | .bl b, v => v = .bl b
  | .int i, v => v = .int i
  | .str x, v => v = .str x
  | .ty n, v => v = .ty n
  | .tup ds, v => ∃ a xs, v = .ref a ∧ SqT K H a xs ∧ RelDs K R H ds xs
  | .loc n, v => ∃ a, v = .ref a ∧ R[n]? = some a
  | .glo a, v => v = .ref a
  | .rol ds, v => ∃ a xs, v = .ref a ∧ RoL K H a xs ∧ RelDs K R H ds xs
def RelDs (K : PySem.W.Frag) (R : List Addr) (H : Hp) : List D → List V → Prop
  | [], vs => vs = []
  | d :: ds, vs => ∃ v ws, vs = v :: ws ∧ RelD K R H d v ∧ RelDs K R H ds ws
end

def RelKv (K : PySem.W.Frag) (R : List Addr) (H : Hp) : List (Key × D) → List (Key × V) → Prop
  | [], vs => vs = []
  | p :: ds, vs => ∃ v ws, vs = (p.1, v) :: ws ∧ RelD K R H p.2 v ∧ RelKv K R H ds ws

def ObjR (K : PySem.W.Frag) (R : List Addr) (H : Hp) (a : Addr) : O → Prop
  | .lst ds => ∃ xs, H a = some (.lst xs) ∧ RelDs K R H ds xs
  | .dct kvs => ∃ xs, H a = some (.dK xs) ∧ RelKv K R H kvs xs
  | .dlk kvs => ∃ od xs, H a = some (.frz od (.dK xs)) ∧ RelKv K R H kvs xs

/-- the store lies in the heap -/
structure Gd (K : PySem.W.Frag) (J : Hp → Prop) (R : List Addr) (st : Sto) (H : Hp) : Prop where
  len : R.length = st.length
  nd : R.Nodup
  ob : ∀ (n : Nat) (o : O) (a : Addr), st[n]? = some o → R[n]? = some a → ObjR K R H a o
  j : J H

/-- how the heap may change: what is no object of the store stays (but tables), tuples and locked things stay -/
structure Ex0 (R R' : List Addr) (H H' : Hp) : Prop where
  pre : ∀ (n : Nat) (a : Addr), R[n]? = some a → R'[n]? = some a
  tup : ∀ a xs, H a = some (.tup xs) → H' a = some (.tup xs)
  frz : ∀ a o u, H a = some (.frz o u) → H' a = some (.frz o u)
structure Ex (R R' : List Addr) (H H' : Hp) : Prop extends Ex0 R R' H H' where
  fr : ∀ a o, H a = some o → a ∉ R → (∀ ps, o ≠ .tbl ps) → H' a = some o
  kp : ∀ a, H a ≠ none → H' a ≠ none
  nw : ∀ a, a ∈ R' → a ∈ R ∨ H a = none

section
variable {K : PySem.W.Frag} {J : Hp → Prop} {R R' R'' : List Addr} {H H' H'' : Hp}
theorem Ex.refl : Ex R R H H := ⟨⟨fun _ _ h => h, fun _ _ h => h, fun _ _ _ h => h⟩, fun _ _ h _ _ => h, fun _ h => h, fun _ h => .inl h⟩
theorem Ex.trans (a : Ex R R' H H') (b : Ex R' R'' H' H'') : Ex R R'' H H'' := by
  refine ⟨⟨fun n x h => b.pre n x (a.pre n x h), fun p xs h => b.tup p xs (a.tup p xs h), fun p o u h => b.frz p o u (a.frz p o u h)⟩, fun p o h hn ht => ?_, fun p h => b.kp p (a.kp p h), fun p h => ?_⟩
  · refine b.fr p o (a.fr p o h hn ht) (fun hm => ?_) ht
    rcases a.nw p hm with q | q
    · exact hn q
    · rw [h] at q; cases q
  · rcases b.nw p h with q | q
    · exact a.nw p q
    · right
      cases e : H p with
      | none => rfl
      | some o => exact absurd q (a.kp p (by rw [e]; simp))
theorem Ex0.rd {a : Addr} {xs : List V} (e : Ex0 R R' H H') (h : Rd H a (.tup xs)) : Rd H' a (.tup xs) := by
  rcases h with h | ⟨o, h⟩
  · exact .inl (e.tup _ _ h)
  · exact .inr ⟨o, e.frz _ _ _ h⟩
theorem Ex0.sqT {a : Addr} {xs : List V} (e : Ex0 R R' H H') (h : SqT K H a xs) : SqT K H' a xs := by
  rcases h with h | h
  · exact .inl (e.rd h)
  · exact .inr h
theorem Ex0.roL {a : Addr} {xs : List V} (e : Ex0 R R' H H') (h : RoL K H a xs) : RoL K H' a xs := by
  rcases h with ⟨o, h⟩ | h
  · exact .inl ⟨o, e.frz _ _ _ h⟩
  · exact .inr h
theorem RoL.sq {a : Addr} {xs : List V} (h : RoL K H a xs) : SqL K H a xs := by
  rcases h with ⟨o, h⟩ | h
  · exact .inl (.inr ⟨o, h⟩)
  · exact h H
mutual
theorem RelD.mono (e : Ex0 R R' H H') : ∀ {d : D} {v : V}, RelD K R H d v → RelD K R' H' d v
  | .non, _, h => by simpa only [RelD] using h
  | .bl _, _, h => by simpa only [RelD] using h
  | .int _, _, h => by simpa only [RelD] using h
  | .str _, _, h => by simpa only [RelD] using h
  | .ty _, _, h => by simpa only [RelD] using h
  | .tup ds, _, h => by
    simp only [RelD] at h ⊢
    obtain ⟨a, xs, e1, e2, e3⟩ := h
    exact ⟨a, xs, e1, e.sqT e2, RelDs.mono e e3⟩
  | .loc n, _, h => by
    simp only [RelD] at h ⊢
    obtain ⟨a, e1, e2⟩ := h
    exact ⟨a, e1, e.pre n a e2⟩
  | .glo _, _, h => by simpa only [RelD] using h
  | .rol ds, _, h => by
    simp only [RelD] at h ⊢
    obtain ⟨a, xs, e1, e2, e3⟩ := h
    exact ⟨a, xs, e1, e.roL e2, RelDs.mono e e3⟩
theorem RelDs.mono (e : Ex0 R R' H H') : ∀ {ds : List D} {vs : List V}, RelDs K R H ds vs → RelDs K R' H' ds vs
  | [], _, h => by simpa only [RelDs] using h
  | d :: ds, _, h => by
    simp only [RelDs] at h ⊢
    obtain ⟨v, ws, e1, e2, e3⟩ := h
    exact ⟨v, ws, e1, RelD.mono e e2, RelDs.mono e e3⟩
end
theorem RelKv.mono (e : Ex0 R R' H H') : ∀ {ds : List (Key × D)} {vs : List (Key × V)}, RelKv K R H ds vs → RelKv K R' H' ds vs
  | [], _, h => by simpa only [RelKv] using h
  | d :: ds, _, h => by
    simp only [RelKv] at h ⊢
    obtain ⟨v, ws, e1, e2, e3⟩ := h
    exact ⟨v, ws, e1, RelD.mono e e2, RelKv.mono e e3⟩
theorem RelDs.length : ∀ {ds : List D} {vs : List V}, RelDs K R H ds vs → ds.length = vs.length
  | [], _, h => by simp only [RelDs] at h; subst h; rfl
  | d :: ds, _, h => by
    simp only [RelDs] at h
    obtain ⟨v, ws, rfl, _, e3⟩ := h
    simp [RelDs.length e3]
theorem RelDs.get : ∀ {ds : List D} {vs : List V} {i : Nat} {d : D}, RelDs K R H ds vs → ds[i]? = some d → ∃ v, vs[i]? = some v ∧ RelD K R H d v
  | [], _, _, _, _, e => by simp at e
  | d :: ds, _, 0, _, h, e => by
    simp only [RelDs] at h
    obtain ⟨v, ws, rfl, e2, e3⟩ := h
    simp at e; subst e
    exact ⟨v, rfl, e2⟩
  | d :: ds, _, i + 1, x, h, e => by
    simp only [RelDs] at h
    obtain ⟨v, ws, rfl, e2, e3⟩ := h
    simpa using RelDs.get e3 (i := i) (by simpa using e)
theorem RelDs.app : ∀ {ds es : List D} {vs ws : List V}, RelDs K R H ds vs → RelDs K R H es ws → RelDs K R H (ds ++ es) (vs ++ ws)
  | [], _, _, _, h, g => by simp only [RelDs] at h; subst h; exact g
  | d :: ds, _, _, _, h, g => by
    simp only [RelDs] at h
    obtain ⟨v, ws, rfl, e2, e3⟩ := h
    show RelDs K R H (d :: (ds ++ _)) (v :: (ws ++ _))
    simp only [RelDs]
    exact ⟨v, _, rfl, e2, RelDs.app e3 g⟩
theorem RelDs.set {d : D} {v : V} (r : RelD K R H d v) : ∀ {ds : List D} {vs : List V} (i : Nat), RelDs K R H ds vs → RelDs K R H (ds.set i d) (vs.set i v)
  | [], _, _, h => by simp only [RelDs] at h; subst h; simp [RelDs]
  | x :: ds, _, 0, h => by
    simp only [RelDs] at h
    obtain ⟨w, ws, rfl, e2, e3⟩ := h
    simp only [List.set_cons_zero, RelDs]
    exact ⟨v, ws, rfl, r, e3⟩
  | x :: ds, _, i + 1, h => by
    simp only [RelDs] at h
    obtain ⟨w, ws, rfl, e2, e3⟩ := h
    simp only [List.set_cons_succ, RelDs]
    exact ⟨w, _, rfl, e2, RelDs.set r i e3⟩
theorem RelDs.take : ∀ {ds : List D} {vs : List V} (n : Nat), RelDs K R H ds vs → RelDs K R H (ds.take n) (vs.take n)
  | [], _, n, h => by simp only [RelDs] at h; subst h; simp [RelDs]
  | x :: ds, vs, 0, h => by simp [RelDs]
  | x :: ds, _, n + 1, h => by
    simp only [RelDs] at h
    obtain ⟨w, ws, rfl, e2, e3⟩ := h
    simp only [List.take_succ_cons, RelDs]
    exact ⟨w, _, rfl, e2, RelDs.take n e3⟩
theorem RelDs.drop : ∀ {ds : List D} {vs : List V} (n : Nat), RelDs K R H ds vs → RelDs K R H (ds.drop n) (vs.drop n)
  | [], _, n, h => by simp only [RelDs] at h; subst h; simp [RelDs]
  | x :: ds, vs, 0, h => h
  | x :: ds, _, n + 1, h => by
    simp only [RelDs] at h
    obtain ⟨w, ws, rfl, e2, e3⟩ := h
    simp only [List.drop_succ_cons]
    exact RelDs.drop n e3
theorem ObjR.some {a : Addr} {o : O} (h : ObjR K R H a o) : H a ≠ none := by
  cases o with
  | lst ds => obtain ⟨xs, e, _⟩ := h; rw [e]; simp
  | dct ds => obtain ⟨xs, e, _⟩ := h; rw [e]; simp
  | dlk ds => obtain ⟨od, xs, e, _⟩ := h; rw [e]; simp
theorem ObjR.notbl {a : Addr} {o : O} (h : ObjR K R H a o) : ∀ u, H a = .some u → ∀ ps, u ≠ .tbl ps := by
  cases o with
  | lst ds => obtain ⟨xs, e, _⟩ := h; intro u q; rw [e] at q; cases q; exact fun _ z => (nomatch z)
  | dct ds => obtain ⟨xs, e, _⟩ := h; intro u q; rw [e] at q; cases q; exact fun _ z => (nomatch z)
  | dlk ds => obtain ⟨od, xs, e, _⟩ := h; intro u q; rw [e] at q; cases q; exact fun _ z => (nomatch z)
theorem Gd.mem {st : Sto} (g : Gd K J R st H) {a : Addr} (h : a ∈ R) : ∃ (n : Nat) (o : O), R[n]? = .some a ∧ st[n]? = .some o ∧ ObjR K R H a o := by
  obtain ⟨n, hn⟩ := List.mem_iff_getElem?.mp h
  have hl : n < st.length := by rw [← g.len]; exact (List.getElem?_eq_some_iff.mp hn).1
  exact ⟨n, st[n], hn, List.getElem?_eq_getElem hl, g.ob n _ a (List.getElem?_eq_getElem hl) hn⟩
theorem Gd.lt {st : Sto} (g : Gd K J R st H) {n : Nat} {o : O} (h : st[n]? = some o) : ∃ a, R[n]? = some a := by
  have : n < st.length := (List.getElem?_eq_some_iff.mp h).1
  exact ⟨_, List.getElem?_eq_getElem (by rw [g.len]; exact this)⟩
/-! ### the heap changes -/
def isMu : HO → Bool
  | .lst _ => true
  | .dK _ => true
  | _ => false
/-- what else is to hold of the heap bears new objects and stores -/
structure JS (J : Hp → Prop) : Prop where
  new : ∀ H p o, J H → H p = none → J (upd H p o)
  put : ∀ H p o u, J H → H p = some o → isMu o = true → isMu u = true → J (upd H p u)
  lck : ∀ H p o ob, J H → H p = some o → isMu o = true → J (upd H p (.frz ob o))
  unl : ∀ H p o ob, J H → H p = some (.frz ob o) → isMu o = true → J (upd H p o)
theorem Ex.new {p : Addr} {o : HO} (h : H p = none) : Ex R R H (upd H p o) := by
  refine ⟨⟨fun _ _ h => h, fun a xs e => ?_, fun a ob u e => ?_⟩, fun a ob e _ _ => ?_, fun a e => ?_, fun _ h => .inl h⟩
  · rw [upd_ne (ne_of_none e h)]; exact e
  · rw [upd_ne (ne_of_none e h)]; exact e
  · rw [upd_ne (ne_of_none e h)]; exact e
  · by_cases hp : a = p
    · subst hp; rw [upd_same]; simp
    · rw [upd_ne hp]; exact e
theorem Ex0.snoc {p : Addr} (x : Ex0 R R' H H') : Ex0 R (R' ++ [p]) H H' := ⟨fun n a e => by
    have q := x.pre n a e
    rw [List.getElem?_append_left (List.getElem?_eq_some_iff.mp q).1]; exact q, x.tup, x.frz⟩
theorem Ex0.refl : Ex0 R R H H := ⟨fun _ _ h => h, fun _ _ h => h, fun _ _ _ h => h⟩
/-- .. and p, new since then, becomes one of the store's -/
theorem Ex.snoc {p : Addr} (x : Ex R R' H H') (h : H p = none) : Ex R (R' ++ [p]) H H' := by
  refine ⟨x.toEx0.snoc, x.fr, x.kp, fun a e => ?_⟩
  rcases List.mem_append.mp e with q | q
  · exact x.nw a q
  · simp at q; subst q; exact .inr h
/-- a list or dict of the store is written -/
theorem Ex.put {p : Addr} {o u : HO} (hm : p ∈ R) (h : H p = some o) (ho : isMu o = true) : Ex R R H (upd H p u) := by
  have ne : ∀ a ob, H a = some ob → isMu ob = false → a ≠ p := fun a ob e q z => by
    subst z; rw [h] at e; cases e; rw [ho] at q; cases q
  refine ⟨⟨fun _ _ h => h, fun a xs e => ?_, fun a ob w e => ?_⟩, fun a ob e hn _ => ?_, fun a e => ?_, fun _ h => .inl h⟩
  · rw [upd_ne (ne a _ e rfl)]; exact e
  · rw [upd_ne (ne a _ e rfl)]; exact e
  · have : a ≠ p := fun z => hn (z ▸ hm)
    rw [upd_ne this]; exact e
  · by_cases hp : a = p
    · subst hp; rw [upd_same]; simp
    · rw [upd_ne hp]; exact e
theorem ObjR.mono {a : Addr} {o : O} (e : Ex0 R R' H H') (hh : H' a = H a) (h : ObjR K R H a o) : ObjR K R' H' a o := by
  cases o with
  | lst ds => obtain ⟨xs, q, r⟩ := h; exact ⟨xs, hh.trans q, r.mono e⟩
  | dct ds => obtain ⟨xs, q, r⟩ := h; exact ⟨xs, hh.trans q, r.mono e⟩
  | dlk ds => obtain ⟨od, xs, q, r⟩ := h; exact ⟨od, xs, hh.trans q, r.mono e⟩
/-- something new beside the store -/
theorem Gd.new {st : Sto} {p : Addr} {o : HO} (j : JS J) (g : Gd K J R st H) (h : H p = none) : Gd K J R st (upd H p o) := by
  refine ⟨g.len, g.nd, fun n ob a e1 e2 => ?_, j.new _ _ _ g.j h⟩
  have q := g.ob n ob a e1 e2
  refine q.mono (Ex.new h).toEx0 (upd_ne fun z => ?_)
  subst z
  exact q.some h
/-- what stands at p becomes an object of the store -/
theorem Gd.push {st : Sto} {p : Addr} {ob : O} (g : Gd K J R st H) (hp : p ∉ R) (r : ObjR K R H p ob) : Gd K J (R ++ [p]) (st ++ [ob]) H := by
  have e : Ex0 R (R ++ [p]) H H := Ex0.refl.snoc
  refine ⟨by simp [g.len], ?_, fun n o a h1 h2 => ?_, g.j⟩
  · rw [List.nodup_append]
    refine ⟨g.nd, by simp, fun a ha b hb z => ?_⟩
    simp at hb; subst hb; subst z; exact hp ha
  · by_cases hn : n < st.length
    · rw [List.getElem?_append_left hn] at h1
      rw [List.getElem?_append_left (by rw [g.len]; exact hn)] at h2
      exact (g.ob n o a h1 h2).mono e rfl
    · rw [List.getElem?_append_right (Nat.le_of_not_lt hn)] at h1
      rw [List.getElem?_append_right (by rw [g.len]; exact Nat.le_of_not_lt hn), g.len] at h2
      have z : n - st.length = 0 := by
        have := (List.getElem?_eq_some_iff.mp h1).1
        simp at this; omega
      rw [z] at h1 h2
      simp at h1 h2
      subst h1; subst h2
      exact r.mono e rfl
/-- an object of the store is written -/
theorem Gd.put {st : Sto} {n : Nat} {p : Addr} {o u : HO} {ob : O} (j : JS J) (g : Gd K J R st H) (hn : R[n]? = some p) (h : H p = some o) (ho : isMu o = true) (hu : isMu u = true) (r : ObjR K R (upd H p u) p ob) : Gd K J R (st.set n ob) (upd H p u) := by
  have hm : p ∈ R := List.mem_of_getElem? hn
  have e := (Ex.put (u := u) hm h ho).toEx0
  refine ⟨by simp [g.len], g.nd, fun i ob' a h1 h2 => ?_, j.put _ _ _ _ g.j h ho hu⟩
  by_cases hi : n = i
  · subst hi
    rw [hn] at h2; cases h2
    have hl : n < st.length := by rw [← g.len]; exact (List.getElem?_eq_some_iff.mp hn).1
    rw [List.getElem?_set_self hl] at h1
    cases h1
    exact r
  · rw [List.getElem?_set_ne hi] at h1
    refine (g.ob i ob' a h1 h2).mono e (upd_ne fun z => hi ?_)
    subst z
    exact (List.getElem?_inj (List.getElem?_eq_some_iff.mp hn).1 g.nd).mp (hn.trans h2.symm)
end
end TA
/-! what a piece of text does, as a function of the slots and the store; that it is so -/
namespace TA
open PySem PySem.Spec
open PyProof.Rows L2

abbrev Sg := L2.St
structure Xn where
  cls : Str
  fs : List (Str × D)
inductive Out (α : Type) where
  | ok (a : α) (st : Sto)
  | exc (x : Xn) (st : Sto)
abbrev M (α : Type) := En → Sto → Option (Out α)
inductive SOut where
  | nx (env : En) (st : Sto)
  | rt (d : D) (st : Sto)
  | bk (env : En) (st : Sto)
  | ct (env : En) (st : Sto)
  | exc (x : Xn) (st : Sto)
abbrev MS := En → Sto → Option SOut

def RelA {κ : Type} (K : PySem.W.Frag) (R : List Addr) (H : Hp) : List (κ × D) → List (κ × V) → Prop
  | [], vs => vs = []
  | p :: ds, vs => ∃ v ws, vs = (p.1, v) :: ws ∧ RelD K R H p.2 v ∧ RelA K R H ds ws
def XRel (K : PySem.W.Frag) (R : List Addr) (H : Hp) (x : Xn) (cls : Value) (dd : Option Addr) : Prop := cls = .ref (He.ga K x.cls) ∧ ∃ d fs, dd = some d ∧ d ∉ R ∧ H d = some (.xd fs) ∧ RelA K R H x.fs fs

def OkO {α β : Type} (K : PySem.W.Frag) (J : Hp → Prop) (R : List Addr) (H : Hp) (rel : List Addr → Hp → α → β → Prop) (Q : β → Hp → Prop) (E : XK) : Out α → Prop
  | .ok a st' => ∀ R' H' b, Ex R R' H H' → Gd K J R' st' H' → rel R' H' a b → Q b H'
  | .exc x st' => ∀ R' H' cls dd, Ex R R' H H' → Gd K J R' st' H' → XRel K R' H' x cls dd → E cls dd H'
def OkS (K : PySem.W.Frag) (J : Hp → Prop) (R : List Addr) (H : Hp) (er : List Addr → Hp → En → Sg → Prop) (De : Ends) (E : XK) : SOut → Prop
  | .nx env st' => ∀ R' H' σ', Ex R R' H H' → Gd K J R' st' H' → er R' H' env σ' → De.nx σ' H'
  | .rt d st' => ∀ R' H' v, Ex R R' H H' → Gd K J R' st' H' → RelD K R' H' d v → De.rt v H'
  | .bk env st' => ∀ R' H' σ', Ex R R' H H' → Gd K J R' st' H' → er R' H' env σ' → De.bk σ' H'
  | .ct env st' => ∀ R' H' σ', Ex R R' H H' → Gd K J R' st' H' → er R' H' env σ' → De.ct σ' H'
  | .exc x st' => ∀ R' H' cls dd, Ex R R' H H' → Gd K J R' st' H' → XRel K R' H' x cls dd → E cls dd H'

structure EnR (K : PySem.W.Frag) (R : List Addr) (H : Hp) (env : En) (σ : Sg) : Prop where
  len : env.length = σ.length
  get : ∀ (i : Nat) (d : D), env[i]? = some (some d) → ∃ v, σ[i]? = some (some v) ∧ RelD K R H d v

section
variable {K : PySem.W.Frag} {J : Hp → Prop} {R R' : List Addr} {H H' : Hp}
theorem EnR.mono {env : En} {σ : Sg} (e : Ex R R' H H') (r : EnR K R H env σ) : EnR K R' H' env σ :=
  ⟨r.len, fun i d h => let ⟨v, a, b⟩ := r.get i d h; ⟨v, a, b.mono e.toEx0⟩⟩
theorem EnR.set {env : En} {σ : Sg} {i : Nat} {d : D} {v : V} (r : EnR K R H env σ) (q : RelD K R H d v) : EnR K R H (env.set i (some d)) (σ.set i (some v)) := by
  refine ⟨by simpa using r.len, fun j d' h => ?_⟩
  by_cases hj : i = j
  · subst hj
    by_cases hl : i < env.length
    · rw [List.getElem?_set_self hl] at h
      cases h
      exact ⟨v, by rw [List.getElem?_set_self (by rw [← r.len]; exact hl)], q⟩
    · rw [List.getElem?_eq_none (by simpa using hl)] at h
      cases h
  · rw [List.getElem?_set_ne hj] at h
    obtain ⟨w, a, b⟩ := r.get j d' h
    exact ⟨w, by rw [List.getElem?_set_ne hj]; exact a, b⟩
theorem OkO.shift {α β : Type} {rel : List Addr → Hp → α → β → Prop} {Q : β → Hp → Prop} {E : XK} {out : Out α} (e : Ex R R' H H') (h : OkO K J R H rel Q E out) : OkO K J R' H' rel Q E out := by
  cases out with
  | ok a st => exact fun R2 H2 b e2 g r => h R2 H2 b (e.trans e2) g r
  | exc x st => exact fun R2 H2 c d e2 g r => h R2 H2 c d (e.trans e2) g r
theorem OkS.shift {er : List Addr → Hp → En → Sg → Prop} {De : Ends} {E : XK} {out : SOut} (e : Ex R R' H H') (h : OkS K J R H er De E out) : OkS K J R' H' er De E out := by
  cases out with
  | nx env st => exact fun R2 H2 b e2 g r => h R2 H2 b (e.trans e2) g r
  | rt d st => exact fun R2 H2 b e2 g r => h R2 H2 b (e.trans e2) g r
  | bk env st => exact fun R2 H2 b e2 g r => h R2 H2 b (e.trans e2) g r
  | ct env st => exact fun R2 H2 b e2 g r => h R2 H2 b (e.trans e2) g r
  | exc x st => exact fun R2 H2 c d e2 g r => h R2 H2 c d (e.trans e2) g r
end

/-! ### the readings that hold whatever there is to be known -/
def tSem (X : Cx) (e : Expr) : TE := fun σ H Q => ∀ pins s, Inv X pins σ H s → wpAny (model X.prog X.w) X.A (eval e X.env) (EP X pins σ Q) X.xe s
def ttSem (X : Cx) (e : Expr) : TT := fun σ H Q => ∀ pins s, Inv X pins σ H s → wpAny (model X.prog X.w) X.A (isTrue e X.env (eval e X.env)) (TP X pins σ Q) X.xe s
def twSem (X : Cx) (e : Expr) : TT := fun σ H Q => ∀ wh pins s, Inv X pins σ H s → wpAny (model X.prog X.w) X.A (isTrue e X.env wh) (TP X pins σ Q) X.xe s
def taSem (X : Cx) (es : List Expr) : TA := fun σ H Q => ∀ pos pins s, Inv X pins σ H s → wpAny (model X.prog X.w) X.A (spliced (backTo pos (starEach es X.env))) (AP X pins σ Q) X.xe s
def tsSem (X : Cx) (st : Stmt) : TS := fun De σ H => ∀ pins s, Inv X pins σ H s → wpAny (model X.prog X.w) X.A (exec st X.env) (SP X pins De) X.xe s
def tbSem (X : Cx) (st : List Stmt) : TS := fun De σ H => ∀ pins s, Inv X pins σ H s → wpAny (model X.prog X.w) X.A (execs st X.env) (SP X pins De) X.xe s
section
variable {X : Cx}
theorem pe_sem {e : Expr} : PE X e (tSem X e) := ⟨fun pins s _ _ _ I h => h pins s I⟩
theorem pt_sem {e : Expr} : PT X e (ttSem X e) := ⟨fun pins s _ _ _ I h => h pins s I⟩
theorem pw_sem {e : Expr} : PW X e (twSem X e) := ⟨fun wh pins s _ _ _ I h => h wh pins s I⟩
theorem pa_sem {es : List Expr} : PA X es (taSem X es) := ⟨fun pos pins s _ _ _ I h => h pos pins s I⟩
theorem ps_sem {e : Stmt} : PS X e (tsSem X e) := ⟨fun pins s _ _ _ I h => h pins s I⟩
theorem pss_sem {e : List Stmt} : PSs X e (tbSem X e) := ⟨fun pins s _ _ _ I h => h pins s I⟩
theorem sem_of {e : Expr} {t : TE} (p : PE X e t) {σ : Sg} {H : Hp} {Q : VK} (h : t σ H Q) : tSem X e σ H Q := fun pins s I => p.run pins s σ H Q I h
theorem sem_ofT {e : Expr} {t : TT} (p : PT X e t) {σ : Sg} {H : Hp} {Q : Bool → Hp → Prop} (h : t σ H Q) : ttSem X e σ H Q := fun pins s I => p.run pins s σ H Q I h
theorem sem_ofW {e : Expr} {t : TT} (p : PW X e t) {σ : Sg} {H : Hp} {Q : Bool → Hp → Prop} (h : t σ H Q) : twSem X e σ H Q := fun wh pins s I => p.run wh pins s σ H Q I h
theorem sem_ofA {es : List Expr} {t : TA} (p : PA X es t) {σ : Sg} {H : Hp} {Q : List V → Hp → Prop} (h : t σ H Q) : taSem X es σ H Q := fun pos pins s I => p.run pos pins s σ H Q I h
theorem sem_ofS {e : Stmt} {t : TS} (p : PS X e t) {σ : Sg} {H : Hp} {De : Ends} (h : t De σ H) : tsSem X e De σ H := fun pins s I => p.run pins s σ H De I h
theorem sem_ofB {e : List Stmt} {t : TS} (p : PSs X e t) {σ : Sg} {H : Hp} {De : Ends} (h : t De σ H) : tbSem X e De σ H := fun pins s I => p.run pins s σ H De I h
end

abbrev Tk (X : Cx) (E : XK) : Prop := Takes X (fun c d _ H => E c d H)
def relB : List Addr → Hp → Bool → Bool → Prop := fun _ _ a b => a = b

/-- e does what m says -/
def SE (X : Cx) (J : Hp → Prop) (e : Expr) (m : M D) : Prop := ∀ R env st σ H out Q E, m env st = some out → Gd X.K J R st H → EnR X.K R H env σ → Tk X E → OkO X.K J R H (RelD X.K) Q E out → tSem X e σ H Q
def STt (X : Cx) (J : Hp → Prop) (e : Expr) (m : M Bool) : Prop := ∀ R env st σ H out Q E, m env st = some out → Gd X.K J R st H → EnR X.K R H env σ → Tk X E → OkO X.K J R H relB Q E out → ttSem X e σ H Q
def STw (X : Cx) (J : Hp → Prop) (e : Expr) (m : M Bool) : Prop := ∀ R env st σ H out Q E, m env st = some out → Gd X.K J R st H → EnR X.K R H env σ → Tk X E → OkO X.K J R H relB Q E out → twSem X e σ H Q
def SA (X : Cx) (J : Hp → Prop) (es : List Expr) (m : M (List D)) : Prop := ∀ R env st σ H out Q E, m env st = some out → Gd X.K J R st H → EnR X.K R H env σ → Tk X E → OkO X.K J R H (RelDs X.K) Q E out → taSem X es σ H Q
def SS (X : Cx) (J : Hp → Prop) (s : Stmt) (m : MS) : Prop := ∀ R env st σ H out De E, m env st = some out → Gd X.K J R st H → EnR X.K R H env σ → Tk X E → OkS X.K J R H (EnR X.K) De E out → tsSem X s De σ H
def SB (X : Cx) (J : Hp → Prop) (s : List Stmt) (m : MS) : Prop := ∀ R env st σ H out De E, m env st = some out → Gd X.K J R st H → EnR X.K R H env σ → Tk X E → OkS X.K J R H (EnR X.K) De E out → tbSem X s De σ H
/-- a list that is new: its items, at an address that the store does not know -/
def relL (K : PySem.W.Frag) (H0 : Hp) : List Addr → Hp → List D → V → Prop := fun R H ds v => ∃ p xs, v = .ref p ∧ H0 p = none ∧ p ∉ R ∧ H p = some (.lst xs) ∧ RelDs K R H ds xs
def SL (X : Cx) (J : Hp → Prop) (e : Expr) (m : M (List D)) : Prop := ∀ R env st σ H out Q E, m env st = some out → Gd X.K J R st H → EnR X.K R H env σ → Tk X E → OkO X.K J R H (relL X.K H) Q E out → tSem X e σ H Q

/-! ### the monad -/
def mPure {α : Type} (a : α) : M α := fun _ st => some (.ok a st)
def mBind {α β : Type} (m : M α) (f : α → M β) : M β := fun env st => match m env st with
  | some (.ok a st') => f a env st'
  | some (.exc x st') => some (.exc x st')
  | none => none
section
variable {X : Cx} {J : Hp → Prop}
theorem bind_some {α β : Type} {m : M α} {f : α → M β} {env : En} {st : Sto} {out : Out β} (h : mBind m f env st = some out) :
    (∃ a st', m env st = some (.ok a st') ∧ f a env st' = some out) ∨ (∃ x st', m env st = some (.exc x st') ∧ out = .exc x st') := by
  unfold mBind at h
  cases e : m env st with
  | none => rw [e] at h; cases h
  | some o =>
    rw [e] at h
    cases o with
    | ok a st' => exact .inl ⟨a, st', rfl, h⟩
    | exc x st' => exact .inr ⟨x, st', rfl, (Option.some.inj h).symm⟩
/-- an expression, then what comes behind -/
theorem se_then {e : Expr} {m : M D} (S : SE X J e m) {β γ : Type} {f : D → M β} {R : List Addr} {env : En} {st : Sto} {σ : Sg} {H : Hp} {out : Out β} {E : XK} {rel : List Addr → Hp → β → γ → Prop} {Q : γ → Hp → Prop} {Q1 : VK}
    (h : mBind m f env st = some out) (g : Gd X.K J R st H) (r : EnR X.K R H env σ) (t : Tk X E) (o : OkO X.K J R H rel Q E out)
    (k : ∀ R1 st1 H1 d v, Ex R R1 H H1 → Gd X.K J R1 st1 H1 → EnR X.K R1 H1 env σ → RelD X.K R1 H1 d v → f d env st1 = some out → OkO X.K J R1 H1 rel Q E out → Q1 v H1) : tSem X e σ H Q1 := by
  rcases bind_some h with ⟨d, st1, h1, h2⟩ | ⟨x, st1, h1, h2⟩
  · exact S R env st σ H _ Q1 E h1 g r t fun R1 H1 v e1 g1 r1 => k R1 st1 H1 d v e1 g1 (r.mono e1) r1 h2 (o.shift e1)
  · subst h2
    exact S R env st σ H _ Q1 E h1 g r t o
theorem st_then {e : Expr} {m : M Bool} (S : STt X J e m) {β γ : Type} {f : Bool → M β} {R : List Addr} {env : En} {st : Sto} {σ : Sg} {H : Hp} {out : Out β} {E : XK} {rel : List Addr → Hp → β → γ → Prop} {Q : γ → Hp → Prop} {Q1 : Bool → Hp → Prop}
    (h : mBind m f env st = some out) (g : Gd X.K J R st H) (r : EnR X.K R H env σ) (t : Tk X E) (o : OkO X.K J R H rel Q E out)
    (k : ∀ R1 st1 H1 b, Ex R R1 H H1 → Gd X.K J R1 st1 H1 → EnR X.K R1 H1 env σ → f b env st1 = some out → OkO X.K J R1 H1 rel Q E out → Q1 b H1) : ttSem X e σ H Q1 := by
  rcases bind_some h with ⟨d, st1, h1, h2⟩ | ⟨x, st1, h1, h2⟩
  · refine S R env st σ H _ Q1 E h1 g r t fun R1 H1 v e1 g1 r1 => ?_
    have r1' : d = v := r1
    subst r1'
    exact k R1 st1 H1 d e1 g1 (r.mono e1) h2 (o.shift e1)
  · subst h2
    exact S R env st σ H _ Q1 E h1 g r t o
theorem sa_then {e : List Expr} {m : M (List D)} (S : SA X J e m) {β γ : Type} {f : List D → M β} {R : List Addr} {env : En} {st : Sto} {σ : Sg} {H : Hp} {out : Out β} {E : XK} {rel : List Addr → Hp → β → γ → Prop} {Q : γ → Hp → Prop} {Q1 : List V → Hp → Prop}
    (h : mBind m f env st = some out) (g : Gd X.K J R st H) (r : EnR X.K R H env σ) (t : Tk X E) (o : OkO X.K J R H rel Q E out)
    (k : ∀ R1 st1 H1 d v, Ex R R1 H H1 → Gd X.K J R1 st1 H1 → EnR X.K R1 H1 env σ → RelDs X.K R1 H1 d v → f d env st1 = some out → OkO X.K J R1 H1 rel Q E out → Q1 v H1) : taSem X e σ H Q1 := by
  rcases bind_some h with ⟨d, st1, h1, h2⟩ | ⟨x, st1, h1, h2⟩
  · exact S R env st σ H _ Q1 E h1 g r t fun R1 H1 v e1 g1 r1 => k R1 st1 H1 d v e1 g1 (r.mono e1) r1 h2 (o.shift e1)
  · subst h2
    exact S R env st σ H _ Q1 E h1 g r t o
theorem sl_then {e : Expr} {m : M (List D)} (S : SL X J e m) {β γ : Type} {f : List D → M β} {R : List Addr} {env : En} {st : Sto} {σ : Sg} {H : Hp} {out : Out β} {E : XK} {rel : List Addr → Hp → β → γ → Prop} {Q : γ → Hp → Prop} {Q1 : VK}
    (h : mBind m f env st = some out) (g : Gd X.K J R st H) (r : EnR X.K R H env σ) (t : Tk X E) (o : OkO X.K J R H rel Q E out)
    (k : ∀ R1 st1 H1 d v, Ex R R1 H H1 → Gd X.K J R1 st1 H1 → EnR X.K R1 H1 env σ → relL X.K H R1 H1 d v → f d env st1 = some out → OkO X.K J R1 H1 rel Q E out → Q1 v H1) : tSem X e σ H Q1 := by
  rcases bind_some h with ⟨d, st1, h1, h2⟩ | ⟨x, st1, h1, h2⟩
  · exact S R env st σ H _ Q1 E h1 g r t fun R1 H1 v e1 g1 r1 => k R1 st1 H1 d v e1 g1 (r.mono e1) r1 h2 (o.shift e1)
  · subst h2
    exact S R env st σ H _ Q1 E h1 g r t o

/-! ### names, constants -/
def mVar (i : Nat) : M D := fun env st => match env[i]? with
  | some (some d) => some (.ok d st)
  | _ => none
theorem se_var {i : Nat} {x : Str} {pos : Pos} (hN : X.N[i]? = some x) (hv : Vis X.env.scope x) (hd : (x == ("__debug__" : Str)) = false) (hcd : (x == ("__classdict__" : Str)) = false) : SE X J (.Name x pos) (mVar i) := by
  intro R env st σ H out Q E h g r t o
  unfold mVar at h
  split at h
  · rename_i d he
    cases h
    obtain ⟨v, h1, h2⟩ := r.get i d he
    exact sem_of (pe_var hN hv hd hcd) ⟨v, h1, o R H v Ex.refl g h2⟩
  · cases h
theorem se_const {e : Expr} {d : D} {v : V} (p : PE X e (tC v)) (hr : ∀ R H, RelD X.K R H d v) : SE X J e (mPure d) := by
  intro R env st σ H out Q E h g r t o
  cases h
  exact sem_of p (o R H v Ex.refl g (hr R H))
theorem se_int {i : Int} {j : Nat} {pos : Pos} : SE X J (.Constant (.int i) j pos) (mPure (.int i)) := se_const pe_int fun _ _ => by simp only [RelD]
theorem se_bl {i : Bool} {j : Nat} {pos : Pos} : SE X J (.Constant (.bool i) j pos) (mPure (.bl i)) := se_const pe_bl fun _ _ => by simp only [RelD]
theorem se_non {j : Nat} {pos : Pos} : SE X J (.Constant .none j pos) (mPure .non) := se_const pe_non fun _ _ => by simp only [RelD]
theorem se_str {i : Str} {j : Nat} {pos : Pos} : SE X J (.Constant (.str i) j pos) (mPure (.str i)) := se_const pe_str fun _ _ => by simp only [RelD]

/-! ### arguments -/
def mNil : M (List D) := mPure []
def mCons (m : M D) (ms : M (List D)) : M (List D) := mBind m fun d => mBind ms fun ds => mPure (d :: ds)
theorem sa_nil : SA X J [] mNil := by
  intro R env st σ H out Q E h g r t o
  cases h
  exact sem_ofA pa_nil (o R H [] Ex.refl g (by simp only [RelDs]))
theorem sa_cons {e : Expr} {es : List Expr} {m : M D} {ms : M (List D)} (S : SE X J e m) (T : SA X J es ms) (hs : starEach (e :: es) X.env = (false, eval e X.env) :: starEach es X.env) : SA X J (e :: es) (mCons m ms) := by
  intro R env st σ H out Q E h g r t o
  refine sem_ofA (pa_cons pe_sem pa_sem hs) ?_
  refine se_then S h g r t o fun R1 st1 H1 d v e1 g1 r1 rd h1 o1 => ?_
  refine sa_then T h1 g1 r1 t o1 fun R2 st2 H2 ds vs e2 g2 r2 rds h2 o2 => ?_
  cases h2
  exact o2 R2 H2 (v :: vs) Ex.refl g2 (by simp only [RelDs]; exact ⟨v, vs, rfl, rd.mono e2.toEx0, rds⟩)

/-! ### operators -/
def rS (X : Cx) (F : Value → Value → Sem Value) : R2 := fun x y H Q => ∀ pins s σ v u, Inv X pins σ H s → RelV x v → RelV y u → wpAny (model X.prog X.w) X.A (F v u) (EP X pins σ Q) X.xe s
theorem op_sem {F : Value → Value → Sem Value} : OpR X F (rS X F) := fun pins s σ H x y v u Q I rx ry h => h pins s σ v u I rx ry
theorem rs_of {F : Value → Value → Sem Value} {r : R2} (o : OpR X F r) {x y : V} {H : Hp} {Q : VK} (h : r x y H Q) : rS X F x y H Q := fun pins s σ v u I rx ry => o pins s σ H x y v u Q I rx ry h
/-- a two-place operation on data -/
def SV2 (X : Cx) (J : Hp → Prop) (F : Value → Value → Sem Value) (f : D → D → Sto → Option (Out D)) : Prop :=
  ∀ R st H dx dy x y out Q E, f dx dy st = some out → Gd X.K J R st H → RelD X.K R H dx x → RelD X.K R H dy y → Tk X E → OkO X.K J R H (RelD X.K) Q E out → rS X F x y H Q
def mOp2 (f : D → D → Sto → Option (Out D)) (a b : M D) : M D := mBind a fun x => mBind b fun y => fun _ st => f x y st
theorem two_of {a b : Expr} {ma mb : M D} {F : Value → Value → Sem Value} {f : D → D → Sto → Option (Out D)} (o : SV2 X J F f) (Sa : SE X J a ma) (Sb : SE X J b mb) {R : List Addr} {env : En} {st : Sto} {σ : Sg} {H : Hp} {out : Out D} {Q : VK} {E : XK}
    (h : mOp2 f ma mb env st = some out) (g : Gd X.K J R st H) (r : EnR X.K R H env σ) (t : Tk X E) (k : OkO X.K J R H (RelD X.K) Q E out) : tOp (rS X F) (tSem X a) (tSem X b) σ H Q := by
  refine se_then Sa h g r t k fun R1 st1 H1 d v e1 g1 r1 rd h1 o1 => ?_
  refine se_then Sb h1 g1 r1 t o1 fun R2 st2 H2 d2 v2 e2 g2 r2 rd2 h2 o2 => ?_
  exact o R2 st2 H2 d d2 v v2 out Q E h2 g2 (rd.mono e2.toEx0) rd2 t o2
theorem se_op {op : Operator} {a b : Expr} {pos : Pos} {ma mb : M D} {f : D → D → Sto → Option (Out D)} (o : SV2 X J (binaryOp op) f) (Sa : SE X J a ma) (Sb : SE X J b mb) : SE X J (.BinOp a op b pos) (mOp2 f ma mb) :=
  fun R env st σ H out Q E h g r t k => sem_of (pe_op op_sem pe_sem pe_sem) (two_of o Sa Sb h g r t k)
theorem se_cmp {op : CmpOp} {a b : Expr} {pos : Pos} {ma mb : M D} {f : D → D → Sto → Option (Out D)} (o : SV2 X J (compareOp op) f) (Sa : SE X J a ma) (Sb : SE X J b mb) (hm : behindInMarks op b = false) : SE X J (.Compare a [op] [b] pos) (mOp2 f ma mb) :=
  fun R env st σ H out Q E h g r t k => sem_of (pe_cmpR op_sem pe_sem pe_sem hm) (two_of o Sa Sb h g r t k)
end
end TA
/-! operations on data -/
namespace TA
open PySem PySem.Spec
open PyProof.Rows L2

/-! ### data as the library's own -/
def allO (f : D → Option PyData) : List D → Option (List PyData)
  | [] => some []
  | d :: ds => match f d, allO f ds with
    | some p, some ps => some (p :: ps)
    | _, _ => none
def toPy : Nat → Sto → D → Option PyData
  | _, _, .non => some .none
  | _, _, .bl b => some (.bool b)
  | _, _, .int i => some (.int i)
  | _, _, .str x => some (.str x)
  | n + 1, st, .tup ds => (allO (toPy n st) ds).map .tuple
  | n + 1, st, .rol ds => (allO (toPy n st) ds).map .list
  | n + 1, st, .loc k => match st[k]? with
    | some (.lst ds) => (allO (toPy n st) ds).map .list
    | _ => none
  | _, _, _ => none
section
variable {K : PySem.W.Frag} {J : Hp → Prop} {R : List Addr} {H : Hp} {st : Sto}
theorem allO_dp {f : D → Option PyData} (hf : ∀ d p v, f d = some p → RelD K R H d v → Dp K H v p) : ∀ {ds : List D} {ps : List PyData} {vs : List V}, allO f ds = some ps → RelDs K R H ds vs → DpAll K H vs ps
  | [], _, _, h, r => by
    simp only [allO, Option.some.injEq] at h
    simp only [RelDs] at r
    subst h; subst r
    exact .nil
  | d :: ds, _, _, h, r => by
    simp only [RelDs] at r
    obtain ⟨v, ws, rfl, r1, r2⟩ := r
    unfold allO at h
    split at h
    · rename_i p ps e1 e2
      cases h
      exact .cons (hf d p v e1 r1) (allO_dp hf e2 r2)
    · cases h
theorem toPy_dp (g : Gd K J R st H) : ∀ (n : Nat) {d : D} {p : PyData} {v : V}, toPy n st d = some p → RelD K R H d v → Dp K H v p := by
  intro n
  induction n with
  | zero =>
    intro d p v h r
    cases d <;> simp only [toPy, Option.some.injEq, reduceCtorEq] at h <;> simp only [RelD] at r
    · subst h; subst r; exact .non
    · subst h; subst r; exact .bl _
    · subst h; subst r; exact .int _
    · subst h; subst r; exact .str _
  | succ n ih =>
    intro d p v h r
    cases d with
    | non => simp only [toPy, Option.some.injEq] at h; simp only [RelD] at r; subst h; subst r; exact .non
    | bl b => simp only [toPy, Option.some.injEq] at h; simp only [RelD] at r; subst h; subst r; exact .bl _
    | int b => simp only [toPy, Option.some.injEq] at h; simp only [RelD] at r; subst h; subst r; exact .int _
    | str b => simp only [toPy, Option.some.injEq] at h; simp only [RelD] at r; subst h; subst r; exact .str _
    | ty b => simp [toPy] at h
    | glo b => simp [toPy] at h
    | tup ds =>
      simp only [toPy, Option.map_eq_some_iff] at h
      obtain ⟨ps, h1, rfl⟩ := h
      simp only [RelD] at r
      obtain ⟨a, xs, rfl, r1, r2⟩ := r
      exact .tup r1 (allO_dp (fun d p v => ih) h1 r2)
    | rol ds =>
      simp only [toPy, Option.map_eq_some_iff] at h
      obtain ⟨ps, h1, rfl⟩ := h
      simp only [RelD] at r
      obtain ⟨a, xs, rfl, r1, r2⟩ := r
      exact .lst r1.sq (allO_dp (fun d p v => ih) h1 r2)
    | loc k =>
      simp only [toPy] at h
      split at h
      · rename_i ds e
        simp only [Option.map_eq_some_iff] at h
        obtain ⟨ps, h1, rfl⟩ := h
        simp only [RelD] at r
        obtain ⟨a, rfl, r1⟩ := r
        obtain ⟨xs, e1, e2⟩ := g.ob k _ a e r1
        exact .lst (SqL.of e1) (allO_dp (fun d p v => ih) h1 e2)
      · cases h
end
def eqD (st : Sto) (d e : D) : Option Bool := match toPy 40 st d, toPy 40 st e with
  | some a, some b => match SeqAt.shaped a && SeqAt.shaped b with
    | true => some (PyData.eqv a b)
    | false => none
  | _, _ => none
theorem eqD_some {st : Sto} {d e : D} {b : Bool} (h : eqD st d e = some b) : ∃ p q, toPy 40 st d = some p ∧ toPy 40 st e = some q ∧ SeqAt.shaped p = true ∧ SeqAt.shaped q = true ∧ PyData.eqv p q = b := by
  unfold eqD at h
  split at h
  · rename_i p q h1 h2
    split at h
    · rename_i hs
      obtain ⟨s1, s2⟩ := Bool.and_eq_true_iff.mp hs
      exact ⟨p, q, h1, h2, s1, s2, Option.some.inj h⟩
    · cases h
  · cases h
def okB (b : Option Bool) (st : Sto) : Option (Out D) := match b with
  | some b => some (.ok (.bl b) st)
  | none => none
def fEq (d e : D) (st : Sto) : Option (Out D) := okB (eqD st d e) st
def fNe (d e : D) (st : Sto) : Option (Out D) := okB ((eqD st d e).map (!·)) st
def fI (g : Int → Int → D) (d e : D) (st : Sto) : Option (Out D) := match d, e with
  | .int i, .int j => some (.ok (g i j) st)
  | _, _ => none
def fIc (c : Int → Int → Bool) (g : Int → Int → D) (d e : D) (st : Sto) : Option (Out D) := match d, e with
  | .int i, .int j => match c i j with
    | true => some (.ok (g i j) st)
    | false => none
  | _, _ => none
section
variable {X : Cx} {J : Hp → Prop}
theorem okB_some {b : Option Bool} {st : Sto} {out : Out D} (h : okB b st = some out) : ∃ c, b = some c ∧ out = .ok (.bl c) st := by
  unfold okB at h
  cases b with
  | none => cases h
  | some c => exact ⟨c, rfl, (Option.some.inj h).symm⟩
theorem relBl {K : PySem.W.Frag} {R : List Addr} {H : Hp} {b : Bool} : RelD K R H (.bl b) (.bl b) := by simp only [RelD]
theorem relInt {K : PySem.W.Frag} {R : List Addr} {H : Hp} {b : Int} : RelD K R H (.int b) (.int b) := by simp only [RelD]
theorem relStr {K : PySem.W.Frag} {R : List Addr} {H : Hp} {b : Str} : RelD K R H (.str b) (.str b) := by simp only [RelD]
theorem relNon {K : PySem.W.Frag} {R : List Addr} {H : Hp} : RelD K R H .non .non := by simp only [RelD]
theorem sv_eq (hu : X.A.units + 64 < cLine) : SV2 X J (compareOp .Eq) fEq := by
  intro R st H dx dy x y out Q E h g rx ry t o
  obtain ⟨c, hc, rfl⟩ := okB_some h
  obtain ⟨p, q, h1, h2, s1, s2, rfl⟩ := eqD_some hc
  exact rs_of (op_eqD hu) ⟨p, q, toPy_dp g 40 h1 rx, toPy_dp g 40 h2 ry, s1, s2, o R H _ Ex.refl g relBl⟩
theorem sv_ne (hu : X.A.units + 64 < cLine) : SV2 X J (compareOp .NotEq) fNe := by
  intro R st H dx dy x y out Q E h g rx ry t o
  obtain ⟨c, hc, rfl⟩ := okB_some h
  obtain ⟨c', hc', rfl⟩ := Option.map_eq_some_iff.mp hc
  obtain ⟨p, q, h1, h2, s1, s2, rfl⟩ := eqD_some hc'
  exact rs_of (op_neD hu) ⟨p, q, toPy_dp g 40 h1 rx, toPy_dp g 40 h2 ry, s1, s2, o R H _ Ex.refl g relBl⟩
theorem sv_I {F : Value → Value → Sem Value} {gd : Int → Int → D} {gv : Int → Int → V} (ho : OpR X F (rI0 gv)) (hr : ∀ R H i j, RelD X.K R H (gd i j) (gv i j)) : SV2 X J F (fI gd) := by
  intro R st H dx dy x y out Q E h g rx ry t o
  unfold fI at h
  split at h
  · rename_i i j
    cases h
    simp only [RelD] at rx ry
    subst rx; subst ry
    exact rs_of ho ⟨i, j, rfl, rfl, o R H _ Ex.refl g (hr R H i j)⟩
  · cases h
theorem sv_Ic {F : Value → Value → Sem Value} {gd : Int → Int → D} {gv : Int → Int → V} {C : Int → Int → Prop} {c : Int → Int → Bool} (ho : OpR X F (rI C gv)) (hc : ∀ i j, c i j = true → C i j) (hr : ∀ R H i j, RelD X.K R H (gd i j) (gv i j)) : SV2 X J F (fIc c gd) := by
  intro R st H dx dy x y out Q E h g rx ry t o
  unfold fIc at h
  split at h
  · rename_i i j
    split at h
    · rename_i hh
      cases h
      simp only [RelD] at rx ry
      subst rx; subst ry
      exact rs_of ho ⟨i, j, rfl, rfl, hc i j hh, o R H _ Ex.refl g (hr R H i j)⟩
    · cases h
  · cases h
/-- one of two -/
def fOr (f f' : D → D → Sto → Option (Out D)) (d e : D) (st : Sto) : Option (Out D) := match f d e st with
  | some o => some o
  | none => f' d e st
theorem sv_or {F : Value → Value → Sem Value} {f f' : D → D → Sto → Option (Out D)} (a : SV2 X J F f) (b : SV2 X J F f') : SV2 X J F (fOr f f') := by
  intro R st H dx dy x y out Q E h g rx ry t o
  unfold fOr at h
  split at h
  · rename_i o' e
    cases h
    exact a R st H dx dy x y _ Q E e g rx ry t o
  · exact b R st H dx dy x y _ Q E h g rx ry t o
/-- tuples one behind the other -/
def fCatT (d e : D) (st : Sto) : Option (Out D) := match d, e with
  | .tup a, .tup b => match Nat.ble (a.length + b.length) 1000000 with
    | true => some (.ok (.tup (a ++ b)) st)
    | false => none
  | _, _ => none
theorem szL {n : Nat} (h : Nat.ble n 1000000 = true) : n ≤ sizeLine := by
  have := Nat.le_of_ble_eq_true h
  rw [sizeLine_eq]
  omega
theorem sv_catT (j : JS J) : SV2 X J (binaryOp .Add) fCatT := by
  intro R st H dx dy x y out Q E h g rx ry t o
  unfold fCatT at h
  split at h
  · rename_i a b
    split at h
    · rename_i hz
      cases h
      simp only [RelD] at rx ry
      obtain ⟨p, xs, rfl, sx, rx⟩ := rx
      obtain ⟨q, ys, rfl, sy, ry⟩ := ry
      have hl : xs.length + ys.length ≤ sizeLine := by rw [← rx.length, ← ry.length]; exact szL hz
      refine rs_of op_catA ⟨p, q, xs, ys, rfl, rfl, sx, sy, hl, fun e => ?_, fun e1 e2 => ?_, fun e1 e2 n hn => ?_⟩
      · refine o R H _ Ex.refl g ?_
        simp only [RelD]
        exact ⟨q, ys, rfl, sy, by have := rx.app ry; rw [e] at this; simpa using this⟩
      · refine o R H _ Ex.refl g ?_
        simp only [RelD]
        exact ⟨p, xs, rfl, sx, by have := rx.app ry; rw [e2] at this; simpa using this⟩
      · refine o R _ _ (Ex.new hn) (g.new j hn) ?_
        simp only [RelD]
        exact ⟨n, xs ++ ys, rfl, SqT.of upd_same, (rx.app ry).mono (Ex.new hn).toEx0⟩
    · cases h
  · cases h
def fAdd : D → D → Sto → Option (Out D) := fOr (fI fun i j => .int (i + j)) fCatT
theorem sv_add (j : JS J) : SV2 X J (binaryOp .Add) fAdd := sv_or (sv_I op_add fun _ _ _ _ => relInt) (sv_catT j)
def fSub : D → D → Sto → Option (Out D) := fI fun i j => .int (i - j)
theorem sv_sub : SV2 X J (binaryOp .Sub) fSub := sv_I op_sub fun _ _ _ _ => relInt
def cMul (i j : Int) : Bool := Nat.blt i.natAbs 18446744073709551616 || Nat.blt j.natAbs 18446744073709551616
def fMul : D → D → Sto → Option (Out D) := fIc cMul fun i j => .int (i * j)
theorem cMul_ok {i j : Int} (h : cMul i j = true) : CMul i j := by
  unfold cMul at h
  simp only [Bool.or_eq_true, Nat.blt_eq] at h
  have e : (2 : Int) ^ 64 = 18446744073709551616 := by decide +kernel
  unfold CMul
  rw [e]
  rcases h with h | h
  · left; omega
  · right; omega
theorem sv_mul : SV2 X J (binaryOp .Mult) fMul := sv_Ic op_mul (fun _ _ => cMul_ok) fun _ _ _ _ => relInt
def fMod : D → D → Sto → Option (Out D) := fIc (fun _ j => decide (0 < j)) fun i j => .int (i % j)
theorem sv_mod : SV2 X J (binaryOp .Mod) fMod := sv_Ic op_mod (fun _ _ h => of_decide_eq_true h) fun _ _ _ _ => relInt
def fDiv : D → D → Sto → Option (Out D) := fIc (fun _ j => decide (0 < j) && Nat.blt j.natAbs 1073741824) fun i j => .int (i / j)
theorem sv_div : SV2 X J (binaryOp .FloorDiv) fDiv := sv_Ic op_fdiv (fun _ _ h => by simp only [Bool.and_eq_true, decide_eq_true_eq, Nat.blt_eq] at h; exact ⟨h.1, by omega⟩) fun _ _ _ _ => relInt
def fPow : D → D → Sto → Option (Out D) := fIc (fun i j => decide (0 ≤ j) && Nat.ble j.natAbs 1000000 && Nat.blt i.natAbs 18446744073709551616) fun i j => .int (i ^ j.toNat)
theorem sv_pow : SV2 X J (binaryOp .Pow) fPow := sv_Ic op_pow (fun _ _ h => by simp only [Bool.and_eq_true, decide_eq_true_eq, Nat.blt_eq, Nat.ble_eq] at h; exact ⟨h.1.1, by omega, Nat.lt_of_lt_of_le h.2 (by decide)⟩) fun _ _ _ _ => relInt
/-- tuples of ints, in order -/
def ints? : List D → Option (List Int)
  | [] => some []
  | .int i :: ds => match ints? ds with
    | some l => some (i :: l)
    | none => none
  | _ :: _ => none
theorem ints_rel {K : PySem.W.Frag} {R : List Addr} {H : Hp} : ∀ {ds : List D} {ns : List Int} {vs : List V}, ints? ds = some ns → RelDs K R H ds vs → vs = ns.map V.int
  | [], _, _, h, r => by
    simp only [ints?, Option.some.injEq] at h
    simp only [RelDs] at r
    subst h; subst r; rfl
  | d :: ds, _, _, h, r => by
    simp only [RelDs] at r
    obtain ⟨v, ws, rfl, r1, r2⟩ := r
    cases d with
    | int i =>
      simp only [ints?] at h
      split at h
      · rename_i l e
        cases h
        simp only [RelD] at r1
        subst r1
        rw [ints_rel e r2]
        rfl
      · cases h
    | _ => simp [ints?] at h
def fLtT (d e : D) (st : Sto) : Option (Out D) := match d, e with
  | .tup a, .tup b => match ints? a, ints? b with
    | some ns, some ms => some (.ok (.bl (HT.lexLt ns ms)) st)
    | _, _ => none
  | _, _ => none
theorem sv_ltT (hu : X.A.units < cLine) : SV2 X J (compareOp .Lt) fLtT := by
  intro R st H dx dy x y out Q E h g rx ry t o
  unfold fLtT at h
  split at h
  · rename_i a b
    split at h
    · rename_i ns ms e1 e2
      cases h
      simp only [RelD] at rx ry
      obtain ⟨p, xs, rfl, sx, rx⟩ := rx
      obtain ⟨q, ys, rfl, sy, ry⟩ := ry
      rw [ints_rel e1 rx] at sx
      rw [ints_rel e2 ry] at sy
      exact rs_of (op_ltT hu) ⟨p, q, ns, ms, rfl, rfl, sx, sy, o R H _ Ex.refl g relBl⟩
    · cases h
  · cases h
def fLt : D → D → Sto → Option (Out D) := fOr (fI fun i j => .bl (decide (i < j))) fLtT
theorem sv_lt (hu : X.A.units < cLine) : SV2 X J (compareOp .Lt) fLt := sv_or (sv_I op_lt fun _ _ _ _ => relBl) (sv_ltT hu)
def fLe : D → D → Sto → Option (Out D) := fI fun i j => .bl (decide (i ≤ j))
theorem sv_le : SV2 X J (compareOp .LtE) fLe := sv_I op_le fun _ _ _ _ => relBl
def fGt : D → D → Sto → Option (Out D) := fI fun i j => .bl (decide (j < i))
theorem sv_gt : SV2 X J (compareOp .Gt) fGt := sv_I op_gt fun _ _ _ _ => relBl
def fGe : D → D → Sto → Option (Out D) := fI fun i j => .bl (decide (j ≤ i))
theorem sv_ge : SV2 X J (compareOp .GtE) fGe := sv_I op_ge fun _ _ _ _ => relBl
/-! is None, is True -/
def isNonD : D → Bool
  | .non => true
  | _ => false
theorem isNon_rel {K : PySem.W.Frag} {R : List Addr} {H : Hp} {d : D} {v : V} (r : RelD K R H d v) : decide (v = .non) = isNonD d := by
  cases d <;> simp only [RelD] at r <;> first
    | (subst r; rfl)
    | (obtain ⟨a, rfl, _⟩ := r; rfl)
    | (obtain ⟨a, xs, rfl, _⟩ := r; rfl)
def fIs (d e : D) (st : Sto) : Option (Out D) := match e with
  | .non => some (.ok (.bl (isNonD d)) st)
  | .bl b => match d with
    | .bl a => some (.ok (.bl (decide (a = b))) st)
    | _ => none
  | _ => none
def fIsNot (d e : D) (st : Sto) : Option (Out D) := match e with
  | .non => some (.ok (.bl (!isNonD d)) st)
  | .bl b => match d with
    | .bl a => some (.ok (.bl (!decide (a = b))) st)
    | _ => none
  | _ => none
theorem sv_is : SV2 X J (compareOp .Is) fIs := by
  intro R st H dx dy x y out Q E h g rx ry t o
  unfold fIs at h
  split at h
  · cases h
    have q := isNon_rel rx
    simp only [RelD] at ry
    exact rs_of op_isN ⟨ry, by rw [q]; exact o R H _ Ex.refl g relBl⟩
  · split at h
    · cases h
      simp only [RelD] at rx ry
      exact rs_of op_is_bl ⟨_, _, rx, ry, o R H _ Ex.refl g relBl⟩
    · cases h
  · cases h
theorem sv_isNot : SV2 X J (compareOp .IsNot) fIsNot := by
  intro R st H dx dy x y out Q E h g rx ry t o
  unfold fIsNot at h
  split at h
  · cases h
    have q := isNon_rel rx
    simp only [RelD] at ry
    exact rs_of op_notN ⟨ry, by rw [q]; exact o R H _ Ex.refl g relBl⟩
  · split at h
    · cases h
      simp only [RelD] at rx ry
      exact rs_of op_isnot_bl ⟨_, _, rx, ry, o R H _ Ex.refl g relBl⟩
    · cases h
  · cases h
/-! ### tests -/
def mTest (m : M D) : M Bool := mBind m fun d => fun _ st => match d with
  | .bl b => some (.ok b st)
  | _ => none
/-- an expression that is no comparison, and, or, not -/
def plainTest : Expr → Bool
  | .Call .. => true
  | .Name .. => true
  | .Constant .. => true
  | .Subscript .. => true
  | .Attribute .. => true
  | _ => false
theorem plainTest_ok {X : Cx} {e : Expr} (h : plainTest e = true) : ∀ whole, isTrue e X.env whole = (do let v ← whole; standAt e.pos; holding [v] (truthy v)) := by
  intro whole
  cases e <;> first | rfl | cases h
theorem st_val {e : Expr} {m : M D} (S : SE X J e m) (he : ∀ whole, isTrue e X.env whole = (do let v ← whole; standAt e.pos; holding [v] (truthy v))) : STt X J e (mTest m) := by
  intro R env st σ H out Q E h g r t o
  refine sem_ofT (pt_val pe_sem he) ?_
  refine se_then S h g r t o fun R1 st1 H1 d v e1 g1 r1 rd h1 o1 => ?_
  cases d with
  | bl b =>
    cases h1
    simp only [RelD] at rd
    exact ⟨b, rd, o1 R1 H1 b Ex.refl g1 rfl⟩
  | _ => cases h1
theorem st_cmp {op : CmpOp} {a b : Expr} {pos : Pos} {ma mb : M D} {f : D → D → Sto → Option (Out D)} (ho : SV2 X J (compareOp op) f) (Sa : SE X J a ma) (Sb : SE X J b mb) (hm : behindInMarks op b = false) : STt X J (.Compare a [op] [b] pos) (mTest (mOp2 f ma mb)) := by
  intro R env st σ H out Q E h g r t o
  refine sem_ofT (pt_cmpR op_sem pe_sem pe_sem hm) ?_
  show tOp (rS X (compareOp op)) (tSem X a) (tSem X b) σ H fun x H' => ∃ k, x = .bl k ∧ Q k H'
  rcases bind_some h with ⟨d, st1, h1, h2⟩ | ⟨x, st1, h1, h2⟩
  · refine two_of ho Sa Sb h1 g r t fun R1 H1 v e1 g1 rd => ?_
    cases d with
    | bl b =>
      cases h2
      simp only [RelD] at rd
      exact ⟨b, rd, o R1 H1 b e1 g1 rfl⟩
    | _ => cases h2
  · subst h2
    exact two_of ho Sa Sb h1 g r t o
def mAnd (a b : M Bool) : M Bool := mBind a fun c => match c with
  | true => b
  | false => mPure false
def mOr (a b : M Bool) : M Bool := mBind a fun c => match c with
  | true => mPure true
  | false => b
def mNot (a : M Bool) : M Bool := mBind a fun c => mPure (!c)
theorem stw_pt {e : Expr} {m : M Bool} (S : STw X J e m) : STt X J e m := fun R env st σ H out Q E h g r t o pins s I => S R env st σ H out Q E h g r t o _ pins s I
theorem stw_and1 {a : Expr} {pos : Pos} {m : M Bool} (S : STt X J a m) : STw X J (.BoolOp .And [a] pos) m := fun R env st σ H out Q E h g r t o => sem_ofW (pw_and1 pt_sem) (S R env st σ H out Q E h g r t o)
theorem stw_or1 {a : Expr} {pos : Pos} {m : M Bool} (S : STt X J a m) : STw X J (.BoolOp .Or [a] pos) m := fun R env st σ H out Q E h g r t o => sem_ofW (pw_or1 pt_sem) (S R env st σ H out Q E h g r t o)
theorem stw_and {a b : Expr} {rest : List Expr} {pos : Pos} {m n : M Bool} (S : STt X J a m) (T : STw X J (.BoolOp .And (b :: rest) pos) n) : STw X J (.BoolOp .And (a :: b :: rest) pos) (mAnd m n) := by
  intro R env st σ H out Q E h g r t o
  refine sem_ofW (pw_and pt_sem pw_sem) ?_
  refine st_then S h g r t o fun R1 st1 H1 c e1 g1 r1 h1 o1 => ?_
  cases c with
  | true => rw [if_pos rfl]; exact T R1 env st1 σ H1 out Q E h1 g1 r1 t o1
  | false => rw [if_neg Bool.false_ne_true]; cases h1; exact o1 R1 H1 false Ex.refl g1 rfl
theorem stw_or {a b : Expr} {rest : List Expr} {pos : Pos} {m n : M Bool} (S : STt X J a m) (T : STw X J (.BoolOp .Or (b :: rest) pos) n) : STw X J (.BoolOp .Or (a :: b :: rest) pos) (mOr m n) := by
  intro R env st σ H out Q E h g r t o
  refine sem_ofW (pw_or pt_sem pw_sem) ?_
  refine st_then S h g r t o fun R1 st1 H1 c e1 g1 r1 h1 o1 => ?_
  cases c with
  | true => rw [if_pos rfl]; cases h1; exact o1 R1 H1 true Ex.refl g1 rfl
  | false => rw [if_neg Bool.false_ne_true]; exact T R1 env st1 σ H1 out Q E h1 g1 r1 t o1
theorem st_not {a : Expr} {pos : Pos} {m : M Bool} (S : STt X J a m) : STt X J (.UnaryOp .Not a pos) (mNot m) := by
  intro R env st σ H out Q E h g r t o
  refine sem_ofT (pt_not pt_sem) ?_
  refine st_then S h g r t o fun R1 st1 H1 c e1 g1 r1 h1 o1 => ?_
  cases h1
  exact o1 R1 H1 _ Ex.refl g1 rfl
/-! a chain of two comparisons -/
def mChain (f f' : D → D → Sto → Option (Out D)) (a b c : M D) : M D := mBind a fun x => mBind b fun y => fun env st => match f x y st with
  | some (.ok (.bl true) st1) => mBind c (fun z => fun _ st2 => f' y z st2) env st1
  | some (.ok (.bl false) st1) => some (.ok (.bl false) st1)
  | some (.exc e st1) => some (.exc e st1)
  | _ => none
theorem chain_of {op op' : CmpOp} {a b c : Expr} {ma mb mc : M D} {f f' : D → D → Sto → Option (Out D)} (ho : SV2 X J (compareOp op) f) (ho' : SV2 X J (compareOp op') f') (Sa : SE X J a ma) (Sb : SE X J b mb) (Sc : SE X J c mc)
    {R : List Addr} {env : En} {st : Sto} {σ : Sg} {H : Hp} {out : Out D} {Q : VK} {E : XK} (h : mChain f f' ma mb mc env st = some out) (g : Gd X.K J R st H) (r : EnR X.K R H env σ) (t : Tk X E) (o : OkO X.K J R H (RelD X.K) Q E out) :
    tChain (rS X (compareOp op)) (rS X (compareOp op')) (tSem X a) (tSem X b) (tSem X c) σ H Q := by
  refine se_then Sa h g r t o fun R1 st1 H1 d v e1 g1 r1 rd h1 o1 => ?_
  refine se_then Sb h1 g1 r1 t o1 fun R2 st2 H2 d2 v2 e2 g2 r2 rd2 h2 o2 => ?_
  have rd' := rd.mono e2.toEx0
  split at h2
  · rename_i st3 ef
    refine ho R2 st2 H2 d d2 v v2 _ _ E ef g2 rd' rd2 t fun R3 H3 w3 e3 g3 r3 => ?_
    simp only [RelD] at r3
    refine ⟨true, r3, ?_⟩
    rw [if_pos rfl]
    refine se_then Sc h2 g3 (r2.mono e3) t (o2.shift e3) fun R4 st4 H4 d4 v4 e4 g4 r4 rd4 h4 o4 => ?_
    exact ho' R4 st4 H4 d2 d4 v2 v4 _ _ E h4 g4 (rd2.mono (e3.trans e4).toEx0) rd4 t o4
  · rename_i st3 ef
    cases h2
    refine ho R2 st2 H2 d d2 v v2 _ _ E ef g2 rd' rd2 t fun R3 H3 w3 e3 g3 r3 => ?_
    simp only [RelD] at r3
    refine ⟨false, r3, ?_⟩
    rw [if_neg Bool.false_ne_true]
    exact o2 R3 H3 _ e3 g3 relBl
  · rename_i ef
    cases h2
    exact ho R2 st2 H2 d d2 v v2 _ _ E ef g2 rd' rd2 t o2
  · cases h2
theorem se_chain {op op' : CmpOp} {a b c : Expr} {pos : Pos} {ma mb mc : M D} {f f' : D → D → Sto → Option (Out D)} (ho : SV2 X J (compareOp op) f) (ho' : SV2 X J (compareOp op') f') (Sa : SE X J a ma) (Sb : SE X J b mb) (Sc : SE X J c mc) (hm : lastMarks [op, op'] [b, c] = false) :
    SE X J (.Compare a [op, op'] [b, c] pos) (mChain f f' ma mb mc) :=
  fun R env st σ H out Q E h g r t o => sem_of (pe_chain op_sem op_sem pe_sem pe_sem pe_sem hm) (chain_of ho ho' Sa Sb Sc h g r t o)
theorem st_chain {op op' : CmpOp} {a b c : Expr} {pos : Pos} {ma mb mc : M D} {f f' : D → D → Sto → Option (Out D)} (ho : SV2 X J (compareOp op) f) (ho' : SV2 X J (compareOp op') f') (Sa : SE X J a ma) (Sb : SE X J b mb) (Sc : SE X J c mc) (hm : lastMarks [op, op'] [b, c] = false) :
    STt X J (.Compare a [op, op'] [b, c] pos) (mTest (mChain f f' ma mb mc)) := by
  intro R env st σ H out Q E h g r t o
  refine sem_ofT (pt_chain op_sem op_sem pe_sem pe_sem pe_sem hm) ?_
  show tChain (rS X (compareOp op)) (rS X (compareOp op')) (tSem X a) (tSem X b) (tSem X c) σ H fun x H' => ∃ k, x = .bl k ∧ Q k H'
  rcases bind_some h with ⟨d, st1, h1, h2⟩ | ⟨x, st1, h1, h2⟩
  · refine chain_of ho ho' Sa Sb Sc h1 g r t fun R1 H1 v e1 g1 rd => ?_
    cases d with
    | bl b =>
      cases h2
      simp only [RelD] at rd
      exact ⟨b, rd, o R1 H1 b e1 g1 rfl⟩
    | _ => cases h2
  · subst h2
    exact chain_of ho ho' Sa Sb Sc h1 g r t o
/-! values by and, or, not, if -/
def mAndV (a b : M D) : M D := mBind a fun c => match c with
  | .bl true => b
  | .bl false => mPure (.bl false)
  | _ => fun _ _ => none
def mOrV (a b : M D) : M D := mBind a fun c => match c with
  | .bl true => mPure (.bl true)
  | .bl false => b
  | _ => fun _ _ => none
def mNotV (a : M D) : M D := mBind a fun c => match c with
  | .bl b => mPure (.bl (!b))
  | _ => fun _ _ => none
theorem se_one {op : BoolOp} {a : Expr} {pos : Pos} {m : M D} (S : SE X J a m) : SE X J (.BoolOp op [a] pos) m := fun R env st σ H out Q E h g r t o => sem_of (pe_one pe_sem) (S R env st σ H out Q E h g r t o)
theorem se_and {a b : Expr} {rest : List Expr} {pos : Pos} {m n : M D} (S : SE X J a m) (T : SE X J (.BoolOp .And (b :: rest) pos) n) : SE X J (.BoolOp .And (a :: b :: rest) pos) (mAndV m n) := by
  intro R env st σ H out Q E h g r t o
  refine sem_of (pe_and pe_sem pe_sem) ?_
  refine se_then S h g r t o fun R1 st1 H1 d v e1 g1 r1 rd h1 o1 => ?_
  cases d with
  | bl b =>
    simp only [RelD] at rd
    refine ⟨b, rd, ?_⟩
    cases b with
    | true => rw [if_pos rfl]; exact T R1 env st1 σ H1 out Q E h1 g1 r1 t o1
    | false => rw [if_neg Bool.false_ne_true]; cases h1; exact o1 R1 H1 _ Ex.refl g1 relBl
  | _ => cases h1
theorem se_or {a b : Expr} {rest : List Expr} {pos : Pos} {m n : M D} (S : SE X J a m) (T : SE X J (.BoolOp .Or (b :: rest) pos) n) : SE X J (.BoolOp .Or (a :: b :: rest) pos) (mOrV m n) := by
  intro R env st σ H out Q E h g r t o
  refine sem_of (pe_or pe_sem pe_sem) ?_
  refine se_then S h g r t o fun R1 st1 H1 d v e1 g1 r1 rd h1 o1 => ?_
  cases d with
  | bl b =>
    simp only [RelD] at rd
    refine ⟨b, rd, ?_⟩
    cases b with
    | true => rw [if_pos rfl]; cases h1; exact o1 R1 H1 _ Ex.refl g1 relBl
    | false => rw [if_neg Bool.false_ne_true]; exact T R1 env st1 σ H1 out Q E h1 g1 r1 t o1
  | _ => cases h1
theorem se_not {a : Expr} {pos : Pos} {m : M D} (S : SE X J a m) : SE X J (.UnaryOp .Not a pos) (mNotV m) := by
  intro R env st σ H out Q E h g r t o
  refine sem_of (pe_not pe_sem) ?_
  refine se_then S h g r t o fun R1 st1 H1 d v e1 g1 r1 rd h1 o1 => ?_
  cases d with
  | bl b =>
    simp only [RelD] at rd
    cases h1
    exact ⟨b, rd, o1 R1 H1 _ Ex.refl g1 relBl⟩
  | _ => cases h1
def mIf (c : M Bool) (a b : M D) : M D := mBind c fun k => match k with
  | true => a
  | false => b
theorem se_if {c a b : Expr} {pos : Pos} {mc : M Bool} {ma mb : M D} (Sc : STt X J c mc) (Sa : SE X J a ma) (Sb : SE X J b mb) : SE X J (.IfExp c a b pos) (mIf mc ma mb) := by
  intro R env st σ H out Q E h g r t o
  refine sem_of (pe_ifExp pt_sem pe_sem pe_sem) ?_
  refine st_then Sc h g r t o fun R1 st1 H1 k e1 g1 r1 h1 o1 => ?_
  cases k with
  | true => rw [if_pos rfl]; exact Sa R1 env st1 σ H1 out Q E h1 g1 r1 t o1
  | false => rw [if_neg Bool.false_ne_true]; exact Sb R1 env st1 σ H1 out Q E h1 g1 r1 t o1
def mNeg (a : M D) : M D := mBind a fun c => match c with
  | .int i => mPure (.int (-i))
  | _ => fun _ _ => none
theorem se_neg {a : Expr} {pos : Pos} {m : M D} (S : SE X J a m) : SE X J (.UnaryOp .USub a pos) (mNeg m) := by
  intro R env st σ H out Q E h g r t o
  refine sem_of (pe_un un_neg pe_sem) ?_
  refine se_then S h g r t o fun R1 st1 H1 d v e1 g1 r1 rd h1 o1 => ?_
  cases d with
  | int b =>
    simp only [RelD] at rd
    cases h1
    exact ⟨b, rd, o1 R1 H1 _ Ex.refl g1 relInt⟩
  | _ => cases h1
/-! ### tuples, lists -/
def mTup (m : M (List D)) : M D := mBind m fun ds => fun _ st => match Nat.ble ds.length 1000000 with
  | true => some (.ok (.tup ds) st)
  | false => none
theorem se_tup {es : List Expr} {k : Nat} {pos : Pos} {m : M (List D)} (j : JS J) (S : SA X J es m) : SE X J (.Tuple es k pos) (mTup m) := by
  intro R env st σ H out Q E h g r t o
  refine sem_of (pe_tup pa_sem) ?_
  refine sa_then S h g r t o fun R1 st1 H1 ds vs e1 g1 r1 rd h1 o1 => ?_
  split at h1
  · rename_i hz
    cases h1
    refine ⟨by rw [← rd.length]; exact szL hz, fun p hp => o1 R1 _ _ (Ex.new hp) (g1.new j hp) ?_⟩
    simp only [RelD]
    exact ⟨p, vs, rfl, SqT.of upd_same, rd.mono (Ex.new hp).toEx0⟩
  · cases h1
/-- a list of written items, new -/
def mLst (m : M (List D)) : M (List D) := mBind m fun ds => fun _ st => match Nat.ble ds.length 1000000 with
  | true => some (.ok ds st)
  | false => none
theorem sl_lst {es : List Expr} {pos : Pos} {m : M (List D)} (j : JS J) (S : SA X J es m) : SL X J (.List es pos) (mLst m) := by
  intro R env st σ H out Q E h g r t o
  refine sem_of (pe_lst pa_sem) ?_
  rcases bind_some h with ⟨ds, st1, h1, h2⟩ | ⟨x, st1, h1, h2⟩
  · refine S R env st σ H _ _ E h1 g r t fun R1 H1 vs e1 g1 rd => ?_
    split at h2
    · rename_i hz
      cases h2
      refine ⟨by rw [← rd.length]; exact szL hz, fun p hp => o R1 _ _ (e1.trans (Ex.new hp)) (g1.new j hp) ?_⟩
      have hp0 : H p = none := by
        cases q : H p with
        | none => rfl
        | some u => exact absurd hp (e1.kp p (by rw [q]; simp))
      refine ⟨p, vs, rfl, hp0, fun hm => ?_, upd_same, rd.mono (Ex.new hp).toEx0⟩
      obtain ⟨n, ob, _, _, z⟩ := g1.mem hm
      exact z.some hp
    · cases h2
  · subst h2
    exact S R env st σ H _ _ E h1 g r t o
/-- a new list becomes one of the store -/
def mKeep (m : M (List D)) : M D := mBind m fun ds => fun _ st => some (.ok (.loc st.length) (st ++ [.lst ds]))
theorem se_keep {e : Expr} {m : M (List D)} (S : SL X J e m) : SE X J e (mKeep m) := by
  intro R env st σ H out Q E h g r t o
  rcases bind_some h with ⟨ds, st1, h1, h2⟩ | ⟨x, st1, h1, h2⟩
  · refine S R env st σ H _ Q E h1 g r t fun R1 H1 v e1 g1 rd => ?_
    cases h2
    obtain ⟨p, xs, rfl, hp0, hpR, hp, rx⟩ := rd
    refine o (R1 ++ [p]) H1 _ (e1.snoc hp0) (g1.push hpR ⟨xs, hp, rx⟩) ?_
    simp only [RelD]
    exact ⟨p, rfl, by rw [← g1.len, List.getElem?_append_right (Nat.le_refl _)]; simp⟩
  · subst h2
    exact S R env st σ H _ Q E h1 g r t o
end
end TA
/-! keys, in, subscripts, slices, stores -/
namespace TA
open PySem PySem.Spec
open PyProof.Rows L2

def keyD : D → Option Key
  | .int i => some (.inl i)
  | .str x => some (.inr x)
  | _ => none
def getK : List (Key × D) → Key → Option D
  | [], _ => none
  | p :: r, k => match decide (p.1 = k) with
    | true => some p.2
    | false => getK r k
def hasK (kvs : List (Key × D)) (k : Key) : Bool := kvs.any fun p => decide (p.1 = k)
def setK (kvs : List (Key × D)) (k : Key) (d : D) : List (Key × D) := match hasK kvs k with
  | true => kvs.map fun p => match decide (p.1 = k) with
    | true => (p.1, d)
    | false => p
  | false => kvs ++ [(k, d)]
section
variable {K : PySem.W.Frag} {J : Hp → Prop} {R : List Addr} {H : Hp}
theorem keyD_rel {d : D} {k : Key} {v : V} (h : keyD d = some k) (r : RelD K R H d v) : v = kV k := by
  cases d <;> simp only [keyD, Option.some.injEq, reduceCtorEq] at h
  · subst h; simp only [RelD] at r; exact r
  · subst h; simp only [RelD] at r; exact r
theorem getK_rel : ∀ {kvs : List (Key × D)} {xs : List (Key × V)} {k : Key}, RelKv K R H kvs xs → (∀ d, getK kvs k = some d → ∃ v, valV xs k = some v ∧ RelD K R H d v) ∧ (getK kvs k = none → valV xs k = none)
  | [], _, k, r => by
    simp only [RelKv] at r
    subst r
    exact ⟨fun d h => by simp [getK] at h, fun _ => rfl⟩
  | p :: kvs, _, k, r => by
    simp only [RelKv] at r
    obtain ⟨v, ws, rfl, r1, r2⟩ := r
    by_cases hk : p.1 = k
    · rw [valV_pos (p := (p.1, v)) hk]
      refine ⟨fun d h => ?_, fun h => ?_⟩
      · simp only [getK, decide_eq_true hk, Option.some.injEq] at h
        subst h
        exact ⟨v, rfl, r1⟩
      · simp only [getK, decide_eq_true hk, reduceCtorEq] at h
    · rw [valV_neg (p := (p.1, v)) hk]
      obtain ⟨a, b⟩ := getK_rel (k := k) r2
      refine ⟨fun d h => ?_, fun h => ?_⟩
      · simp only [getK, decide_eq_false hk] at h
        exact a d h
      · simp only [getK, decide_eq_false hk] at h
        exact b h
theorem hasK_rel {k : Key} : ∀ {kvs : List (Key × D)} {xs : List (Key × V)}, RelKv K R H kvs xs → hasK kvs k = xs.any fun kv => decide (kv.1 = k)
  | [], _, r => by simp only [RelKv] at r; subst r; rfl
  | p :: kvs, _, r => by
    simp only [RelKv] at r
    obtain ⟨w, ws, rfl, r1, r2⟩ := r
    show (decide (p.1 = k) || hasK kvs k) = (decide (p.1 = k) || ws.any _)
    rw [hasK_rel r2]
theorem mapK_rel {d : D} {v : V} {k : Key} (rd : RelD K R H d v) : ∀ {kvs : List (Key × D)} {xs : List (Key × V)}, RelKv K R H kvs xs →
    RelKv K R H (kvs.map fun p => match decide (p.1 = k) with | true => (p.1, d) | false => p) (xs.map fun kv => if kv.1 = k then (kv.1, v) else kv)
  | [], _, r => by simp only [RelKv] at r; subst r; simp [RelKv]
  | p :: kvs, _, r => by
    simp only [RelKv] at r
    obtain ⟨w, ws, rfl, r1, r2⟩ := r
    simp only [List.map_cons]
    by_cases e : p.1 = k
    · simp only [decide_eq_true e, if_pos e, RelKv]
      exact ⟨v, _, rfl, rd, mapK_rel rd r2⟩
    · simp only [decide_eq_false e, if_neg e, RelKv]
      exact ⟨w, _, rfl, r1, mapK_rel rd r2⟩
theorem RelKv.app : ∀ {ds es : List (Key × D)} {vs ws : List (Key × V)}, RelKv K R H ds vs → RelKv K R H es ws → RelKv K R H (ds ++ es) (vs ++ ws)
  | [], _, _, _, h, g => by simp only [RelKv] at h; subst h; exact g
  | d :: ds, _, _, _, h, g => by
    simp only [RelKv] at h
    obtain ⟨v, ws, rfl, e2, e3⟩ := h
    show RelKv K R H (d :: (ds ++ _)) (_ :: (ws ++ _))
    simp only [RelKv]
    exact ⟨v, _, rfl, e2, RelKv.app e3 g⟩
theorem setK_rel {d : D} {v : V} {k : Key} (rd : RelD K R H d v) {kvs : List (Key × D)} {xs : List (Key × V)} (r : RelKv K R H kvs xs) : RelKv K R H (setK kvs k d) (putK xs k v) := by
  unfold setK putK
  rw [← hasK_rel r]
  cases hasK kvs k with
  | true => rw [if_pos rfl]; exact mapK_rel rd r
  | false =>
    rw [if_neg Bool.false_ne_true]
    refine r.app ?_
    simp only [RelKv]
    exact ⟨v, [], rfl, rd, rfl⟩
theorem RelKv.length : ∀ {kvs : List (Key × D)} {xs : List (Key × V)}, RelKv K R H kvs xs → kvs.length = xs.length
  | [], _, r => by simp only [RelKv] at r; subst r; rfl
  | p :: kvs, _, r => by
    simp only [RelKv] at r
    obtain ⟨w, ws, rfl, r1, r2⟩ := r
    simp [RelKv.length r2]
theorem atI_rel {ds : List D} {vs : List V} {i : Int} {d : D} (r : RelDs K R H ds vs) (h : atI ds i = some d) : ∃ v, atI vs i = some v ∧ RelD K R H d v := by
  unfold atI at h ⊢
  rw [← r.length]
  cases e : ixN ds.length i with
  | none => rw [e] at h; cases h
  | some j =>
    rw [e] at h
    exact r.get (show ds[j]? = some d from h)
end

/-! ### in -/
def inPy (p : PyData) : PyData → Option Bool
  | .list ps => match SeqAt.shaped p && SeqAt.shaped (.list ps) with
    | true => some (ps.any fun z => PyData.eqv z p)
    | false => none
  | .tuple ps => match SeqAt.shaped p && SeqAt.shaped (.tuple ps) with
    | true => some (ps.any fun z => PyData.eqv z p)
    | false => none
  | _ => none
def inSeq (st : Sto) (d c : D) : Option Bool := match toPy 40 st d, toPy 40 st c with
  | some p, some q => inPy p q
  | _, _ => none
def inD (st : Sto) (d c : D) : Option Bool := match c with
  | .loc n => match st[n]? with
    | some (.dct kvs) => match keyD d with
      | some k => some (getK kvs k).isSome
      | none => none
    | _ => inSeq st d c
  | _ => inSeq st d c
def fIn (d e : D) (st : Sto) : Option (Out D) := okB (inD st d e) st
def fNotIn (d e : D) (st : Sto) : Option (Out D) := okB ((inD st d e).map (!·)) st
section
variable {X : Cx} {J : Hp → Prop}
theorem op_inT (hu : X.A.units + 65 < cLine) : OpR X (compareOp .In) (fun x y H Q => ∃ d ds, Dp X.K H x d ∧ Dp X.K H y (.tuple ds) ∧ SeqAt.shaped d = true ∧ SeqAt.shaped (.tuple ds) = true ∧ Q (.bl (ds.any fun z => PyData.eqv z d)) H) := by
  intro pins s σ H x y v u Q I rx ry h
  obtain ⟨d, ds, hd, he, sd, se, q⟩ := h
  obtain ⟨as, r1⟩ := Dp.reads I d x v hd rx
  obtain ⟨bs, r2⟩ := Dp.reads I (.tuple ds) y u he ry
  exact SeqAt.in_tuple_reads r2 r1 (SeqAt.canLay_of_shaped se) (SeqAt.canLay_of_shaped sd) (room_in_shaped sd hu) ⟨.bl _, H, I, rfl, q⟩
theorem op_notInT (hu : X.A.units + 65 < cLine) : OpR X (compareOp .NotIn) (fun x y H Q => ∃ d ds, Dp X.K H x d ∧ Dp X.K H y (.tuple ds) ∧ SeqAt.shaped d = true ∧ SeqAt.shaped (.tuple ds) = true ∧ Q (.bl (!ds.any fun z => PyData.eqv z d)) H) := by
  intro pins s σ H x y v u Q I rx ry h
  obtain ⟨d, ds, hd, he, sd, se, q⟩ := h
  obtain ⟨as, r1⟩ := Dp.reads I d x v hd rx
  obtain ⟨bs, r2⟩ := Dp.reads I (.tuple ds) y u he ry
  exact SeqAt.notIn_tuple_reads r2 r1 (SeqAt.canLay_of_shaped se) (SeqAt.canLay_of_shaped sd) (room_in_shaped sd hu) ⟨.bl _, H, I, rfl, q⟩
theorem op_inDict (hu : X.A.units + 1 < cLine) : OpR X (compareOp .In) (fun x y H Q => ∃ a o, y = .ref a ∧ DGet H a x o ∧ Q (.bl o.isSome) H) := by
  intro pins s σ H x y v u Q I rx ry h
  obtain ⟨a, o, rfl, g, q⟩ := h
  cases ry
  exact d_in hu I g rx fun s' I' => ⟨.bl _, H, I', rfl, q⟩
theorem op_notInDict (hu : X.A.units + 1 < cLine) : OpR X (compareOp .NotIn) (fun x y H Q => ∃ a o, y = .ref a ∧ DGet H a x o ∧ Q (.bl (!o.isSome)) H) := by
  intro pins s σ H x y v u Q I rx ry h
  obtain ⟨a, o, rfl, g, q⟩ := h
  cases ry
  exact d_notIn hu I g rx fun s' I' => ⟨.bl _, H, I', rfl, q⟩
theorem inSeq_some {st : Sto} {d c : D} {b : Bool} (h : inSeq st d c = some b) : ∃ p ps, toPy 40 st d = some p ∧ SeqAt.shaped p = true ∧ (ps.any fun z => PyData.eqv z p) = b ∧
    ((toPy 40 st c = some (.list ps) ∧ SeqAt.shaped (.list ps) = true) ∨ (toPy 40 st c = some (.tuple ps) ∧ SeqAt.shaped (.tuple ps) = true)) := by
  unfold inSeq at h
  split at h
  · rename_i p q h1 h2
    cases q <;> simp only [inPy, reduceCtorEq] at h
    · rename_i ps
      split at h
      · rename_i hs
        obtain ⟨s1, s2⟩ := Bool.and_eq_true_iff.mp hs
        exact ⟨p, ps, h1, s1, Option.some.inj h, .inl ⟨h2, s2⟩⟩
      · cases h
    · rename_i ps
      split at h
      · rename_i hs
        obtain ⟨s1, s2⟩ := Bool.and_eq_true_iff.mp hs
        exact ⟨p, ps, h1, s1, Option.some.inj h, .inr ⟨h2, s2⟩⟩
      · cases h
  · cases h
theorem inD_cases {st : Sto} {d c : D} {b : Bool} (h : inD st d c = some b) : inSeq st d c = some b ∨ ∃ n kvs k, c = .loc n ∧ st[n]? = some (.dct kvs) ∧ keyD d = some k ∧ (getK kvs k).isSome = b := by
  unfold inD at h
  split at h
  · rename_i n
    split at h
    · rename_i kvs e
      split at h
      · rename_i k ek
        exact .inr ⟨n, kvs, k, rfl, e, ek, Option.some.inj h⟩
      · cases h
    · exact .inl h
  · exact .inl h
theorem sv_in (hu : X.A.units + 65 < cLine) : SV2 X J (compareOp .In) fIn := by
  intro R st H dx dy x y out Q E h g rx ry t o
  obtain ⟨c, hc, rfl⟩ := okB_some h
  rcases inD_cases hc with hs | ⟨n, kvs, k, rfl, e1, e2, e3⟩
  · obtain ⟨p, ps, h1, s1, rfl, ⟨h2, s2⟩ | ⟨h2, s2⟩⟩ := inSeq_some hs
    · exact rs_of (op_inD hu) ⟨p, ps, toPy_dp g 40 h1 rx, toPy_dp g 40 h2 ry, s1, s2, o R H _ Ex.refl g relBl⟩
    · exact rs_of (op_inT hu) ⟨p, ps, toPy_dp g 40 h1 rx, toPy_dp g 40 h2 ry, s1, s2, o R H _ Ex.refl g relBl⟩
  · simp only [RelD] at ry
    obtain ⟨a, rfl, ra⟩ := ry
    obtain ⟨xs, hx, rk⟩ := g.ob n _ a e1 ra
    have hk := keyD_rel e2 rx
    subst hk
    have hg := getK_rel (k := k) rk
    refine rs_of (op_inDict (by omega)) ⟨a, valV xs k, rfl, DGet.k hx, ?_⟩
    have : (valV xs k).isSome = c := by
      rw [← e3]
      cases q : getK kvs k with
      | none => rw [hg.2 q]; rfl
      | some d => obtain ⟨v, hv, _⟩ := hg.1 d q; rw [hv]; rfl
    rw [this]
    exact o R H _ Ex.refl g relBl
theorem sv_notIn (hu : X.A.units + 65 < cLine) : SV2 X J (compareOp .NotIn) fNotIn := by
  intro R st H dx dy x y out Q E h g rx ry t o
  obtain ⟨c', hc', rfl⟩ := okB_some h
  obtain ⟨c, hc, rfl⟩ := Option.map_eq_some_iff.mp hc'
  rcases inD_cases hc with hs | ⟨n, kvs, k, rfl, e1, e2, e3⟩
  · obtain ⟨p, ps, h1, s1, rfl, ⟨h2, s2⟩ | ⟨h2, s2⟩⟩ := inSeq_some hs
    · exact rs_of (op_notInD hu) ⟨p, ps, toPy_dp g 40 h1 rx, toPy_dp g 40 h2 ry, s1, s2, o R H _ Ex.refl g relBl⟩
    · exact rs_of (op_notInT hu) ⟨p, ps, toPy_dp g 40 h1 rx, toPy_dp g 40 h2 ry, s1, s2, o R H _ Ex.refl g relBl⟩
  · simp only [RelD] at ry
    obtain ⟨a, rfl, ra⟩ := ry
    obtain ⟨xs, hx, rk⟩ := g.ob n _ a e1 ra
    have hk := keyD_rel e2 rx
    subst hk
    have hg := getK_rel (k := k) rk
    refine rs_of (op_notInDict (by omega)) ⟨a, valV xs k, rfl, DGet.k hx, ?_⟩
    have : (valV xs k).isSome = c := by
      rw [← e3]
      cases q : getK kvs k with
      | none => rw [hg.2 q]; rfl
      | some d => obtain ⟨v, hv, _⟩ := hg.1 d q; rw [hv]; rfl
    rw [this]
    exact o R H _ Ex.refl g relBl

/-! ### subscripts -/
def fIx (d e : D) (st : Sto) : Option (Out D) := match d, e with
  | .tup ds, .int i => (atI ds i).map fun x => .ok x st
  | .rol ds, .int i => (atI ds i).map fun x => .ok x st
  | .loc n, e => match st[n]? with
    | some (.lst ds) => match e with
      | .int i => (atI ds i).map fun x => .ok x st
      | _ => none
    | some (.dct kvs) => match keyD e with
      | some k => (getK kvs k).map fun x => .ok x st
      | none => none
    | _ => none
  | _, _ => none
theorem two_res {ma mb : M D} {f : D → D → Sto → Option (Out D)} {env : En} {st : Sto} {out : Out D} (h : mOp2 f ma mb env st = some out) :
    (∃ dx st1 dy st2, ma env st = some (.ok dx st1) ∧ mb env st1 = some (.ok dy st2) ∧ f dx dy st2 = some out) ∨ (∃ x s', out = .exc x s' ∧ ((ma env st = some (.exc x s')) ∨ ∃ dx st1, ma env st = some (.ok dx st1) ∧ mb env st1 = some (.exc x s'))) := by
  rcases bind_some h with ⟨d, st1, h1, h2⟩ | ⟨x, st1, h1, h2⟩
  · rcases bind_some h2 with ⟨d2, st2, h3, h4⟩ | ⟨x, st2, h3, h4⟩
    · exact .inl ⟨d, st1, d2, st2, h1, h3, h4⟩
    · exact .inr ⟨x, st2, h4, .inr ⟨d, st1, h1, h3⟩⟩
  · exact .inr ⟨x, st1, h2, .inl h1⟩
/-- two expressions, the rule chosen by what they come to -/
theorem two_with {a b : Expr} {ma mb : M D} {f : D → D → Sto → Option (Out D)} (Sa : SE X J a ma) (Sb : SE X J b mb) {r : R2} {R : List Addr} {env : En} {st : Sto} {σ : Sg} {H : Hp} {out : Out D} {Q : VK} {E : XK}
    (h : mOp2 f ma mb env st = some out) (g : Gd X.K J R st H) (er : EnR X.K R H env σ) (t : Tk X E) (k : OkO X.K J R H (RelD X.K) Q E out)
    (hr : ∀ dx st1 dy st2, ma env st = some (.ok dx st1) → mb env st1 = some (.ok dy st2) → f dx dy st2 = some out → ∀ R2 H2 x y, Gd X.K J R2 st2 H2 → RelD X.K R2 H2 dx x → RelD X.K R2 H2 dy y → OkO X.K J R2 H2 (RelD X.K) Q E out → r x y H2 Q) :
    tOp r (tSem X a) (tSem X b) σ H Q := by
  rcases two_res h with ⟨dx, st1, dy, st2, h1, h2, h3⟩ | ⟨x, s', rfl, h1 | ⟨dx, st1, h1, h2⟩⟩
  · refine Sa R env st σ H _ _ E h1 g er t fun R1 H1 x e1 g1 r1 => ?_
    refine Sb R1 env st1 σ H1 _ _ E h2 g1 (er.mono e1) t fun R2 H2 y e2 g2 r2 => ?_
    exact hr dx st1 dy st2 h1 h2 h3 R2 H2 x y g2 (r1.mono e2.toEx0) r2 (k.shift (e1.trans e2))
  · exact Sa R env st σ H _ _ E h1 g er t k
  · refine Sa R env st σ H _ _ E h1 g er t fun R1 H1 x e1 g1 r1 => ?_
    exact Sb R1 env st1 σ H1 _ _ E h2 g1 (er.mono e1) t (k.shift e1)
theorem se_ix {a b : Expr} {pos : Pos} {ma mb : M D} (hu : X.A.units + 1 < cLine) (Sa : SE X J a ma) (Sb : SE X J b mb) (hs : PlainIx b) : SE X J (.Subscript a b pos) (mOp2 fIx ma mb) := by
  intro R env st σ H out Q E h g r t o
  have gen : ∀ {rr : R2}, IxR X rr → (∀ dx st1 dy st2, ma env st = some (.ok dx st1) → mb env st1 = some (.ok dy st2) → fIx dx dy st2 = some out → ∀ R2 H2 x y, Gd X.K J R2 st2 H2 → RelD X.K R2 H2 dx x → RelD X.K R2 H2 dy y → OkO X.K J R2 H2 (RelD X.K) Q E out → rr x y H2 Q) → tSem X (.Subscript a b pos) σ H Q :=
    fun hi hh => sem_of (pe_ix hi pe_sem pe_sem hs) (two_with Sa Sb h g r t o hh)
  rcases two_res h with ⟨dx, st1, dy, st2, h1, h2, h3⟩ | ⟨x, s', rfl, hx⟩
  · have key : ∀ {P : D → Sto → D → Sto → Prop}, P dx st1 dy st2 → ∀ dx' st1' dy' st2', ma env st = some (.ok dx' st1') → mb env st1' = some (.ok dy' st2') → P dx' st1' dy' st2' := fun {P} p dx' st1' dy' st2' q1 q2 => by
      rw [h1] at q1; cases q1
      rw [h2] at q2; cases q2
      exact p
    cases dx with
    | tup ds =>
      refine gen ix_tup fun dx' st1' dy' st2' q1 q2 q3 R2 H2 x y g2 rx ry o2 => ?_
      rw [h1] at q1; cases q1
      rw [h2] at q2; cases q2
      cases dy with
      | int i =>
        simp only [fIx, Option.map_eq_some_iff] at q3
        obtain ⟨d, e1, rfl⟩ := q3
        simp only [RelD] at rx ry
        obtain ⟨p, xs, rfl, sx, rx⟩ := rx
        obtain ⟨v, ev, rv⟩ := atI_rel rx e1
        exact ⟨p, xs, i, v, rfl, ry, sx, ev, o2 R2 H2 v Ex.refl g2 rv⟩
      | _ => simp [fIx] at q3
    | rol ds =>
      refine gen ix_list fun dx' st1' dy' st2' q1 q2 q3 R2 H2 x y g2 rx ry o2 => ?_
      rw [h1] at q1; cases q1
      rw [h2] at q2; cases q2
      cases dy with
      | int i =>
        simp only [fIx, Option.map_eq_some_iff] at q3
        obtain ⟨d, e1, rfl⟩ := q3
        simp only [RelD] at rx ry
        obtain ⟨p, xs, rfl, sx, rx⟩ := rx
        obtain ⟨v, ev, rv⟩ := atI_rel rx e1
        exact ⟨p, xs, i, v, rfl, ry, sx.sq, ev, o2 R2 H2 v Ex.refl g2 rv⟩
      | _ => simp [fIx] at q3
    | loc n =>
      cases hn : st2[n]? with
      | none => simp [fIx, hn] at h3
      | some ob =>
        cases ob with
        | lst ds =>
          refine gen ix_list fun dx' st1' dy' st2' q1 q2 q3 R2 H2 x y g2 rx ry o2 => ?_
          rw [h1] at q1; cases q1
          rw [h2] at q2; cases q2
          simp only [fIx, hn] at q3
          cases dy with
          | int i =>
            simp only [Option.map_eq_some_iff] at q3
            obtain ⟨d, e1, rfl⟩ := q3
            simp only [RelD] at rx ry
            obtain ⟨p, rfl, rp⟩ := rx
            obtain ⟨xs, hx, rx⟩ := g2.ob n _ p hn rp
            obtain ⟨v, ev, rv⟩ := atI_rel rx e1
            exact ⟨p, xs, i, v, rfl, ry, SqL.of hx, ev, o2 R2 H2 v Ex.refl g2 rv⟩
          | _ => simp at q3
        | dct kvs =>
          refine sem_of (pe_dget hu pe_sem pe_sem hs) ?_
          refine two_with (r := fun x y H2 Q => ∃ a v, x = .ref a ∧ DGet H2 a y (some v) ∧ Q v H2) Sa Sb h g r t o fun dx' st1' dy' st2' q1 q2 q3 R2 H2 x y g2 rx ry o2 => ?_
          rw [h1] at q1; cases q1
          rw [h2] at q2; cases q2
          simp only [fIx, hn] at q3
          split at q3
          · rename_i k ek
            simp only [Option.map_eq_some_iff] at q3
            obtain ⟨d, e1, rfl⟩ := q3
            have hk := keyD_rel ek ry
            subst hk
            simp only [RelD] at rx
            obtain ⟨p, rfl, rp⟩ := rx
            obtain ⟨xs, hx, rx⟩ := g2.ob n _ p hn rp
            obtain ⟨v, ev, rv⟩ := (getK_rel (k := k) rx).1 d e1
            exact ⟨p, v, rfl, by rw [← ev]; exact DGet.k hx, o2 R2 H2 v Ex.refl g2 rv⟩
          · cases q3
        | dlk kvs => simp [fIx, hn] at h3
    | _ => simp [fIx] at h3
  · refine gen ix_tup fun dx' st1' dy' st2' q1 q2 q3 => ?_
    rcases hx with hx | ⟨dx, st1, hx, hy⟩
    · rw [hx] at q1; cases q1
    · rw [hx] at q1; cases q1
      rw [hy] at q2; cases q2
/-! ### slices -/
def toE (X : Cx) : Option Expr → TO
  | none => tNoPart
  | some e => tPart (tSem X e)
theorem po_sem {eo : Option Expr} : PO X eo (toE X eo) := by
  cases eo with
  | none => exact po_none
  | some e => exact po_some pe_sem
def SO (X : Cx) (J : Hp → Prop) (eo : Option Expr) (m : M (Option Int)) : Prop := ∀ R env st σ H out Q E, m env st = some out → Gd X.K J R st H → EnR X.K R H env σ → Tk X E → OkO X.K J R H (fun _ _ (a b : Option Int) => a = b) Q E out → toE X eo σ H Q
def mPart (m : M D) : M (Option Int) := mBind m fun d => match d with
  | .int i => mPure (some i)
  | _ => fun _ _ => none
theorem so_none : SO X J none (mPure none) := by
  intro R env st σ H out Q E h g r t o
  cases h
  exact o R H none Ex.refl g rfl
theorem so_some {e : Expr} {m : M D} (S : SE X J e m) : SO X J (some e) (mPart m) := by
  intro R env st σ H out Q E h g r t o
  refine se_then S h g r t o fun R1 st1 H1 d v e1 g1 r1 rd h1 o1 => ?_
  cases d with
  | int i =>
    cases h1
    simp only [RelD] at rd
    exact ⟨i, rd, o1 R1 H1 _ Ex.refl g1 rfl⟩
  | _ => cases h1
theorem so_then {e : Option Expr} {m : M (Option Int)} (S : SO X J e m) {β γ : Type} {f : Option Int → M β} {R : List Addr} {env : En} {st : Sto} {σ : Sg} {H : Hp} {out : Out β} {E : XK} {rel : List Addr → Hp → β → γ → Prop} {Q : γ → Hp → Prop} {Q1 : Option Int → Hp → Prop}
    (h : mBind m f env st = some out) (g : Gd X.K J R st H) (r : EnR X.K R H env σ) (t : Tk X E) (o : OkO X.K J R H rel Q E out)
    (k : ∀ R1 st1 H1 d, Ex R R1 H H1 → Gd X.K J R1 st1 H1 → EnR X.K R1 H1 env σ → f d env st1 = some out → OkO X.K J R1 H1 rel Q E out → Q1 d H1) : toE X e σ H Q1 := by
  rcases bind_some h with ⟨d, st1, h1, h2⟩ | ⟨x, st1, h1, h2⟩
  · refine S R env st σ H _ Q1 E h1 g r t fun R1 H1 v e1 g1 r1 => ?_
    have r1' : d = v := r1
    subst r1'
    exact k R1 st1 H1 d e1 g1 (r.mono e1) h2 (o.shift e1)
  · subst h2
    exact S R env st σ H _ Q1 E h1 g r t o
def cutD (ds : List D) (lo hi : Option Int) : List D := (ds.drop (HT.sIx ds.length 0 lo)).take (HT.sIx ds.length ds.length hi - HT.sIx ds.length 0 lo)
theorem cut_rel {K : PySem.W.Frag} {R : List Addr} {H : Hp} {ds : List D} {vs : List V} {lo hi : Option Int} (r : RelDs K R H ds vs) : RelDs K R H (cutD ds lo hi) (cutV vs lo hi) := by
  unfold cutD cutV
  rw [r.length]
  exact (r.drop _).take _
theorem cut_whole {ds : List D} {lo hi : Option Int} (h : HT.sIx ds.length 0 lo = 0 ∧ HT.sIx ds.length ds.length hi = ds.length) : cutD ds lo hi = ds := by
  unfold cutD
  rw [h.1, h.2]
  simp
/-- a slice of a tuple -/
def mSlT (me : M D) (ml mh : M (Option Int)) : M D := mBind me fun d => mBind ml fun lo => mBind mh fun hi => match d with
  | .tup ds => mPure (.tup (cutD ds lo hi))
  | _ => fun _ _ => none
/-- a slice of a list: a new list -/
def mSlL (me : M D) (ml mh : M (Option Int)) : M (List D) := mBind me fun d => mBind ml fun lo => mBind mh fun hi => fun _ st => match d with
  | .rol ds => some (.ok (cutD ds lo hi) st)
  | .loc n => match st[n]? with
    | some (.lst ds) => some (.ok (cutD ds lo hi) st)
    | _ => none
  | _ => none
theorem se_slT {e : Expr} {lo hi : Option Expr} {p2 pos : Pos} {me : M D} {ml mh : M (Option Int)} (j : JS J) (S : SE X J e me) (Sl : SO X J lo ml) (Sh : SO X J hi mh) : SE X J (.Subscript e (.Slice lo hi none p2) pos) (mSlT me ml mh) := by
  intro R env st σ H out Q E h g r t o
  refine sem_of (pe_slice sl_tupA pe_sem po_sem po_sem) ?_
  refine se_then S h g r t o fun R1 st1 H1 d v e1 g1 r1 rd h1 o1 => ?_
  refine so_then Sl h1 g1 r1 t o1 fun R2 st2 H2 l e2 g2 r2 h2 o2 => ?_
  refine so_then Sh h2 g2 r2 t o2 fun R3 st3 H3 u e3 g3 r3 h3 o3 => ?_
  cases d with
  | tup ds =>
    cases h3
    have rd := rd.mono (e2.trans e3).toEx0
    simp only [RelD] at rd
    obtain ⟨a, xs, rfl, sx, rx⟩ := rd
    refine ⟨a, xs, rfl, sx, fun hw => ?_, fun hw p hp => ?_⟩
    · rw [← rx.length] at hw
      refine o3 R3 H3 _ Ex.refl g3 ?_
      rw [cut_whole hw]
      simp only [RelD]
      exact ⟨a, xs, rfl, sx, rx⟩
    · refine o3 R3 _ _ (Ex.new hp) (g3.new j hp) ?_
      simp only [RelD]
      exact ⟨p, _, rfl, SqT.of upd_same, (cut_rel rx).mono (Ex.new hp).toEx0⟩
  | _ => cases h3
theorem sl_slL {e : Expr} {lo hi : Option Expr} {p2 pos : Pos} {me : M D} {ml mh : M (Option Int)} (j : JS J) (S : SE X J e me) (Sl : SO X J lo ml) (Sh : SO X J hi mh) : SL X J (.Subscript e (.Slice lo hi none p2) pos) (mSlL me ml mh) := by
  intro R env st σ H out Q E h g r t o
  refine sem_of (pe_slice sl_list pe_sem po_sem po_sem) ?_
  refine se_then S h g r t o fun R1 st1 H1 d v e1 g1 r1 rd h1 o1 => ?_
  refine so_then Sl h1 g1 r1 t o1 fun R2 st2 H2 l e2 g2 r2 h2 o2 => ?_
  refine so_then Sh h2 g2 r2 t o2 fun R3 st3 H3 u e3 g3 r3 h3 o3 => ?_
  have rd := rd.mono (e2.trans e3).toEx0
  have fin : ∀ (a : Addr) (xs : List V) (ds : List D), SqL X.K H3 a xs → RelDs X.K R3 H3 ds xs → out = .ok (cutD ds l u) st3 → v = .ref a → rSlL X.K v l u H3 Q := fun a xs ds sx rx eo ev => by
    subst eo; subst ev
    refine ⟨a, xs, rfl, sx, fun p hp => ?_⟩
    have hp0 : H p = none := by
      cases q : H p with
      | none => rfl
      | some w => exact absurd hp ((e1.trans (e2.trans e3)).kp p (by rw [q]; simp))
    refine o3 R3 _ _ (Ex.new hp) (g3.new j hp) ⟨p, _, rfl, hp0, fun hm => ?_, upd_same, (cut_rel rx).mono (Ex.new hp).toEx0⟩
    obtain ⟨n, ob, _, _, z⟩ := g3.mem hm
    exact z.some hp
  cases d with
  | rol ds =>
    cases h3
    simp only [RelD] at rd
    obtain ⟨a, xs, rfl, sx, rx⟩ := rd
    exact fin a xs ds sx.sq rx rfl rfl
  | loc n =>
    simp only at h3
    split at h3
    · rename_i ds hn
      cases h3
      simp only [RelD] at rd
      obtain ⟨a, rfl, ra⟩ := rd
      obtain ⟨xs, hx, rx⟩ := g3.ob n _ a hn ra
      exact fin a xs ds (SqL.of hx) rx rfl rfl
    · cases h3
  | _ => cases h3
end
end TA
/-! statements, loops, comprehensions -/
namespace TA
open PySem PySem.Spec
open PyProof.Rows L2

def mAlt {α : Type} (a b : M α) : M α := fun env st => match a env st with
  | some o => some o
  | none => b env st
section
variable {X : Cx} {J : Hp → Prop}
theorem se_alt {e : Expr} {a b : M D} (A : SE X J e a) (B : SE X J e b) : SE X J e (mAlt a b) := by
  intro R env st σ H out Q E h g r t o
  unfold mAlt at h
  split at h
  · rename_i o' ho
    cases h
    exact A R env st σ H _ Q E ho g r t o
  · exact B R env st σ H out Q E h g r t o
theorem sl_alt {e : Expr} {a b : M (List D)} (A : SL X J e a) (B : SL X J e b) : SL X J e (mAlt a b) := by
  intro R env st σ H out Q E h g r t o
  unfold mAlt at h
  split at h
  · rename_i o' ho
    cases h
    exact A R env st σ H _ Q E ho g r t o
  · exact B R env st σ H out Q E h g r t o
def sAlt (a b : MS) : MS := fun env st => match a env st with
  | some o => some o
  | none => b env st
theorem ss_alt {e : Stmt} {a b : MS} (A : SS X J e a) (B : SS X J e b) : SS X J e (sAlt a b) := by
  intro R env st σ H out De E h g r t o
  unfold sAlt at h
  split at h
  · rename_i o' ho
    cases h
    exact A R env st σ H _ De E ho g r t o
  · exact B R env st σ H out De E h g r t o

/-! ### an expression, then a statement -/
def sBind {α : Type} (m : M α) (f : α → MS) : MS := fun env st => match m env st with
  | some (.ok a st') => f a env st'
  | some (.exc x st') => some (.exc x st')
  | none => none
theorem sbind_some {α : Type} {m : M α} {f : α → MS} {env : En} {st : Sto} {out : SOut} (h : sBind m f env st = some out) :
    (∃ a st', m env st = some (.ok a st') ∧ f a env st' = some out) ∨ (∃ x st', m env st = some (.exc x st') ∧ out = .exc x st') := by
  unfold sBind at h
  cases e : m env st with
  | none => rw [e] at h; cases h
  | some o =>
    rw [e] at h
    cases o with
    | ok a st' => exact .inl ⟨a, st', rfl, h⟩
    | exc x st' => exact .inr ⟨x, st', rfl, (Option.some.inj h).symm⟩
theorem se_thenS {e : Expr} {m : M D} (S : SE X J e m) {f : D → MS} {R : List Addr} {env : En} {st : Sto} {σ : Sg} {H : Hp} {out : SOut} {E : XK} {De : Ends} {Q1 : VK}
    (h : sBind m f env st = some out) (g : Gd X.K J R st H) (r : EnR X.K R H env σ) (t : Tk X E) (o : OkS X.K J R H (EnR X.K) De E out)
    (k : ∀ R1 st1 H1 d v, Ex R R1 H H1 → Gd X.K J R1 st1 H1 → EnR X.K R1 H1 env σ → RelD X.K R1 H1 d v → f d env st1 = some out → OkS X.K J R1 H1 (EnR X.K) De E out → Q1 v H1) : tSem X e σ H Q1 := by
  rcases sbind_some h with ⟨d, st1, h1, h2⟩ | ⟨x, st1, h1, h2⟩
  · exact S R env st σ H _ Q1 E h1 g r t fun R1 H1 v e1 g1 r1 => k R1 st1 H1 d v e1 g1 (r.mono e1) r1 h2 (o.shift e1)
  · subst h2
    exact S R env st σ H _ Q1 E h1 g r t o
theorem sl_thenS {e : Expr} {m : M (List D)} (S : SL X J e m) {f : List D → MS} {R : List Addr} {env : En} {st : Sto} {σ : Sg} {H : Hp} {out : SOut} {E : XK} {De : Ends} {Q1 : VK}
    (h : sBind m f env st = some out) (g : Gd X.K J R st H) (r : EnR X.K R H env σ) (t : Tk X E) (o : OkS X.K J R H (EnR X.K) De E out)
    (k : ∀ R1 st1 H1 d v, Ex R R1 H H1 → Gd X.K J R1 st1 H1 → EnR X.K R1 H1 env σ → relL X.K H R1 H1 d v → f d env st1 = some out → OkS X.K J R1 H1 (EnR X.K) De E out → Q1 v H1) : tSem X e σ H Q1 := by
  rcases sbind_some h with ⟨d, st1, h1, h2⟩ | ⟨x, st1, h1, h2⟩
  · exact S R env st σ H _ Q1 E h1 g r t fun R1 H1 v e1 g1 r1 => k R1 st1 H1 d v e1 g1 (r.mono e1) r1 h2 (o.shift e1)
  · subst h2
    exact S R env st σ H _ Q1 E h1 g r t o
theorem sa_thenS {e : List Expr} {m : M (List D)} (S : SA X J e m) {f : List D → MS} {R : List Addr} {env : En} {st : Sto} {σ : Sg} {H : Hp} {out : SOut} {E : XK} {De : Ends} {Q1 : List V → Hp → Prop}
    (h : sBind m f env st = some out) (g : Gd X.K J R st H) (r : EnR X.K R H env σ) (t : Tk X E) (o : OkS X.K J R H (EnR X.K) De E out)
    (k : ∀ R1 st1 H1 d v, Ex R R1 H H1 → Gd X.K J R1 st1 H1 → EnR X.K R1 H1 env σ → RelDs X.K R1 H1 d v → f d env st1 = some out → OkS X.K J R1 H1 (EnR X.K) De E out → Q1 v H1) : taSem X e σ H Q1 := by
  rcases sbind_some h with ⟨d, st1, h1, h2⟩ | ⟨x, st1, h1, h2⟩
  · exact S R env st σ H _ Q1 E h1 g r t fun R1 H1 v e1 g1 r1 => k R1 st1 H1 d v e1 g1 (r.mono e1) r1 h2 (o.shift e1)
  · subst h2
    exact S R env st σ H _ Q1 E h1 g r t o
theorem st_thenS {e : Expr} {m : M Bool} (S : STt X J e m) {f : Bool → MS} {R : List Addr} {env : En} {st : Sto} {σ : Sg} {H : Hp} {out : SOut} {E : XK} {De : Ends} {Q1 : Bool → Hp → Prop}
    (h : sBind m f env st = some out) (g : Gd X.K J R st H) (r : EnR X.K R H env σ) (t : Tk X E) (o : OkS X.K J R H (EnR X.K) De E out)
    (k : ∀ R1 st1 H1 b, Ex R R1 H H1 → Gd X.K J R1 st1 H1 → EnR X.K R1 H1 env σ → f b env st1 = some out → OkS X.K J R1 H1 (EnR X.K) De E out → Q1 b H1) : ttSem X e σ H Q1 := by
  rcases sbind_some h with ⟨d, st1, h1, h2⟩ | ⟨x, st1, h1, h2⟩
  · refine S R env st σ H _ Q1 E h1 g r t fun R1 H1 v e1 g1 r1 => ?_
    have r1' : d = v := r1
    subst r1'
    exact k R1 st1 H1 d e1 g1 (r.mono e1) h2 (o.shift e1)
  · subst h2
    exact S R env st σ H _ Q1 E h1 g r t o

/-! ### blocks -/
def sNil : MS := fun env st => some (.nx env st)
def sCons (a b : MS) : MS := fun env st => match a env st with
  | some (.nx env' st') => b env' st'
  | o => o
theorem sb_nil : SB X J [] sNil := by
  intro R env st σ H out De E h g r t o
  cases h
  exact sem_ofB pss_nil (o R H σ Ex.refl g r)
theorem OkS.next {K : PySem.W.Frag} {R : List Addr} {H : Hp} {De : Ends} {nx : Sg → Hp → Prop} {E : XK} {out : SOut} (hn : ∀ env st, out ≠ .nx env st) (o : OkS K J R H (EnR K) De E out) : OkS K J R H (EnR K) { De with nx := nx } E out := by
  cases out with
  | nx env st => exact absurd rfl (hn env st)
  | rt d st => exact o
  | bk d st => exact o
  | ct d st => exact o
  | exc d st => exact o
theorem sb_cons {s : Stmt} {rest : List Stmt} {a b : MS} (A : SS X J s a) (B : SB X J rest b) : SB X J (s :: rest) (sCons a b) := by
  intro R env st σ H out De E h g r t o
  refine sem_ofB (pss_cons ps_sem pss_sem) ?_
  show tsSem X s { De with nx := tbSem X rest De } σ H
  unfold sCons at h
  split at h
  · rename_i env' st' ha
    exact A R env st σ H _ _ E ha g r t fun R1 H1 σ1 e1 g1 r1 => B R1 env' st' σ1 H1 out De E h g1 r1 t (o.shift e1)
  · rename_i oo hno
    exact A R env st σ H _ _ E h g r t (OkS.next (fun env' st' e => hno env' st' (by rw [h, e])) o)
theorem sb_one {s : Stmt} {a : MS} (A : SS X J s a) : SB X J [s] a := by
  intro R env st σ H out De E h g r t o
  exact sem_ofB (pss_one ps_sem) (A R env st σ H out De E h g r t o)

/-! ### plain statements -/
def sPass : MS := fun env st => some (.nx env st)
theorem ss_pass {pos : Pos} : SS X J (.Pass pos) sPass := by
  intro R env st σ H out De E h g r t o
  cases h
  exact sem_ofS ps_pass (o R H σ Ex.refl g r)
def sBreak : MS := fun env st => some (.bk env st)
def sCont : MS := fun env st => some (.ct env st)
theorem ss_break {pos : Pos} : SS X J (.Break pos) sBreak := by
  intro R env st σ H out De E h g r t o
  cases h
  exact sem_ofS ps_break (o R H σ Ex.refl g r)
theorem ss_cont {pos : Pos} : SS X J (.Continue pos) sCont := by
  intro R env st σ H out De E h g r t o
  cases h
  exact sem_ofS ps_continue (o R H σ Ex.refl g r)
def sRet (m : M D) : MS := sBind m fun d => fun _ st => some (.rt d st)
theorem ss_ret {e : Expr} {pos : Pos} {m : M D} (S : SE X J e m) : SS X J (.Return (some e) pos) (sRet m) := by
  intro R env st σ H out De E h g r t o
  refine sem_ofS (ps_ret pe_sem) ?_
  refine se_thenS S h g r t o fun R1 st1 H1 d v e1 g1 r1 rd h1 o1 => ?_
  cases h1
  exact o1 R1 H1 v Ex.refl g1 rd
def sRetN : MS := fun _ st => some (.rt .non st)
theorem ss_retN {pos : Pos} : SS X J (.Return none pos) sRetN := by
  intro R env st σ H out De E h g r t o
  cases h
  exact sem_ofS ps_retN (o R H .non Ex.refl g relNon)
def sExpr (m : M D) : MS := sBind m fun _ => fun env st => some (.nx env st)
theorem ss_expr {e : Expr} {pos : Pos} {m : M D} (S : SE X J e m) (hs : swapsWith e none pos.line X.env = pure false) : SS X J (.Expr e pos) (sExpr m) := by
  intro R env st σ H out De E h g r t o
  refine sem_ofS (ps_expr pe_sem hs) ?_
  refine se_thenS S h g r t o fun R1 st1 H1 d v e1 g1 r1 rd h1 o1 => ?_
  cases h1
  exact o1 R1 H1 σ Ex.refl g1 r1
def sIf (c : M Bool) (a b : MS) : MS := sBind c fun k => match k with
  | true => a
  | false => b
theorem ss_if {c : Expr} {a b : List Stmt} {pos : Pos} {mc : M Bool} {ma mb : MS} (Sc : STt X J c mc) (A : SB X J a ma) (B : SB X J b mb) : SS X J (.If c a b pos) (sIf mc ma mb) := by
  intro R env st σ H out De E h g r t o
  refine sem_ofS (ps_if pt_sem pss_sem pss_sem) ?_
  refine st_thenS Sc h g r t o fun R1 st1 H1 k e1 g1 r1 h1 o1 => ?_
  cases k with
  | true => rw [if_pos rfl]; exact A R1 env st1 σ H1 out De E h1 g1 r1 t o1
  | false => rw [if_neg Bool.false_ne_true]; exact B R1 env st1 σ H1 out De E h1 g1 r1 t o1
def sSet (i : Nat) (m : M D) : MS := sBind m fun d => fun env st => some (.nx (env.set i (some d)) st)
theorem ss_set {i : Nat} {x : Str} {e : Expr} {pos pos' : Pos} {m : M D} (hN : X.N.Nodup) (hi : X.N[i]? = some x) (hx : Loc X.env.scope x) (S : SE X J e m) (hs : swapsWith e (some (.Name x pos')) pos.line X.env = pure false) (hf : X.fn x = true ∨ X.env.scope.names.lookup x = some .local) :
    SS X J (.Assign [.Name x pos'] e pos) (sSet i m) := by
  intro R env st σ H out De E h g r t o
  refine sem_ofS (ps_set hN hi hx pe_sem hs hf) ?_
  refine se_thenS S h g r t o fun R1 st1 H1 d v e1 g1 r1 rd h1 o1 => ?_
  cases h1
  exact o1 R1 H1 _ Ex.refl g1 (r1.set rd)
/-- a, b = x, y -/
def sPar (i j : Nat) (m : M (List D)) : MS := sBind m fun ds => fun env st => match ds with
  | [a, b] => some (.nx ((env.set i (some a)).set j (some b)) st)
  | _ => none
theorem ss_par {i j : Nat} {x y : Str} {a b : Expr} {px py pt pos : Pos} {kt k2 : Nat} {pt2 : Pos} {m : M (List D)} (hc : X.calm = true) (hN : X.N.Nodup) (hi : X.N[i]? = some x) (hj : X.N[j]? = some y) (hij : i ≠ j)
    (hx : X.env.scope.names.lookup x = some .local) (hy : X.env.scope.names.lookup y = some .local) (S : SA X J [a, b] m)
    (hw : swappedStores [.Tuple [.Name x px, .Name y py] kt pt] (.Tuple [a, b] k2 pt2) X.env = pure (some [x, y]))
    (hs : swapsWithSole [.Tuple [.Name x px, .Name y py] kt pt] (.Tuple [a, b] k2 pt2) pos.line X.env = pure false) :
    SS X J (.Assign [.Tuple [.Name x px, .Name y py] kt pt] (.Tuple [a, b] k2 pt2) pos) (sPar i j m) := by
  intro R env st σ H out De E h g r t o
  refine sem_ofS (ps_par hc hN hi hj hij hx hy pa_sem hw hs) ?_
  refine sa_thenS S h g r t o fun R1 st1 H1 ds vs e1 g1 r1 rd h1 o1 => ?_
  match ds, h1, rd with
  | [a, b], h1, rd =>
    cases h1
    simp only [RelDs] at rd
    obtain ⟨v, ws, rfl, ra, w, zs, rfl, rb, rfl⟩ := rd
    exact ⟨v, w, rfl, o1 R1 H1 _ Ex.refl g1 ((r1.set ra).set rb)⟩
  | [], h1, _ => cases h1
  | [_], h1, _ => cases h1
  | _ :: _ :: _ :: _, h1, _ => cases h1
end
end TA
/-! targets, what is walked, loops -/
namespace TA
open PySem PySem.Spec
open PyProof.Rows L2

inductive Tg where
  | nm (i : Nat)
  | tp (ts : List Tg)
mutual
def tgSet : Tg → D → En → Option En
  | .nm i, d, env => some (env.set i (some d))
  | .tp ts, .tup ds, env => tgSets ts ds env
  | .tp _, _, _ => none
def tgSets : List Tg → List D → En → Option En
  | [], [], env => some env
  | t :: ts, d :: ds, env => match tgSet t d env with
    | some e => tgSets ts ds e
    | none => none
  | [], _ :: _, _ => none
  | _ :: _, [], _ => none
end
mutual
def gOf (K : PySem.W.Frag) : Tg → TG
  | .nm i => gName i
  | .tp ts => gTup K ts.length (gsOf K ts)
def gsOf (K : PySem.W.Frag) : List Tg → TGs
  | [] => gNil
  | t :: ts => gCons (gOf K t) (gsOf K ts)
end
mutual
def tgIn (vs : List Nat) : Tg → Bool
  | .nm i => vs.contains i
  | .tp ts => tgsIn vs ts
def tgsIn (vs : List Nat) : List Tg → Bool
  | [] => true
  | t :: ts => tgIn vs t && tgsIn vs ts
end
theorem wipe_set {σ : Sg} {i : Nat} {x : Option V} : ∀ {vs : List Nat}, wipe (σ.set i x) vs = if i ∈ vs then wipe σ vs else (wipe σ vs).set i x
  | [] => by simp [wipe]
  | v :: vs => by
    unfold wipe
    rw [wipe_set (vs := vs)]
    by_cases h : i ∈ vs
    · rw [if_pos h, if_pos (List.mem_cons_of_mem _ h)]
    · rw [if_neg h]
      by_cases e : i = v
      · subst e
        rw [if_pos List.mem_cons_self, List.set_set]
      · rw [if_neg (by simp only [List.mem_cons, not_or]; exact ⟨e, h⟩), List.set_comm _ _ e]
section
variable {K : PySem.W.Frag} {R : List Addr} {H : Hp}
mutual
theorem gOf_ok : ∀ {t : Tg} {d : D} {v : V} {env env' : En} {σ : Sg} {Q : Sg → Hp → Prop}, tgSet t d env = some env' → RelD K R H d v → EnR K R H env σ →
    (∀ σ', EnR K R H env' σ' → (∀ vs, tgIn vs t = true → wipe σ' vs = wipe σ vs) → Q σ' H) → gOf K t v σ H Q
  | .nm i, d, v, env, env', σ, Q, h, rd, r, k => by
    simp only [tgSet, Option.some.injEq] at h
    subst h
    simp only [gOf]
    refine k _ (r.set rd) fun vs hv => ?_
    simp only [tgIn, List.contains_eq_mem, decide_eq_true_eq] at hv
    rw [wipe_set, if_pos hv]
  | .tp ts, d, v, env, env', σ, Q, h, rd, r, k => by
    cases d with
    | tup ds =>
      simp only [tgSet] at h
      simp only [RelD] at rd
      obtain ⟨a, xs, rfl, sx, rx⟩ := rd
      simp only [gOf]
      obtain ⟨hl, hg⟩ := gsOf_ok h rx r k
      exact ⟨a, xs, rfl, sx, hl, hg⟩
    | _ => simp [tgSet] at h
theorem gsOf_ok : ∀ {ts : List Tg} {ds : List D} {vs : List V} {env env' : En} {σ : Sg} {Q : Sg → Hp → Prop}, tgSets ts ds env = some env' → RelDs K R H ds vs → EnR K R H env σ →
    (∀ σ', EnR K R H env' σ' → (∀ us, tgsIn us ts = true → wipe σ' us = wipe σ us) → Q σ' H) → vs.length = ts.length ∧ gsOf K ts vs σ H Q
  | [], [], vs, env, env', σ, Q, h, rd, r, k => by
    simp only [tgSets, Option.some.injEq] at h
    subst h
    simp only [RelDs] at rd
    subst rd
    exact ⟨rfl, rfl, k σ r fun _ _ => rfl⟩
  | t :: ts, d :: ds, vs, env, env', σ, Q, h, rd, r, k => by
    simp only [tgSets] at h
    simp only [RelDs] at rd
    obtain ⟨v, ws, rfl, r1, r2⟩ := rd
    split at h
    · rename_i e1 he
      have hl : ws.length = ts.length := by
        have := r2.length
        rw [← this]
        exact tgSets_len h
      refine ⟨by simp [hl], v, ws, rfl, ?_⟩
      refine gOf_ok he r1 r fun σ' r' hw => ?_
      exact (gsOf_ok h r2 r' fun σ2 r3 hw2 => k σ2 r3 fun us hu => by
        simp only [tgsIn, Bool.and_eq_true] at hu
        rw [hw2 us hu.2, hw us hu.1]).2
    · cases h
  | [], _ :: _, _, _, _, _, _, h, _, _, _ => by simp [tgSets] at h
  | _ :: _, [], _, _, _, _, _, h, _, _, _ => by simp [tgSets] at h
theorem tgSets_len : ∀ {ts : List Tg} {ds : List D} {env env' : En}, tgSets ts ds env = some env' → ds.length = ts.length
  | [], [], _, _, _ => rfl
  | t :: ts, d :: ds, env, env', h => by
    simp only [tgSets] at h
    split at h
    · simp [tgSets_len h]
    · cases h
  | [], _ :: _, _, _, h => by simp [tgSets] at h
  | _ :: _, [], _, _, h => by simp [tgSets] at h
end
end

/-! ### what is walked -/
abbrev Wkd := List D × (Sto → Bool)
def Wk (X : Cx) (J : Hp → Prop) (R : List Addr) (H : Hp) (a : Wkd) (I : It) : Prop := ∀ R1 st1 H1 i, Ex R R1 H H1 → Gd X.K J R1 st1 H1 → a.2 st1 = true →
  (i = a.1.length → I.stop i H1) ∧ (∀ d, a.1[i]? = some d → I.go i H1 ∧ ∀ x H2, I.yld i H1 x H2 → Ex R1 R1 H1 H2 ∧ Gd X.K J R1 st1 H2 ∧ RelD X.K R1 H2 d x)
def tiSem (X : Cx) (tg iter : Expr) : TI := fun σ H Rk => ∀ pins s, Inv X pins σ H s → wpAny (model X.prog X.w) X.A (eval iter X.env) (fun v s1 => wpAny (model X.prog X.w) X.A (pyIter v) (PIE X pins σ tg Rk) X.xe s1) X.xe s
def SI (X : Cx) (J : Hp → Prop) (tg iter : Expr) (m : M Wkd) : Prop := ∀ R env st σ H out Rk E, m env st = some out → Gd X.K J R st H → EnR X.K R H env σ → Tk X E → OkO X.K J R H (Wk X J) Rk E out → tiSem X tg iter σ H Rk
def yes : Sto → Bool := fun _ => true
section
variable {X : Cx} {J : Hp → Prop}
theorem pi_sem {tg iter : Expr} : PI X tg iter (tiSem X tg iter) := ⟨fun pins s _ _ _ I h => h pins s I⟩
theorem sem_ofI {tg iter : Expr} {t : TI} (p : PI X tg iter t) {σ : Sg} {H : Hp} {Rk : It → Hp → Prop} (h : t σ H Rk) : tiSem X tg iter σ H Rk := fun pins s I => p.run pins s σ H Rk I h
theorem si_alt {tg iter : Expr} {a b : M Wkd} (A : SI X J tg iter a) (B : SI X J tg iter b) : SI X J tg iter (mAlt a b) := by
  intro R env st σ H out Rk E h g r t o
  unfold mAlt at h
  split at h
  · rename_i o' ho
    cases h
    exact A R env st σ H _ Rk E ho g r t o
  · exact B R env st σ H out Rk E h g r t o
def mItT (m : M D) : M Wkd := mBind m fun d => match d with
  | .tup ds => mPure (ds, yes)
  | _ => fun _ _ => none
theorem wk_tup {R : List Addr} {H : Hp} {a : Addr} {xs : List V} {ds : List D} (sx : SqT X.K H a xs) (rx : RelDs X.K R H ds xs) : Wk X J R H (ds, yes) (Itt X.K a) := by
  intro R1 st1 H1 i e1 g1 _
  have sx1 := e1.toEx0.sqT sx
  have rx1 := rx.mono e1.toEx0
  refine ⟨fun hi => ⟨xs, sx1, by rw [← rx.length]; exact Nat.le_of_eq hi.symm⟩, fun d hd => ?_⟩
  obtain ⟨v, hv, rv⟩ := rx1.get hd
  refine ⟨⟨xs, v, sx1, hv⟩, fun x H2 hy => ?_⟩
  obtain ⟨rfl, hy⟩ := hy
  have := hy xs sx1
  rw [hv] at this
  cases this
  exact ⟨Ex.refl, g1, rv⟩
theorem si_tup {tg l : Expr} {m : M D} (S : SE X J l m) : SI X J tg l (mItT m) := by
  intro R env st σ H out Rk E h g r t o
  refine sem_ofI (pi_tup pe_sem) ?_
  refine se_then S h g r t o fun R1 st1 H1 d v e1 g1 r1 rd h1 o1 => ?_
  cases d with
  | tup ds =>
    cases h1
    simp only [RelD] at rd
    obtain ⟨a, xs, rfl, sx, rx⟩ := rd
    exact ⟨a, rfl, ⟨xs, sx⟩, o1 R1 H1 _ Ex.refl g1 (wk_tup sx rx)⟩
  | _ => cases h1
/-! equal data -/
mutual
def D.same : D → D → Bool
  | .non, .non => true
  | .bl a, .bl b => decide (a = b)
  | .int a, .int b => decide (a = b)
  | .str a, .str b => decide (a = b)
  | .ty a, .ty b => decide (a = b)
  | .tup a, .tup b => D.sames a b
  | .loc a, .loc b => Nat.beq a b
  | .glo a, .glo b => Nat.beq a b
  | .rol a, .rol b => D.sames a b
  | _, _ => false
def D.sames : List D → List D → Bool
  | [], [] => true
  | a :: as, b :: bs => D.same a b && D.sames as bs
  | _, _ => false
end
mutual
theorem D.same_eq : ∀ {a b : D}, D.same a b = true → a = b := fun {a b} h => by
  cases a <;> cases b <;> simp only [D.same, decide_eq_true_eq, reduceCtorEq, Bool.false_eq_true] at h <;> first
    | rfl
    | (subst h; rfl)
    | (rw [D.sames_eq h])
    | (rw [Nat.eq_of_beq_eq_true h])
theorem D.sames_eq : ∀ {a b : List D}, D.sames a b = true → a = b := fun {a b} h => by
  cases a <;> cases b <;> simp only [D.sames, Bool.and_eq_true, reduceCtorEq, Bool.false_eq_true] at h
  · rfl
  · rw [D.same_eq h.1, D.sames_eq h.2]
end
mutual
theorem D.same_refl : ∀ (a : D), D.same a a = true := fun a => by
  cases a <;> simp only [D.same, decide_true, Nat.beq_refl, D.sames_refl]
theorem D.sames_refl : ∀ (a : List D), D.sames a a = true := fun a => by
  cases a <;> simp only [D.sames, D.same_refl, D.sames_refl, Bool.and_self]
end
def lstIs (n : Nat) (ds : List D) (st : Sto) : Bool := match st[n]? with
  | some (.lst es) => D.sames es ds
  | _ => false
theorem lstIs_eq {n : Nat} {ds : List D} {st : Sto} (h : lstIs n ds st = true) : st[n]? = some (.lst ds) := by
  unfold lstIs at h
  split at h
  · rename_i es e
    rw [e, D.sames_eq h]
  · cases h
def mItL (m : M D) : M Wkd := mBind m fun d => fun _ st => match d with
  | .rol ds => some (.ok (ds, yes) st)
  | .loc n => match st[n]? with
    | some (.lst ds) => some (.ok (ds, lstIs n ds) st)
    | _ => none
  | _ => none
theorem wk_list {R : List Addr} {H : Hp} {a : Addr} {ds : List D} {C : Sto → Bool} (hl : ∀ R1 st1 H1, Ex R R1 H H1 → Gd X.K J R1 st1 H1 → C st1 = true → ∃ xs, SqL X.K H1 a xs ∧ RelDs X.K R1 H1 ds xs) : Wk X J R H (ds, C) (Itl X.K a) := by
  intro R1 st1 H1 i e1 g1 hC
  obtain ⟨xs, sx, rx⟩ := hl R1 st1 H1 e1 g1 hC
  refine ⟨fun hi => ⟨xs, sx, by rw [← rx.length]; exact Nat.le_of_eq hi.symm⟩, fun d hd => ?_⟩
  obtain ⟨v, hv, rv⟩ := rx.get hd
  refine ⟨⟨xs, v, sx, hv⟩, fun x H2 hy => ?_⟩
  obtain ⟨rfl, hy⟩ := hy
  have := hy xs sx
  rw [hv] at this
  cases this
  exact ⟨Ex.refl, g1, rv⟩
theorem si_list {tg l : Expr} {m : M D} (S : SE X J l m) : SI X J tg l (mItL m) := by
  intro R env st σ H out Rk E h g r t o
  refine sem_ofI (pi_list pe_sem) ?_
  refine se_then S h g r t o fun R1 st1 H1 d v e1 g1 r1 rd h1 o1 => ?_
  cases d with
  | rol ds =>
    cases h1
    simp only [RelD] at rd
    obtain ⟨a, xs, rfl, sx, rx⟩ := rd
    exact ⟨a, rfl, ⟨xs, sx.sq⟩, o1 R1 H1 _ Ex.refl g1 (wk_list fun R2 st2 H2 e2 g2 _ => ⟨xs, (e2.toEx0.roL sx).sq, rx.mono e2.toEx0⟩)⟩
  | loc n =>
    simp only at h1
    split at h1
    · rename_i ds hn
      cases h1
      simp only [RelD] at rd
      obtain ⟨a, rfl, ra⟩ := rd
      obtain ⟨xs, hx, rx⟩ := g1.ob n _ a hn ra
      refine ⟨a, rfl, ⟨xs, SqL.of hx⟩, o1 R1 H1 _ Ex.refl g1 (wk_list fun R2 st2 H2 e2 g2 hC => ?_)⟩
      obtain ⟨ys, hy, ry⟩ := g2.ob n _ a (lstIs_eq hC) (e2.pre n a ra)
      exact ⟨ys, SqL.of hy, ry⟩
    · cases h1
  | _ => cases h1
/-- a new list -/
def mItN (m : M (List D)) : M Wkd := mBind m fun ds => mPure (ds, yes)
theorem fresh_sq {R R1 : List Addr} {H H1 : Hp} {p : Addr} {xs : List V} (e : Ex R R1 H H1) (hp : p ∉ R) (h : H p = some (.lst xs)) : H1 p = some (.lst xs) := e.fr p _ h hp fun _ z => nomatch z
theorem si_new {tg l : Expr} {m : M (List D)} (S : SL X J l m) : SI X J tg l (mItN m) := by
  intro R env st σ H out Rk E h g r t o
  refine sem_ofI (pi_list pe_sem) ?_
  refine sl_then S h g r t o fun R1 st1 H1 ds v e1 g1 r1 rd h1 o1 => ?_
  cases h1
  obtain ⟨p, xs, rfl, hp0, hpR, hp, rx⟩ := rd
  exact ⟨p, rfl, ⟨xs, SqL.of hp⟩, o1 R1 H1 _ Ex.refl g1 (wk_list fun R2 st2 H2 e2 g2 _ => ⟨xs, SqL.of (fresh_sq e2 hpR hp), rx.mono e2.toEx0⟩)⟩
/-! ranges -/
def rngD (lo : Int) (n : Nat) : List D := (List.range n).map fun (k : Nat) => D.int (lo + (k : Int))
theorem rngD_get {lo : Int} {n i : Nat} {d : D} (h : (rngD lo n)[i]? = some d) : i < n ∧ d = .int (lo + i) := by
  unfold rngD at h
  rw [List.getElem?_map] at h
  cases e : (List.range n)[i]? with
  | none => rw [e] at h; cases h
  | some k =>
    rw [e] at h
    obtain ⟨h1, h2⟩ := List.getElem?_eq_some_iff.mp e
    simp at h1 h2
    subst h2
    exact ⟨h1, (Option.some.inj h).symm⟩
theorem rngD_len {lo : Int} {n : Nat} : (rngD lo n).length = n := by simp [rngD]
theorem wk_rng {R : List Addr} {H : Hp} {lo : Int} {n : Nat} : Wk X J R H (rngD lo n, yes) (Itr lo n) := by
  intro R1 st1 H1 i e1 g1 _
  refine ⟨fun hi => ?_, fun d hd => ?_⟩
  · have hi : i = (rngD lo n).length := hi
    rw [rngD_len] at hi
    exact Nat.le_of_eq hi.symm
  · obtain ⟨h1, h2⟩ := rngD_get hd
    refine ⟨h1, fun x H2 hy => ?_⟩
    obtain ⟨rfl, rfl⟩ := hy
    subst h2
    exact ⟨Ex.refl, g1, relInt⟩
def small (i : Int) : Bool := Nat.blt i.natAbs 4611686018427387904
theorem small_ok {i : Int} (h : small i = true) : -(2 ^ 62) ≤ i ∧ i < 2 ^ 62 := by
  unfold small at h
  rw [Nat.blt_eq] at h
  have e : (2 : Int) ^ 62 = 4611686018427387904 := by decide +kernel
  rw [e]
  omega
def mRng (m : M (List D)) : M Wkd := mBind m fun ds => fun _ st => match ds with
  | [.int j] => match small j with
    | true => some (.ok (rngD 0 j.toNat, yes) st)
    | false => none
  | [.int i, .int j] => match small i && small j with
    | true => some (.ok (rngD i (j - i).toNat, yes) st)
    | false => none
  | _ => none
theorem one_of {K : PySem.W.Frag} {R : List Addr} {H : Hp} {d : D} {vs : List V} (r : RelDs K R H [d] vs) : ∃ v, vs = [v] ∧ RelD K R H d v := by
  simp only [RelDs] at r
  obtain ⟨v, ws, rfl, rv, rfl⟩ := r
  exact ⟨v, rfl, rv⟩
theorem twoOf {K : PySem.W.Frag} {R : List Addr} {H : Hp} {d e : D} {vs : List V} (r : RelDs K R H [d, e] vs) : ∃ v w, vs = [v, w] ∧ RelD K R H d v ∧ RelD K R H e w := by
  simp only [RelDs] at r
  obtain ⟨v, ws, rfl, rv, w, us, rfl, rw', rfl⟩ := r
  exact ⟨v, w, rfl, rv, rw'⟩
def mRng1 (m : M (List D)) : M Wkd := mBind m fun ds => fun _ st => match ds with
  | [.int j] => match small j with
    | true => some (.ok (rngD 0 j.toNat, yes) st)
    | false => none
  | _ => none
def mRng2 (m : M (List D)) : M Wkd := mBind m fun ds => fun _ st => match ds with
  | [.int i, .int j] => match small i && small j with
    | true => some (.ok (rngD i (j - i).toNat, yes) st)
    | false => none
  | _ => none
theorem si_range1 {tg a : Expr} {p pos : Pos} {m : M (List D)} (hg : Gl X "range") (hm : X.mg "range" = none) (S : SA X J [a] m) (hs : starEach [a] X.env = [(false, eval a X.env)]) : SI X J tg (.Call (.Name "range" p) [a] [] pos) (mRng1 m) := by
  intro R env st σ H out Rk E h g r t o
  refine sem_ofI (pi_range1 hg hm pa_sem hs) ?_
  refine sa_then S h g r t o fun R1 st1 H1 ds vs e1 g1 r1 rd h1 o1 => ?_
  split at h1
  · rename_i j
    split at h1
    · rename_i hj
      cases h1
      obtain ⟨v, rfl, rv⟩ := one_of rd
      simp only [RelD] at rv
      subst rv
      exact ⟨j, rfl, (small_ok hj).1, (small_ok hj).2, o1 R1 H1 _ Ex.refl g1 wk_rng⟩
    · cases h1
  · cases h1
theorem si_range2 {tg a b : Expr} {p pos : Pos} {m : M (List D)} (hg : Gl X "range") (hm : X.mg "range" = none) (S : SA X J [a, b] m) (hs : starEach [a, b] X.env = [(false, eval a X.env), (false, eval b X.env)]) (hs2 : starEach [b] X.env = [(false, eval b X.env)]) : SI X J tg (.Call (.Name "range" p) [a, b] [] pos) (mRng2 m) := by
  intro R env st σ H out Rk E h g r t o
  refine sem_ofI (pi_range2 hg hm pa_sem hs hs2) ?_
  refine sa_then S h g r t o fun R1 st1 H1 ds vs e1 g1 r1 rd h1 o1 => ?_
  split at h1
  · rename_i i j
    split at h1
    · rename_i hj
      obtain ⟨hi, hj⟩ := Bool.and_eq_true_iff.mp hj
      cases h1
      obtain ⟨v, w, rfl, rv, rw'⟩ := twoOf rd
      simp only [RelD] at rv rw'
      subst rv; subst rw'
      exact ⟨i, j, rfl, ⟨(small_ok hi).1, (small_ok hi).2, (small_ok hj).1, (small_ok hj).2⟩, o1 R1 H1 _ Ex.refl g1 wk_rng⟩
    · cases h1
  · cases h1
/-! zip of two tuples, of two lists that stay -/
def zipD : List D → List D → List D
  | a :: as, b :: bs => .tup [a, b] :: zipD as bs
  | _, _ => []
theorem zipD_get : ∀ {as bs : List D} {i : Nat} {d : D}, (zipD as bs)[i]? = some d → ∃ a b, as[i]? = some a ∧ bs[i]? = some b ∧ d = .tup [a, b]
  | [], _, _, _, h => by simp [zipD] at h
  | _ :: _, [], _, _, h => by simp [zipD] at h
  | a :: as, b :: bs, 0, d, h => by
    simp [zipD] at h
    exact ⟨a, b, rfl, rfl, h.symm⟩
  | a :: as, b :: bs, i + 1, d, h => by
    simp only [zipD, List.getElem?_cons_succ] at h ⊢
    exact zipD_get h
theorem zipD_len : ∀ {as bs : List D}, (zipD as bs).length = min as.length bs.length
  | [], _ => by simp [zipD]
  | _ :: _, [] => by simp [zipD]
  | a :: as, b :: bs => by simp [zipD, zipD_len (as := as) (bs := bs)]
theorem tup2 {K : PySem.W.Frag} {R : List Addr} {H : Hp} {T : Addr} {a b : D} {x y : V} (hT : H T = none) (ra : RelD K R H a x) (rb : RelD K R H b y) : RelD K R (upd H T (.tup [x, y])) (.tup [a, b]) (.ref T) := by
  simp only [RelD, RelDs]
  have e := (Ex.new (R := R) (o := .tup [x, y]) hT).toEx0
  exact ⟨T, [x, y], rfl, SqT.of upd_same, x, [y], rfl, ra.mono e, y, [], rfl, rb.mono e, rfl⟩
def mZip (m : M (List D)) : M Wkd := mBind m fun ds => fun _ st => match ds with
  | [.tup a, .tup b] => some (.ok (zipD a b, yes) st)
  | _ => none
theorem si_zipT {e e2 : Expr} {elts : List Expr} {kk : Nat} {tpos p pos : Pos} {m : M (List D)} (j : JS J) (hg : Gl X "zip") (hm : X.mg "zip" = none) (S : SA X J [e, e2] m) (hs : starEach [e, e2] X.env = (false, eval e X.env) :: starEach [e2] X.env) (hpl : (backTo pos (starEach [e2] X.env)).any (·.1) = false) :
    SI X J (.Tuple elts kk tpos) (.Call (.Name "zip" p) [e, e2] [] pos) (mZip m) := by
  intro R env st σ H out Rk E h g r t o
  refine sem_ofI (RZ.pi_zipA hg hm pa_sem hs hpl) ?_
  refine sa_then S h g r t o fun R1 st1 H1 ds vs e1 g1 r1 rd h1 o1 => ?_
  split at h1
  · rename_i as bs
    cases h1
    obtain ⟨v, w, rfl, rv, rw'⟩ := twoOf rd
    simp only [RelD] at rv rw'
    obtain ⟨a, xs, rfl, sx, rx⟩ := rv
    obtain ⟨b, ys, rfl, sy, ry⟩ := rw'
    refine ⟨a, b, xs, ys, rfl, .inr ⟨sx, sy, o1 R1 H1 _ Ex.refl g1 ?_⟩⟩
    intro R2 st2 H2 i e2 g2 _
    have sx2 := e2.toEx0.sqT sx
    have sy2 := e2.toEx0.sqT sy
    have rx2 := rx.mono e2.toEx0
    have ry2 := ry.mono e2.toEx0
    refine ⟨fun hi => ⟨xs, ys, sx2, sy2, ?_⟩, fun d hd => ?_⟩
    · have hi : i = (zipD as bs).length := hi
      rw [zipD_len, rx.length, ry.length] at hi
      omega
    · obtain ⟨da, db, h1, h2, rfl⟩ := zipD_get hd
      obtain ⟨x, hx, rvx⟩ := rx2.get h1
      obtain ⟨y, hy, rvy⟩ := ry2.get h2
      refine ⟨⟨xs, ys, x, y, sx2, sy2, hx, hy⟩, fun v H3 hyl => ?_⟩
      obtain ⟨T, x', y', rfl, hT, rfl, q1, q2⟩ := hyl
      have z1 := q1 xs sx2
      have z2 := q2 ys sy2
      rw [hx] at z1; cases z1
      rw [hy] at z2; cases z2
      exact ⟨Ex.new hT, g2.new j hT, tup2 hT rvx rvy⟩
  · cases h1
/-! ### for -/
abbrev MG := D → En → Option En
def forL (C : Sto → Bool) (tg : Tg) (body : MS) : List D → MS
  | [], env, st => match C st with
    | true => some (.nx env st)
    | false => none
  | d :: ds, env, st => match C st with
    | true => match tgSet tg d env with
      | some env1 => match body env1 st with
        | some (.nx e2 s2) => forL C tg body ds e2 s2
        | some (.ct e2 s2) => forL C tg body ds e2 s2
        | some (.bk e2 s2) => some (.nx e2 s2)
        | o => o
      | none => none
    | false => none
def sFor (mi : M Wkd) (tg : Tg) (body : MS) : MS := sBind mi fun a => forL a.2 tg body a.1
theorem ss_for {tge iter : Expr} {body : List Stmt} {pos : Pos} {mi : M Wkd} {tg : Tg} {mb : MS} (hp : PassesOwn (model X.prog X.w) X.A X.env X.xe) (hc : X.calm = true) (S : SI X J tge iter mi) (G : PG X tge (gOf X.K tg)) (B : SB X J body mb) (hs : ∀ x, foldedSetIterable iter X.env x = pure x) :
    SS X J (.For tge iter body [] pos) (sFor mi tg mb) := by
  intro R env st σ H out De E h g r t o
  refine sem_ofS (ps_for hp hc pi_sem G pss_sem hs) ?_
  rcases sbind_some h with ⟨⟨items, C⟩, st1, h1, h2⟩ | ⟨x, st1, h1, h2⟩
  · refine S R env st σ H _ _ E h1 g r t fun R1 H1 I e1 g1 wk => ?_
    refine ⟨fun i m σ' H' => ∃ R2 st2 env2, i ≤ items.length ∧ m = items.length - i ∧ Ex R1 R2 H1 H' ∧ Gd X.K J R2 st2 H' ∧ EnR X.K R2 H' env2 σ' ∧ forL C tg mb (items.drop i) env2 st2 = some out,
      ⟨items.length, R1, st1, env, Nat.zero_le _, rfl, Ex.refl, g1, r.mono e1, h2⟩, ?_⟩
    rintro i m σ' H' ⟨R2, st2, env2, hi, rfl, e2, g2, r2, hf⟩
    have o2 := o.shift (e1.trans e2)
    by_cases hlt : i < items.length
    · have hd : items.drop i = items[i] :: items.drop (i + 1) := List.drop_eq_getElem_cons hlt
      rw [hd] at hf
      unfold forL at hf
      split at hf
      · rename_i hC
        split at hf
        · rename_i env3 ht
          obtain ⟨hgo, hy⟩ := (wk R2 st2 H' i e2 g2 hC).2 items[i] (List.getElem?_eq_getElem hlt)
          refine .inr ⟨hgo, fun σ3 H3 => ∃ R4 st4 env4, Ex R1 R4 H1 H3 ∧ Gd X.K J R4 st4 H3 ∧ EnR X.K R4 H3 env4 σ3 ∧ forL C tg mb (items.drop (i + 1)) env4 st4 = some out, ?_, fun x H3 hyl => ?_⟩
          · rintro σ3 H3 ⟨R4, st4, env4, a1, a2, a3, a4⟩
            exact ⟨items.length - (i + 1), by omega, R4, st4, env4, hlt, rfl, a1, a2, a3, a4⟩
          · obtain ⟨e3, g3, rx⟩ := hy x H3 hyl
            refine gOf_ok ht rx (r2.mono e3) fun σ4 r4 _ => ?_
            have o3 := o2.shift e3
            split at hf
            · rename_i e5 s5 hb
              exact B R2 env3 st2 σ4 H3 _ _ E hb g3 r4 t fun R5 H5 σ5 x5 g5 r5 => ⟨R5, s5, e5, (e2.trans e3).trans x5, g5, r5, hf⟩
            · rename_i e5 s5 hb
              exact B R2 env3 st2 σ4 H3 _ _ E hb g3 r4 t fun R5 H5 σ5 x5 g5 r5 => ⟨R5, s5, e5, (e2.trans e3).trans x5, g5, r5, hf⟩
            · rename_i e5 s5 hb
              cases hf
              exact B R2 env3 st2 σ4 H3 _ _ E hb g3 r4 t fun R5 H5 σ5 x5 g5 r5 => o3 R5 H5 σ5 x5 g5 r5
            · rename_i n1 n2 n3
              refine B R2 env3 st2 σ4 H3 _ _ E hf g3 r4 t ?_
              cases out with
              | nx e s => exact absurd hf (n1 e s)
              | bk e s => exact absurd hf (n3 e s)
              | ct e s => exact absurd hf (n2 e s)
              | rt d s => exact o3
              | exc x s => exact o3
        · cases hf
      · cases hf
    · have hi' : i = items.length := by omega
      subst hi'
      rw [List.drop_length] at hf
      unfold forL at hf
      split at hf
      · rename_i hC
        cases hf
        exact .inl ⟨(wk R2 st2 H' _ e2 g2 hC).1 rfl, o2 R2 H' σ' Ex.refl g2 r2⟩
      · cases hf
  · subst h2
    exact S R env st σ H _ _ E h1 g r t o
/-! ### while -/
def whL (c : M Bool) (body : MS) : Nat → MS
  | 0, _, _ => none
  | n + 1, env, st => match c env st with
    | some (.ok true st1) => match body env st1 with
      | some (.nx e2 s2) => whL c body n e2 s2
      | some (.ct e2 s2) => whL c body n e2 s2
      | some (.bk e2 s2) => some (.nx e2 s2)
      | o => o
    | some (.ok false st1) => some (.nx env st1)
    | some (.exc x st1) => some (.exc x st1)
    | none => none
def sWhile (n : Nat) (c : M Bool) (body : MS) : MS := whL c body n
theorem ss_while {n : Nat} {c : Expr} {body : List Stmt} {pos : Pos} {mc : M Bool} {mb : MS} (hp : PassesOwn (model X.prog X.w) X.A X.env X.xe) (Sc : STt X J c mc) (B : SB X J body mb) : SS X J (.While c body [] pos) (sWhile n mc mb) := by
  intro R env st σ H out De E h g r t o
  refine sem_ofS (ps_while hp pt_sem pss_sem) ?_
  refine ⟨fun m σ' H' => ∃ R2 st2 env2, Ex R R2 H H' ∧ Gd X.K J R2 st2 H' ∧ EnR X.K R2 H' env2 σ' ∧ whL mc mb m env2 st2 = some out, ⟨n, R, st, env, Ex.refl, g, r, h⟩, ?_⟩
  rintro m σ' H' ⟨R2, st2, env2, e2, g2, r2, hf⟩
  have o2 := o.shift e2
  cases m with
  | zero => cases hf
  | succ m =>
    unfold whL at hf
    split at hf
    · rename_i st3 hc
      refine Sc R2 env2 st2 σ' H' _ _ E hc g2 r2 t fun R3 H3 b e3 g3 rb => ?_
      have rb : true = b := rb
      subst rb
      rw [if_pos rfl]
      have o3 := o2.shift e3
      have r3 := r2.mono e3
      refine ⟨fun σ3 H4 => ∃ R4 st4 env4, Ex R R4 H H4 ∧ Gd X.K J R4 st4 H4 ∧ EnR X.K R4 H4 env4 σ3 ∧ whL mc mb m env4 st4 = some out, fun σ3 H4 hh => ⟨m, Nat.lt_succ_self m, hh⟩, ?_⟩
      split at hf
      · rename_i e5 s5 hb
        exact B R3 env2 st3 σ' H3 _ _ E hb g3 r3 t fun R5 H5 σ5 x5 g5 r5 => ⟨R5, s5, e5, (e2.trans e3).trans x5, g5, r5, hf⟩
      · rename_i e5 s5 hb
        exact B R3 env2 st3 σ' H3 _ _ E hb g3 r3 t fun R5 H5 σ5 x5 g5 r5 => ⟨R5, s5, e5, (e2.trans e3).trans x5, g5, r5, hf⟩
      · rename_i e5 s5 hb
        cases hf
        exact B R3 env2 st3 σ' H3 _ _ E hb g3 r3 t fun R5 H5 σ5 x5 g5 r5 => o3 R5 H5 σ5 x5 g5 r5
      · rename_i n1 n2 n3
        refine B R3 env2 st3 σ' H3 _ _ E hf g3 r3 t ?_
        cases out with
        | nx e s => exact absurd hf (n1 e s)
        | bk e s => exact absurd hf (n3 e s)
        | ct e s => exact absurd hf (n2 e s)
        | rt d s => exact o3
        | exc x s => exact o3
    · rename_i st3 hc
      cases hf
      refine Sc R2 env2 st2 σ' H' _ _ E hc g2 r2 t fun R3 H3 b e3 g3 rb => ?_
      have rb : false = b := rb
      subst rb
      rw [if_neg Bool.false_ne_true]
      exact o2 R3 H3 σ' e3 g3 (r2.mono e3)
    · rename_i x st3 hc
      cases hf
      exact Sc R2 env2 st2 σ' H' _ _ E hc g2 r2 t o2
    · cases hf
end
end TA
/-! comprehensions, calls of defs -/
namespace TA
open PySem PySem.Spec
open PyProof.Rows L2

def wipeE (env : En) : List Nat → En
  | [] => env
  | v :: vs => (wipeE env vs).set v none
theorem EnR.unset {K : PySem.W.Frag} {R : List Addr} {H : Hp} {env : En} {σ : Sg} {i : Nat} (r : EnR K R H env σ) : EnR K R H (env.set i none) (σ.set i none) := by
  refine ⟨by simpa using r.len, fun j d h => ?_⟩
  by_cases hj : i = j
  · subst hj
    by_cases hl : i < env.length
    · rw [List.getElem?_set_self hl] at h
      cases h
    · rw [List.getElem?_eq_none (by simpa using hl)] at h
      cases h
  · rw [List.getElem?_set_ne hj] at h
    obtain ⟨w, a, b⟩ := r.get j d h
    exact ⟨w, by rw [List.getElem?_set_ne hj]; exact a, b⟩
theorem EnR.wiped {K : PySem.W.Frag} {R : List Addr} {H : Hp} {env : En} {σ : Sg} (r : EnR K R H env σ) : ∀ vs, EnR K R H (wipeE env vs) (wipe σ vs)
  | [] => r
  | v :: vs => (EnR.wiped r vs).unset
theorem wipe_sub {σ : Sg} {vs : List Nat} : ∀ {us : List Nat}, (∀ u ∈ us, u ∈ vs) → wipe (wipe σ us) vs = wipe σ vs
  | [], _ => rfl
  | u :: us, h => by
    show wipe ((wipe σ us).set u none) vs = _
    rw [wipe_set, if_pos (h u List.mem_cons_self)]
    exact wipe_sub fun w hw => h w (List.mem_cons_of_mem _ hw)
theorem Ex.own {R R' : List Addr} {H H' : Hp} {p : Addr} {u : HO} (x : Ex R R' H H') (h : H p = none) : Ex R R' H (upd H' p u) := by
  have ne : ∀ a o, H a = some o → a ≠ p := fun a o e z => by subst z; rw [h] at e; cases e
  refine ⟨⟨x.pre, fun a xs e => ?_, fun a o w e => ?_⟩, fun a o e hn ht => ?_, fun a e => ?_, x.nw⟩
  · rw [upd_ne (ne a _ e)]; exact x.tup a xs e
  · rw [upd_ne (ne a _ e)]; exact x.frz a o w e
  · rw [upd_ne (ne a _ e)]; exact x.fr a o e hn ht
  · by_cases hp : a = p
    · subst hp; exact absurd h e
    · rw [upd_ne hp]; exact x.kp a e
theorem Ex0.side {R : List Addr} {H : Hp} {p : Addr} {o u : HO} (h : H p = some o) (ho : isMu o = true) : Ex0 R R H (upd H p u) := by
  have ne : ∀ a ob, H a = some ob → isMu ob = false → a ≠ p := fun a ob e q z => by
    subst z; rw [h] at e; cases e; rw [ho] at q; cases q
  exact ⟨fun _ _ h => h, fun a xs e => by rw [upd_ne (ne a _ e rfl)]; exact e, fun a ob w e => by rw [upd_ne (ne a _ e rfl)]; exact e⟩
theorem Gd.side {K : PySem.W.Frag} {J : Hp → Prop} {R : List Addr} {H : Hp} {st : Sto} {p : Addr} {o u : HO} (j : JS J) (g : Gd K J R st H) (hp : p ∉ R) (h : H p = some o) (ho : isMu o = true) (hu : isMu u = true) : Gd K J R st (upd H p u) := by
  refine ⟨g.len, g.nd, fun n ob a e1 e2 => ?_, j.put _ _ _ _ g.j h ho hu⟩
  refine (g.ob n ob a e1 e2).mono (Ex0.side h ho) (upd_ne fun z => ?_)
  subst z
  exact hp (List.mem_of_getElem? e2)
def lcL (C : Sto → Bool) (tg : Tg) (t : M Bool) (e : M D) (env : En) : List D → List D → Sto → Option (Out (List D))
  | [], acc, st => match C st with
    | true => some (.ok acc st)
    | false => none
  | d :: ds, acc, st => match C st with
    | true => match tgSet tg d env with
      | some env1 => match t env1 st with
        | some (.ok true st1) => match e env1 st1 with
          | some (.ok y st2) => match Nat.blt acc.length 1000000 with
            | true => lcL C tg t e env ds (acc ++ [y]) st2
            | false => none
          | _ => none
        | some (.ok false st1) => lcL C tg t e env ds acc st1
        | _ => none
      | none => none
    | false => none
def mLc (mi : M Wkd) (tg : Tg) (t : M Bool) (e : M D) (vs : List Nat) : M (List D) := mBind mi fun a => fun env st => lcL a.2 tg t e (wipeE env vs) a.1 [] st
/-- a clause's tests -/
def tfSem (X : Cx) (ifs : List Expr) : TT := fun σ H Q => ∀ pins s, Inv X pins σ H s → wpAny (model X.prog X.w) X.A (forIn ifs true fun c r => if r = true then do let ok ← isTrue c X.env (eval c X.env); pure (ForInStep.yield ok) else pure (ForInStep.yield r)) (TP X pins σ Q) X.xe s
def SF (X : Cx) (J : Hp → Prop) (ifs : List Expr) (m : M Bool) : Prop := ∀ R env st σ H out Q E, m env st = some out → Gd X.K J R st H → EnR X.K R H env σ → Tk X E → OkO X.K J R H relB Q E out → tfSem X ifs σ H Q
theorem takesNo {X : Cx} : Tk X (fun _ _ _ => False) := LamX.takes0
section
variable {X : Cx} {J : Hp → Prop}
theorem pf_sem {ifs : List Expr} : PTs X ifs (tfSem X ifs) := ⟨fun pins s _ _ _ I h => h pins s I⟩
theorem sf_nil : SF X J [] (mPure true) := by
  intro R env st σ H out Q E h g r t o pins s I
  cases h
  exact pts_nil.run pins s σ H Q I (o R H true Ex.refl g rfl)
theorem sf_one {c : Expr} {m : M Bool} (S : STt X J c m) : SF X J [c] m := by
  intro R env st σ H out Q E h g r t o pins s I
  exact (pts_one (pt_sem (e := c))).run pins s σ H Q I (S R env st σ H out Q E h g r t o)
abbrev Blk (X : Cx) (scope : Scope) (P : Cx → Prop) : Prop := ∀ (s : Shared) (H : Hp) (C : Addr) (cl : List (Str × Addr)) (fp : List Addr), P (X.blk s H scope (compEnvC scope cl C X.env) fp)
def teB (X : Cx) (scope : Scope) (e : Expr) : TE := fun σ H Q => ∀ (s : Shared) (H0 : Hp) (C : Addr) (cl : List (Str × Addr)) (fp : List Addr), tSem (X.blk s H0 scope (compEnvC scope cl C X.env) fp) e σ H Q
def ttB (X : Cx) (scope : Scope) (ifs : List Expr) : TT := fun σ H Q => ∀ (s : Shared) (H0 : Hp) (C : Addr) (cl : List (Str × Addr)) (fp : List Addr), tfSem (X.blk s H0 scope (compEnvC scope cl C X.env) fp) ifs σ H Q
theorem lc_read {elt tge iter : Expr} {ifs : List Expr} {scope : Scope} {mi : M Wkd} {tg : Tg} {mt : M Bool} {me : M D} {vs : List Nat} (j : JS J) (S : SI X J tge iter mi) (hv : tgIn vs tg = true)
    (ht : Blk X scope fun Y => SF Y J ifs mt) (he : Blk X scope fun Y => SE Y J elt me)
    {R : List Addr} {env : En} {st : Sto} {σ : Sg} {H : Hp} {out : Out (List D)} {Q : VK} {E : XK} (h : mLc mi tg mt me vs env st = some out) (g : Gd X.K J R st H) (r : EnR X.K R H env σ) (t : Tk X E) (o : OkO X.K J R H (relL X.K H) Q E out) :
    tLc (tiSem X tge iter) (gOf X.K tg) (ttB X scope ifs) (teB X scope elt) vs σ H Q := by
  rcases bind_some h with ⟨⟨items, C⟩, st1, h1, h2⟩ | ⟨x, st1, h1, h2⟩
  · refine S R env st σ H _ _ E h1 g r t fun R1 H1 I e1 g1 wk D0 hD => ?_
    have hD0 : H D0 = none := by
      cases q : H D0 with
      | none => rfl
      | some w => exact absurd hD (e1.kp D0 (by rw [q]; simp))
    have hDR : D0 ∉ R1 := fun hm => by
      obtain ⟨n, ob, _, _, z⟩ := g1.mem hm
      exact z.some hD
    have r1 := r.mono e1
    refine ⟨fun i m H' => ∃ R2 st2 acc xs, i ≤ items.length ∧ m = items.length - i ∧ Ex R1 R2 H1 H' ∧ Gd X.K J R2 st2 H' ∧ D0 ∉ R2 ∧ H' D0 = some (.lst xs) ∧ RelDs X.K R2 H' acc xs ∧ lcL C tg mt me (wipeE env vs) (items.drop i) acc st2 = some out,
      ⟨items.length, R1, st1, [], [], Nat.zero_le _, rfl, Ex.new hD, g1.new j hD, hDR, upd_same, by simp only [RelDs], h2⟩, ?_⟩
    rintro i m H' ⟨R2, st2, acc, xs, hi, rfl, e2, g2, hR2, hx, rx, hf⟩
    have re := ((r1.mono e2).wiped vs)
    by_cases hlt : i < items.length
    · rw [List.drop_eq_getElem_cons hlt] at hf
      unfold lcL at hf
      split at hf
      · rename_i hC
        split at hf
        · rename_i env3 htg
          obtain ⟨hgo, hy⟩ := (wk R2 st2 H' i e2 g2 hC).2 items[i] (List.getElem?_eq_getElem hlt)
          refine .inr ⟨hgo, fun H3 => ∃ R4 st4 acc4 xs4, Ex R1 R4 H1 H3 ∧ Gd X.K J R4 st4 H3 ∧ D0 ∉ R4 ∧ H3 D0 = some (.lst xs4) ∧ RelDs X.K R4 H3 acc4 xs4 ∧ lcL C tg mt me (wipeE env vs) (items.drop (i + 1)) acc4 st4 = some out, ?_, fun x H3 hyl => ?_⟩
          · rintro H3 ⟨R4, st4, acc4, xs4, a1, a2, a3, a4, a5, a6⟩
            exact ⟨items.length - (i + 1), by omega, R4, st4, acc4, xs4, hlt, rfl, a1, a2, a3, a4, a5, a6⟩
          · obtain ⟨e3, g3, rxx⟩ := hy x H3 hyl
            have hx3 : H3 D0 = some (.lst xs) := e3.fr D0 _ hx hR2 fun _ z => nomatch z
            refine gOf_ok htg rxx (re.mono e3) fun σ4 r4 hw => ⟨(hw vs hv).trans (wipe_sub fun _ h => h), ?_⟩
            split at hf
            · rename_i st3 hb
              intro s' H0 C' cl fp
              refine ht s' H0 C' cl fp R2 env3 st2 σ4 H3 _ _ _ hb g3 r4 takesNo fun R5 H5 b e5 g5 rb => ?_
              have rb : true = b := rb
              subst rb
              rw [if_pos rfl]
              have hR5 : D0 ∉ R5 := fun hm => by
                rcases e5.nw D0 hm with q | q
                · exact hR2 q
                · rw [hx3] at q; cases q
              have hx5 : H5 D0 = some (.lst xs) := e5.fr D0 _ hx3 hR2 fun _ z => nomatch z
              split at hf
              · rename_i y st4 hye
                split at hf
                · rename_i hlen
                  intro s' H0 C' cl fp
                  refine he s' H0 C' cl fp R5 env3 st3 σ4 H5 _ _ _ hye g5 (r4.mono e5) takesNo fun R6 H6 v e6 g6 rv => ?_
                  have hx6 : H6 D0 = some (.lst xs) := e6.fr D0 _ hx5 hR5 fun _ z => nomatch z
                  have hR6 : D0 ∉ R6 := fun hm => by
                    rcases e6.nw D0 hm with q | q
                    · exact hR5 q
                    · rw [hx5] at q; cases q
                  have ll : xs.length < sizeLine := by
                    rw [← rx.length, sizeLine_eq]
                    have := Nat.le_of_ble_eq_true hlen
                    omega
                  have e16 : Ex R1 R6 H1 H6 := ((e2.trans e3).trans e5).trans e6
                  refine ⟨xs, hx6, ll, R6, st4, acc ++ [y], xs ++ [v], ?_, ?_, hR6, upd_same, ?_, hf⟩
                  · exact e16.own hD
                  · exact g6.side j hR6 hx6 rfl rfl
                  · have e36 := (e3.trans e5).trans e6
                    refine RelDs.mono (Ex0.side hx6 rfl) ((rx.mono e36.toEx0).app ?_)
                    simp only [RelDs]
                    exact ⟨v, [], rfl, rv, rfl⟩
                · cases hf
              · cases hf
            · rename_i st3 hb
              intro s' H0 C' cl fp
              refine ht s' H0 C' cl fp R2 env3 st2 σ4 H3 _ _ _ hb g3 r4 takesNo fun R5 H5 b e5 g5 rb => ?_
              have rb : false = b := rb
              subst rb
              rw [if_neg Bool.false_ne_true]
              have hR5 : D0 ∉ R5 := fun hm => by
                rcases e5.nw D0 hm with q | q
                · exact hR2 q
                · rw [hx3] at q; cases q
              exact ⟨R5, st3, acc, xs, (e2.trans e3).trans e5, g5, hR5, e5.fr D0 _ hx3 hR2 (fun _ z => nomatch z), rx.mono (e3.trans e5).toEx0, hf⟩
            · cases hf
        · cases hf
      · cases hf
    · have hi' : i = items.length := by omega
      subst hi'
      rw [List.drop_length] at hf
      unfold lcL at hf
      split at hf
      · rename_i hC
        cases hf
        exact .inl ⟨(wk R2 st2 H' _ e2 g2 hC).1 rfl, o R2 H' _ (e1.trans e2) g2 ⟨D0, xs, rfl, hD0, hR2, hx, rx⟩⟩
      · cases hf
  · subst h2
    exact S R env st σ H _ _ E h1 g r t o
theorem sl_lc {elt tge iter : Expr} {ifs : List Expr} {scope : Scope} {own : List (Str × Nat)} {pos : Pos} {mi : M Wkd} {tg : Tg} {mt : M Bool} {me : M D} (j : JS J) (hc : X.calm = true) (hN : X.N.Nodup) (S : SI X J tge iter mi) (ok : BlkOk X.N X.env.scope scope own)
    (hv : tgIn (own.map (·.2)) tg = true) (hg : Blk X scope fun Y => PG Y tge (gOf X.K tg)) (ht : Blk X scope fun Y => SF Y J ifs mt) (he : Blk X scope fun Y => SE Y J elt me) (hs : ∀ x, foldedSetIterable iter X.env x = pure x) :
    SL X J (.ListComp elt [⟨tge, iter, ifs, 0⟩] scope pos) (mLc mi tg mt me (own.map (·.2))) := fun R env st σ H out Q E h g r t o =>
  sem_of (pe_lc (g := gOf X.K tg) (tt := ttB X scope ifs) (te := teB X scope elt) hc hN pi_sem ok hg (fun s H C cl fp => ⟨fun pins s' _ _ _ I h => h s H C cl fp pins s' I⟩) (fun s H C cl fp => ⟨fun pins s' _ _ _ I h => h s H C cl fp pins s' I⟩) hs) (lc_read j S hv ht he h g r t o)
theorem ss_setLc {i : Nat} {y : Str} {py spos : Pos} {elt tge iter : Expr} {ifs : List Expr} {scope : Scope} {own : List (Str × Nat)} {pos : Pos} {mi : M Wkd} {tg : Tg} {mt : M Bool} {me : M D} (j : JS J) (hc : X.calm = true) (hN : X.N.Nodup) (hy : X.N[i]? = some y) (hyl : X.env.scope.names.lookup y = some .local)
    (hsw : swapsWith (.ListComp elt [⟨tge, iter, ifs, 0⟩] scope pos) (some (.Name y py)) spos.line X.env = pure true) (S : SI X J tge iter mi) (ok : BlkOk X.N X.env.scope scope own)
    (hv : tgIn (own.map (·.2)) tg = true) (hg : Blk X scope fun Y => PG Y tge (gOf X.K tg)) (ht : Blk X scope fun Y => SF Y J ifs mt) (he : Blk X scope fun Y => SE Y J elt me) (hs : ∀ x, foldedSetIterable iter X.env x = pure x) :
    SS X J (.Assign [.Name y py] (.ListComp elt [⟨tge, iter, ifs, 0⟩] scope pos) spos) (sSet i (mKeep (mLc mi tg mt me (own.map (·.2))))) := by
  intro R env st σ H out De E h g r t o
  refine sem_ofS (ps_setLc (g := gOf X.K tg) (tt := ttB X scope ifs) (te := teB X scope elt) hc hN hy hyl hsw pi_sem ok hg (fun s H C cl fp => ⟨fun pins s' _ _ _ I h => h s H C cl fp pins s' I⟩) (fun s H C cl fp => ⟨fun pins s' _ _ _ I h => h s H C cl fp pins s' I⟩) hs) ?_
  rcases sbind_some h with ⟨d, st1, h1, h2⟩ | ⟨x, st1, h1, h2⟩
  · rcases bind_some h1 with ⟨ds, st2, h3, h4⟩ | ⟨x, st2, h3, h4⟩
    · refine lc_read j S hv ht he h3 g r t fun R1 H1 v e1 g1 rd => ?_
      cases h4
      cases h2
      obtain ⟨p, xs, rfl, hp0, hpR, hp, rx⟩ := rd
      have e2 := e1.snoc (p := p) hp0
      refine o (R1 ++ [p]) H1 _ e2 (g1.push hpR ⟨xs, hp, rx⟩) ((r.mono e2).set ?_)
      simp only [RelD]
      exact ⟨p, rfl, by rw [← g1.len, List.getElem?_append_right (Nat.le_refl _)]; simp⟩
    · cases h4
  · subst h2
    rcases bind_some h1 with ⟨ds, st2, h3, h4⟩ | ⟨x, st2, h3, h4⟩
    · cases h4
    · cases h4
      exact lc_read j S hv ht he h3 g r t o

/-! ### calls of defs -/
/-- a def keeps its promise wherever no container's text is being made -/
structure FnG (P : Program) (w : World) (K : PySem.W.Frag) (mg : Str → Option Value) (base : Heap) (k : Nat) (f : Addr) (fd : FuncData) (ps : List Str) (sp : Sp) : Prop where
  len : ∀ vs H Q E, sp vs H Q E → vs.length = ps.length
  run : ∀ (A : Around) (outer : List Env) (s : Shared) (H : Hp) (args : Args) (us : List Value) (vs : List V) (Q : VK) (E : XK), A.guards = some [] → Room k A → Env0 P w K mg base A outer s H → BindsTo s fd args (ps.zip us) → Vals vs us → sp vs H Q E →
    codeAny (model P w) A (.call (.ref f) args) (CR (CX P w) outer P w H s Q E) s
def spOf (K : PySem.W.Frag) (J : Hp → Prop) (sem : List D → Sto → Option (Out D)) (n : Nat) : Sp := fun vs H Q E => vs.length = n ∧ ∃ R st ds out, Gd K J R st H ∧ RelDs K R H ds vs ∧ sem ds st = some out ∧ OkO K J R H (RelD K) Q E out
mutual
def D.free : D → Bool
  | .loc _ => false
  | .tup ds => D.frees ds
  | .rol ds => D.frees ds
  | _ => true
def D.frees : List D → Bool
  | [] => true
  | d :: ds => D.free d && D.frees ds
end
mutual
def D.up (k : Nat) : D → D
  | .loc n => .loc (k + n)
  | .tup ds => .tup (D.ups k ds)
  | .rol ds => .rol (D.ups k ds)
  | d => d
def D.ups (k : Nat) : List D → List D
  | [] => []
  | d :: ds => D.up k d :: D.ups k ds
end
def O.up (k : Nat) : O → O
  | .lst ds => .lst (D.ups k ds)
  | .dct kvs => .dct (kvs.map fun p => (p.1, p.2.up k))
  | .dlk kvs => .dlk (kvs.map fun p => (p.1, p.2.up k))
section
variable {K : PySem.W.Frag} {R R' : List Addr} {H : Hp}
mutual
theorem RelD.free : ∀ {d : D} {v : V}, D.free d = true → RelD K R H d v → RelD K R' H d v := fun {d v} hf h => by
  cases d with
  | loc n => simp [D.free] at hf
  | tup ds =>
    simp only [D.free] at hf
    simp only [RelD] at h ⊢
    obtain ⟨a, xs, e1, e2, e3⟩ := h
    exact ⟨a, xs, e1, e2, RelDs.free hf e3⟩
  | rol ds =>
    simp only [D.free] at hf
    simp only [RelD] at h ⊢
    obtain ⟨a, xs, e1, e2, e3⟩ := h
    exact ⟨a, xs, e1, e2, RelDs.free hf e3⟩
  | _ => simpa only [RelD] using h
theorem RelDs.free : ∀ {ds : List D} {vs : List V}, D.frees ds = true → RelDs K R H ds vs → RelDs K R' H ds vs := fun {ds vs} hf h => by
  cases ds with
  | nil => simpa only [RelDs] using h
  | cons d ds =>
    simp only [D.frees, Bool.and_eq_true] at hf
    simp only [RelDs] at h ⊢
    obtain ⟨v, ws, e1, e2, e3⟩ := h
    exact ⟨v, ws, e1, RelD.free hf.1 e2, RelDs.free hf.2 e3⟩
end
mutual
theorem RelD.upd : ∀ {d : D} {v : V}, RelD K R' H d v → RelD K (R ++ R') H (d.up R.length) v := fun {d v} h => by
  cases d with
  | loc n =>
    simp only [D.up, RelD] at h ⊢
    obtain ⟨a, e1, e2⟩ := h
    exact ⟨a, e1, by rw [List.getElem?_append_right (Nat.le_add_right _ _), Nat.add_sub_cancel_left]; exact e2⟩
  | tup ds =>
    simp only [D.up, RelD] at h ⊢
    obtain ⟨a, xs, e1, e2, e3⟩ := h
    exact ⟨a, xs, e1, e2, RelDs.upd e3⟩
  | rol ds =>
    simp only [D.up, RelD] at h ⊢
    obtain ⟨a, xs, e1, e2, e3⟩ := h
    exact ⟨a, xs, e1, e2, RelDs.upd e3⟩
  | _ => simpa only [D.up, RelD] using h
theorem RelDs.upd : ∀ {ds : List D} {vs : List V}, RelDs K R' H ds vs → RelDs K (R ++ R') H (D.ups R.length ds) vs := fun {ds vs} h => by
  cases ds with
  | nil => simpa only [D.ups, RelDs] using h
  | cons d ds =>
    simp only [D.ups, RelDs] at h ⊢
    obtain ⟨v, ws, e1, e2, e3⟩ := h
    exact ⟨v, ws, e1, RelD.upd e2, RelDs.upd e3⟩
end
theorem RelKv.upd : ∀ {ds : List (Key × D)} {vs : List (Key × V)}, RelKv K R' H ds vs → RelKv K (R ++ R') H (ds.map fun p => (p.1, p.2.up R.length)) vs
  | [], _, h => by simpa only [List.map_nil, RelKv] using h
  | p :: ds, _, h => by
    simp only [List.map_cons, RelKv] at h ⊢
    obtain ⟨v, ws, e1, e2, e3⟩ := h
    exact ⟨v, ws, e1, RelD.upd e2, RelKv.upd e3⟩
theorem ObjR.upd {a : Addr} {o : O} (h : ObjR K R' H a o) : ObjR K (R ++ R') H a (o.up R.length) := by
  cases o with
  | lst ds => obtain ⟨xs, e, r⟩ := h; exact ⟨xs, e, RelDs.upd r⟩
  | dct kvs => obtain ⟨xs, e, r⟩ := h; exact ⟨xs, e, RelKv.upd r⟩
  | dlk kvs => obtain ⟨od, xs, e, r⟩ := h; exact ⟨od, xs, e, RelKv.upd r⟩
end
def frX (x : Xn) : Bool := x.fs.all fun p => D.free p.2
/-- a def is called: where no list or dict of the store is passed, it runs over an empty store -/
def callS (sem : List D → Sto → Option (Out D)) (ds : List D) (st : Sto) : Option (Out D) := match D.frees ds with
  | true => match sem ds [] with
    | some (.ok d st') => match D.free d with
      | true => some (.ok d st)
      | false => some (.ok (d.up st.length) (st ++ st'.map (O.up st.length)))
    | some (.exc x _) => match frX x with
      | true => some (.exc x st)
      | false => none
    | none => none
  | false => sem ds st
/-- the store stands behind a call that got none of it -/
theorem Gd.after {K : PySem.W.Frag} {J : Hp → Prop} {R R' : List Addr} {H H' : Hp} {st : Sto} (g : Gd K J R st H) (e : Ex [] R' H H') (j' : J H') : Ex R R H H' ∧ Gd K J R st H' := by
  have e0 : Ex R R H H' := ⟨⟨fun _ _ h => h, e.tup, e.frz⟩, fun a o h _ ht => e.fr a o h (by simp) ht, e.kp, fun _ h => .inl h⟩
  refine ⟨e0, g.len, g.nd, fun n o a h1 h2 => ?_, j'⟩
  have q := g.ob n o a h1 h2
  refine q.mono e0.toEx0 ?_
  cases eh : H a with
  | none => exact absurd eh q.some
  | some u => exact e.fr a u eh (by simp) (q.notbl u eh)
theorem RelA.free {κ : Type} {K : PySem.W.Frag} {R R' : List Addr} {H : Hp} : ∀ {l : List (κ × D)} {m : List (κ × V)}, (l.all fun p => D.free p.2) = true → RelA K R H l m → RelA K R' H l m
  | [], _, _, h => by simpa only [RelA] using h
  | p :: l, _, hf, h => by
    simp only [List.all_cons, Bool.and_eq_true] at hf
    simp only [RelA] at h ⊢
    obtain ⟨v, ws, e1, e2, e3⟩ := h
    exact ⟨v, ws, e1, e2.free hf.1, RelA.free hf.2 e3⟩
theorem sp_call {K : PySem.W.Frag} {sem : List D → Sto → Option (Out D)} {ds : List D} {vs : List V} {R : List Addr} {st : Sto} {H : Hp} {out : Out D} {Q : VK} {E : XK} (h : callS sem ds st = some out) (g : Gd K J R st H) (r : RelDs K R H ds vs) (o : OkO K J R H (RelD K) Q E out) : spOf K J sem ds.length vs H Q E := by
  refine ⟨r.length.symm, ?_⟩
  unfold callS at h
  split at h
  · rename_i hf
    have g0 : Gd K J [] [] H := ⟨rfl, List.nodup_nil, fun n o a h => by simp at h, g.j⟩
    have r0 : RelDs K [] H ds vs := r.free hf
    split at h
    · rename_i d st' hs
      refine ⟨[], [], ds, _, g0, r0, hs, fun R' H' v e' g' rv => ?_⟩
      obtain ⟨e0, g1⟩ := g.after e' g'.j
      split at h
      · rename_i hd
        cases h
        exact o R H' v e0 g1 (rv.free hd)
      · cases h
        have dis : ∀ a ∈ R, ∀ b ∈ R', a ≠ b := fun a ha b hb z => by
          subst z
          rcases e'.nw a hb with q | q
          · simp at q
          · obtain ⟨n, ob, _, _, w⟩ := g.mem ha
            exact w.some q
        refine o (R ++ R') H' v ⟨⟨fun n a q => ?_, e0.tup, e0.frz⟩, e0.fr, e0.kp, fun a ha => ?_⟩ ⟨by simp [g.len, g'.len], List.nodup_append.mpr ⟨g.nd, g'.nd, dis⟩, fun n ob a h1 h2 => ?_, g'.j⟩ ?_
        · rw [List.getElem?_append_left (List.getElem?_eq_some_iff.mp q).1]; exact q
        · rcases List.mem_append.mp ha with q | q
          · exact .inl q
          · rcases e'.nw a q with z | z
            · simp at z
            · exact .inr z
        · by_cases hn : n < st.length
          · rw [List.getElem?_append_left hn] at h1
            rw [List.getElem?_append_left (by rw [g.len]; exact hn)] at h2
            refine (g1.ob n ob a h1 h2).mono ⟨fun m b q => ?_, fun _ _ q => q, fun _ _ _ q => q⟩ rfl
            rw [List.getElem?_append_left (List.getElem?_eq_some_iff.mp q).1]; exact q
          · rw [List.getElem?_append_right (Nat.le_of_not_lt hn), List.getElem?_map] at h1
            rw [List.getElem?_append_right (by rw [g.len]; exact Nat.le_of_not_lt hn), g.len] at h2
            cases eo : st'[n - st.length]? with
            | none => rw [eo] at h1; cases h1
            | some ob' =>
              rw [eo] at h1
              cases h1
              have q := (g'.ob _ ob' a eo h2).upd (R := R)
              rw [g.len] at q
              exact q
        · have q := rv.upd (R := R)
          rw [g.len] at q
          exact q
    · rename_i x st' hs
      split at h
      · rename_i hx
        cases h
        refine ⟨[], [], ds, _, g0, r0, hs, fun R' H' cls dd e' g' rv => ?_⟩
        obtain ⟨e0, g1⟩ := g.after e' g'.j
        obtain ⟨h1, d, fs, h2, h3, h4, h5⟩ := rv
        refine o R H' cls dd e0 g1 ⟨h1, d, fs, h2, fun hm => ?_, h4, h5.free hx⟩
        obtain ⟨n, ob, _, _, w⟩ := g1.mem hm
        cases ob with
        | lst l => obtain ⟨zs, q, _⟩ := w; rw [h4] at q; cases q
        | dct l => obtain ⟨zs, q, _⟩ := w; rw [h4] at q; cases q
        | dlk l => obtain ⟨od, zs, q, _⟩ := w; rw [h4] at q; cases q
      · cases h
    · cases h
  · exact ⟨R, st, ds, out, g, r, h, o⟩
end
end TA
/-! calls: defs, built-ins -/
namespace TA
open PySem PySem.Spec
open PyProof.Rows L2

def mCall (n : Nat) (sem : List D → Sto → Option (Out D)) (m : M (List D)) : M D := mBind m fun ds => fun _ st => match Nat.beq ds.length n with
  | true => callS sem ds st
  | false => none
section
variable {X : Cx} {J : Hp → Prop}
/-- what is known of a def that is called by its name -/
structure FnAt (X : Cx) (J : Hp → Prop) (x : Str) (n : Nat) (sem : List D → Sto → Option (Out D)) : Prop where
  ex : ∃ (k : Nat) (f : Addr) (fd : FuncData) (ps : List Str), FnG X.prog X.w X.K X.mg X.base k f fd ps (spOf X.K J sem n) ∧ Room k X.A ∧ X.mg x = some (.ref f) ∧ PySem.W.keepIn X.K (.ref f) = true ∧ Binds X.K fd ps []
theorem run_def {k : Nat} {f : Addr} {fd : FuncData} {ps : List Str} {sp : Sp} {pins : List (Addr × Obj)} {σ : Sg} {H : Hp} {s : Shared} {us : List Value} {vs : List V} {Q : VK} {E : XK} (F : FnG X.prog X.w X.K X.mg X.base k f fd ps sp) (gd : X.A.guards = some []) (hr : Room k X.A)
    (hb : Binds X.K fd ps []) (t : Tk X E) (I : Inv X pins σ H s) (rv : Vals vs us) (h : sp vs H Q E) : wpAny (model X.prog X.w) X.A (call (.ref f) us) (EP X pins σ Q) X.xe s := by
  have hl : us.length = ps.length := by rw [← rv.length]; exact F.len _ _ _ _ h
  have hb' : BindsTo s fd ⟨us, []⟩ (ps.zip us) := by
    have := hb s us I.kIn (by simpa using hl)
    simpa using this
  refine wpAny_call (codeAny_mono (F.run X.A X.stack s H ⟨us, []⟩ us vs Q E gd hr I.env0 hb' rv h) fun res s2 hq => ?_)
  match res, hq with
  | .error e, hq => exact passes_call t (fun _ _ _ _ q => q) pins σ H s e s2 I hq
  | .ok (.ret u), hq => exact I.after hq
  | .ok .next, hq => exact False.elim hq
  | .ok .brk, hq => exact False.elim hq
  | .ok .cont, hq => exact False.elim hq
theorem se_call {x : Str} {n : Nat} {sem : List D → Sto → Option (Out D)} {p pos : Pos} {e : Expr} {es : List Expr} {m : M (List D)} (F : FnAt X J x n sem) (gd : X.A.guards = some []) (hg : Gl X x) (S : SA X J (e :: es) m) (hdb : (x == ("__debug__" : Str)) = false)
    (he : starEach (e :: es) X.env = (false, eval e X.env) :: starEach es X.env) (hpl : (backTo pos (starEach es X.env)).any (·.1) = false) : SE X J (.Call (.Name x p) (e :: es) [] pos) (mCall n sem m) := by
  intro R env st σ H out Q E h g r t o pins s I
  obtain ⟨k, f, fd, ps, FG, hr, hm, hk, hb⟩ := F.ex
  have ha : taSem X (e :: es) σ H fun vs H1 => spOf X.K J sem n vs H1 Q E := by
    refine sa_then S h g r t o fun R1 st1 H1 ds vs e1 g1 r1 rd h1 o1 => ?_
    split at h1
    · rename_i hn
      rw [← Nat.eq_of_beq_eq_true hn]
      exact sp_call h1 g1 rd o1
    · cases h1
  refine wpAny_Call_Name_kw (ld_glob I hg hm ?_ hdb)
  refine PySem.W.callWith_K (h₀ := X.base) I.ok.mod.kin hk (thn (ha pos pins s I) fun us s1 hh => ?_) he hpl
  obtain ⟨vs, H1, I1, rv, hq⟩ := hh
  exact ⟨I1.kIn, run_def FG gd hr hb t I1 rv hq⟩
theorem se_call0 {x : Str} {sem : List D → Sto → Option (Out D)} {p pos : Pos} (F : FnAt X J x 0 sem) (gd : X.A.guards = some []) (hg : Gl X x) (hdb : (x == ("__debug__" : Str)) = false) : SE X J (.Call (.Name x p) [] [] pos) (mCall 0 sem mNil) := by
  intro R env st σ H out Q E h g r t o pins s I
  obtain ⟨k, f, fd, ps, FG, hr, hm, hk, hb⟩ := F.ex
  refine wpAny_Call_Name_kw (ld_glob I hg hm ?_ hdb)
  refine PySem.W.callWith_K0 I.kIn hk (run_def (us := []) FG gd hr hb t I .nil ?_)
  exact sp_call (ds := []) (show callS sem [] st = some out from h) g (by simp only [RelDs]) o

/-! ### a def's body -/
def startE (n : Nat) (ds : List D) : En := ds.map some ++ List.replicate (n - ds.length) none
def semOf (n : Nat) (mb : MS) (ds : List D) (st : Sto) : Option (Out D) := match mb (startE n ds) st with
  | some (.rt d st') => some (.ok d st')
  | some (.nx _ st') => some (.ok .non st')
  | some (.exc x st') => some (.exc x st')
  | _ => none
theorem startE_rel {K : PySem.W.Frag} {R : List Addr} {H : Hp} {N : List Str} {ds : List D} {vs : List V} (r : RelDs K R H ds vs) (hl : vs.length ≤ N.length) : EnR K R H (startE N.length ds) (L2.start N vs) := by
  refine ⟨?_, fun i d h => ?_⟩
  · unfold startE L2.start
    simp only [List.length_append, List.length_map, List.length_replicate, r.length]
  · unfold startE at h
    unfold L2.start
    by_cases hi : i < ds.length
    · rw [List.getElem?_append_left (by simpa using hi), List.getElem?_map] at h
      cases e : ds[i]? with
      | none => rw [e] at h; cases h
      | some d' =>
        rw [e] at h
        cases h
        obtain ⟨v, hv, rv⟩ := r.get e
        refine ⟨v, ?_, rv⟩
        rw [List.getElem?_append_left (by rw [List.length_map, ← r.length]; exact hi), List.getElem?_map, hv]
        rfl
    · rw [List.getElem?_append_right (by simpa using hi), List.getElem?_replicate] at h
      split at h <;> cases h
theorem fng_ofK {P : Program} {w : World} {K : PySem.W.Frag} {mg : Str → Option Value} {base : Heap} {x qual : Str} {st : Stmt} {f : Addr} {fd : FuncData} {N ps : List Str} {k : Nat} {mb : MS} (F : Fun K x qual st f fd) (S : FnScope N ps (defScope st))
    (hbody : ∀ (cdv : Value) (A : Around) (outer : List Env) (s : Shared) (H : Hp) (E : XK), (∃ (o : Obj) (fd' : FuncData), K.lookup f = some o ∧ o.data = .func fd' ∧ fd'.code = cdv) → A.guards = some [] → Room k (A.deeper (envOfC qual (defScope st) s.heap.objs.size f cdv)) → SB (cxOf (CX P w) P w K mg base N qual (defScope st) f cdv A outer s H E) J (defBody st) mb) :
    FnG P w K mg base (k + 1) f fd ps (spOf K J (semOf N.length mb) ps.length) := by
  obtain ⟨oc, od, kV, doc, pm, an, cdv, ct, osl, rfl, lk, hcd⟩ := F.ex
  refine ⟨fun vs H Q E h => h.1, fun A outer s H args us vs Q E gd hr e0 hb rv hsp => ?_⟩
  have hpl : ps.length ≤ N.length := by
    have := congrArg List.length S.pre
    rw [List.length_take] at this
    omega
  refine LamX.run_ofS lk hcd S hr e0 hb rv hsp.1 fun hr' => ⟨_, pss_sem, ?_⟩
  obtain ⟨hn, R, sto, ds, out, g, rd, hs, o⟩ := hsp
  have B := hbody cdv A outer s H E ⟨_, _, lk, rfl, rfl⟩ gd hr'
  have er := startE_rel (N := N) rd (by rw [hn]; exact hpl)
  have tk : Tk (cxOf (CX P w) P w K mg base N qual (defScope st) f cdv A outer s H E) E := takes_of rfl rfl rfl rfl
  unfold semOf at hs
  split at hs
  · rename_i d st' hm
    cases hs
    exact B R _ sto _ H _ _ E hm g er tk fun R' H' v e' g' r' => o R' H' v e' g' r'
  · rename_i env' st' hm
    cases hs
    exact B R _ sto _ H _ _ E hm g er tk fun R' H' σ' e' g' r' => o R' H' .non e' g' relNon
  · rename_i x' st' hm
    cases hs
    exact B R _ sto _ H _ _ E hm g er tk fun R' H' c d e' g' r' => o R' H' c d e' g' r'
  · cases hs

theorem fng_of {P : Program} {w : World} {K : PySem.W.Frag} {mg : Str → Option Value} {base : Heap} {x qual : Str} {st : Stmt} {f : Addr} {fd : FuncData} {N ps : List Str} {k : Nat} {mb : MS} (F : Fun K x qual st f fd) (S : FnScope N ps (defScope st))
    (hbody : ∀ (cdv : Value) (A : Around) (outer : List Env) (s : Shared) (H : Hp) (E : XK), A.guards = some [] → Room k (A.deeper (envOfC qual (defScope st) s.heap.objs.size f cdv)) → SB (cxOf (CX P w) P w K mg base N qual (defScope st) f cdv A outer s H E) J (defBody st) mb) :
    FnG P w K mg base (k + 1) f fd ps (spOf K J (semOf N.length mb) ps.length) :=
  fng_ofK F S fun cdv A outer s H E _ gd hr => hbody cdv A outer s H E gd hr

/-! ### built-in functions, by values -/
def rcS (X : Cx) (fv : Value) : List V → Hp → VK → Prop := fun xs H Q => ∀ pins s σ us, Inv X pins σ H s → Vals xs us → wpAny (model X.prog X.w) X.A (call fv us) (EP X pins σ Q) X.xe s
theorem call_sem {fv : Value} : CallR X fv (rcS X fv) := fun pins s σ H xs us Q I r h => h pins s σ us I r
theorem rc_of {fv : Value} {r : List V → Hp → VK → Prop} (c : CallR X fv r) {xs : List V} {H : Hp} {Q : VK} (h : r xs H Q) : rcS X fv xs H Q := fun pins s σ us I rv => c pins s σ H xs us Q I rv h
def SVN (X : Cx) (J : Hp → Prop) (fv : Value) (f : List D → Sto → Option (Out D)) : Prop :=
  ∀ R st H ds vs out Q E, f ds st = some out → Gd X.K J R st H → RelDs X.K R H ds vs → Tk X E → OkO X.K J R H (RelD X.K) Q E out → rcS X fv vs H Q
/-- .. one argument, a new list -/
def SVF (X : Cx) (J : Hp → Prop) (fv : Value) (f : List D → Sto → Option (Out D)) : Prop :=
  ∀ R st H ds a xs out Q E, f ds st = some out → Gd X.K J R st H → H a = some (.lst xs) → RelDs X.K R H ds xs → Tk X E → OkO X.K J R H (RelD X.K) Q E out → rcS X fv [.ref a] H Q
def mB (f : List D → Sto → Option (Out D)) (m : M (List D)) : M D := mBind m fun ds => fun _ st => f ds st
def bOr (f f' : List D → Sto → Option (Out D)) (ds : List D) (st : Sto) : Option (Out D) := match f ds st with
  | some o => some o
  | none => f' ds st
theorem svn_or {fv : Value} {f f' : List D → Sto → Option (Out D)} (a : SVN X J fv f) (b : SVN X J fv f') : SVN X J fv (bOr f f') := by
  intro R st H ds vs out Q E h g r t o
  unfold bOr at h
  split at h
  · rename_i o' e
    cases h
    exact a R st H ds vs _ Q E e g r t o
  · exact b R st H ds vs _ Q E h g r t o
theorem se_blt {x : Str} {id : String} {p pos : Pos} {e : Expr} {es : List Expr} {m : M (List D)} {f : List D → Sto → Option (Out D)} (hc : SVN X J (.builtin id) f) (hg : Gl X x) (hm : X.mg x = none) (hv : bootBuiltins x = some (.builtin id)) (S : SA X J (e :: es) m) (hn : x ≠ "__name__") (hdb : (x == ("__debug__" : Str)) = false)
    (he : starEach (e :: es) X.env = (false, eval e X.env) :: starEach es X.env) (hpl : (backTo pos (starEach es X.env)).any (·.1) = false) : SE X J (.Call (.Name x p) (e :: es) [] pos) (mB f m) := by
  intro R env st σ H out Q E h g r t o
  refine sem_of (pe_callB call_sem hg hm hv pa_sem hn hdb he hpl) ?_
  refine sa_then S h g r t o fun R1 st1 H1 ds vs e1 g1 r1 rd h1 o1 => ?_
  exact hc R1 st1 H1 ds vs out Q E h1 g1 rd t o1
theorem se_blty {x : Str} {T : String} {p pos : Pos} {e : Expr} {es : List Expr} {m : M (List D)} {f : List D → Sto → Option (Out D)} (hc : SVN X J (.type T) f) (hg : Gl X x) (hm : X.mg x = none) (hv : bootBuiltins x = some (.type T)) (S : SA X J (e :: es) m) (hn : x ≠ "__name__") (hdb : (x == ("__debug__" : Str)) = false)
    (he : starEach (e :: es) X.env = (false, eval e X.env) :: starEach es X.env) (hpl : (backTo pos (starEach es X.env)).any (·.1) = false) : SE X J (.Call (.Name x p) (e :: es) [] pos) (mB f m) := by
  intro R env st σ H out Q E h g r t o
  refine sem_of (pe_callTy call_sem hg hm hv pa_sem hn hdb he hpl) ?_
  refine sa_then S h g r t o fun R1 st1 H1 ds vs e1 g1 r1 rd h1 o1 => ?_
  exact hc R1 st1 H1 ds vs out Q E h1 g1 rd t o1
theorem fresh_arg {e : Expr} {m : M (List D)} {fv : Value} {f : List D → Sto → Option (Out D)} (hc : SVF X J fv f) (S : SL X J e m) (hs : starEach [e] X.env = (false, eval e X.env) :: starEach [] X.env) {R : List Addr} {env : En} {st : Sto} {σ : Sg} {H : Hp} {out : Out D} {Q : VK} {E : XK}
    (h : mB f m env st = some out) (g : Gd X.K J R st H) (r : EnR X.K R H env σ) (t : Tk X E) (o : OkO X.K J R H (RelD X.K) Q E out) : taSem X [e] σ H fun vs H1 => rcS X fv vs H1 Q := by
  refine sem_ofA (pa_cons pe_sem pa_nil hs) ?_
  refine sl_then S h g r t o fun R1 st1 H1 ds v e1 g1 r1 rd h1 o1 => ?_
  obtain ⟨a, xs, rfl, h0, hR, hx, rx⟩ := rd
  exact hc R1 st1 H1 ds a xs out Q E h1 g1 hx rx t o1
theorem se_bltF {x : Str} {id : String} {p pos : Pos} {e : Expr} {m : M (List D)} {f : List D → Sto → Option (Out D)} (hc : SVF X J (.builtin id) f) (hg : Gl X x) (hm : X.mg x = none) (hv : bootBuiltins x = some (.builtin id)) (S : SL X J e m) (hn : x ≠ "__name__") (hdb : (x == ("__debug__" : Str)) = false)
    (he : starEach [e] X.env = (false, eval e X.env) :: starEach [] X.env) : SE X J (.Call (.Name x p) [e] [] pos) (mB f m) := by
  intro R env st σ H out Q E h g r t o
  exact sem_of (pe_callB call_sem hg hm hv pa_sem hn hdb he rfl) (fresh_arg hc S he h g r t o)
theorem se_bltyF {x : Str} {T : String} {p pos : Pos} {e : Expr} {m : M (List D)} {f : List D → Sto → Option (Out D)} (hc : SVF X J (.type T) f) (hg : Gl X x) (hm : X.mg x = none) (hv : bootBuiltins x = some (.type T)) (S : SL X J e m) (hn : x ≠ "__name__") (hdb : (x == ("__debug__" : Str)) = false)
    (he : starEach [e] X.env = (false, eval e X.env) :: starEach [] X.env) : SE X J (.Call (.Name x p) [e] [] pos) (mB f m) := by
  intro R env st σ H out Q E h g r t o
  exact sem_of (pe_callTy call_sem hg hm hv pa_sem hn hdb he rfl) (fresh_arg hc S he h g r t o)

/-! isinstance -/
def tyD (st : Sto) : D → Option String
  | .non => some "NoneType"
  | .bl _ => some "bool"
  | .int _ => some "int"
  | .str _ => some "str"
  | .tup _ => some "tuple"
  | .rol _ => some "list"
  | .loc n => match st[n]? with
    | some (.lst _) => some "list"
    | some (.dct _) => some "dict"
    | _ => none
  | _ => none
theorem tyD_rel {R : List Addr} {st : Sto} {H : Hp} {d : D} {v : V} {T : String} (g : Gd X.K J R st H) (h : tyD st d = some T) (r : RelD X.K R H d v) : TyX X.K H v (.type T) := by
  cases d with
  | non => simp only [tyD, Option.some.injEq] at h; simp only [RelD] at r; subst h; subst r; exact .base .non
  | bl b => simp only [tyD, Option.some.injEq] at h; simp only [RelD] at r; subst h; subst r; exact .base (.bl _)
  | int b => simp only [tyD, Option.some.injEq] at h; simp only [RelD] at r; subst h; subst r; exact .base (.int _)
  | str b => simp only [tyD, Option.some.injEq] at h; simp only [RelD] at r; subst h; subst r; exact .base (.str _)
  | ty b => simp [tyD] at h
  | glo b => simp [tyD] at h
  | tup ds =>
    simp only [tyD, Option.some.injEq] at h
    simp only [RelD] at r
    obtain ⟨a, xs, rfl, sx, _⟩ := r
    subst h
    rcases sx with (sx | ⟨o, sx⟩) | ⟨o, its, n, h1, h2, _⟩
    · exact .base (.tup sx)
    · exact .fTuple sx
    · exact .kTuple h1 h2
  | rol ds =>
    simp only [tyD, Option.some.injEq] at h
    simp only [RelD] at r
    obtain ⟨a, xs, rfl, sx, _⟩ := r
    subst h
    rcases sx.sq with (sx | ⟨o, sx⟩) | ⟨o, its, n, h1, h2, _⟩
    · exact .base (.lst sx)
    · exact .base (.frz sx)
    · exact .kList h1 h2
  | loc n =>
    simp only [RelD] at r
    obtain ⟨a, rfl, ra⟩ := r
    simp only [tyD] at h
    split at h
    · rename_i ds e
      cases h
      obtain ⟨xs, hx, _⟩ := g.ob n _ a e ra
      exact .base (.lst hx)
    · rename_i ds e
      cases h
      obtain ⟨xs, hx, _⟩ := g.ob n _ a e ra
      exact .base (.dK hx)
    · cases h
def bIsi (ds : List D) (st : Sto) : Option (Out D) := match ds with
  | [d, .ty T] => match tyD st d with
    | some S => match kitB S T with
      | some b => some (.ok (.bl b) st)
      | none => none
    | none => none
  | _ => none
theorem svn_isi : SVN X J (.builtin "isinstance") bIsi := by
  intro R st H ds vs out Q E h g r t o
  unfold bIsi at h
  split at h
  · rename_i d T
    split at h
    · rename_i S hS
      split at h
      · rename_i b hb
        cases h
        obtain ⟨v, w, rfl, rv, rw'⟩ := twoOf r
        simp only [RelD] at rw'
        subst rw'
        exact rc_of call_isi ⟨v, .ty T, .type S, .type T, b, rfl, .ty T, tyD_rel g hS rv, kit_ty hb, o R H _ Ex.refl g relBl⟩
      · cases h
    · cases h
  · cases h
/-! len -/
def bLen (ds : List D) (st : Sto) : Option (Out D) := match ds with
  | [.tup l] => some (.ok (.int l.length) st)
  | [.rol l] => some (.ok (.int l.length) st)
  | [.loc n] => match st[n]? with
    | some (.lst l) => some (.ok (.int l.length) st)
    | some (.dct l) => some (.ok (.int l.length) st)
    | _ => none
  | _ => none
theorem svn_len : SVN X J (.builtin "len") bLen := by
  intro R st H ds vs out Q E h g r t o
  unfold bLen at h
  split at h
  · cases h
    obtain ⟨v, rfl, rv⟩ := one_of r
    simp only [RelD] at rv
    obtain ⟨a, xs, rfl, sx, rx⟩ := rv
    exact rc_of call_len_seq ⟨a, xs, rfl, .inr sx, by rw [← rx.length]; exact o R H _ Ex.refl g relInt⟩
  · cases h
    obtain ⟨v, rfl, rv⟩ := one_of r
    simp only [RelD] at rv
    obtain ⟨a, xs, rfl, sx, rx⟩ := rv
    exact rc_of call_len_seq ⟨a, xs, rfl, .inl sx.sq, by rw [← rx.length]; exact o R H _ Ex.refl g relInt⟩
  · rename_i n
    obtain ⟨v, rfl, rv⟩ := one_of r
    simp only [RelD] at rv
    obtain ⟨a, rfl, ra⟩ := rv
    split at h
    · rename_i l e
      cases h
      obtain ⟨xs, hx, rx⟩ := g.ob n _ a e ra
      exact rc_of call_len_seq ⟨a, xs, rfl, .inl (SqL.of hx), by rw [← rx.length]; exact o R H _ Ex.refl g relInt⟩
    · rename_i l e
      cases h
      obtain ⟨xs, hx, rx⟩ := g.ob n _ a e ra
      exact rc_of call_lenD ⟨a, xs, rfl, hx, by rw [← rx.length]; exact o R H _ Ex.refl g relInt⟩
    · cases h
  · cases h
def bLenF (ds : List D) (st : Sto) : Option (Out D) := some (.ok (.int ds.length) st)
theorem svf_len : SVF X J (.builtin "len") bLenF := by
  intro R st H ds a xs out Q E h g hx rx t o
  cases h
  exact rc_of call_len_seq ⟨a, xs, rfl, .inl (SqL.of hx), by rw [← rx.length]; exact o R H _ Ex.refl g relInt⟩
/-! all, any -/
def bools? : List D → Option (List Bool)
  | [] => some []
  | .bl b :: ds => match bools? ds with
    | some l => some (b :: l)
    | none => none
  | _ :: _ => none
theorem bools_rel {K : PySem.W.Frag} {R : List Addr} {H : Hp} : ∀ {ds : List D} {ns : List Bool} {vs : List V}, bools? ds = some ns → RelDs K R H ds vs → vs = ns.map V.bl
  | [], _, _, h, r => by
    simp only [bools?, Option.some.injEq] at h
    simp only [RelDs] at r
    subst h; subst r; rfl
  | d :: ds, _, _, h, r => by
    simp only [RelDs] at r
    obtain ⟨v, ws, rfl, r1, r2⟩ := r
    cases d with
    | bl i =>
      simp only [bools?] at h
      split at h
      · rename_i l e
        cases h
        simp only [RelD] at r1
        subst r1
        rw [bools_rel e r2]
        rfl
      · cases h
    | _ => simp [bools?] at h
def bAllF (ds : List D) (st : Sto) : Option (Out D) := match bools? ds with
  | some l => some (.ok (.bl (l.all id)) st)
  | none => none
def bAnyF (ds : List D) (st : Sto) : Option (Out D) := match bools? ds with
  | some l => some (.ok (.bl (l.any id)) st)
  | none => none
theorem svf_all (hc : X.calm = true) : SVF X J (.builtin "all") bAllF := by
  intro R st H ds a xs out Q E h g hx rx t o
  unfold bAllF at h
  split at h
  · rename_i l e
    cases h
    rw [bools_rel e rx] at hx
    exact rc_of (cr_all hc) ⟨a, l, rfl, SqL.of hx, o R H _ Ex.refl g relBl⟩
  · cases h
theorem svf_any (hc : X.calm = true) : SVF X J (.builtin "any") bAnyF := by
  intro R st H ds a xs out Q E h g hx rx t o
  unfold bAnyF at h
  split at h
  · rename_i l e
    cases h
    rw [bools_rel e rx] at hx
    exact rc_of (cr_any hc) ⟨a, l, rfl, SqL.of hx, o R H _ Ex.refl g relBl⟩
  · cases h
/-! tuple -/
def bTupF (ds : List D) (st : Sto) : Option (Out D) := some (.ok (.tup ds) st)
theorem svf_tup (j : JS J) : SVF X J (.type "tuple") bTupF := by
  intro R st H ds a xs out Q E h g hx rx t o
  cases h
  refine rc_of call_tuple_of ⟨a, xs, rfl, .inl ⟨SqL.of hx, fun p hp => o R _ _ (Ex.new hp) (g.new j hp) ?_⟩⟩
  simp only [RelD]
  exact ⟨p, xs, rfl, SqT.of upd_same, rx.mono (Ex.new hp).toEx0⟩
def bTup (ds : List D) (st : Sto) : Option (Out D) := match ds with
  | [.tup l] => some (.ok (.tup l) st)
  | [.rol l] => some (.ok (.tup l) st)
  | [.loc n] => match st[n]? with
    | some (.lst l) => some (.ok (.tup l) st)
    | _ => none
  | _ => none
theorem svn_tup (j : JS J) : SVN X J (.type "tuple") bTup := by
  intro R st H ds vs out Q E h g r t o
  have fin : ∀ (a : Addr) (xs : List V) (l : List D), SqL X.K H a xs → RelDs X.K R H l xs → out = .ok (.tup l) st → rcS X (.type "tuple") [.ref a] H Q := fun a xs l sx rx eo => by
    subst eo
    refine rc_of call_tuple_of ⟨a, xs, rfl, .inl ⟨sx, fun p hp => o R _ _ (Ex.new hp) (g.new j hp) ?_⟩⟩
    simp only [RelD]
    exact ⟨p, xs, rfl, SqT.of upd_same, rx.mono (Ex.new hp).toEx0⟩
  unfold bTup at h
  split at h
  · cases h
    obtain ⟨v, rfl, rv⟩ := one_of r
    have rv0 := rv
    simp only [RelD] at rv
    obtain ⟨a, xs, rfl, sx, rx⟩ := rv
    exact rc_of call_tuple_of ⟨a, xs, rfl, .inr ⟨sx, o R H _ Ex.refl g rv0⟩⟩
  · cases h
    obtain ⟨v, rfl, rv⟩ := one_of r
    simp only [RelD] at rv
    obtain ⟨a, xs, rfl, sx, rx⟩ := rv
    exact fin a xs _ sx.sq rx rfl
  · rename_i n
    obtain ⟨v, rfl, rv⟩ := one_of r
    simp only [RelD] at rv
    obtain ⟨a, rfl, ra⟩ := rv
    split at h
    · rename_i l e
      cases h
      obtain ⟨xs, hx, rx⟩ := g.ob n _ a e ra
      exact fin a xs _ (SqL.of hx) rx rfl
    · cases h
  · cases h
end
end TA
/-! methods of lists and dicts, displays, lists that are made -/
namespace TA
open PySem PySem.Spec
open PyProof.Rows L2

def plainArg : Expr → Bool
  | .Starred _ _ => false
  | _ => true
def plainArgs : List Expr → Bool
  | [] => true
  | e :: es => plainArg e && plainArgs es
theorem star_cons {e : Expr} {es : List Expr} {env : Env} (h : plainArg e = true) : starEach (e :: es) env = (false, eval e env) :: starEach es env := by
  cases e <;> first | rfl | cases h
theorem star_any {env : Env} {pos : Pos} : ∀ {es : List Expr}, plainArgs es = true → (backTo pos (starEach es env)).any (·.1) = false
  | [], _ => rfl
  | e :: es, h => by
    simp only [plainArgs, Bool.and_eq_true] at h
    rw [star_cons h.1]
    have ih := star_any (env := env) (pos := pos) h.2
    show (backTo pos ((false, eval e env) :: starEach es env)).any (·.1) = false
    unfold backTo at ih ⊢
    simp only [List.map_cons, List.any_cons, Bool.false_or]
    exact ih
theorem few_ok {env : Env} {cpos : Pos} : ∀ {es : List Expr}, plainArgs es = true → es.length < 20 → ((backTo cpos (starEach es env)).all (fun x => !x.1) && (backToKw cpos (keywordEach [] env)).all (fun x => x.1.isSome)
      && decide (es.length + ([] : List Keyword).length + (if ([] : List Keyword).isEmpty then 0 else 1) < 30)) = true := fun {es} h hl => by
  have h1 : (backTo cpos (starEach es env)).all (fun x => !x.1) = true := by
    have := star_any (env := env) (pos := cpos) h
    rw [List.all_eq_not_any_not]
    simpa using this
  rw [h1]
  simp [keywordEach, backToKw]
  omega
/-- bases of an attribute that are read plainly -/
def plainBase : Expr → Bool
  | .Name _ _ => true
  | .Subscript _ _ _ => true
  | _ => false
section
variable {X : Cx} {J : Hp → Prop}
def rmS (X : Cx) (id : String) : V → List V → Hp → VK → Prop := fun x xs H Q => ∀ pins s σ v us, Inv X pins σ H s → RelV x v → Vals xs us → wpAny (model X.prog X.w) X.A (call (.builtin id) (v :: us)) (EP X pins σ Q) X.xe s
theorem mt_sem {id : String} : MtR X id (rmS X id) := fun pins s σ H x xs v us Q I rx rs h => h pins s σ v us I rx rs
theorem rm_of {id : String} {r : V → List V → Hp → VK → Prop} (m : MtR X id r) {x : V} {xs : List V} {H : Hp} {Q : VK} (h : r x xs H Q) : rmS X id x xs H Q := fun pins s σ v us I rx rs => m pins s σ H x xs v us Q I rx rs h
/-- a method, by data: the receiver, the arguments -/
def SVM (X : Cx) (J : Hp → Prop) (id : String) (f : D → List D → Sto → Option (Out D)) : Prop :=
  ∀ R st H d ds v vs out Q E, f d ds st = some out → Gd X.K J R st H → RelD X.K R H d v → RelDs X.K R H ds vs → Tk X E → OkO X.K J R H (RelD X.K) Q E out → rmS X id v vs H Q
/-- .. the one argument a new list -/
def SVMF (X : Cx) (J : Hp → Prop) (id : String) (f : D → List D → Sto → Option (Out D)) : Prop :=
  ∀ R st H d ds v a xs out Q E, f d ds st = some out → Gd X.K J R st H → RelD X.K R H d v → a ∉ R → H a = some (.lst xs) → RelDs X.K R H ds xs → Tk X E → OkO X.K J R H (RelD X.K) Q E out → rmS X id v [.ref a] H Q
def isTy (T : String) (d : D) (st : Sto) : Bool := match tyD st d with
  | some S => decide (S = T)
  | none => false
def mMeth (T : String) (f : D → List D → Sto → Option (Out D)) (mo : M D) (ma : M (List D)) : M D := mBind mo fun d => fun env st => match isTy T d st with
  | true => mBind ma (fun ds => fun _ st => f d ds st) env st
  | false => none
theorem tyV_of {R : List Addr} {st : Sto} {H : Hp} {d : D} {v : V} {T : String} (g : Gd X.K J R st H) (h : isTy T d st = true) (hT : T = "list" ∨ T = "dict") (r : RelD X.K R H d v) : tyV X.K T v H := by
  unfold isTy at h
  split at h
  · rename_i S hS
    have hS' : S = T := of_decide_eq_true h
    subst hS'
    cases d with
    | rol ds =>
      simp only [tyD, Option.some.injEq] at hS
      subst hS
      simp only [RelD] at r
      obtain ⟨a, xs, rfl, sx, _⟩ := r
      exact .inl ⟨rfl, xs, sx.sq⟩
    | loc n =>
      simp only [RelD] at r
      obtain ⟨a, rfl, ra⟩ := r
      simp only [tyD] at hS
      split at hS
      · rename_i ds e
        cases hS
        obtain ⟨xs, hx, _⟩ := g.ob n _ a e ra
        exact .inl ⟨rfl, xs, SqL.of hx⟩
      · rename_i ds e
        cases hS
        obtain ⟨xs, hx, _⟩ := g.ob n _ a e ra
        exact .inr (.inr (.inl ⟨rfl, .inl ⟨xs, hx⟩⟩))
      · cases hS
    | non => simp only [tyD, Option.some.injEq] at hS; subst hS; rcases hT with z | z <;> simp at z
    | bl b => simp only [tyD, Option.some.injEq] at hS; subst hS; rcases hT with z | z <;> simp at z
    | int b => simp only [tyD, Option.some.injEq] at hS; subst hS; rcases hT with z | z <;> simp at z
    | str b => simp only [tyD, Option.some.injEq] at hS; subst hS; rcases hT with z | z <;> simp at z
    | tup b => simp only [tyD, Option.some.injEq] at hS; subst hS; rcases hT with z | z <;> simp at z
    | ty b => simp [tyD] at hS
    | glo b => simp [tyD] at hS
  · cases h
theorem se_meth {T id : String} {name : Str} {o e : Expr} {es : List Expr} {apos cpos : Pos} {mo : M D} {ma : M (List D)} {f : D → List D → Sto → Option (Out D)} (hT : T = "list" ∨ T = "dict") (pa : PlainAttrs T) (slot : Slot T name id) (hty : typeOf (.builtin id) = pure (.type "method_descriptor")) (hm : SVM X J id f)
    (So : SE X J o mo) (Sa : SA X J (e :: es) ma) (hbase : attributeBase o name X.env (eval o X.env) = eval o X.env) (hp : plainArgs (e :: es) = true) (hl : (e :: es).length < 20) (hline : (apos.endLine == cpos.line) = true) :
    SE X J (.Call (.Attribute o name apos) (e :: es) [] cpos) (mMeth T f mo ma) := by
  have hp' := hp
  simp only [plainArgs, Bool.and_eq_true] at hp'
  intro R env st σ H out Q E h g r t k
  refine sem_of (pe_bm pa slot hty mt_sem pe_sem pa_sem hbase (few_ok hp hl) hline (star_cons hp'.1) (star_any hp'.2)) ?_
  refine se_then So h g r t k fun R1 st1 H1 d v e1 g1 r1 rd h1 o1 => ?_
  split at h1
  · rename_i ht
    refine ⟨tyV_of g1 ht hT rd, ?_⟩
    refine sa_then Sa h1 g1 r1 t o1 fun R2 st2 H2 ds vs e2 g2 r2 rds h2 o2 => ?_
    exact hm R2 st2 H2 d ds v vs out Q E h2 g2 (rd.mono e2.toEx0) rds t o2
  · cases h1
theorem se_methF {T id : String} {name : Str} {o e : Expr} {apos cpos : Pos} {mo : M D} {ma : M (List D)} {f : D → List D → Sto → Option (Out D)} (hT : T = "list" ∨ T = "dict") (pa : PlainAttrs T) (slot : Slot T name id) (hty : typeOf (.builtin id) = pure (.type "method_descriptor")) (hm : SVMF X J id f)
    (So : SE X J o mo) (Sa : SL X J e ma) (hbase : attributeBase o name X.env (eval o X.env) = eval o X.env) (hp : plainArg e = true) (hline : (apos.endLine == cpos.line) = true) :
    SE X J (.Call (.Attribute o name apos) [e] [] cpos) (mMeth T f mo ma) := by
  have hp' : plainArgs [e] = true := by simp [plainArgs, hp]
  intro R env st σ H out Q E h g r t k
  refine sem_of (pe_bm pa slot hty mt_sem pe_sem pa_sem hbase (few_ok hp' (by simp)) hline (star_cons hp) rfl) ?_
  refine se_then So h g r t k fun R1 st1 H1 d v e1 g1 r1 rd h1 o1 => ?_
  split at h1
  · rename_i ht
    refine ⟨tyV_of g1 ht hT rd, ?_⟩
    refine sem_ofA (pa_cons pe_sem pa_nil (star_cons hp)) ?_
    refine sl_then Sa h1 g1 r1 t o1 fun R2 st2 H2 ds w e2 g2 r2 rw' h2 o2 => ?_
    obtain ⟨a, xs, rfl, h0, hR, hx, rx⟩ := rw'
    exact hm R2 st2 H2 d ds v a xs out Q E h2 g2 (rd.mono e2.toEx0) hR hx rx t o2
  · cases h1
theorem se_meth0 {T id : String} {name : Str} {o : Expr} {apos cpos : Pos} {mo : M D} {f : D → List D → Sto → Option (Out D)} (hT : T = "list" ∨ T = "dict") (pa : PlainAttrs T) (slot : Slot T name id) (hty : typeOf (.builtin id) = pure (.type "method_descriptor")) (hm : SVM X J id f)
    (So : SE X J o mo) (hbase : attributeBase o name X.env (eval o X.env) = eval o X.env) (hline : (apos.endLine == cpos.line) = true) :
    SE X J (.Call (.Attribute o name apos) [] [] cpos) (mMeth T f mo mNil) := by
  intro R env st σ H out Q E h g r t k
  refine sem_of (pe_bm0 pa slot hty mt_sem pe_sem hbase hline) ?_
  refine se_then So h g r t k fun R1 st1 H1 d v e1 g1 r1 rd h1 o1 => ?_
  split at h1
  · rename_i ht
    refine ⟨tyV_of g1 ht hT rd, ?_⟩
    exact hm R1 st1 H1 d [] v [] out Q E h1 g1 rd (by simp only [RelDs]) t o1
  · cases h1
/-! append, extend -/
def vAppend (d : D) (ds : List D) (st : Sto) : Option (Out D) := match d, ds with
  | .loc n, [x] => match st[n]? with
    | some (.lst l) => match Nat.blt l.length 1000000 with
      | true => some (.ok .non (st.set n (.lst (l ++ [x]))))
      | false => none
    | _ => none
  | _, _ => none
theorem small_lt {n : Nat} (h : Nat.blt n 1000000 = true) : n < sizeLine := by
  have := Nat.le_of_ble_eq_true h
  rw [sizeLine_eq]
  omega
theorem svm_append (j : JS J) : SVM X J "list.append" vAppend := by
  intro R st H d ds v vs out Q E h g rd rds t o
  unfold vAppend at h
  split at h
  · rename_i n x
    split at h
    · rename_i l e
      split at h
      · rename_i hl
        cases h
        simp only [RelD] at rd
        obtain ⟨a, rfl, ra⟩ := rd
        obtain ⟨w, rfl, rw'⟩ := one_of rds
        obtain ⟨xs, hx, rx⟩ := g.ob n _ a e ra
        refine rm_of mt_append ⟨a, xs, w, rfl, rfl, hx, by rw [← rx.length]; exact small_lt hl, ?_⟩
        have ex := Ex.put (u := .lst (xs ++ [w])) (List.mem_of_getElem? ra) hx rfl
        refine o R _ _ ex (g.put j ra hx rfl rfl ⟨_, upd_same, RelDs.mono ex.toEx0 (rx.app ?_)⟩) relNon
        simp only [RelDs]
        exact ⟨w, [], rfl, rw', rfl⟩
      · cases h
    · cases h
  · cases h
def vExtendF (d : D) (ds : List D) (st : Sto) : Option (Out D) := match d with
  | .loc n => match st[n]? with
    | some (.lst l) => match Nat.ble (l.length + ds.length) 1000000 with
      | true => some (.ok .non (st.set n (.lst (l ++ ds))))
      | false => none
    | _ => none
  | _ => none
theorem svmf_extend (j : JS J) : SVMF X J "list.extend" vExtendF := by
  intro R st H d ds v b zs out Q E h g rd hb hz rz t o
  unfold vExtendF at h
  split at h
  · rename_i n
    split at h
    · rename_i l e
      split at h
      · rename_i hl
        cases h
        simp only [RelD] at rd
        obtain ⟨a, rfl, ra⟩ := rd
        obtain ⟨xs, hx, rx⟩ := g.ob n _ a e ra
        refine rm_of mt_extend ⟨a, b, xs, zs, rfl, rfl, hx, hz, by rw [← rx.length, ← rz.length]; exact szL hl, ?_⟩
        have ex := Ex.put (u := .lst (xs ++ zs)) (List.mem_of_getElem? ra) hx rfl
        exact o R _ _ ex (g.put j ra hx rfl rfl ⟨_, upd_same, RelDs.mono ex.toEx0 (rx.app rz)⟩) relNon
      · cases h
    · cases h
  · cases h
def vExtend (d : D) (ds : List D) (st : Sto) : Option (Out D) := match ds with
  | [.loc m] => match st[m]? with
    | some (.lst l) => vExtendF d l st
    | _ => none
  | _ => none
theorem svm_extend (j : JS J) : SVM X J "list.extend" vExtend := by
  intro R st H d ds v vs out Q E h g rd rds t o
  unfold vExtend at h
  split at h
  · rename_i m
    split at h
    · rename_i l em
      obtain ⟨w, rfl, rw'⟩ := one_of rds
      simp only [RelD] at rw'
      obtain ⟨b, rfl, rb⟩ := rw'
      obtain ⟨zs, hz, rz⟩ := g.ob m _ b em rb
      unfold vExtendF at h
      split at h
      · rename_i n
        split at h
        · rename_i l' e
          split at h
          · rename_i hl
            cases h
            simp only [RelD] at rd
            obtain ⟨a, rfl, ra⟩ := rd
            obtain ⟨xs, hx, rx⟩ := g.ob n _ a e ra
            refine rm_of mt_extend ⟨a, b, xs, zs, rfl, rfl, hx, hz, by rw [← rx.length, ← rz.length]; exact szL hl, ?_⟩
            have ex := Ex.put (u := .lst (xs ++ zs)) (List.mem_of_getElem? ra) hx rfl
            exact o R _ _ ex (g.put j ra hx rfl rfl ⟨_, upd_same, RelDs.mono ex.toEx0 (rx.app rz)⟩) relNon
          · cases h
        · cases h
      · cases h
    · cases h
  · cases h
/-! update of a dict by another one -/
def mergeV (kvs more : List (Key × V)) : List (Key × V) := more.foldl (fun acc kv => putK acc kv.1 kv.2) kvs
def mergeD (kvs more : List (Key × D)) : List (Key × D) := more.foldl (fun acc kv => setK acc kv.1 kv.2) kvs
theorem kv_merge : ∀ {more : List (Key × V)} {ms : List (Key × Value)} {kvs : List (Key × V)} {vs : List (Key × Value)}, KV kvs vs → KV more ms → KV (mergeV kvs more) (merged vs ms)
  | [], _, kvs, vs, r, q => by cases q; exact r
  | p :: more, _, kvs, vs, r, q => by
    cases q with
    | cons q1 q2 =>
      obtain ⟨k, v⟩ := p
      rename_i p' ms'
      obtain ⟨k', u⟩ := p'
      obtain ⟨e1, e2⟩ := q1
      have e1 : k = k' := e1
      subst e1
      show KV (mergeV (putK kvs k v) more) (merged (stored vs k u) ms')
      exact kv_merge (KV.put r k e2) q2
theorem mergeV_len (kvs : List (Key × V)) : ∀ more : List (Key × V), (mergeV kvs more).length ≤ kvs.length + more.length := fun more => by
  induction more generalizing kvs with
  | nil => simp [mergeV]
  | cons p r ih =>
    have h := ih (putK kvs p.1 p.2)
    have h2 := length_putK kvs p.1 p.2
    show (mergeV (putK kvs p.1 p.2) r).length ≤ _
    simp only [List.length_cons]
    omega
theorem mt_update : MtR X "dict.update" (fun x xs H Q => ∃ a b kvs more, x = .ref a ∧ xs = [.ref b] ∧ H a = some (.dK kvs) ∧ H b = some (.dK more) ∧ a ≠ b ∧ kvs.length + more.length ≤ sizeLine ∧ Q .non (upd H a (.dK (mergeV kvs more)))) := by
  intro pins s σ H x xs v us Q I rx rv h
  obtain ⟨a, b, kvs, more, rfl, rfl, ha, hb, hab, hz, q⟩ := h
  cases rx
  obtain ⟨u, rfl, ru⟩ := rv.one
  cases ru
  obtain ⟨z1, hs1, vs, rel1, d1⟩ := dk_of I.hok ha
  obtain ⟨z2, hs2, ms, rel2, d2⟩ := dk_of I.hok hb
  refine call_meetsIn PySem.F.slot_dict_update d1.typeIs PySem.F.entry_dict_update (PySem.F.args_dict_update_2 _ _) (meets_dict_update (mixKind X.prog X.w) a b hab hs2) ⟨vs, ms, d1, d2, by rw [← rel1.length, ← rel2.length]; exact hz, fun h' dn _ hsb => ?_⟩
  have he : ∃ q, h'.get? a = some q := let ⟨q, _, _, hq, _⟩ := dn; ⟨q, hq⟩
  have hl : (mergeV kvs more).length ≤ sizeLine := Nat.le_trans (mergeV_len kvs more) hz
  exact ⟨.non, _, d_write (t' := s.toks) I (by rw [ha]; exact True.intro) hsb he (dk_new hl hs1 (kv_merge rel1 rel2) dn), rfl, q⟩
theorem merge_rel {K : PySem.W.Frag} {R : List Addr} {H : Hp} : ∀ {more : List (Key × D)} {ms : List (Key × V)} {kvs : List (Key × D)} {xs : List (Key × V)}, RelKv K R H kvs xs → RelKv K R H more ms → RelKv K R H (mergeD kvs more) (mergeV xs ms)
  | [], _, kvs, xs, r, q => by simp only [RelKv] at q; subst q; exact r
  | p :: more, _, kvs, xs, r, q => by
    simp only [RelKv] at q
    obtain ⟨w, ws, rfl, q1, q2⟩ := q
    show RelKv K R H (mergeD (setK kvs p.1 p.2) more) (mergeV (putK xs p.1 w) ws)
    exact merge_rel (setK_rel q1 r) q2
def vUpdate (d : D) (ds : List D) (st : Sto) : Option (Out D) := match d, ds with
  | .loc n, [.loc m] => match Nat.beq n m with
    | true => none
    | false => match st[n]?, st[m]? with
      | some (.dct l), some (.dct l') => match Nat.ble (l.length + l'.length) 1000000 with
        | true => some (.ok .non (st.set n (.dct (mergeD l l'))))
        | false => none
      | _, _ => none
  | _, _ => none
theorem svm_update (j : JS J) : SVM X J "dict.update" vUpdate := by
  intro R st H d ds v vs out Q E h g rd rds t o
  unfold vUpdate at h
  split at h
  · rename_i n m
    split at h
    · cases h
    · rename_i hnm
      split at h
      · rename_i l l' en em
        split at h
        · rename_i hl
          cases h
          simp only [RelD] at rd
          obtain ⟨a, rfl, ra⟩ := rd
          obtain ⟨w, rfl, rw'⟩ := one_of rds
          simp only [RelD] at rw'
          obtain ⟨b, rfl, rb⟩ := rw'
          obtain ⟨xs, hx, rx⟩ := g.ob n _ a en ra
          obtain ⟨ys, hy, ry⟩ := g.ob m _ b em rb
          have hne : n ≠ m := fun z => by rw [z, Nat.beq_refl] at hnm; cases hnm
          have hab : a ≠ b := fun z => hne ((List.getElem?_inj (List.getElem?_eq_some_iff.mp ra).1 g.nd).mp (ra.trans (z ▸ rb.symm)))
          refine rm_of mt_update ⟨a, b, xs, ys, rfl, rfl, hx, hy, hab, by rw [← rx.length, ← ry.length]; exact szL hl, ?_⟩
          have ex := Ex.put (u := .dK (mergeV xs ys)) (List.mem_of_getElem? ra) hx rfl
          exact o R _ _ ex (g.put j ra hx rfl rfl ⟨_, upd_same, RelKv.mono ex.toEx0 (merge_rel rx ry)⟩) relNon
        · cases h
      · cases h
  · cases h
/-! dicts that are made -/
def mDict0 : M D := fun _ st => some (.ok (.loc st.length) (st ++ [.dct []]))
theorem new_obj {R : List Addr} {st : Sto} {H : Hp} {p : Addr} {ho : HO} {ob : O} (j : JS J) (g : Gd X.K J R st H) (hp : H p = none) (r : ∀ R' H', Ex0 R R' H H' → H' p = some ho → ObjR X.K R' H' p ob) :
    Ex R (R ++ [p]) H (upd H p ho) ∧ Gd X.K J (R ++ [p]) (st ++ [ob]) (upd H p ho) ∧ RelD X.K (R ++ [p]) (upd H p ho) (.loc st.length) (.ref p) := by
  have hpR : p ∉ R := fun hm => by
    obtain ⟨n, o', _, _, z⟩ := g.mem hm
    exact z.some hp
  refine ⟨(Ex.new hp).snoc hp, (g.new j hp).push hpR (r R _ (Ex.new hp).toEx0 upd_same), ?_⟩
  simp only [RelD]
  exact ⟨p, rfl, by rw [← g.len, List.getElem?_append_right (Nat.le_refl _)]; simp⟩
theorem se_dict0 {pos : Pos} (j : JS J) : SE X J (.Dict [] [] pos) mDict0 := by
  intro R env st σ H out Q E h g r t o
  cases h
  refine sem_of pe_dnewK fun p hp => ?_
  obtain ⟨e, g', rd⟩ := new_obj (ho := .dK []) (ob := .dct []) j g hp fun R' H' _ hh => ⟨[], hh, by simp only [RelKv]⟩
  exact o _ _ _ e g' rd
end
end TA
/-! lists joined, sorted, stores, texts of data -/
namespace TA
open PySem PySem.Spec
open PyProof.Rows L2

/-- a list: a new one by its items, or what a name holds -/
inductive FL where
  | fr (ds : List D)
  | at (d : D)
def relX (K : PySem.W.Frag) : List Addr → Hp → FL → V → Prop := fun R H x v => match x with
  | .fr ds => ∃ p xs, v = .ref p ∧ p ∉ R ∧ H p = some (.lst xs) ∧ RelDs K R H ds xs
  | .at d => RelD K R H d v
def SX (X : Cx) (J : Hp → Prop) (e : Expr) (m : M FL) : Prop := ∀ R env st σ H out Q E, m env st = some out → Gd X.K J R st H → EnR X.K R H env σ → Tk X E → OkO X.K J R H (relX X.K) Q E out → tSem X e σ H Q
def mFr (m : M (List D)) : M FL := mBind m fun ds => mPure (.fr ds)
def mAt (m : M D) : M FL := mBind m fun d => mPure (.at d)
def flItems (st : Sto) : FL → Option (List D)
  | .fr ds => some ds
  | .at (.loc n) => match st[n]? with
    | some (.lst ds) => some ds
    | _ => none
  | _ => none
section
variable {X : Cx} {J : Hp → Prop}
theorem fresh_out {R R' : List Addr} {H H' : Hp} {p : Addr} {o : HO} (e : Ex R R' H H') (hp : p ∉ R) (h : H p = some o) : p ∉ R' := fun hm => by
  rcases e.nw p hm with q | q
  · exact hp q
  · rw [h] at q; cases q
theorem relX.mono {K : PySem.W.Frag} {R R' : List Addr} {H H' : Hp} {x : FL} {v : V} (e : Ex R R' H H') (r : relX K R H x v) : relX K R' H' x v := by
  cases x with
  | fr ds =>
    obtain ⟨p, xs, rfl, hp, hx, rx⟩ := r
    exact ⟨p, xs, rfl, fresh_out e hp hx, fresh_sq e hp hx, rx.mono e.toEx0⟩
  | «at» d => exact RelD.mono e.toEx0 r
theorem relX.items {R : List Addr} {H : Hp} {st : Sto} {x : FL} {v : V} {ds : List D} (g : Gd X.K J R st H) (h : flItems st x = some ds) (r : relX X.K R H x v) : ∃ p xs, v = .ref p ∧ H p = some (.lst xs) ∧ RelDs X.K R H ds xs := by
  cases x with
  | fr es =>
    obtain ⟨p, xs, rfl, hp, hx, rx⟩ := r
    cases h
    exact ⟨p, xs, rfl, hx, rx⟩
  | «at» d =>
    cases d with
    | loc n =>
      simp only [flItems] at h
      split at h
      · rename_i es e
        cases h
        have r : RelD X.K R H (.loc n) v := r
        simp only [RelD] at r
        obtain ⟨a, rfl, ra⟩ := r
        obtain ⟨xs, hx, rx⟩ := g.ob n _ a e ra
        exact ⟨a, xs, rfl, hx, rx⟩
      · cases h
    | _ => simp [flItems] at h
theorem sx_fr {e : Expr} {m : M (List D)} (S : SL X J e m) : SX X J e (mFr m) := by
  intro R env st σ H out Q E h g r t o
  refine sl_then S h g r t o fun R1 st1 H1 ds v e1 g1 r1 rd h1 o1 => ?_
  cases h1
  obtain ⟨p, xs, rfl, h0, hp, hx, rx⟩ := rd
  exact o1 R1 H1 _ Ex.refl g1 ⟨p, xs, rfl, hp, hx, rx⟩
theorem sx_at {e : Expr} {m : M D} (S : SE X J e m) : SX X J e (mAt m) := by
  intro R env st σ H out Q E h g r t o
  refine se_then S h g r t o fun R1 st1 H1 d v e1 g1 r1 rd h1 o1 => ?_
  cases h1
  exact o1 R1 H1 _ Ex.refl g1 rd
theorem sx_then {e : Expr} {m : M FL} (S : SX X J e m) {β γ : Type} {f : FL → M β} {R : List Addr} {env : En} {st : Sto} {σ : Sg} {H : Hp} {out : Out β} {E : XK} {rel : List Addr → Hp → β → γ → Prop} {Q : γ → Hp → Prop} {Q1 : VK}
    (h : mBind m f env st = some out) (g : Gd X.K J R st H) (r : EnR X.K R H env σ) (t : Tk X E) (o : OkO X.K J R H rel Q E out)
    (k : ∀ R1 st1 H1 d v, Ex R R1 H H1 → Gd X.K J R1 st1 H1 → EnR X.K R1 H1 env σ → relX X.K R1 H1 d v → f d env st1 = some out → OkO X.K J R1 H1 rel Q E out → Q1 v H1) : tSem X e σ H Q1 := by
  rcases bind_some h with ⟨d, st1, h1, h2⟩ | ⟨x, st1, h1, h2⟩
  · exact S R env st σ H _ Q1 E h1 g r t fun R1 H1 v e1 g1 r1 => k R1 st1 H1 d v e1 g1 (r.mono e1) r1 h2 (o.shift e1)
  · subst h2
    exact S R env st σ H _ Q1 E h1 g r t o
theorem none_back {R R' : List Addr} {H H' : Hp} {p : Addr} (e : Ex R R' H H') (h : H' p = none) : H p = none := by
  cases q : H p with
  | none => rfl
  | some w => exact absurd h (e.kp p (by rw [q]; simp))
theorem new_lst {R R0 : List Addr} {H H0 : Hp} {st : Sto} {p : Addr} {ds : List D} {xs : List V} (j : JS J) (e : Ex R0 R H0 H) (g : Gd X.K J R st H) (hp : H p = none) (rx : RelDs X.K R H ds xs) :
    Ex R R H (upd H p (.lst xs)) ∧ Gd X.K J R st (upd H p (.lst xs)) ∧ relL X.K H0 R (upd H p (.lst xs)) ds (.ref p) :=
  ⟨Ex.new hp, g.new j hp, p, xs, rfl, none_back e hp, fun hm => by
    obtain ⟨n, o', _, _, z⟩ := g.mem hm
    exact z.some hp, upd_same, rx.mono (Ex.new hp).toEx0⟩
/-! list + list -/
def mCat (a b : M FL) : M (List D) := mBind a fun x => mBind b fun y => fun _ st => match flItems st x, flItems st y with
  | some xs, some ys => match Nat.ble (xs.length + ys.length) 1000000 with
    | true => some (.ok (xs ++ ys) st)
    | false => none
  | _, _ => none
theorem sl_cat {a b : Expr} {pos : Pos} {ma mb : M FL} (j : JS J) (Sa : SX X J a ma) (Sb : SX X J b mb) : SL X J (.BinOp a .Add b pos) (mCat ma mb) := by
  intro R env st σ H out Q E h g r t o
  refine sem_of (pe_op op_cat pe_sem pe_sem) ?_
  refine sx_then Sa h g r t o fun R1 st1 H1 x v e1 g1 r1 rx h1 o1 => ?_
  refine sx_then Sb h1 g1 r1 t o1 fun R2 st2 H2 y w e2 g2 r2 ry h2 o2 => ?_
  split at h2
  · rename_i ds es hd he
    split at h2
    · rename_i hl
      cases h2
      obtain ⟨p, xs, rfl, hp, rxs⟩ := (rx.mono e2).items g2 hd
      obtain ⟨q, ys, rfl, hq, rys⟩ := ry.items g2 he
      refine ⟨p, q, xs, ys, rfl, rfl, hp, hq, by rw [← rxs.length, ← rys.length]; exact szL hl, fun n hn => ?_⟩
      obtain ⟨x1, x2, x3⟩ := new_lst (R0 := R) (H0 := H) j (e1.trans e2) g2 hn (rxs.app rys)
      exact o2 R2 _ _ x1 x2 x3
    · cases h2
  · cases h2
/-! list * n -/
def repD (n : Nat) (ds : List D) : List D := (List.replicate n ds).flatten
theorem rep_rel {K : PySem.W.Frag} {R : List Addr} {H : Hp} {ds : List D} {vs : List V} (r : RelDs K R H ds vs) : ∀ n, RelDs K R H (repD n ds) (List.replicate n vs).flatten
  | 0 => by simp [repD, RelDs]
  | n + 1 => by
    unfold repD
    rw [List.replicate_succ, List.replicate_succ, List.flatten_cons, List.flatten_cons]
    exact r.app (rep_rel r n)
def mRep (a : M FL) (b : M D) : M (List D) := mBind a fun x => mBind b fun y => fun _ st => match flItems st x, y with
  | some xs, .int k => match small k && Nat.ble (xs.length * k.toNat) 1000000 with
    | true => some (.ok (repD k.toNat xs) st)
    | false => none
  | _, _ => none
theorem sl_rep {a b : Expr} {pos : Pos} {ma : M FL} {mb : M D} (j : JS J) (Sa : SX X J a ma) (Sb : SE X J b mb) : SL X J (.BinOp a .Mult b pos) (mRep ma mb) := by
  intro R env st σ H out Q E h g r t o
  refine sem_of (pe_op op_rep pe_sem pe_sem) ?_
  refine sx_then Sa h g r t o fun R1 st1 H1 x v e1 g1 r1 rx h1 o1 => ?_
  refine se_then Sb h1 g1 r1 t o1 fun R2 st2 H2 y w e2 g2 r2 ry h2 o2 => ?_
  split at h2
  · rename_i ds k hd
    split at h2
    · rename_i hl
      obtain ⟨hk, hl⟩ := Bool.and_eq_true_iff.mp hl
      cases h2
      obtain ⟨p, xs, rfl, hp, rxs⟩ := (rx.mono e2).items g2 hd
      simp only [RelD] at ry
      have := small_ok hk
      refine ⟨p, k, xs, rfl, ry, hp, by omega, by omega, by rw [← rxs.length]; exact szL hl, fun n hn => ?_⟩
      obtain ⟨x1, x2, x3⟩ := new_lst (R0 := R) (H0 := H) j (e1.trans e2) g2 hn (rep_rel rxs k.toNat)
      exact o2 R2 _ _ x1 x2 x3
    · cases h2
  · cases h2
/-! tuple * n -/
def fRepT (d e : D) (st : Sto) : Option (Out D) := match d, e with
  | .tup ds, .int k => match !ds.isEmpty && decide (2 ≤ k) && decide (k ≤ 1000) && Nat.ble ds.length 1000 with
    | true => some (.ok (.tup (repD k.toNat ds)) st)
    | false => none
  | _, _ => none
theorem sv_repT (j : JS J) : SV2 X J (binaryOp .Mult) fRepT := by
  intro R st H dx dy x y out Q E h g rx ry t o
  unfold fRepT at h
  split at h
  · rename_i ds k
    split at h
    · rename_i hz
      simp only [Bool.and_eq_true, decide_eq_true_eq, Bool.not_eq_true'] at hz
      obtain ⟨⟨⟨h1, h2⟩, h3⟩, h4⟩ := hz
      cases h
      simp only [RelD] at rx ry
      obtain ⟨p, xs, rfl, sx, rx⟩ := rx
      have hl := rx.length
      have h4 := Nat.le_of_ble_eq_true h4
      refine rs_of op_repT ⟨p, k, xs, rfl, ry, sx, ?_, h2, h3, by omega, fun n hn => ?_⟩
      · rintro rfl
        have : ds = [] := List.length_eq_zero_iff.mp hl
        rw [this] at h1
        cases h1
      · refine o R _ _ (Ex.new hn) (g.new j hn) ?_
        simp only [RelD]
        exact ⟨n, _, rfl, SqT.of upd_same, (rep_rel rx _).mono (Ex.new hn).toEx0⟩
    · cases h
  · cases h
/-! ### lists that built-ins make -/
def SVNL (X : Cx) (J : Hp → Prop) (fv : Value) (f : FL → Sto → Option (List D)) : Prop :=
  ∀ R st H H0 R0 x v ds Q, f x st = some ds → Ex R0 R H0 H → Gd X.K J R st H → relX X.K R H x v → (∀ R' H' w, Ex R R' H H' → Gd X.K J R' st H' → relL X.K H0 R' H' ds w → Q w H') → rcS X fv [v] H Q
def mBL (f : FL → Sto → Option (List D)) (m : M FL) : M (List D) := mBind m fun x => fun _ st => match f x st with
  | some ds => some (.ok ds st)
  | none => none
theorem arg_x {e : Expr} {m : M FL} {fv : Value} {f : FL → Sto → Option (List D)} (hc : SVNL X J fv f) (S : SX X J e m) (hs : plainArg e = true) {R : List Addr} {env : En} {st : Sto} {σ : Sg} {H : Hp} {out : Out (List D)} {Q : VK} {E : XK}
    (h : mBL f m env st = some out) (g : Gd X.K J R st H) (r : EnR X.K R H env σ) (t : Tk X E) (o : OkO X.K J R H (relL X.K H) Q E out) : taSem X [e] σ H fun vs H1 => rcS X fv vs H1 Q := by
  refine sem_ofA (pa_cons pe_sem pa_nil (star_cons hs)) ?_
  refine sx_then S h g r t o fun R1 st1 H1 x v e1 g1 r1 rx h1 o1 => ?_
  split at h1
  · rename_i ds hf
    cases h1
    exact hc R1 st1 H1 H R x v ds Q hf e1 g1 rx fun R' H' w e' g' rw' => o1 R' H' w e' g' rw'
  · cases h1
theorem sl_blt {x : Str} {id : String} {p pos : Pos} {e : Expr} {m : M FL} {f : FL → Sto → Option (List D)} (hc : SVNL X J (.builtin id) f) (hg : Gl X x) (hm : X.mg x = none) (hv : bootBuiltins x = some (.builtin id)) (S : SX X J e m) (hn : x ≠ "__name__") (hdb : (x == ("__debug__" : Str)) = false) (he : plainArg e = true) :
    SL X J (.Call (.Name x p) [e] [] pos) (mBL f m) := fun R env st σ H out Q E h g r t o =>
  sem_of (pe_callB call_sem hg hm hv pa_sem hn hdb (star_cons he) rfl) (arg_x hc S he h g r t o)
theorem sl_blty {x : Str} {T : String} {p pos : Pos} {e : Expr} {m : M FL} {f : FL → Sto → Option (List D)} (hc : SVNL X J (.type T) f) (hg : Gl X x) (hm : X.mg x = none) (hv : bootBuiltins x = some (.type T)) (S : SX X J e m) (hn : x ≠ "__name__") (hdb : (x == ("__debug__" : Str)) = false) (he : plainArg e = true) :
    SL X J (.Call (.Name x p) [e] [] pos) (mBL f m) := fun R env st σ H out Q E h g r t o =>
  sem_of (pe_callTy call_sem hg hm hv pa_sem hn hdb (star_cons he) rfl) (arg_x hc S he h g r t o)
/-! list(..) -/
def lList (x : FL) (st : Sto) : Option (List D) := match x with
  | .fr ds => some ds
  | .at (.tup ds) => some ds
  | .at (.rol ds) => some ds
  | .at (.loc n) => match st[n]? with
    | some (.lst ds) => some ds
    | some (.dct kvs) => some (kvs.map fun p => match p.1 with | .inl i => .int i | .inr s => .str s)
    | _ => none
  | _ => none
theorem keys_rel {K : PySem.W.Frag} {R : List Addr} {H : Hp} : ∀ {kvs : List (Key × D)} {xs : List (Key × V)}, RelKv K R H kvs xs → RelDs K R H (kvs.map fun p => match p.1 with | .inl i => D.int i | .inr s => D.str s) (xs.map fun kv => kV kv.1)
  | [], _, r => by simp only [RelKv] at r; subst r; simp [RelDs]
  | p :: kvs, _, r => by
    simp only [RelKv] at r
    obtain ⟨w, ws, rfl, r1, r2⟩ := r
    simp only [List.map_cons, RelDs]
    refine ⟨_, _, rfl, ?_, keys_rel r2⟩
    cases p.1 with
    | inl i => exact relInt
    | inr s => exact relStr
theorem svnl_list (j : JS J) (hc : X.calm = true) : SVNL X J (.type "list") lList := by
  intro R st H H0 R0 x v ds Q h e0 g rx k
  have fin : ∀ (p : Addr) (xs : List V), (SqL X.K H p xs ∨ SqT X.K H p xs) → RelDs X.K R H ds xs → v = .ref p → rcS X (.type "list") [v] H Q := fun p xs hs rxs ev => by
    subst ev
    refine rc_of call_list_of ⟨p, xs, rfl, hs, fun n hn => ?_⟩
    obtain ⟨x1, x2, x3⟩ := new_lst (R0 := R0) (H0 := H0) j e0 g hn rxs
    exact k R _ _ x1 x2 x3
  unfold lList at h
  split at h
  · cases h
    obtain ⟨p, xs, rfl, _, hx, rxs⟩ := rx
    exact fin p xs (.inl (SqL.of hx)) rxs rfl
  · cases h
    have rx : RelD X.K R H (.tup _) v := rx
    simp only [RelD] at rx
    obtain ⟨a, xs, rfl, sx, rxs⟩ := rx
    exact fin a xs (.inr sx) rxs rfl
  · cases h
    have rx : RelD X.K R H (.rol _) v := rx
    simp only [RelD] at rx
    obtain ⟨a, xs, rfl, sx, rxs⟩ := rx
    exact fin a xs (.inl sx.sq) rxs rfl
  · rename_i n
    have rx : RelD X.K R H (.loc n) v := rx
    simp only [RelD] at rx
    obtain ⟨a, rfl, ra⟩ := rx
    split at h
    · rename_i l e
      cases h
      obtain ⟨xs, hx, rxs⟩ := g.ob n _ a e ra
      exact fin a xs (.inl (SqL.of hx)) rxs rfl
    · rename_i l e
      cases h
      obtain ⟨xs, hx, rxs⟩ := g.ob n _ a e ra
      refine rc_of (call_list_dK hc) ⟨a, xs, rfl, hx, fun q hq => ?_⟩
      obtain ⟨x1, x2, x3⟩ := new_lst (R0 := R0) (H0 := H0) j e0 g hq (keys_rel rxs)
      exact k R _ _ x1 x2 x3
    · cases h
  · cases h
/-! sorted(..), of ints -/
def insI (i : Int) : List Int → List Int
  | [] => [i]
  | j :: l => match decide (i ≤ j) with
    | true => i :: j :: l
    | false => j :: insI i l
def sortI : List Int → List Int
  | [] => []
  | i :: l => insI i (sortI l)
theorem insI_perm (i : Int) : ∀ l, (insI i l).Perm (i :: l)
  | [] => .refl _
  | j :: l => by
    unfold insI
    cases decide (i ≤ j) with
    | true => exact .refl _
    | false => exact ((insI_perm i l).cons j).trans (.swap i j l)
theorem sortI_perm : ∀ l, (sortI l).Perm l
  | [] => .refl _
  | i :: l => (insI_perm i _).trans ((sortI_perm l).cons i)
theorem insI_pw {i : Int} : ∀ {l : List Int}, l.Pairwise (· ≤ ·) → (insI i l).Pairwise (· ≤ ·)
  | [], _ => by simp [insI]
  | j :: l, h => by
    rw [List.pairwise_cons] at h
    unfold insI
    by_cases hij : i ≤ j
    · rw [decide_eq_true hij]
      simp only [List.pairwise_cons]
      refine ⟨fun a ha => ?_, h⟩
      rcases List.mem_cons.mp ha with rfl | ha
      · exact hij
      · have := h.1 a ha; omega
    · rw [decide_eq_false hij]
      simp only [List.pairwise_cons]
      refine ⟨fun a ha => ?_, insI_pw h.2⟩
      rcases List.mem_cons.mp ((insI_perm i l).mem_iff.mp ha) with rfl | ha
      · omega
      · exact h.1 a ha
theorem sortI_pw : ∀ l, (sortI l).Pairwise (· ≤ ·)
  | [] => .nil
  | i :: l => insI_pw (sortI_pw l)
theorem sorted_eq {a b : List Int} (p : a.Perm b) (ha : a.Pairwise (· ≤ ·)) (hb : b.Pairwise (· ≤ ·)) : a = b :=
  p.eq_of_pairwise (fun x y _ _ h1 h2 => by omega) ha hb
def keyInts : List (Key × D) → Option (List Int)
  | [] => some []
  | (.inl i, _) :: r => match keyInts r with
    | some l => some (i :: l)
    | none => none
  | _ :: _ => none
def lSorted (x : FL) (st : Sto) : Option (List D) := match x with
  | .at (.loc n) => match st[n]? with
    | some (.dct kvs) => match keyInts kvs with
      | some ns => match Nat.blt ns.length 64 with
        | true => some ((sortI ns).map D.int)
        | false => none
      | none => none
    | some (.lst ds) => match ints? ds with
      | some ns => some ((sortI ns).map D.int)
      | none => none
    | _ => none
  | .fr ds => match ints? ds with
    | some ns => some ((sortI ns).map D.int)
    | none => none
  | _ => none
theorem ints_map {K : PySem.W.Frag} {R : List Addr} {H : Hp} : ∀ {ns : List Int}, RelDs K R H (ns.map D.int) (ns.map V.int)
  | [] => by simp [RelDs]
  | n :: ns => by
    simp only [List.map_cons, RelDs]
    exact ⟨_, _, rfl, relInt, ints_map⟩
theorem keyInts_rel {K : PySem.W.Frag} {R : List Addr} {H : Hp} : ∀ {kvs : List (Key × D)} {xs : List (Key × V)} {ns : List Int}, keyInts kvs = some ns → RelKv K R H kvs xs → xs.map (·.1) = ns.map Sum.inl
  | [], _, _, h, r => by simp only [keyInts, Option.some.injEq] at h; simp only [RelKv] at r; subst h; subst r; rfl
  | (k, d) :: kvs, _, _, h, r => by
    simp only [RelKv] at r
    obtain ⟨w, ws, rfl, r1, r2⟩ := r
    cases k with
    | inl i =>
      simp only [keyInts] at h
      split at h
      · rename_i l e
        cases h
        simp only [List.map_cons, keyInts_rel e r2]
      · cases h
    | inr s => simp [keyInts] at h
theorem svnl_sorted (j : JS J) (hc : X.calm = true) : SVNL X J (.builtin "sorted") lSorted := by
  intro R st H H0 R0 x v ds Q h e0 g rx k
  have fin : ∀ (p : Addr) (xs : List V) (es : List D) (ns : List Int), H p = some (.lst xs) → RelDs X.K R H es xs → ints? es = some ns → ds = (sortI ns).map D.int → v = .ref p → rcS X (.builtin "sorted") [v] H Q := fun p xs es ns hx rxs hi hd ev => by
    subst ev; subst hd
    rw [ints_rel hi rxs] at hx
    refine rc_of cr_sortedI ⟨p, ns, rfl, SqL.of hx, fun ns' q hp hw hq => ?_⟩
    have e : ns' = sortI ns := sorted_eq (hp.trans (sortI_perm ns).symm) hw (sortI_pw ns)
    subst e
    obtain ⟨x1, x2, x3⟩ := new_lst (R0 := R0) (H0 := H0) j e0 g hq ints_map
    exact k R _ _ x1 x2 x3
  unfold lSorted at h
  split at h
  · rename_i n
    have rx : RelD X.K R H (.loc n) v := rx
    simp only [RelD] at rx
    obtain ⟨a, rfl, ra⟩ := rx
    split at h
    · rename_i kvs e
      split at h
      · rename_i ns hk
        split at h
        · rename_i hl
          cases h
          obtain ⟨xs, hx, rxs⟩ := g.ob n _ a e ra
          have hl := Nat.le_of_ble_eq_true hl
          refine rc_of (call_sortedDI hc) ⟨a, xs, ns, rfl, .inl hx, keyInts_rel hk rxs, by omega, fun ys q hp hw hq => ?_⟩
          have e : ys = sortI ns := sorted_eq (hp.trans (sortI_perm ns).symm) hw (sortI_pw ns)
          subst e
          obtain ⟨x1, x2, x3⟩ := new_lst (R0 := R0) (H0 := H0) j e0 g hq ints_map
          exact k R _ _ x1 x2 x3
        · cases h
      · cases h
    · rename_i l e
      split at h
      · rename_i ns hi
        cases h
        obtain ⟨xs, hx, rxs⟩ := g.ob n _ a e ra
        exact fin a xs l ns hx rxs hi rfl rfl
      · cases h
    · cases h
  · split at h
    · rename_i ns hi
      cases h
      obtain ⟨p, xs, rfl, _, hx, rxs⟩ := rx
      exact fin p xs _ ns hx rxs hi rfl rfl
    · cases h
  · cases h
end
end TA
/-! stores, targets, texts of data -/
namespace TA
open PySem PySem.Spec
open PyProof.Rows L2

def isComp : Expr → Bool
  | .ListComp .. => true
  | .SetComp .. => true
  | .DictComp .. => true
  | _ => false
theorem noSwap {e : Expr} {tg : Option Expr} {l : Nat} {env : Env} (h : isComp e = false) : swapsWith e tg l env = pure false := by
  cases e <;> first | rfl | cases h
def plainIx : Expr → Bool
  | .Slice .. => false
  | _ => true
theorem plainIx_ok {b : Expr} (h : plainIx b = true) : PlainIx b := fun o i => by
  cases b <;> first | rfl | cases h
theorem plainAug {b : Expr} (h : plainIx b = true) : ∀ ov iv new, augStore b ov iv new = (do holding [new, ov, iv] (setItem ov iv new); release [new, ov, iv] []; pure .next) := fun ov iv new => by
  cases b <;> first | rfl | cases h
section
variable {X : Cx} {J : Hp → Prop}
/-! ### o[i] = v -/
def putD (o i v : D) (st : Sto) : Option Sto := match o with
  | .loc n => match st[n]? with
    | some (.lst l) => match i with
      | .int k => match ixN l.length k with
        | some q => some (st.set n (.lst (l.set q v)))
        | none => none
      | _ => none
    | some (.dct l) => match keyD i with
      | some k => match Nat.blt l.length 1000000 with
        | true => some (st.set n (.dct (setK l k v)))
        | false => none
      | none => none
    | _ => none
  | _ => none
def rPut : TSet := fun o i v H Q => rSetL o i v H Q ∨ rSetD o i v H Q
theorem pset_put (hu : X.A.units + 1 < cLine) : PSet X rPut := fun pins s σ H o i v ov iv u Q I ro ri rv h => by
  rcases h with h | h
  · exact set_list pins s σ H o i v ov iv u Q I ro ri rv h
  · exact set_dict hu pins s σ H o i v ov iv u Q I ro ri rv h
theorem put_ok {R : List Addr} {st st' : Sto} {H : Hp} {d e f : D} {o i v : V} {Q : Hp → Prop} (j : JS J) (h : putD d e f st = some st') (g : Gd X.K J R st H) (ro : RelD X.K R H d o) (ri : RelD X.K R H e i) (rv : RelD X.K R H f v)
    (k : ∀ H', Ex R R H H' → Gd X.K J R st' H' → Q H') : rPut o i v H Q := by
  unfold putD at h
  split at h
  · rename_i n
    simp only [RelD] at ro
    obtain ⟨a, rfl, ra⟩ := ro
    split at h
    · rename_i l en
      obtain ⟨xs, hx, rx⟩ := g.ob n _ a en ra
      split at h
      · rename_i z
        split at h
        · rename_i q hq
          cases h
          simp only [RelD] at ri
          subst ri
          have ex := Ex.put (u := .lst (xs.set q v)) (List.mem_of_getElem? ra) hx rfl
          exact .inl ⟨a, xs, z, q, rfl, rfl, hx, by rw [← rx.length]; exact hq, k _ ex (g.put j ra hx rfl rfl ⟨_, upd_same, RelDs.mono ex.toEx0 (RelDs.set rv q rx)⟩)⟩
        · cases h
      · cases h
    · rename_i l en
      obtain ⟨xs, hx, rx⟩ := g.ob n _ a en ra
      split at h
      · rename_i key hk
        split at h
        · rename_i hl
          cases h
          have hi := keyD_rel hk ri
          subst hi
          have ex := Ex.put (u := .dK (putK xs key v)) (List.mem_of_getElem? ra) hx rfl
          exact .inr ⟨a, _, rfl, DPut.k hx (by rw [← rx.length]; exact small_lt hl), k _ ex (g.put j ra hx rfl rfl ⟨_, upd_same, RelKv.mono ex.toEx0 (setK_rel rv rx)⟩)⟩
        · cases h
      · cases h
    · cases h
  · cases h
def sPut (mo mi mv : M D) : MS := sBind mv fun v => sBind mo fun o => sBind mi fun i => fun env st => match putD o i v st with
  | some st' => some (.nx env st')
  | none => none
theorem ss_put {o i e : Expr} {pos pos' : Pos} {mo mi mv : M D} (j : JS J) (hu : X.A.units + 1 < cLine) (So : SE X J o mo) (Si : SE X J i mi) (Sv : SE X J e mv) (hc : isComp e = false)
    (ha : ∀ v, assign (.Subscript o i pos') X.env v = (do
      let ov ← holding [v] (eval o X.env)
      let iv ← holding [v, ov] (eval i X.env)
      standAt pos'
      holding [v, ov, iv] (setItem ov iv v)
      release [v, ov, iv] [])) : SS X J (.Assign [.Subscript o i pos'] e pos) (sPut mo mi mv) := by
  intro R env st σ H out De E h g r t k
  refine sem_ofS (ps_asg pe_sem (pg_sub pe_sem pe_sem (pset_put hu) ha) (by unfold swapsWithSole; exact noSwap hc) (by rfl) (by rfl)) ?_
  refine se_thenS Sv h g r t k fun R1 st1 H1 d v e1 g1 r1 rd h1 o1 => ?_
  refine se_thenS So h1 g1 r1 t o1 fun R2 st2 H2 d2 v2 e2 g2 r2 rd2 h2 o2 => ?_
  refine se_thenS Si h2 g2 r2 t o2 fun R3 st3 H3 d3 v3 e3 g3 r3 rd3 h3 o3 => ?_
  split at h3
  · rename_i st' hp
    cases h3
    exact put_ok j hp g3 (rd2.mono e3.toEx0) rd3 (rd.mono (e2.trans e3).toEx0) fun H' ex g' => o3 R3 H' σ ex g' (r3.mono ex)
  · cases h3
/-! ### a target of names -/
def sTgt (tg : Tg) (m : M D) : MS := sBind m fun d => fun env st => match tgSet tg d env with
  | some env' => some (.nx env' st)
  | none => none
theorem ss_tgt {tge e : Expr} {pos : Pos} {tg : Tg} {m : M D} (G : PG X tge (gOf X.K tg)) (S : SE X J e m) (hs : swapsWithSole [tge] e pos.line X.env = pure false) (hw : swappedStores [tge] e X.env = pure none) (h1 : (assignEach [tge] X.env).map (·.2) = [assign tge X.env]) :
    SS X J (.Assign [tge] e pos) (sTgt tg m) := by
  intro R env st σ H out De E h g r t k
  refine sem_ofS (ps_asg pe_sem G hs hw h1) ?_
  refine se_thenS S h g r t k fun R1 st1 H1 d v e1 g1 r1 rd h1 o1 => ?_
  split at h1
  · rename_i env' ht
    cases h1
    exact gOf_ok ht rd r1 fun σ' r' _ => o1 R1 H1 σ' Ex.refl g1 r'
  · cases h1
/-! ### x op= e, o[i] op= e -/
def ipOp : Operator → Int → Int → Option Int
  | .Add, i, j => some (i + j)
  | .Sub, i, j => some (i - j)
  | _, _, _ => none
def sAug (i : Nat) (op : Operator) (m : M D) : MS := fun env st => match env[i]? with
  | some (some (.int a)) => sBind m (fun d => fun env st => match d with
    | .int b => match ipOp op a b with
      | some c => some (.nx (env.set i (some (.int c))) st)
      | none => none
    | _ => none) env st
  | _ => none
theorem pip_of {op : Operator} (h : op = .Add ∨ op = .Sub) : PIp X op (fun x y H Q => ∃ a b c, x = .int a ∧ y = .int b ∧ ipOp op a b = some c ∧ Q (.int c) H) := by
  rcases h with rfl | rfl
  · intro pins s σ H x y v u Q I rx ry h
    obtain ⟨a, b, c, e1, e2, e3, q⟩ := h
    cases e3
    exact ip_add pins s σ H x y v u Q I rx ry ⟨a, b, e1, e2, q⟩
  · intro pins s σ H x y v u Q I rx ry h
    obtain ⟨a, b, c, e1, e2, e3, q⟩ := h
    cases e3
    exact ip_sub pins s σ H x y v u Q I rx ry ⟨a, b, e1, e2, q⟩
theorem ss_aug {i : Nat} {x : Str} {op : Operator} {e : Expr} {pos pos' : Pos} {m : M D} (ho : op = .Add ∨ op = .Sub) (hN : X.N.Nodup) (hi : X.N[i]? = some x) (hx : Loc X.env.scope x) (S : SE X J e m) (hf : X.fn x = true ∨ X.env.scope.names.lookup x = some .local) :
    SS X J (.AugAssign (.Name x pos') op e pos) (sAug i op m) := by
  intro R env st σ H out De E h g r t k
  refine sem_ofS (ps_aug hN hi hx pe_sem (pip_of ho) hf) ?_
  unfold sAug at h
  split at h
  · rename_i a ha
    obtain ⟨v, hv, rv⟩ := r.get i _ ha
    simp only [RelD] at rv
    subst rv
    refine ⟨_, hv, ?_⟩
    refine se_thenS S h g r t k fun R1 st1 H1 d w e1 g1 r1 rd h1 o1 => ?_
    cases d with
    | int b =>
      simp only at h1
      split at h1
      · rename_i c hc
        cases h1
        simp only [RelD] at rd
        exact ⟨a, b, c, rfl, rd, hc, o1 R1 H1 _ Ex.refl g1 (r1.set relInt)⟩
      · cases h1
    | _ => cases h1
  · cases h
/-! ### repr -/
end
mutual
def intsLt : PyData → Bool
  | .int i => decide (i.natAbs < 1000000000000)
  | .list xs => intsLts xs
  | .tuple xs => intsLts xs
  | .dict _ => false
  | _ => true
def intsLts : List PyData → Bool
  | [] => true
  | x :: xs => intsLt x && intsLts xs
end
mutual
theorem intsLt_short : ∀ d : PyData, intsLt d = true → d.intsShort 13 = true ∧ d.showable = true ∧ d.hasDict = false := fun d h => by
  cases d with
  | int i =>
    simp only [intsLt, decide_eq_true_eq] at h
    refine ⟨?_, ?_, rfl⟩
    · have := PyData.shown_int_le (i := i) (by simpa using h)
      simp only [PyData.intsShort]
      first | exact decide_eq_true this | simpa using this
    · simp only [PyData.showable, decide_eq_true_eq]
      have h2 : i.natAbs < 2 ^ 64 := by omega
      by_cases h0 : i.natAbs = 0
      · rw [h0]; decide
      · have := (Nat.log2_lt h0).mpr h2
        omega
  | list xs =>
    simp only [intsLt] at h
    have := intsLts_short xs h
    exact ⟨by simpa only [PyData.intsShort] using this.1, by simpa only [PyData.showable] using this.2.1, by simpa only [PyData.hasDict] using this.2.2⟩
  | tuple xs =>
    simp only [intsLt] at h
    have := intsLts_short xs h
    exact ⟨by simpa only [PyData.intsShort] using this.1, by simpa only [PyData.showable] using this.2.1, by simpa only [PyData.hasDict] using this.2.2⟩
  | dict kvs => simp [intsLt] at h
  | none => exact ⟨rfl, rfl, rfl⟩
  | bool b => exact ⟨rfl, rfl, rfl⟩
  | str x => exact ⟨rfl, rfl, rfl⟩
theorem intsLts_short : ∀ xs : List PyData, intsLts xs = true → PyData.intsShortAll 13 xs = true ∧ PyData.showableAll xs = true ∧ PyData.hasDictAll xs = false := fun xs h => by
  cases xs with
  | nil => exact ⟨rfl, rfl, rfl⟩
  | cons x xs =>
    simp only [intsLts, Bool.and_eq_true] at h
    have a := intsLt_short x h.1
    have b := intsLts_short xs h.2
    exact ⟨by simp only [PyData.intsShortAll, a.1, b.1, Bool.and_self], by simp only [PyData.showableAll, a.2.1, b.2.1, Bool.and_self], by simp only [PyData.hasDictAll, a.2.2, b.2.2, Bool.or_self]⟩
end
def showOk (p : PyData) : Bool := PyData.layable0 p && intsLt p
section
variable {X : Cx} {J : Hp → Prop}
theorem call_reprD (gd : X.A.guards = some []) (hu : X.A.units + 66 < cLine) : CallR X (.builtin "repr") (fun xs H Q => ∃ a p, xs = [.ref a] ∧ Dp X.K H (.ref a) p ∧ showOk p = true ∧ Q (.str p.shown) H) := by
  intro pins s σ H xs us Q I rv h
  obtain ⟨a, p, rfl, hd, hs, q⟩ := h
  obtain ⟨u, rfl, ru⟩ := vals1 rv
  obtain rfl : u = Value.ref a := ru
  obtain ⟨as, rd⟩ := Dp.reads I p (.ref a) (.ref a) hd rfl
  unfold showOk at hs
  obtain ⟨h1, h2⟩ := Bool.and_eq_true_iff.mp hs
  obtain ⟨s1, s2, s3⟩ := intsLt_short p h2
  have hdep : p.depth ≤ 64 := by
    unfold PyData.layable0 at h1
    simp only [Bool.and_eq_true, decide_eq_true_eq] at h1
    exact h1.1.2
  refine PySem.repr_of_reads' rd s2 (fun z => by rw [s3] at z; cases z) gd (by omega) (fun _ _ e => e) (fun h' u tk k => ?_) (PyData.shown_fits_of_layable0 (B := 13) (by decide) (by decide) h1 s1)
  exact ⟨.str p.shown, H, I.kept k, ⟨u, rfl⟩, q⟩
def isCont : PyData → Bool
  | .list _ => true
  | .tuple _ => true
  | _ => false
def bRepr (ds : List D) (st : Sto) : Option (Out D) := match ds with
  | [d] => match toPy 40 st d with
    | some p => match isCont p && showOk p with
      | true => some (.ok (.str p.shown) st)
      | false => none
    | none => none
  | _ => none
theorem svn_repr (gd : X.A.guards = some []) (hu : X.A.units + 66 < cLine) : SVN X J (.builtin "repr") bRepr := by
  intro R st H ds vs out Q E h g r t o
  unfold bRepr at h
  split at h
  · rename_i d
    split at h
    · rename_i p hp
      split at h
      · rename_i hs
        obtain ⟨hc, hs⟩ := Bool.and_eq_true_iff.mp hs
        cases h
        obtain ⟨v, rfl, rv⟩ := one_of r
        have hd := toPy_dp g 40 hp rv
        have : ∃ a, v = .ref a := by
          cases hd <;> first | (cases hc; done) | exact ⟨_, rfl⟩
        obtain ⟨a, rfl⟩ := this
        exact rc_of (call_reprD gd hu) ⟨a, p, rfl, hd, hs, o R H _ Ex.refl g relStr⟩
      · cases h
    · cases h
  · cases h
def bReprF (ds : List D) (st : Sto) : Option (Out D) := match allO (toPy 39 st) ds with
  | some ps => match showOk (.list ps) with
    | true => some (.ok (.str (PyData.shown (.list ps))) st)
    | false => none
  | none => none
theorem svf_repr (gd : X.A.guards = some []) (hu : X.A.units + 66 < cLine) : SVF X J (.builtin "repr") bReprF := by
  intro R st H ds a xs out Q E h g hx rx t o
  unfold bReprF at h
  split at h
  · rename_i ps hp
    split at h
    · rename_i hs
      cases h
      have hd : Dp X.K H (.ref a) (.list ps) := .lst (SqL.of hx) (allO_dp (fun d p v => toPy_dp g 39) hp rx)
      exact rc_of (call_reprD gd hu) ⟨a, _, rfl, hd, hs, o R H _ Ex.refl g relStr⟩
    · cases h
  · cases h
/-! int, min, max, abs -/
def bInt (ds : List D) (st : Sto) : Option (Out D) := match ds with
  | [.int i] => some (.ok (.int i) st)
  | [.bl b] => some (.ok (.int (if b then 1 else 0)) st)
  | _ => none
theorem svn_int : SVN X J (.type "int") bInt := by
  intro R st H ds vs out Q E h g r t o
  unfold bInt at h
  split at h
  · cases h
    obtain ⟨v, rfl, rv⟩ := one_of r
    simp only [RelD] at rv
    subst rv
    exact rc_of call_int1 (.inl ⟨_, rfl, o R H _ Ex.refl g relInt⟩)
  · cases h
    obtain ⟨v, rfl, rv⟩ := one_of r
    simp only [RelD] at rv
    subst rv
    exact rc_of call_int1 (.inr ⟨_, rfl, o R H _ Ex.refl g relInt⟩)
  · cases h
def bMin2 (ds : List D) (st : Sto) : Option (Out D) := match ds with
  | [.int i, .int j] => some (.ok (.int (if j < i then j else i)) st)
  | _ => none
theorem svn_min2 (hc : X.calm = true) : SVN X J (.builtin "min") bMin2 := by
  intro R st H ds vs out Q E h g r t o
  unfold bMin2 at h
  split at h
  · cases h
    obtain ⟨v, w, rfl, rv, rw'⟩ := twoOf r
    simp only [RelD] at rv rw'
    subst rv; subst rw'
    exact rc_of (call_min2 hc) ⟨_, _, rfl, o R H _ Ex.refl g relInt⟩
  · cases h
def bMax2 (ds : List D) (st : Sto) : Option (Out D) := match ds with
  | [.int i, .int j] => some (.ok (.int (if j > i then j else i)) st)
  | _ => none
theorem svn_max2 (hc : X.calm = true) : SVN X J (.builtin "max") bMax2 := by
  intro R st H ds vs out Q E h g r t o
  unfold bMax2 at h
  split at h
  · cases h
    obtain ⟨v, w, rfl, rv, rw'⟩ := twoOf r
    simp only [RelD] at rv rw'
    subst rv; subst rw'
    exact rc_of (call_max2 hc) ⟨_, _, rfl, o R H _ Ex.refl g relInt⟩
  · cases h
end
end TA
/-! dicts that are walked: locked meanwhile; enumerate -/
namespace TA
open PySem PySem.Spec
open PyProof.Rows L2

/-- tuples stay, locked things stay but dicts -/
structure Ex1 (H H' : Hp) : Prop where
  tup : ∀ a xs, H a = some (.tup xs) → H' a = some (.tup xs)
  frz : ∀ a o u, H a = some (.frz o u) → (∀ xs, u ≠ .dK xs) → H' a = some (.frz o u)
section
variable {K : PySem.W.Frag} {J : Hp → Prop} {R R' : List Addr} {H H' : Hp}
theorem Ex1.sqT (e : Ex1 H H') {a : Addr} {xs : List V} (h : SqT K H a xs) : SqT K H' a xs := by
  rcases h with (h | ⟨o, h⟩) | h
  · exact .inl (.inl (e.tup _ _ h))
  · exact .inl (.inr ⟨o, e.frz _ _ _ h (fun _ z => nomatch z)⟩)
  · exact .inr h
theorem Ex1.roL (e : Ex1 H H') {a : Addr} {xs : List V} (h : RoL K H a xs) : RoL K H' a xs := by
  rcases h with ⟨o, h⟩ | h
  · exact .inl ⟨o, e.frz _ _ _ h (fun _ z => nomatch z)⟩
  · exact .inr h
mutual
theorem RelD.ex1 (e : Ex1 H H') : ∀ {d : D} {v : V}, RelD K R H d v → RelD K R H' d v := fun {d v} h => by
  cases d with
  | tup ds =>
    simp only [RelD] at h ⊢
    obtain ⟨a, xs, e1, e2, e3⟩ := h
    exact ⟨a, xs, e1, e.sqT e2, RelDs.ex1 e e3⟩
  | rol ds =>
    simp only [RelD] at h ⊢
    obtain ⟨a, xs, e1, e2, e3⟩ := h
    exact ⟨a, xs, e1, e.roL e2, RelDs.ex1 e e3⟩
  | _ => simpa only [RelD] using h
theorem RelDs.ex1 (e : Ex1 H H') : ∀ {ds : List D} {vs : List V}, RelDs K R H ds vs → RelDs K R H' ds vs := fun {ds vs} h => by
  cases ds with
  | nil => simpa only [RelDs] using h
  | cons d ds =>
    simp only [RelDs] at h ⊢
    obtain ⟨v, ws, e1, e2, e3⟩ := h
    exact ⟨v, ws, e1, RelD.ex1 e e2, RelDs.ex1 e e3⟩
end
theorem RelKv.ex1 (e : Ex1 H H') : ∀ {ds : List (Key × D)} {vs : List (Key × V)}, RelKv K R H ds vs → RelKv K R H' ds vs
  | [], _, h => by simpa only [RelKv] using h
  | d :: ds, _, h => by
    simp only [RelKv] at h ⊢
    obtain ⟨v, ws, e1, e2, e3⟩ := h
    exact ⟨v, ws, e1, RelD.ex1 e e2, RelKv.ex1 e e3⟩
theorem ObjR.ex1 {a : Addr} {o : O} (e : Ex1 H H') (hh : H' a = H a) (h : ObjR K R H a o) : ObjR K R H' a o := by
  cases o with
  | lst ds => obtain ⟨xs, q, r⟩ := h; exact ⟨xs, hh.trans q, r.ex1 e⟩
  | dct ds => obtain ⟨xs, q, r⟩ := h; exact ⟨xs, hh.trans q, r.ex1 e⟩
  | dlk ds => obtain ⟨od, xs, q, r⟩ := h; exact ⟨od, xs, hh.trans q, r.ex1 e⟩
theorem ex1_unl {a : Addr} {od : Obj} {xs : List (Key × V)} (h : H a = some (.frz od (.dK xs))) : Ex1 H (upd H a (.dK xs)) := by
  refine ⟨fun b ys e => ?_, fun b o u e hu => ?_⟩
  · rw [upd_ne fun z => by subst z; rw [h] at e; cases e]; exact e
  · rw [upd_ne fun z => by subst z; rw [h] at e; cases e; exact hu _ rfl]; exact e
/-- one object of the store stands otherwise -/
theorem Gd.turn {st : Sto} {n : Nat} {p : Addr} {u : HO} {ob : O} (g : Gd K J R st H) (hn : R[n]? = some p) (e : Ex1 H (upd H p u)) (hj : J (upd H p u)) (r : ObjR K R (upd H p u) p ob) : Gd K J R (st.set n ob) (upd H p u) := by
  refine ⟨by simp [g.len], g.nd, fun i ob' a h1 h2 => ?_, hj⟩
  by_cases hi : n = i
  · subst hi
    rw [hn] at h2; cases h2
    have hl : n < st.length := by rw [← g.len]; exact (List.getElem?_eq_some_iff.mp hn).1
    rw [List.getElem?_set_self hl] at h1
    cases h1
    exact r
  · rw [List.getElem?_set_ne hi] at h1
    refine (g.ob i ob' a h1 h2).ex1 e (upd_ne fun z => hi ?_)
    subst z
    exact (List.getElem?_inj (List.getElem?_eq_some_iff.mp hn).1 g.nd).mp (hn.trans h2.symm)
theorem Gd.lock {st : Sto} {n : Nat} {p : Addr} {kvs : List (Key × D)} {xs : List (Key × V)} {od : Obj} (j : JS J) (g : Gd K J R st H) (hn : R[n]? = some p) (h : H p = some (.dK xs)) (r : RelKv K R H kvs xs) : Gd K J R (st.set n (.dlk kvs)) (upd H p (.frz od (.dK xs))) := by
  have e : Ex1 H (upd H p (.frz od (.dK xs))) := by
    refine ⟨fun b ys q => ?_, fun b o u q _ => ?_⟩
    · rw [upd_ne fun z => by subst z; rw [h] at q; cases q]; exact q
    · rw [upd_ne fun z => by subst z; rw [h] at q; cases q]; exact q
  exact g.turn hn e (j.lck _ _ _ _ g.j h rfl) ⟨od, xs, upd_same, r.ex1 e⟩
theorem Gd.unlock {st : Sto} {n : Nat} {p : Addr} {kvs : List (Key × D)} {xs : List (Key × V)} {od : Obj} (j : JS J) (g : Gd K J R st H) (hn : R[n]? = some p) (hs : st[n]? = some (.dlk kvs)) (h : H p = some (.frz od (.dK xs))) : Gd K J R (st.set n (.dct kvs)) (upd H p (.dK xs)) := by
  obtain ⟨od', xs', h', r⟩ := g.ob n _ p hs hn
  rw [h] at h'
  cases h'
  exact g.turn hn (ex1_unl h) (j.unl _ _ _ _ g.j h rfl) ⟨xs, upd_same, r.ex1 (ex1_unl h)⟩
theorem Ex.locked {p : Addr} {od : Obj} {xs : List (Key × V)} (hm : p ∈ R) (h : H p = some (.dK xs)) (e : Ex R R' (upd H p (.frz od (.dK xs))) H') : Ex R R' H (upd H' p (.dK xs)) := by
  have go : ∀ {a o}, H a = some o → a ≠ p → (upd H p (.frz od (.dK xs))) a = some o := fun q hp => by rw [upd_ne hp]; exact q
  refine ⟨⟨e.pre, fun a ys q => ?_, fun a o u q => ?_⟩, fun a o q hn ht => ?_, fun a q => ?_, fun a q => ?_⟩
  · have hp : a ≠ p := fun z => by subst z; rw [h] at q; cases q
    rw [upd_ne hp]
    exact e.tup _ _ (go q hp)
  · have hp : a ≠ p := fun z => by subst z; rw [h] at q; cases q
    rw [upd_ne hp]
    exact e.frz _ _ _ (go q hp)
  · have hp : a ≠ p := fun z => hn (z ▸ hm)
    rw [upd_ne hp]
    exact e.fr _ _ (go q hp) hn ht
  · by_cases hp : a = p
    · subst hp; rw [upd_same]; simp
    · rw [upd_ne hp]
      exact e.kp _ (by rw [upd_ne hp]; exact q)
  · rcases e.nw a q with z | z
    · exact .inl z
    · by_cases hp : a = p
      · subst hp; rw [upd_same] at z; cases z
      · rw [upd_ne hp] at z; exact .inr z
end
/-! ### a lock around -/
def unlk (n : Nat) (st : Sto) : Option Sto := match st[n]? with
  | some (.dlk kvs) => some (st.set n (.dct kvs))
  | _ => none
def lckS (n : Nat) (st : Sto) : Option Sto := match st[n]? with
  | some (.dct kvs) => some (st.set n (.dlk kvs))
  | _ => none
def mLock (ch : En → Sto → Option Nat) (m : M (List D)) : M (List D) := fun env st => match ch env st with
  | some n => match lckS n st with
    | some st1 => match m env st1 with
      | some (.ok ds st2) => match unlk n st2 with
        | some st3 => some (.ok ds st3)
        | none => none
      | _ => none
    | none => none
  | none => none
def sLock (ch : En → Sto → Option Nat) (m : MS) : MS := fun env st => match ch env st with
  | some n => match lckS n st with
    | some st1 => match m env st1 with
      | some (.nx env' st2) => (unlk n st2).map (SOut.nx env')
      | some (.rt d st2) => (unlk n st2).map (SOut.rt d)
      | some (.bk env' st2) => (unlk n st2).map (SOut.bk env')
      | some (.ct env' st2) => (unlk n st2).map (SOut.ct env')
      | _ => none
    | none => none
  | none => none
section
variable {X : Cx} {J : Hp → Prop}
theorem lckS_some {n : Nat} {st st1 : Sto} (h : lckS n st = some st1) : ∃ kvs, st[n]? = some (.dct kvs) ∧ st1 = st.set n (.dlk kvs) := by
  unfold lckS at h
  split at h
  · rename_i kvs hk
    cases h
    exact ⟨kvs, hk, rfl⟩
  · cases h
theorem unlk_some {n : Nat} {st st1 : Sto} (h : unlk n st = some st1) : ∃ kvs, st[n]? = some (.dlk kvs) ∧ st1 = st.set n (.dct kvs) := by
  unfold unlk at h
  split at h
  · rename_i kvs hk
    cases h
    exact ⟨kvs, hk, rfl⟩
  · cases h
theorem EnR.ex1 {K : PySem.W.Frag} {R : List Addr} {H H' : Hp} {env : En} {σ : Sg} (e : Ex1 H H') (r : EnR K R H env σ) : EnR K R H' env σ :=
  ⟨r.len, fun i d h => let ⟨v, a, b⟩ := r.get i d h; ⟨v, a, b.ex1 e⟩⟩
theorem ex1_lck {K : PySem.W.Frag} {H : Hp} {p : Addr} {od : Obj} {xs : List (Key × V)} (h : H p = some (.dK xs)) : Ex1 H (upd H p (.frz od (.dK xs))) := by
  refine ⟨fun b ys q => ?_, fun b o u q _ => ?_⟩
  · rw [upd_ne fun z => by subst z; rw [h] at q; cases q]; exact q
  · rw [upd_ne fun z => by subst z; rw [h] at q; cases q]; exact q
theorem sl_lock {ch : En → Sto → Option Nat} {e : Expr} {m : M (List D)} (j : JS J) (S : SL X J e m) : SL X J e (mLock ch m) := by
  intro R env st σ H out Q E h g r t o
  unfold mLock at h
  split at h
  · rename_i n hn
    split at h
    · rename_i st1 hl
      obtain ⟨kvs, hk, rfl⟩ := lckS_some hl
      obtain ⟨p, hp⟩ := g.lt hk
      obtain ⟨xs, hx, rx⟩ := g.ob n _ p hk hp
      have hm : p ∈ R := List.mem_of_getElem? hp
      split at h
      · rename_i ds st2 h2
        split at h
        · rename_i st3 hu
          cases h
          obtain ⟨kvs', hk', rfl⟩ := unlk_some hu
          refine sem_of (pe_lock pe_sem) ⟨p, .dK xs, hx, trivial, fun od => ?_⟩
          refine S R env _ σ _ _ _ (fun _ _ _ => False) h2 (g.lock j hp hx rx) (r.ex1 (ex1_lck (K := X.K) hx)) takesNo fun R1 H1 v e1 g1 rd => ?_
          have hf : H1 p = some (.frz od (.dK xs)) := e1.frz _ _ _ upd_same
          refine ⟨hf, o R1 _ v (Ex.locked hm hx e1) (g1.unlock j (e1.pre _ _ hp) hk' hf) ?_⟩
          obtain ⟨q, ys, rfl, q1, q2, q3, q4⟩ := rd
          have hqp : q ≠ p := fun z => by subst z; rw [upd_same] at q1; cases q1
          rw [upd_ne hqp] at q1
          exact ⟨q, ys, rfl, q1, q2, by rw [upd_ne hqp]; exact q3, q4.ex1 (ex1_unl hf)⟩
        · cases h
      · cases h
    · cases h
  · cases h
theorem ss_lock {ch : En → Sto → Option Nat} {e : Stmt} {m : MS} (j : JS J) (S : SS X J e m) : SS X J e (sLock ch m) := by
  intro R env st σ H out De E h g r t o
  unfold sLock at h
  split at h
  · rename_i n hn
    split at h
    · rename_i st1 hl
      obtain ⟨kvs, hk, rfl⟩ := lckS_some hl
      obtain ⟨p, hp⟩ := g.lt hk
      obtain ⟨xs, hx, rx⟩ := g.ob n _ p hk hp
      have hm : p ∈ R := List.mem_of_getElem? hp
      refine sem_ofS (ps_lock ps_sem) ⟨p, .dK xs, hx, trivial, fun od => ?_⟩
      have fin : ∀ {R1 H1 st2 st3}, Ex R R1 (upd H p (.frz od (.dK xs))) H1 → Gd X.K J R1 st2 H1 → unlk n st2 = some st3 → H1 p = some (.frz od (.dK xs)) ∧ Ex R R1 H (upd H1 p (.dK xs)) ∧ Gd X.K J R1 st3 (upd H1 p (.dK xs)) ∧ Ex1 H1 (upd H1 p (.dK xs)) := fun {R1 H1 st2 st3} e1 g1 hu => by
        obtain ⟨kvs', hk', rfl⟩ := unlk_some hu
        have hf : H1 p = some (.frz od (.dK xs)) := e1.frz _ _ _ upd_same
        exact ⟨hf, Ex.locked hm hx e1, g1.unlock j (e1.pre _ _ hp) hk' hf, ex1_unl hf⟩
      split at h
      · rename_i env' st2 h2
        simp only [Option.map_eq_some_iff] at h
        obtain ⟨st3, hu, rfl⟩ := h
        refine S R env _ σ _ _ _ (fun _ _ _ => False) h2 (g.lock j hp hx rx) (r.ex1 (ex1_lck (K := X.K) hx)) takesNo fun R1 H1 σ' e1 g1 rd => ?_
        obtain ⟨a, b, c, d⟩ := fin e1 g1 hu
        exact ⟨a, o R1 _ σ' b c (rd.ex1 d)⟩
      · rename_i dd st2 h2
        simp only [Option.map_eq_some_iff] at h
        obtain ⟨st3, hu, rfl⟩ := h
        refine S R env _ σ _ _ _ (fun _ _ _ => False) h2 (g.lock j hp hx rx) (r.ex1 (ex1_lck (K := X.K) hx)) takesNo fun R1 H1 v e1 g1 rd => ?_
        obtain ⟨a, b, c, d⟩ := fin e1 g1 hu
        exact ⟨a, o R1 _ v b c (rd.ex1 d)⟩
      · rename_i env' st2 h2
        simp only [Option.map_eq_some_iff] at h
        obtain ⟨st3, hu, rfl⟩ := h
        refine S R env _ σ _ _ _ (fun _ _ _ => False) h2 (g.lock j hp hx rx) (r.ex1 (ex1_lck (K := X.K) hx)) takesNo fun R1 H1 σ' e1 g1 rd => ?_
        obtain ⟨a, b, c, d⟩ := fin e1 g1 hu
        exact ⟨a, o R1 _ σ' b c (rd.ex1 d)⟩
      · rename_i env' st2 h2
        simp only [Option.map_eq_some_iff] at h
        obtain ⟨st3, hu, rfl⟩ := h
        refine S R env _ σ _ _ _ (fun _ _ _ => False) h2 (g.lock j hp hx rx) (r.ex1 (ex1_lck (K := X.K) hx)) takesNo fun R1 H1 σ' e1 g1 rd => ?_
        obtain ⟨a, b, c, d⟩ := fin e1 g1 hu
        exact ⟨a, o R1 _ σ' b c (rd.ex1 d)⟩
      · cases h
    · cases h
  · cases h
/-! ### the keys of a locked dict -/
def kD : Key → D
  | .inl i => .int i
  | .inr s => .str s
theorem kD_rel {K : PySem.W.Frag} {R : List Addr} {H : Hp} {k : Key} : RelD K R H (kD k) (kV k) := by
  cases k <;> simp only [kD, kV, RelD]
def mItK (m : M D) : M Wkd := mBind m fun d => fun _ st => match d with
  | .loc n => match st[n]? with
    | some (.dlk kvs) => some (.ok (kvs.map fun p => kD p.1, yes) st)
    | _ => none
  | _ => none
theorem kv_get {K : PySem.W.Frag} {R : List Addr} {H : Hp} : ∀ {kvs : List (Key × D)} {xs : List (Key × V)} {i : Nat} {d : D}, RelKv K R H kvs xs → (kvs.map fun p => kD p.1)[i]? = some d → ∃ k v, xs[i]? = some (k, v) ∧ d = kD k
  | [], _, i, d, r, h => by simp at h
  | p :: kvs, _, i, d, r, h => by
    simp only [RelKv] at r
    obtain ⟨w, ws, rfl, r1, r2⟩ := r
    cases i with
    | zero =>
      simp at h
      exact ⟨p.1, w, rfl, h.symm⟩
    | succ i =>
      simp only [List.map_cons, List.getElem?_cons_succ] at h ⊢
      exact kv_get r2 h
theorem si_keys {tg l : Expr} {m : M D} (S : SE X J l m) : SI X J tg l (mItK m) := by
  intro R env st σ H out Rk E h g r t o
  refine sem_ofI (pi_keys pe_sem) ?_
  refine se_then S h g r t o fun R1 st1 H1 d v e1 g1 r1 rd h1 o1 => ?_
  cases d with
  | loc n =>
    simp only at h1
    split at h1
    · rename_i kvs hn
      cases h1
      simp only [RelD] at rd
      obtain ⟨a, rfl, ra⟩ := rd
      obtain ⟨od, xs, hx, rx⟩ := g1.ob n _ a hn ra
      refine ⟨a, od, rfl, .inl ⟨xs, hx, o1 R1 H1 _ Ex.refl g1 ?_⟩⟩
      intro R2 st2 H2 i e2 g2 _
      have hx2 := e2.frz _ _ _ hx
      refine ⟨fun hi => ⟨hx2, ?_⟩, fun d hd => ?_⟩
      · have hi : i = (kvs.map fun p => kD p.1).length := hi
        rw [List.length_map, rx.length] at hi
        omega
      · obtain ⟨k, w, hk, rfl⟩ := kv_get rx hd
        refine ⟨⟨hx2, (List.getElem?_eq_some_iff.mp hk).1⟩, fun x H3 hy => ?_⟩
        obtain ⟨rfl, k', v', hk', rfl⟩ := hy
        rw [hk] at hk'
        cases hk'
        exact ⟨Ex.refl, g2, kD_rel⟩
    · cases h1
  | _ => cases h1
/-! ### by the case -/
def mPick {α : Type} (c : En → Sto → Bool) (a b : M α) : M α := fun env st => match c env st with
  | true => a env st
  | false => b env st
def sPick (c : En → Sto → Bool) (a b : MS) : MS := fun env st => match c env st with
  | true => a env st
  | false => b env st
theorem sl_pick {c : En → Sto → Bool} {e : Expr} {a b : M (List D)} (A : SL X J e a) (B : SL X J e b) : SL X J e (mPick c a b) := by
  intro R env st σ H out Q E h
  unfold mPick at h
  split at h
  · exact A R env st σ H out Q E h
  · exact B R env st σ H out Q E h
theorem ss_pick {c : En → Sto → Bool} {e : Stmt} {a b : MS} (A : SS X J e a) (B : SS X J e b) : SS X J e (sPick c a b) := by
  intro R env st σ H out Q E h
  unfold sPick at h
  split at h
  · exact A R env st σ H out Q E h
  · exact B R env st σ H out Q E h
/-- where the value lies -/
def locOf (m : M D) : En → Sto → Option Nat := fun env st => match m env st with
  | some (.ok (.loc n) _) => some n
  | _ => none
/-- the value is a dict, open -/
def isDct (m : M D) : En → Sto → Bool := fun env st => match locOf m env st with
  | some n => match st[n]? with
    | some (.dct _) => true
    | _ => false
  | none => false
def mItV (m : M D) : M Wkd := mAlt (mItT m) (mAlt (mItL m) (mItK m))
theorem si_val {tg l : Expr} {m : M D} (S : SE X J l m) : SI X J tg l (mItV m) := si_alt (si_tup S) (si_alt (si_list S) (si_keys S))
/-! ### enumerate(list) -/
def enumD : Nat → List D → List D
  | _, [] => []
  | i, d :: ds => .tup [.int i, d] :: enumD (i + 1) ds
theorem enumD_get : ∀ {ds : List D} {k i : Nat} {d : D}, (enumD k ds)[i]? = some d → ∃ x, ds[i]? = some x ∧ d = .tup [.int ((k + i : Nat) : Int), x]
  | [], k, i, d, h => by simp [enumD] at h
  | x :: ds, k, 0, d, h => by
    simp [enumD] at h
    exact ⟨x, rfl, by rw [← h]; simp⟩
  | x :: ds, k, i + 1, d, h => by
    simp only [enumD, List.getElem?_cons_succ] at h ⊢
    obtain ⟨y, e1, e2⟩ := enumD_get h
    exact ⟨y, e1, by rw [e2]; congr 4; omega⟩
theorem enumD_len : ∀ {ds : List D} {k : Nat}, (enumD k ds).length = ds.length
  | [], _ => rfl
  | d :: ds, k => by simp [enumD, enumD_len (ds := ds)]
def mEnum (m : M FL) : M Wkd := mBind m fun x => fun _ st => match x with
  | .fr ds => some (.ok (enumD 0 ds, yes) st)
  | .at (.loc n) => match st[n]? with
    | some (.lst ds) => some (.ok (enumD 0 ds, lstIs n ds) st)
    | _ => none
  | _ => none
theorem wk_enum {R : List Addr} {H : Hp} {a : Addr} {ds : List D} {C : Sto → Bool} (j : JS J) (hl : ∀ R1 st1 H1, Ex R R1 H H1 → Gd X.K J R1 st1 H1 → C st1 = true → ∃ xs, SqL X.K H1 a xs ∧ RelDs X.K R1 H1 ds xs) : Wk X J R H (enumD 0 ds, C) (Ite X.K a) := by
  intro R1 st1 H1 i e1 g1 hc
  obtain ⟨xs, sx, rx⟩ := hl R1 st1 H1 e1 g1 hc
  refine ⟨fun hi => ⟨xs, sx, ?_⟩, fun d hd => ?_⟩
  · have hi : i = (enumD 0 ds).length := hi
    rw [enumD_len, rx.length] at hi
    omega
  · obtain ⟨x, hx, rfl⟩ := enumD_get hd
    obtain ⟨v, hv, rv⟩ := rx.get hx
    refine ⟨⟨xs, v, sx, hv⟩, fun y H3 hy => ?_⟩
    obtain ⟨T, v', rfl, hT, rfl, q⟩ := hy
    have := q xs sx
    rw [hv] at this
    cases this
    refine ⟨Ex.new hT, g1.new j hT, ?_⟩
    rw [Nat.zero_add]
    exact tup2 hT (by simp only [RelD]) rv
theorem si_enum {e : Expr} {elts : List Expr} {kk : Nat} {tpos p pos : Pos} {m : M FL} (j : JS J) (hg : Gl X "enumerate") (hm : X.mg "enumerate" = none) (S : SX X J e m) (hp : plainArg e = true) :
    SI X J (.Tuple elts kk tpos) (.Call (.Name "enumerate" p) [e] [] pos) (mEnum m) := by
  intro R env st σ H out Rk E h g r t o
  refine sem_ofI (pi_enum hg hm (pa_cons pe_sem pa_nil (star_cons hp)) (star_cons hp)) ?_
  refine sx_then S h g r t o fun R1 st1 H1 x v e1 g1 r1 rx h1 o1 => ?_
  cases x with
  | fr ds =>
    cases h1
    obtain ⟨q, ys, rfl, q1, q2, q3⟩ := rx
    refine ⟨q, ys, rfl, SqL.of q2, o1 R1 H1 _ Ex.refl g1 (wk_enum j fun R2 st2 H2 e2 g2 _ => ?_)⟩
    exact ⟨ys, SqL.of (fresh_sq e2 q1 q2), q3.mono e2.toEx0⟩
  | «at» d =>
    cases d with
    | loc n =>
      simp only at h1
      split at h1
      · rename_i ds hn
        cases h1
        have rx : RelD X.K R1 H1 (.loc n) v := rx
        simp only [RelD] at rx
        obtain ⟨a, rfl, ra⟩ := rx
        obtain ⟨xs, hx, rxs⟩ := g1.ob n _ a hn ra
        refine ⟨a, xs, rfl, SqL.of hx, o1 R1 H1 _ Ex.refl g1 (wk_enum j fun R2 st2 H2 e2 g2 hc => ?_)⟩
        obtain ⟨ys, hy, ry⟩ := g2.ob n _ a (lstIs_eq hc) (e2.pre _ _ ra)
        exact ⟨ys, SqL.of hy, ry⟩
      · cases h1
    | _ => cases h1
end
end TA
/-! repr of any value, sorted lists of pairs, displays of dicts, more operators -/
namespace TA
open PySem PySem.Spec
open PyProof.Rows L2
section
variable {X : Cx} {J : Hp → Prop}
/-! ### repr -/
theorem call_reprL : CallR X (.builtin "repr") (fun xs H Q => (∃ b, xs = [.bl b] ∧ Q (.str (PyData.shown (.bool b))) H) ∨ (∃ z, xs = [.str z] ∧ (reprText z).length ≤ sizeLine ∧ Q (.str (PyData.shown (.str z))) H) ∨ (∃ i : Int, xs = [.int i] ∧ i.natAbs.log2 < 1920 ∧ Q (.str (PyData.shown (.int i))) H) ∨ (xs = [.non] ∧ Q (.str (PyData.shown .none)) H)) := by
  intro pins s σ H xs us Q I rv h
  rcases h with ⟨b, rfl, q⟩ | ⟨z, rfl, hz, q⟩ | ⟨i, rfl, hz, q⟩ | ⟨rfl, q⟩
  · obtain ⟨u, rfl, rfl⟩ := vals1 rv
    rw [PyData.shown_bool] at q
    exact PySem.P.repr_of_bool ⟨.str _, H, I.tok _, ⟨_, rfl⟩, q⟩
  · obtain ⟨u, rfl, t, rfl⟩ := vals1 rv
    rw [PyData.shown_str] at q
    exact PySem.P.repr_of_str ⟨.str _, H, I.tok _, ⟨_, rfl⟩, q⟩ hz
  · obtain ⟨u, rfl, t, rfl⟩ := vals1 rv
    rw [PyData.shown_int] at q
    exact PySem.P.repr_of_int hz ⟨.str _, H, I.tok _, ⟨_, rfl⟩, q⟩
  · obtain ⟨u, rfl, rfl⟩ := vals1 rv
    rw [PyData.shown_none] at q
    exact PySem.P.repr_of_none ⟨.str _, H, I.tok _, ⟨_, rfl⟩, q⟩
def bReprV (ds : List D) (st : Sto) : Option (Out D) := match ds with
  | [d] => match toPy 40 st d with
    | some p => match showOk p with
      | true => some (.ok (.str p.shown) st)
      | false => none
    | none => none
  | _ => none
theorem svn_reprV (gd : X.A.guards = some []) (hu : X.A.units + 66 < cLine) : SVN X J (.builtin "repr") bReprV := by
  intro R st H ds vs out Q E h g r t o
  unfold bReprV at h
  split at h
  · rename_i d
    split at h
    · rename_i p hp
      split at h
      · rename_i hs
        cases h
        obtain ⟨v, rfl, rv⟩ := one_of r
        have fin : ∀ z : Str, RelD X.K R H (.str z) (.str z) := fun z => relStr
        have hd := toPy_dp g 40 hp rv
        have hs' := hs
        unfold showOk at hs'
        obtain ⟨h1, h2⟩ := Bool.and_eq_true_iff.mp hs'
        have ok := o R H (.str p.shown) Ex.refl g (fin _)
        cases hd with
        | bl => exact rc_of call_reprL (.inl ⟨_, rfl, ok⟩)
        | str => exact rc_of call_reprL (.inr (.inl ⟨_, rfl, PyProof.Rows.fits_repr_of_layable h1, ok⟩))
        | int i =>
          simp only [intsLt, decide_eq_true_eq] at h2
          refine rc_of call_reprL (.inr (.inr (.inl ⟨_, rfl, ?_, ok⟩)))
          by_cases z : i.natAbs = 0
          · rw [z]; decide
          · have := (Nat.log2_lt z (k := 1920)).mpr (Nat.lt_of_lt_of_le h2 (Nat.le_of_lt (by decide +kernel)))
            exact this
        | non => exact rc_of call_reprL (.inr (.inr (.inr ⟨rfl, ok⟩)))
        | _ => exact rc_of (call_reprD gd hu) ⟨_, _, rfl, toPy_dp g 40 hp rv, hs, ok⟩
      · cases h
    · cases h
  · cases h
/-! ### sorted: lists of pairs of whole numbers -/
def prD (p : Int × Int) : D := .tup [.int p.1, .int p.2]
def pair? : D → Option (Int × Int)
  | .tup [.int i, .int j] => some (i, j)
  | _ => none
def pairs? : List D → Option (List (Int × Int))
  | [] => some []
  | d :: ds => match pair? d, pairs? ds with
    | some p, some l => some (p :: l)
    | _, _ => none
theorem pair_eq {d : D} {p : Int × Int} (h : pair? d = some p) : d = prD p := by
  unfold pair? at h
  split at h
  · cases h; rfl
  · cases h
theorem pairs_eq : ∀ {ds : List D} {ps : List (Int × Int)}, pairs? ds = some ps → ds = ps.map prD
  | [], ps, h => by simp only [pairs?, Option.some.injEq] at h; subst h; rfl
  | d :: ds, ps, h => by
    unfold pairs? at h
    split at h
    · rename_i p l h1 h2
      cases h
      rw [pair_eq h1, pairs_eq h2]
      rfl
    · cases h
def leP (p q : Int × Int) : Bool := decide (p.1 < q.1) || (decide (p.1 = q.1) && decide (p.2 ≤ q.2))
def insP (p : Int × Int) : List (Int × Int) → List (Int × Int)
  | [] => [p]
  | q :: l => match leP p q with
    | true => p :: q :: l
    | false => q :: insP p l
def sortP : List (Int × Int) → List (Int × Int)
  | [] => []
  | p :: l => insP p (sortP l)
theorem leP_iff {p q : Int × Int} : leP p q = true ↔ p.1 < q.1 ∨ (p.1 = q.1 ∧ p.2 ≤ q.2) := by
  simp only [leP, Bool.or_eq_true, Bool.and_eq_true, decide_eq_true_eq]
theorem leP_no {p q : Int × Int} (h : leP p q = false) : leP q p = true := by
  rw [leP_iff]
  have : ¬ (p.1 < q.1 ∨ (p.1 = q.1 ∧ p.2 ≤ q.2)) := fun z => by rw [leP_iff.mpr z] at h; cases h
  omega
theorem leP_trans {p q r : Int × Int} (a : leP p q = true) (b : leP q r = true) : leP p r = true := by
  rw [leP_iff] at *
  omega
theorem insP_perm (p : Int × Int) : ∀ l, (insP p l).Perm (p :: l)
  | [] => .refl _
  | q :: l => by
    unfold insP
    cases leP p q with
    | true => exact .refl _
    | false => exact ((insP_perm p l).cons q).trans (.swap p q l)
theorem sortP_perm : ∀ l, (sortP l).Perm l
  | [] => .refl _
  | p :: l => (insP_perm p _).trans ((sortP_perm l).cons p)
theorem insP_pw {p : Int × Int} : ∀ {l : List (Int × Int)}, l.Pairwise (leP · · = true) → (insP p l).Pairwise (leP · · = true)
  | [], _ => by simp [insP]
  | q :: l, h => by
    rw [List.pairwise_cons] at h
    unfold insP
    cases e : leP p q with
    | true =>
      simp only [List.pairwise_cons]
      refine ⟨fun a ha => ?_, h⟩
      rcases List.mem_cons.mp ha with rfl | ha
      · exact e
      · exact leP_trans e (h.1 a ha)
    | false =>
      simp only [List.pairwise_cons]
      refine ⟨fun a ha => ?_, insP_pw h.2⟩
      rcases List.mem_cons.mp ((insP_perm p l).mem_iff.mp ha) with rfl | ha
      · exact leP_no e
      · exact h.1 a ha
theorem sortP_pw : ∀ l, (sortP l).Pairwise (leP · · = true)
  | [] => .nil
  | p :: l => insP_pw (sortP_pw l)
theorem sortP_uniq {a b : List (Int × Int)} (p : a.Perm b) (ha : a.Pairwise (leP · · = true)) (hb : b.Pairwise (leP · · = true)) : a = b :=
  p.eq_of_pairwise (fun x y _ _ h1 h2 => by
    rw [leP_iff] at h1 h2
    exact Prod.ext (by omega) (by omega)) ha hb
def inB (p : Int × Int) : Bool := decide (0 ≤ p.1) && Nat.blt p.1.natAbs 1048576 && decide (0 ≤ p.2) && Nat.blt p.2.natAbs 1048576
def lSortedP (x : FL) (st : Sto) : Option (List D) := match flItems st x with
  | some ds => match pairs? ds with
    | some ps => match Nat.blt ps.length 64 && ps.all inB with
      | true => some ((sortP ps).map prD)
      | false => none
    | none => none
  | none => none
theorem perm_back {K : PySem.W.Frag} {R : List Addr} {H : Hp} {ys xs : List V} (h : ys.Perm xs) : ∀ {ps : List (Int × Int)}, RelDs K R H (ps.map prD) xs → ∃ ps' : List (Int × Int), ps'.Perm ps ∧ RelDs K R H (ps'.map prD) ys := by
  induction h with
  | nil => exact fun {ps} r => ⟨ps, .refl _, r⟩
  | cons x h ih =>
    intro ps r
    cases ps with
    | nil => simp [RelDs] at r
    | cons p ps =>
      simp only [List.map_cons, RelDs] at r
      obtain ⟨v, ws, e, r1, r2⟩ := r
      cases e
      obtain ⟨ps', q1, q2⟩ := ih r2
      refine ⟨p :: ps', q1.cons p, ?_⟩
      simp only [List.map_cons, RelDs]
      exact ⟨_, _, rfl, r1, q2⟩
  | swap x y l =>
    intro ps r
    cases ps with
    | nil => simp [RelDs] at r
    | cons p ps =>
      simp only [List.map_cons, RelDs] at r
      obtain ⟨v, ws, e, r1, r2⟩ := r
      cases e
      cases ps with
      | nil => simp [RelDs] at r2
      | cons q ps =>
        simp only [List.map_cons, RelDs] at r2
        obtain ⟨v, ws, e, r3, r4⟩ := r2
        cases e
        refine ⟨q :: p :: ps, .swap p q ps, ?_⟩
        simp only [List.map_cons, RelDs]
        exact ⟨_, _, rfl, r3, _, _, rfl, r1, r4⟩
  | trans h1 h2 ih1 ih2 =>
    intro ps r
    obtain ⟨ps1, a1, a2⟩ := ih2 r
    obtain ⟨ps2, b1, b2⟩ := ih1 a2
    exact ⟨ps2, b1.trans a1, b2⟩
theorem prD_tup {K : PySem.W.Frag} {R : List Addr} {H : Hp} {p : Int × Int} {v : V} (r : RelD K R H (prD p) v) : TupI K H v [p.1, p.2] := by
  simp only [prD, RelD, RelDs] at r
  obtain ⟨a, xs, rfl, sx, v1, w1, rfl, rfl, v2, w2, rfl, rfl, rfl⟩ := r
  exact ⟨a, rfl, sx⟩
theorem pw_back {K : PySem.W.Frag} {R : List Addr} {H : Hp} {B : Int} : ∀ {ps : List (Int × Int)} {ys : List V}, RelDs K R H (ps.map prD) ys → (∀ p ∈ ps, TS.Bd B [p.1, p.2]) → ys.Pairwise (fun x y => ∀ n m, TupI K H x n → TupI K H y m → TS.code B n ≤ TS.code B m) → ps.Pairwise (leP · · = true)
  | [], _, _, _, _ => .nil
  | p :: ps, ys, r, hb, h => by
    simp only [List.map_cons, RelDs] at r
    obtain ⟨v, ws, rfl, r1, r2⟩ := r
    rw [List.pairwise_cons] at h ⊢
    refine ⟨fun q hq => ?_, pw_back r2 (fun p hp => hb p (List.mem_cons_of_mem _ hp)) h.2⟩
    obtain ⟨i, hi⟩ := List.getElem?_of_mem (List.mem_map.mpr ⟨q, hq, rfl⟩ : prD q ∈ ps.map prD)
    obtain ⟨w, hw, rw'⟩ := r2.get hi
    have := h.1 w (List.mem_of_getElem? hw) _ _ (prD_tup r1) (prD_tup rw')
    rw [leP_iff]
    exact code_lex (hb p List.mem_cons_self) (hb q (List.mem_cons_of_mem _ hq)) this
theorem svnl_sortedP (j : JS J) : SVNL X J (.builtin "sorted") lSortedP := by
  intro R st H H0 R0 x v ds Q h e0 g rx k
  unfold lSortedP at h
  split at h
  · rename_i es he
    split at h
    · rename_i ps hp
      split at h
      · rename_i hc
        cases h
        simp only [Bool.and_eq_true, List.all_eq_true] at hc
        obtain ⟨p, xs, rfl, hx, rxs⟩ := rx.items g he
        rw [pairs_eq hp] at rxs
        have hl : xs.length < 64 := by
          rw [← rxs.length, List.length_map]
          exact Nat.blt_eq.mp hc.1
        have bd : ∀ q ∈ ps, TS.Bd 1048576 [q.1, q.2] := fun q hq m hm => by
          have := hc.2 q hq
          simp only [inB, Bool.and_eq_true, decide_eq_true_eq, Nat.blt_eq] at this
          simp only [List.mem_cons, List.not_mem_nil, or_false] at hm
          rcases hm with rfl | rfl <;> omega
        refine rc_of (cr_sortT (d := 2) (B := 1048576) (by decide)) ⟨p, xs, rfl, SqL.of hx, hl, fun y hy => ?_, fun ys q hpm hpw hq => ?_⟩
        · obtain ⟨i, hi⟩ := List.getElem?_of_mem hy
          have hlt : i < (ps.map prD).length := by rw [rxs.length]; exact (List.getElem?_eq_some_iff.mp hi).1
          obtain ⟨w, hw, rw'⟩ := rxs.get (List.getElem?_eq_getElem hlt)
          rw [hi] at hw
          cases hw
          have hm : (ps.map prD)[i] ∈ ps.map prD := List.getElem_mem hlt
          obtain ⟨z, hz, ez⟩ := List.mem_map.mp hm
          rw [← ez] at rw'
          exact ⟨[z.1, z.2], prD_tup rw', rfl, bd z hz⟩
        · obtain ⟨ps', q1, q2⟩ := perm_back hpm rxs
          have e : ps' = sortP ps := sortP_uniq (q1.trans (sortP_perm ps).symm) (pw_back q2 (fun z hz => bd z (q1.mem_iff.mp hz)) hpw) (sortP_pw ps)
          subst e
          obtain ⟨x1, x2, x3⟩ := new_lst (R0 := R0) (H0 := H0) j e0 g hq q2
          exact k R _ _ x1 x2 x3
      · cases h
    · cases h
  · cases h
def lOr (f f' : FL → Sto → Option (List D)) (x : FL) (st : Sto) : Option (List D) := match f x st with
  | some o => some o
  | none => f' x st
theorem svnl_or {fv : Value} {f f' : FL → Sto → Option (List D)} (a : SVNL X J fv f) (b : SVNL X J fv f') : SVNL X J fv (lOr f f') := by
  intro R st H H0 R0 x v ds Q h
  unfold lOr at h
  split at h
  · rename_i o ho
    cases h
    exact a R st H H0 R0 x v _ Q ho
  · exact b R st H H0 R0 x v ds Q h
end
end TA
/-! own errors: raised, caught -/
namespace TA
open PySem PySem.Spec
open PyProof.Rows L2

/-! ### an own error's __init__: self.f = f -/
def spInit (K : PySem.W.Frag) (f : Str) : Sp := fun vs H Q _ => ∃ (a C : Addr) (y : V), vs = [.ref a, y] ∧ OexC K C ∧ PySem.W.findIn K (.ref C) f = some none ∧ H a = some (exo a C none) ∧
  ∀ dx, H dx = none → dx ≠ a → Q .non (upd (upd H dx (exd dx [(f, y)])) a (exo a C (some dx)))
section
variable {P : Program} {w : World} {K : PySem.W.Frag} {mg : Str → Option Value} {base : Heap}
theorem init_ok {x qual f : Str} {st : Stmt} {fI : Addr} {fd : FuncData} {p1 p2 p3 pos : Pos} (F : Fun K x qual st fI fd) (S : FnScope ["self", f] ["self", f] (defScope st))
    (hb : defBody st = [.Assign [.Attribute (.Name "self" p1) f p2] (.Name f p3) pos]) (h1 : (f == ("__debug__" : Str)) = false) (h2 : (f == ("__classdict__" : Str)) = false) :
    FnOk P w K mg base CX0 1 fI fd ["self", f] (spInit K f) := by
  refine F.ok S (fun vs H Q E h => ?_) fun cdv A outer s H vs Q E hr h => ?_
  · obtain ⟨a, C, y, rfl, _⟩ := h
    rfl
  · refine ⟨tOst K f (tVar 0) (tVar 1), PSs.nox ?_, ?_⟩
    · rw [hb]
      refine pss_one (ps_ost (pe_var rfl ?_ (by decide) (by decide)) (pe_var rfl ?_ h1 h2) rfl)
      · rcases S.par "self" (by simp) with z | z
        · exact .inl z
        · exact .inr (.inl z)
      · rcases S.par f (by simp) with z | z
        · exact .inl z
        · exact .inr (.inl z)
    · obtain ⟨a, C, y, rfl, hC, hf, ha, hq⟩ := h
      exact ⟨y, rfl, .ref a, rfl, a, C, rfl, hC, hf, .inl ⟨ha, hq⟩⟩
end
/-- an own error's class, to be raised with one value for its one field -/
structure XcAt (X : Cx) (C f : Str) : Prop where
  ex : ∃ (fI : Addr) (fd : FuncData), OexC X.K (He.ga X.K C) ∧ PySem.W.findIn X.K (.ref (He.ga X.K C)) "__init__" = some (some (.ref fI)) ∧ PySem.W.typeIn X.K (.ref fI) = some (.type "function") ∧
    FnOk X.prog X.w X.K X.mg X.base CX0 1 fI fd ["self", f] (spInit X.K f) ∧ Binds X.K fd ["self", f] [] ∧ X.mg C = some (.ref (He.ga X.K C)) ∧ PySem.W.findIn X.K (.ref (He.ga X.K C)) f = some none
def sRaise (C f : Str) (m : M D) : MS := sBind m fun d => fun _ st => some (.exc ⟨C, [(f, d)]⟩ st)
section
variable {X : Cx} {J : Hp → Prop}
theorem heap_back {H : Hp} {a dx : Addr} {u o : HO} {q : HO} (ha : H a = none) (hd : dx ≠ a) : upd (del (upd (upd (upd H a u) dx o) a q) a) dx o = upd H dx o := by
  funext b
  by_cases h1 : b = dx
  · subst h1; rw [upd_same, upd_same]
  · rw [upd_ne h1, upd_ne h1]
    by_cases h2 : b = a
    · subst h2; rw [del_same, ha]
    · rw [del_ne h2, upd_ne h2, upd_ne h1, upd_ne h2]
theorem heap_back' {H : Hp} {a dx : Addr} {u o o' : HO} {q : HO} (ha : H a = none) (hd : dx ≠ a) : upd (del (upd (upd (upd H a u) dx o) a q) a) dx o' = upd H dx o' := by
  funext b
  by_cases h1 : b = dx
  · subst h1; rw [upd_same, upd_same]
  · rw [upd_ne h1, upd_ne h1]
    by_cases h2 : b = a
    · subst h2; rw [del_same, ha]
    · rw [del_ne h2, upd_ne h2, upd_ne h1, upd_ne h2]
theorem ss_raise {C f : Str} {e : Expr} {p pos pos2 : Pos} {m : M D} (j : JS J) (T : XcAt X C f) (hc : X.calm = true) (hr : Room 2 X.A) (hg : Gl X C) (hdb : (C == ("__debug__" : Str)) = false) (S : SE X J e m) (hp : plainArg e = true) :
    SS X J (.Raise (some (.Call (.Name C p) [e] [] pos)) none pos2) (sRaise C f m) := by
  intro R env st σ H out De E h g r t o
  obtain ⟨fI, fd, hC, hi, hti, hF, hB, hm, hf⟩ := T.ex
  refine sem_ofS (ps_raise hc t (pmk_oex (ds := []) (dvs := []) hC hi hti hF hr hB .nil pass0 hg hm (pa_cons pe_sem pa_nil (star_cons hp)) hdb (star_cons hp) rfl)) ?_
  show tSem X e σ H _
  refine se_thenS S h g r t o fun R1 st1 H1 d v e1 g1 r1 rd h1 o1 => ?_
  cases h1
  refine ⟨by show 1 ≤ 1000; decide, fun a ha => ⟨a, He.ga X.K C, v, rfl, hC, hf, upd_same, fun dx hdx hne => ⟨rfl, dx, [(f, v)], upd_same, ?_, ?_, ?_⟩⟩⟩
  · rw [upd_ne hne, upd_same]
  · rw [upd_ne hne] at hdx; exact hdx
  · rw [upd_ne hne] at hdx
    rw [heap_back' ha hne]
    have hR : dx ∉ R1 := fun z => by
      obtain ⟨n, ob, _, _, w⟩ := g1.mem z
      exact w.some hdx
    exact o1 R1 _ _ _ (Ex.new hdx) (g1.new j hdx) ⟨rfl, dx, [(f, v)], rfl, hR, upd_same, by
      simp only [RelA]
      exact ⟨v, [], rfl, rd.mono (Ex.new (R := R1) hdx).toEx0, rfl⟩⟩
end

/-! ### try with several clauses, each with a name or without -/
abbrev Cl := Value × Option Nat × (Addr → Value → Option Addr → TS)
def endsAs (D : Ends) (i : Nat) : Ends := { nx := fun τ G => D.nx (τ.set i none) G, rt := D.rt, bk := fun τ G => D.bk (τ.set i none) G, ct := fun τ G => D.ct (τ.set i none) G }
def wMix (K : PySem.W.Frag) (N : Nat) (W : WX) (D : Ends) : List Cl → WX
  | [] => W
  | (c, none, ts) :: l => fun cls d σ H => ∃ b, PySem.W.exmOne K cls c = some b ∧ (b = true → ∀ a, H a = none → ts a cls d D σ H) ∧ (b = false → wMix K N W D l cls d σ H)
  | (c, some i, ts) :: l => fun cls d σ H => ∃ b, PySem.W.exmOne K cls c = some b ∧ (b = true → ∀ a, H a = none → σ.length = N → ts a cls d (endsAs D i) (σ.set i (some (.ref a))) H) ∧ (b = false → wMix K N W D l cls d σ H)
inductive ClOk (X : Cx) : List ExceptHandler → List Cl → Prop
  | nil : ClOk X [] []
  | one {x : Str} {c : Value} {ts : Addr → Value → Option Addr → TS} {s0 : Stmt} {ss : List Stmt} {np pp : Pos} {hds : List ExceptHandler} {l : List Cl} (hc : Names X x c)
      (su : ∀ (a : Addr) (oe : Obj) (cls : Value) (d : Option Addr) (pn : List (Addr × Obj)), Zc cls d oe → (∃ vs, oe.data = .fields vs) → PSs (X.suite a ((a, oe) :: pn)) (s0 :: ss) (ts a cls d)) (r : ClOk X hds l) :
      ClOk X (.ExceptHandler (some (.Name x np)) none (s0 :: ss) pp :: hds) ((c, none, ts) :: l)
  | as {x n : Str} {i : Nat} {c : Value} {ts : Addr → Value → Option Addr → TS} {s0 : Stmt} {ss : List Stmt} {np pp : Pos} {hds : List ExceptHandler} {l : List Cl} (hc : Names X x c) (hi : X.N[i]? = some n) (hl : X.env.kindOf n = some .local)
      (su : ∀ (a : Addr) (oe : Obj) (cls : Value) (d : Option Addr) (pn : List (Addr × Obj)), Zc cls d oe → (∃ vs, oe.data = .fields vs) → PSs (X.suite a ((a, oe) :: pn)) (s0 :: ss) (ts a cls d)) (r : ClOk X hds l) :
      ClOk X (.ExceptHandler (some (.Name x np)) (some n) (s0 :: ss) pp :: hds) ((c, some i, ts) :: l)
section
variable {X : Cx}
theorem ps_mix {body : List Stmt} {h0 : ExceptHandler} {hds : List ExceptHandler} {l : List Cl} {pos : Pos} {tb : WX → TS} {W : WX} (hs : X.stack = X.env :: X.outer) (hf : X.env.frame = some X.env.locals) (hN : X.N.Nodup) (tk : Takes X W)
    (hb : ∀ (W' : WX) (pn : List (Addr × Obj)) (xe : Value → Shared → Prop), Takes (X.tr pn xe) W' → PassesOwn (model X.prog X.w) X.A X.env xe → PSs (X.tr pn xe) body (tb W')) (hh : ClOk X (h0 :: hds) l) :
    PS X (.Try body (h0 :: hds) [] [] pos) (fun De σ H => tb (wMix X.K X.N.length W De l) De σ H) := by
  constructor
  intro pins s σ H De I hw
  have iok := I.ok
  have frm : X.A.frames = some (X.env :: X.outer) := iok.frames.trans (congrArg some hs)
  refine wpAny_Try_except ?_
  have caught : Takes (X.tr (X.pn ++ pins) fun er t => wpAny (model X.prog X.w) X.A (noteFrame er X.env) (fun _ t1 => wpAny (model X.prog X.w) X.A (setFlight er none) (fun _ t2 => wpAny (model X.prog X.w) X.A (handleBy er X.env (h0 :: hds)) (SP X pins De) X.xe t2) X.xe t1) X.xe t) (wMix X.K X.N.length W De l) := by
    intro u t xx
    obtain ⟨q, B, sI, ps', τ, G, cls, d, rfl, K1, nb, up, sky, na, os, ag, ww⟩ := xx
    have K2 : Inv X pins τ G sI := K1.ofTry iok
    have sky2 : Sky B (X.env :: X.outer) q (Zc cls d) X.env.locals t.heap := hs ▸ sky
    show wpAny (model X.prog X.w) X.A (noteFrame (.ref q) X.env) _ _ _
    refine Sky.land Zc.steady frm hf sky2 fun g1 fly up1 => ?_
    have K3 : Inv X pins τ G { t with heap := g1 } := K2.landed nb fly.1 (up.trans up1) os ag
    obtain ⟨oq, us, hq, zq, dq⟩ := fly.there
    have notF : q ∉ frs (X.env :: X.outer) := fun z => by
      obtain ⟨_, o2, e2, n2⟩ := fly.2.2.1.mem z
      obtain rfl := Option.some.inj (hq.symm.trans e2)
      exact n2 _ dq
    have nl : q ≠ X.env.locals := fun z => notF (List.mem_filterMap.mpr ⟨X.env, List.mem_cons_self, hf.trans (congrArg some z.symm)⟩)
    have nf : q ∉ X.fs := fun z => by
      obtain ⟨e2, m2, r2⟩ := List.mem_filterMap.mp z
      exact notF (List.mem_filterMap.mpr ⟨e2, List.mem_cons_of_mem _ m2, r2⟩)
    have su1 := K3.suite hq dq na nl nf
    have ty : PySem.W.Looks (model X.prog X.w) g1 (typeOf (.ref q)) cls := fun _ _ _ _ kk z => wpAny_typeOf_ref (kk _ _ hq) (zq.1 ▸ z)
    have nm : ∀ {x : Str} {c : Value} {np : Pos} {Q E : Value → Shared → Prop}, Names X x c → Q c { t with heap := g1 } → wpAny (model X.prog X.w) (X.A.mark (some (.ref q))) (eval (.Name x np) X.env) Q E { t with heap := g1 } := fun {x c np Q E} hc z => by
      rcases hc with ⟨c1, c2, c3 | ⟨c3, c4, c5⟩⟩
      · exact ld_glob (X := X.suite q ((q, oq) :: (X.pn ++ pins))) su1 c1 c3 z c2
      · exact ld_blt (X := X.suite q ((q, oq) :: (X.pn ++ pins))) su1 c1 c3 c4 z c5 c2
    have go : ∀ (hl : List ExceptHandler) (ll : List Cl), ClOk X hl ll → wMix X.K X.N.length W De ll cls d τ G → wpAny (model X.prog X.w) X.A (handleBy (.ref q) X.env hl) (SP X pins De) X.xe { t with heap := g1 } := by
      intro hl ll ck
      induction ck with
      | nil =>
        intro w1
        refine wpAny_handleBy_nil ?_
        obtain ⟨_, _, _, o3, v3, T3, _, _, f1, _, f2, f3, _⟩ := id fly
        unfold PySem.passOn
        refine wpAny_bind (wpAny_field f1 f2 f3 ?_)
        rw [if_neg (by simp : ¬ ((Value.ref T3 == Value.none) = true))]
        have last : wpAny (model X.prog X.w) X.A (setFlight (.ref q) X.env.frame) (fun _ t3 => wpAny (model X.prog X.w) X.A (throw (.ref q) : Sem Flow) (SP X pins De) X.xe t3) X.xe { t with heap := g1 } := by
          rw [hf]
          refine HandSPX.setFlight_upZ fly fun g2 fly2 up2 => wpAny_throw (tk _ _ ?_)
          refine ⟨q, B, sI, pins, τ, G, cls, d, rfl, K2, nb, (up.trans up1).trans up2, .inr (.inr ?_), na, os, ag, w1⟩
          rw [hs]
          exact fly2
        first
          | exact wpAny_bind last
          | exact wpAny_bind (wpAny_pure (wpAny_bind last))
      | one hc su r ih =>
        intro w1
        obtain ⟨b, b1, b2, b3⟩ := w1
        refine wpAny_handleBy_cons (codeAny_handlers_test ?_) (fun z => by cases z)
        refine nm hc ((PySem.W.exm_one (M := model X.prog X.w) K3.kIn ty b1).here ?_)
        cases b with
        | false => exact ih (b3 rfl)
        | true =>
          refine codeAny_handlers_suite (HandSPX.lands_againZ fly fun g2 fly2 up2 => ?_)
          have K4 : Inv X pins τ G { t with heap := g2 } := K2.landed nb fly2.1 ((up.trans up1).trans up2) os ag
          obtain ⟨o4, u4, h4, z4, d4⟩ := fly2.there
          refine wpAny_mono ((su q o4 cls d (X.pn ++ pins) z4 ⟨_, d4⟩).run [] _ _ G _ (K4.suite h4 d4 na nl nf) (b2 rfl q na)) (fun fl t5 e5 => ?_) (fun _ _ z => z.elim)
          match fl, e5 with
          | .next, ⟨τ5, G5, i5, q5⟩ => exact ⟨τ5, G5, i5.unsuite iok, q5⟩
          | .brk, ⟨τ5, G5, i5, q5⟩ => exact ⟨τ5, G5, i5.unsuite iok, q5⟩
          | .cont, ⟨τ5, G5, i5, q5⟩ => exact ⟨τ5, G5, i5.unsuite iok, q5⟩
          | .ret _, ⟨v5, τ5, G5, i5, r5, q5⟩ => exact ⟨v5, τ5, G5, i5.unsuite iok, r5, q5⟩
      | @as x n i c ts s0 ss np pp hds' l' hc hi hln su r ih =>
        intro w1
        obtain ⟨b, b1, b2, b3⟩ := w1
        refine wpAny_handleBy_cons (codeAny_handlers_test ?_) (fun z => by cases z)
        refine nm hc ((PySem.W.exm_one (M := model X.prog X.w) K3.kIn ty b1).here ?_)
        cases b with
        | false => exact ih (b3 rfl)
        | true =>
          refine codeAny_handlers_suite_as (HandSPX.lands_againZ fly fun g2 fly2 up2 => ?_)
          have K4 : Inv X pins τ G { t with heap := g2 } := K2.landed nb fly2.1 ((up.trans up1).trans up2) os ag
          obtain ⟨o4, u4, h4, z4, d4⟩ := fly2.there
          refine store_ok (X := X.suite q ((q, o4) :: (X.pn ++ pins))) (v := .ref q) (K4.suite h4 d4 na nl nf) hN hi (.inl hln) rfl (fun t5 i5 => ?_) (.inr hln)
          refine wpAny_mono ((su q o4 cls d (X.pn ++ pins) z4 ⟨_, d4⟩).run [] t5 _ G _ i5 (b2 rfl q na K2.len)) (fun fl t6 e6 => ?_) (fun _ _ z => z.elim)
          have off : ∀ {τ6 : Sg} {G6 : Hp} {Q : Shared → Prop}, Inv (X.suite q ((q, o4) :: (X.pn ++ pins))) [] τ6 G6 t6 → (∀ t7, Inv X pins (τ6.set i none) G6 t7 → Q t7) →
              wpAny (model X.prog X.w) X.A (do bindName X.env n .none; unbindBehindTheSuite X.env n pp) (fun _ t7 => Q t7) X.xe t6 := fun {τ6 G6 Q} i6 z => gone_ok (i6.unsuite iok) hN hi hln z
          match fl, e6 with
          | .next, ⟨τ6, G6, i6, q6⟩ => exact off i6 fun t7 i7 => ⟨_, _, i7, q6⟩
          | .brk, ⟨τ6, G6, i6, q6⟩ => exact off i6 fun t7 i7 => ⟨_, _, i7, q6⟩
          | .cont, ⟨τ6, G6, i6, q6⟩ => exact off i6 fun t7 i7 => ⟨_, _, i7, q6⟩
          | .ret _, ⟨v6, τ6, G6, i6, r6, q6⟩ => exact off i6 fun t7 i7 => ⟨_, _, _, i7, r6, q6⟩
    exact go _ _ hh ww
  refine wpAny_mono ((hb _ _ _ caught PassesOwn.looking).run [] s σ H De (I.toTry _) hw) (fun fl t1 e1 => ?_) (fun _ _ z => z)
  match fl, e1 with
  | .next, ⟨τ, G, i1, q1⟩ => exact wpAny_execs_nil ⟨τ, G, i1.ofTry iok, q1⟩
  | .brk, ⟨τ, G, i1, q1⟩ => exact ⟨τ, G, i1.ofTry iok, q1⟩
  | .cont, ⟨τ, G, i1, q1⟩ => exact ⟨τ, G, i1.ofTry iok, q1⟩
  | .ret _, ⟨v, τ, G, i1, r1, q1⟩ => exact ⟨v, τ, G, i1.ofTry iok, r1, q1⟩
end
end TA
/-! a try with clauses that return -/
namespace TA
open PySem PySem.Spec
open PyProof.Rows L2

inductive HI where
  | str (s : Str)
  | int (i : Int)
  | bl (b : Bool)
  | non
  | fld (f : Str)
  deriving DecidableEq, Repr, Inhabited
inductive HR where
  | one (h : HI)
  | tup (hs : List HI)
  deriving DecidableEq, Repr, Inhabited
structure Hn where
  cls : Str
  as : Option Nat
  res : HR
  deriving DecidableEq, Repr, Inhabited
abbrev Exm := List (Str × Str × Bool)
def lookS {α : Type} : List (Str × α) → Str → Option α
  | [], _ => none
  | p :: r, x => match decide (p.1 = x) with
    | true => some p.2
    | false => lookS r x
def HI.val (y : Str) (x : Xn) : HI → Option D
  | .str s => some (.str s)
  | .int i => some (.int i)
  | .bl b => some (.bl b)
  | .non => some .non
  | .fld f => match decide (x.cls = y) with
    | true => lookS x.fs f
    | false => none
def HI.vals (y : Str) (x : Xn) : List HI → Option (List D)
  | [] => some []
  | h :: hs => match h.val y x, HI.vals y x hs with
    | some d, some ds => some (d :: ds)
    | _, _ => none
def HR.val (y : Str) (x : Xn) : HR → Option D
  | .one h => h.val y x
  | .tup hs => (HI.vals y x hs).map D.tup
def exOf : Exm → Str → Str → Option Bool
  | [], _, _ => none
  | p :: r, x, y => match decide (p.1 = x) && decide (p.2.1 = y) with
    | true => some p.2.2
    | false => exOf r x y
def catchS (t : Exm) (x : Xn) (st : Sto) : List Hn → Option SOut
  | [] => some (.exc x st)
  | h :: r => match exOf t x.cls h.cls with
    | some true => (h.res.val h.cls x).map fun d => .rt d st
    | some false => catchS t x st r
    | none => none
def sTry (t : Exm) (mb : MS) (hs : List Hn) : MS := fun env st => match mb env st with
  | some (.exc x st') => catchS t x st' hs
  | o => o
theorem exOf_in {t : Exm} {x y : Str} {b : Bool} (h : exOf t x y = some b) : (x, y, b) ∈ t := by
  induction t with
  | nil => cases h
  | cons p r ih =>
    unfold exOf at h
    cases e : decide (p.1 = x) && decide (p.2.1 = y) with
    | true =>
      rw [e] at h
      cases h
      simp only [Bool.and_eq_true, decide_eq_true_eq] at e
      obtain ⟨e1, e2⟩ := e
      subst e1; subst e2
      exact List.mem_cons_self
    | false =>
      rw [e] at h
      exact List.mem_cons_of_mem _ (ih h)

/-! ### the clauses' texts -/
/-- e is what h says; the error's name is n -/
def hiE (n : Option Str) : Expr → Option HI
  | .Constant (.str s) _ _ => some (.str s)
  | .Constant (.int s) _ _ => some (.int s)
  | .Constant (.bool s) _ _ => some (.bl s)
  | .Constant .none _ _ => some .non
  | .Attribute (.Name x _) f _ => match n with
    | some m => match decide (x = m) && !(x == ("__debug__" : Str)) && !(x == ("__classdict__" : Str)) with
      | true => some (.fld f)
      | false => none
    | none => none
  | _ => none
def hisE (n : Option Str) : List Expr → Option (List HI)
  | [] => some []
  | e :: es => match hiE n e, hisE n es with
    | some h, some hs => some (h :: hs)
    | _, _ => none
def hrE (n : Option Str) : Expr → Option HR
  | .Tuple es _ _ => match Nat.blt es.length 100 with
    | true => (hisE n es).map HR.tup
    | false => none
  | e => (hiE n e).map HR.one
section
variable {X : Cx} {J : Hp → Prop}
theorem relA_look {K : PySem.W.Frag} {R : List Addr} {H : Hp} {f : Str} {d : D} : ∀ {l : List (Str × D)} {fs : List (Str × V)}, RelA K R H l fs → lookS l f = some d → ∃ v, fs.lookup f = some v ∧ RelD K R H d v
  | [], _, r, h => by simp [lookS] at h
  | p :: l, _, r, h => by
    simp only [RelA] at r
    obtain ⟨v, ws, rfl, r1, r2⟩ := r
    unfold lookS at h
    by_cases e : p.1 = f
    · rw [decide_eq_true e] at h
      cases h
      subst e
      exact ⟨v, by simp [List.lookup_cons], r1⟩
    · rw [decide_eq_false e] at h
      obtain ⟨w, e1, e2⟩ := relA_look r2 h
      refine ⟨w, ?_, e2⟩
      rw [List.lookup_cons]
      have : (f == p.1) = false := beq_eq_false_iff_ne.mpr fun z => e z.symm
      rw [this]
      exact e1
/-- what is to be known of a class whose field is read -/
structure XrAt (X : Cx) (C f : Str) : Prop where
  xf : XfC X.K (He.ga X.K C)
  no : PySem.W.findIn X.K (.ref (He.ga X.K C)) f = some none
/-- where a caught error stands -/
structure Su (X : Cx) (i : Option Nat) (nm : Option Str) (a : Addr) (σ : Sg) : Prop where
  at_ : ∀ k, i = some k → σ[k]? = some (some (.ref a))
  nm_ : ∀ m, nm = some m → ∃ k, i = some k ∧ X.N[k]? = some m ∧ Vis X.env.scope m
theorem hi_ok {i : Option Nat} {nm : Option Str} {a : Addr} {oe : Obj} {pn : List (Addr × Obj)} {y : Str} {x : Xn} {cls : Value} {dd : Option Addr} {R : List Addr} {H : Hp} {σ : Sg} {e : Expr} {h : HI} {d : D} (he : hiE nm e = some h) (hv : h.val y x = some d)
    (hx : ∀ f, h = .fld f → XrAt X y f) (xr : XRel X.K R H x cls dd) (su : Su X i nm a σ) (hz : Zc cls dd oe) (hf : ∃ vs, oe.data = .fields vs) {Q : VK} (q : ∀ v, RelD X.K R H d v → Q v H) : tSem (X.suite a ((a, oe) :: pn)) e σ H Q := by
  unfold hiE at he
  split at he
  · cases he; cases hv; exact sem_of pe_str (q _ relStr)
  · cases he; cases hv; exact sem_of pe_int (q _ relInt)
  · cases he; cases hv; exact sem_of pe_bl (q _ relBl)
  · cases he; cases hv; exact sem_of pe_non (q _ relNon)
  · rename_i z p1 f p2
    split at he
    · rename_i m
      split at he
      · rename_i hh
        cases he
        simp only [Bool.and_eq_true, decide_eq_true_eq, Bool.not_eq_true'] at hh
        obtain ⟨⟨rfl, h1⟩, h2⟩ := hh
        obtain ⟨k, rfl, hk, hvis⟩ := su.nm_ _ rfl
        simp only [HI.val] at hv
        split at hv
        · rename_i hc
          have hc := of_decide_eq_true hc
          subst hc
          obtain ⟨c1, d0, fs, c2, c3, c4, c5⟩ := xr
          obtain ⟨v, l1, l2⟩ := relA_look c5 hv
          have T := hx f rfl
          refine sem_of (pe_xf T.xf T.no hz hf (pe_var (X := X.suite a ((a, oe) :: pn)) hk hvis h1 h2) rfl) ?_
          exact ⟨.ref a, su.at_ k rfl, rfl, c1, d0, fs, v, c2, c4, l1, q v l2⟩
        · cases hv
      · cases he
    · cases he
  · cases he
theorem hi_plain {nm : Option Str} {e : Expr} {h : HI} (he : hiE nm e = some h) : plainArg e = true := by
  unfold hiE at he
  split at he <;> first | rfl | cases he
theorem his_ok {i : Option Nat} {nm : Option Str} {a : Addr} {oe : Obj} {pn : List (Addr × Obj)} {y : Str} {x : Xn} {cls : Value} {dd : Option Addr} {R : List Addr} {H : Hp} {σ : Sg} (xr : XRel X.K R H x cls dd) (su : Su X i nm a σ) (hz : Zc cls dd oe) (hf : ∃ vs, oe.data = .fields vs) :
    ∀ {es : List Expr} {hs : List HI} {ds : List D} {Q : List V → Hp → Prop}, hisE nm es = some hs → HI.vals y x hs = some ds → (∀ f, HI.fld f ∈ hs → XrAt X y f) → (∀ vs, RelDs X.K R H ds vs → Q vs H) → taSem (X.suite a ((a, oe) :: pn)) es σ H Q
  | [], hs, ds, Q, he, hv, hx, q => by
    cases he
    cases hv
    exact sem_ofA pa_nil (q [] (by simp only [RelDs]))
  | e :: es, hs, ds, Q, he, hv, hx, q => by
    unfold hisE at he
    split at he
    · rename_i h hs' h1 h2
      cases he
      unfold HI.vals at hv
      split at hv
      · rename_i d ds' v1 v2
        cases hv
        refine sem_ofA (pa_cons pe_sem pa_sem (star_cons (hi_plain h1))) ?_
        refine hi_ok h1 v1 (fun f ef => hx f (by rw [ef]; exact List.mem_cons_self)) xr su hz hf fun v rv => ?_
        refine his_ok xr su hz hf h2 v2 (fun f hm => hx f (List.mem_cons_of_mem _ hm)) fun vs rvs => q _ ?_
        simp only [RelDs]
        exact ⟨v, vs, rfl, rv, rvs⟩
      · cases hv
    · cases he
def HR.fls : HR → List Str
  | .one (.fld f) => [f]
  | .one _ => []
  | .tup hs => hs.filterMap fun | .fld f => some f | _ => none
theorem vals_len {y : Str} {x : Xn} : ∀ {hs : List HI} {ds : List D}, HI.vals y x hs = some ds → ds.length = hs.length
  | [], ds, h => by cases h; rfl
  | k :: hs, ds, h => by
    unfold HI.vals at h
    split at h
    · rename_i d' ds' _ h2
      cases h
      simp [vals_len h2]
    · cases h
theorem his_len {nm : Option Str} : ∀ {es : List Expr} {hs : List HI}, hisE nm es = some hs → hs.length = es.length
  | [], hs, h => by cases h; rfl
  | e :: es, hs, h => by
    unfold hisE at h
    split at h
    · rename_i h' hs' _ h2
      cases h
      simp [his_len h2]
    · cases h
theorem hr_ok {i : Option Nat} {nm : Option Str} {a : Addr} {oe : Obj} {pn : List (Addr × Obj)} {y : Str} {x : Xn} {cls : Value} {dd : Option Addr} {R : List Addr} {H : Hp} {σ : Sg} {st : Sto} {e : Expr} {h : HR} {d : D} (j : JS J) (g : Gd X.K J R st H) (he : hrE nm e = some h) (hv : h.val y x = some d)
    (hx : ∀ f ∈ h.fls, XrAt X y f) (xr : XRel X.K R H x cls dd) (su : Su X i nm a σ) (hz : Zc cls dd oe) (hf : ∃ vs, oe.data = .fields vs) {Q : VK} (q : ∀ v H', Ex R R H H' → Gd X.K J R st H' → RelD X.K R H' d v → Q v H') : tSem (X.suite a ((a, oe) :: pn)) e σ H Q := by
  unfold hrE at he
  split at he
  · rename_i es k p
    split at he
    · rename_i hl
      cases hh : hisE nm es with
      | none => rw [hh] at he; cases he
      | some hs =>
        rw [hh] at he
        cases he
        simp only [HR.val] at hv
        cases hvs : HI.vals y x hs with
        | none => rw [hvs] at hv; cases hv
        | some ds =>
          rw [hvs] at hv
          cases hv
          refine sem_of (pe_tup pa_sem) ?_
          refine his_ok xr su hz hf hh hvs (fun f hm => hx f (List.mem_filterMap.mpr ⟨_, hm, rfl⟩)) fun vs rvs => ?_
          have hlen : vs.length ≤ sizeLine := by
            have l1 : ds.length = hs.length := vals_len hvs
            have l2 : hs.length = es.length := his_len hh
            have l3 : es.length < 100 := Nat.blt_eq.mp hl
            rw [← rvs.length, l1, l2]
            exact szL (Nat.ble_eq.mpr (by omega))
          refine ⟨hlen, fun p hp => q _ _ (Ex.new hp) (g.new j hp) ?_⟩
          simp only [RelD]
          exact ⟨p, vs, rfl, SqT.of upd_same, rvs.mono (Ex.new (R := R) hp).toEx0⟩
    · cases he
  · cases hh : hiE nm e with
    | none => rw [hh] at he; cases he
    | some hi =>
      rw [hh] at he
      cases he
      simp only [HR.val] at hv
      exact hi_ok hh hv (fun f ef => hx f (by rw [ef]; simp [HR.fls])) xr su hz hf fun v rv => q v H Ex.refl g rv
/-! ### the statement -/
/-- one clause: its text, its plan -/
structure HnAt (X : Cx) (h : ExceptHandler) (k : Hn) : Prop where
  ex : ∃ (nm : Option Str) (e : Expr) (np rp pp : Pos), h = .ExceptHandler (some (.Name k.cls np)) nm [.Return (some e) rp] pp ∧ hrE nm e = some k.res ∧ Names X k.cls (.ref (He.ga X.K k.cls)) ∧ (∀ f ∈ k.res.fls, XrAt X k.cls f) ∧
    ((nm = none ∧ k.as = none) ∨ ∃ n i, nm = some n ∧ k.as = some i ∧ X.N[i]? = some n ∧ X.env.kindOf n = some .local)
def HnsAt (X : Cx) : List ExceptHandler → List Hn → Prop
  | [], [] => True
  | h :: hs, k :: ks => HnAt X h k ∧ HnsAt X hs ks
  | _, _ => False
/-- a suite's reading -/
def tSu (X : Cx) (suite : List Stmt) (a : Addr) (cls : Value) (d : Option Addr) : TS := fun De σ H => ∀ (oe : Obj) (pn : List (Addr × Obj)), Zc cls d oe → (∃ vs, oe.data = .fields vs) → tbSem (X.suite a ((a, oe) :: pn)) suite De σ H
def suOf : ExceptHandler → List Stmt
  | .ExceptHandler _ _ b _ => b
def clOf (X : Cx) : List ExceptHandler → List Hn → List Cl
  | h :: hs, k :: ks => (.ref (He.ga X.K k.cls), k.as, tSu X (suOf h)) :: clOf X hs ks
  | _, _ => []
theorem cl_ok : ∀ {hs : List ExceptHandler} {ks : List Hn}, HnsAt X hs ks → ClOk X hs (clOf X hs ks)
  | [], [], _ => .nil
  | h :: hs, k :: ks, hk => by
    obtain ⟨⟨nm, e, np, rp, pp, rfl, he, hn, hx, ha⟩, h2⟩ := hk
    obtain ⟨kc, ka, kr⟩ := k
    have su : ∀ (a : Addr) (oe : Obj) (cls : Value) (d : Option Addr) (pn : List (Addr × Obj)), Zc cls d oe → (∃ vs, oe.data = .fields vs) → PSs (X.suite a ((a, oe) :: pn)) [.Return (some e) rp] (tSu X [.Return (some e) rp] a cls d) :=
      fun a oe cls d pn hz hf => ⟨fun pins s σ H De I h => h oe pn hz hf pins s I⟩
    rcases ha with ⟨rfl, ha⟩ | ⟨n, i, rfl, ha, h3, h4⟩
    · simp only at ha
      subst ha
      exact .one hn su (cl_ok h2)
    · simp only at ha
      subst ha
      exact .as hn h3 h4 su (cl_ok h2)
  | [], _ :: _, hk => hk.elim
  | _ :: _, [], hk => hk.elim
def tTry (X : Cx) (body : List Stmt) (W : WX) : TS := fun De σ H => ∀ (pn : List (Addr × Obj)) (xe : Value → Shared → Prop), Takes (X.tr pn xe) W → PassesOwn (model X.prog X.w) X.A X.env xe → tbSem (X.tr pn xe) body De σ H
/-- at one state -/
theorem try_at {t : Exm} {body : List Stmt} {h0 : ExceptHandler} {hds : List ExceptHandler} {ks : List Hn} {mb : MS} {pos : Pos} {R : List Addr} {env : En} {st : Sto} {σ : Sg} {H : Hp} {out : SOut} {De : Ends} {E : XK} (j : JS J) (hs : X.stack = X.env :: X.outer) (hf : X.env.frame = some X.env.locals) (hN : X.N.Nodup)
    (ht : ∀ p ∈ t, PySem.W.exmOne X.K (.ref (He.ga X.K p.1)) (.ref (He.ga X.K p.2.1)) = some p.2.2)
    (B : ∀ (pn : List (Addr × Obj)) (xe : Value → Shared → Prop), PassesOwn (model X.prog X.w) X.A X.env xe → ∀ (out' : SOut) (De' : Ends) (E' : XK), mb env st = some out' → Tk (X.tr pn xe) E' → OkS X.K J R H (EnR X.K) De' E' out' → tbSem (X.tr pn xe) body De' σ H) (hk : HnsAt X (h0 :: hds) ks)
    (h : sTry t mb ks env st = some out) (tk : Tk X E) (o : OkS X.K J R H (EnR X.K) De E out) : tsSem X (.Try body (h0 :: hds) [] [] pos) De σ H := by
  refine sem_ofS (ps_mix (tb := tTry X body) hs hf hN tk (fun W pn xe k1 k2 => ⟨fun pins s σ H De I h => h pn xe k1 k2 pins s I⟩) (cl_ok hk)) ?_
  intro pn xe k1 k2
  have key : ∀ (out' : SOut), mb env st = some out' → OkS X.K J R H (EnR X.K) De (fun c d G => ∀ τ, wMix X.K X.N.length (fun c d _ H => E c d H) De (clOf X (h0 :: hds) ks) c d τ G) out' → tbSem (X.tr pn xe) body De σ H := fun out' h1 o1 =>
    B pn xe k2 out' De _ h1 (k1.imp fun c d σ H z => z σ) o1
  unfold sTry at h
  split at h
  · rename_i x st' hb
    refine key _ hb fun R1 H1 cls dd e1 g1 xr τ => ?_
    have o1 := o.shift e1
    have go : ∀ {hl : List ExceptHandler} {kl : List Hn}, HnsAt X hl kl → catchS t x st' kl = some out → wMix X.K X.N.length (fun c d _ H => E c d H) De (clOf X hl kl) cls dd τ H1 := by
      intro hl
      induction hl with
      | nil =>
        intro kl hkl hc
        cases kl with
        | nil =>
          cases hc
          exact o1 R1 H1 cls dd Ex.refl g1 xr
        | cons _ _ => exact hkl.elim
      | cons hd hl ih =>
        intro kl hkl hc
        cases kl with
        | nil => exact hkl.elim
        | cons k kl =>
          obtain ⟨⟨nm, e, np, rp, pp, rfl, he, hn, hx, ha⟩, h2⟩ := hkl
          unfold catchS at hc
          have ec : cls = .ref (He.ga X.K x.cls) := xr.1
          cases hb2 : exOf t x.cls k.cls with
          | none => rw [hb2] at hc; cases hc
          | some b =>
            rw [hb2] at hc
            have hex := ht _ (exOf_in hb2)
            rw [← ec] at hex
            have fin : ∀ (De' : Ends) (τ' : Sg) (a : Addr), De'.rt = De.rt → b = true → Su X k.as nm a τ' → tSu X [.Return (some e) rp] a cls dd De' τ' H1 := fun De' τ' a hrt hb3 su oe pn hz hf => by
              subst hb3
              simp only at hc
              cases hv : k.res.val k.cls x with
              | none => rw [hv] at hc; cases hc
              | some dv =>
                rw [hv] at hc
                cases hc
                refine sem_ofB (pss_one (ps_ret pe_sem)) ?_
                show tSem _ e τ' H1 De'.rt
                rw [hrt]
                exact hr_ok j g1 he hv hx xr su hz hf fun v H2 e2 g2 rv => o1 R1 H2 v e2 g2 rv
            obtain ⟨kc, ka, kr⟩ := k
            rcases ha with ⟨rfl, ha⟩ | ⟨n, i, rfl, ha, h3, h4⟩
            · simp only at ha
              subst ha
              refine ⟨b, hex, fun hb3 a _ => fin De τ a rfl hb3 ⟨fun k z => (nomatch z), fun m z => (nomatch z)⟩, fun hb3 => ih h2 ?_⟩
              subst hb3
              exact hc
            · simp only at ha
              subst ha
              refine ⟨b, hex, fun hb3 a _ hlen => fin (endsAs De i) (τ.set i (some (.ref a))) a rfl hb3 ⟨fun k z => ?_, fun m z => ?_⟩, fun hb3 => ih h2 ?_⟩
              · cases z
                exact List.getElem?_set_self (by rw [hlen]; exact (List.getElem?_eq_some_iff.mp h3).1)
              · cases z
                exact ⟨i, rfl, h3, .inl h4⟩
              · subst hb3
                exact hc
    exact go hk h
  · rename_i hne
    refine key out h ?_
    cases out with
    | exc x st' => exact absurd h (hne x st')
    | nx env' st' => exact o
    | rt d st' => exact o
    | bk env' st' => exact o
    | ct env' st' => exact o
theorem ss_try {t : Exm} {body : List Stmt} {h0 : ExceptHandler} {hds : List ExceptHandler} {ks : List Hn} {mb : MS} {pos : Pos} (j : JS J) (hs : X.stack = X.env :: X.outer) (hf : X.env.frame = some X.env.locals) (hN : X.N.Nodup)
    (ht : ∀ p ∈ t, PySem.W.exmOne X.K (.ref (He.ga X.K p.1)) (.ref (He.ga X.K p.2.1)) = some p.2.2)
    (B : ∀ (pn : List (Addr × Obj)) (xe : Value → Shared → Prop), PassesOwn (model X.prog X.w) X.A X.env xe → SB (X.tr pn xe) J body mb) (hk : HnsAt X (h0 :: hds) ks) :
    SS X J (.Try body (h0 :: hds) [] [] pos) (sTry t mb ks) := fun R env st σ H out De E h g r tk o =>
  try_at j hs hf hN ht (fun pn xe k2 out' De' E' h1 k1 o1 => B pn xe k2 R env st σ H out' De' E' h1 g r k1 o1) hk h tk o
end
end TA
/-! displays of dicts, more operators -/
namespace TA
open PySem PySem.Spec
open PyProof.Rows L2
section
variable {X : Cx} {J : Hp → Prop}
/-! ### list + list, by values -/
def lstAt (st : Sto) : D → Option (List D)
  | .loc n => match st[n]? with
    | some (.lst ds) => some ds
    | _ => none
  | _ => none
def fCatL (d e : D) (st : Sto) : Option (Out D) := match lstAt st d, lstAt st e with
  | some a, some b => match Nat.ble (a.length + b.length) 1000000 with
    | true => some (.ok (.loc st.length) (st ++ [.lst (a ++ b)]))
    | false => none
  | _, _ => none
theorem lstAt_rel {R : List Addr} {st : Sto} {H : Hp} {d : D} {ds : List D} {v : V} (g : Gd X.K J R st H) (h : lstAt st d = some ds) (r : RelD X.K R H d v) : ∃ p xs, v = .ref p ∧ H p = some (.lst xs) ∧ RelDs X.K R H ds xs := by
  unfold lstAt at h
  split at h
  · rename_i n
    split at h
    · rename_i l hn
      cases h
      simp only [RelD] at r
      obtain ⟨a, rfl, ra⟩ := r
      obtain ⟨xs, h1, h2⟩ := g.ob n _ a hn ra
      exact ⟨a, xs, rfl, h1, h2⟩
    · cases h
  · cases h
theorem sv_catL (j : JS J) : SV2 X J (binaryOp .Add) fCatL := by
  intro R st H dx dy x y out Q E h g rx ry t o
  unfold fCatL at h
  split at h
  · rename_i a b ha hb
    split at h
    · rename_i hl
      cases h
      obtain ⟨p, xs, rfl, hp, rxs⟩ := lstAt_rel g ha rx
      obtain ⟨q, ys, rfl, hq, rys⟩ := lstAt_rel g hb ry
      refine rs_of op_cat ⟨p, q, xs, ys, rfl, rfl, hp, hq, by rw [← rxs.length, ← rys.length]; exact szL hl, fun n hn => ?_⟩
      obtain ⟨e1, g1, r1⟩ := new_obj (ho := .lst (xs ++ ys)) (ob := .lst (a ++ b)) j g hn fun R' H' e hh => ⟨xs ++ ys, hh, (rxs.app rys).mono e⟩
      exact o _ _ _ e1 g1 r1
    · cases h
  · cases h
/-! ### tuple >= tuple -/
def geT (ns ms : List Int) : Bool := Ob.lexAt (fun j => decide (ns.getD j 0 = ms.getD j 0)) (fun j => decide (ms.getD j 0 ≤ ns.getD j 0)) (decide (ns.length ≥ ms.length)) 0 (min ns.length ms.length)
theorem op_geT (hu : X.A.units < cLine) : OpR X (compareOp .GtE) (fun x y H Q => ∃ (a b : Addr) (ns ms : List Int), x = .ref a ∧ y = .ref b ∧ SqT X.K H a (ns.map V.int) ∧ SqT X.K H b (ms.map V.int) ∧ Q (.bl (geT ns ms)) H) := by
  intro pins s σ H x y v u Q I rx ry h
  obtain ⟨a, b, ns, ms, rfl, rfl, sa, sb, q⟩ := h
  cases rx
  cases ry
  obtain ⟨us, r1, t1, _⟩ := I.tuple sa
  obtain ⟨ws, r2, t2, _⟩ := I.tuple sb
  have i1 : IntsAre us ns := Vals.ints r1
  have i2 : IntsAre ws ms := Vals.ints r2
  have l1 : us.toArray.size = ns.length := List.size_toArray.trans i1.length
  have l2 : ws.toArray.size = ms.length := List.size_toArray.trans i2.length
  have g1 : ∀ k (hk : k < us.toArray.size), ∃ t, us.toArray[k] = .int (ns.getD k 0) t := fun k hk => PyProof.Rows.IntsAre.int_at i1 _ _ (by simp at hk; simp [hk])
  have g2 : ∀ k (hk : k < ws.toArray.size), ∃ t, ws.toArray[k] = .int (ms.getD k 0) t := fun k hk => PyProof.Rows.IntsAre.int_at i2 _ _ (by simp at hk; simp [hk])
  have key := Ob.RcOp.tuples_ge (A := X.A) (s := s) (e := fun j => decide (ns.getD j 0 = ms.getD j 0)) (r := fun j => decide (ms.getD j 0 ≤ ns.getD j 0)) t1 t2 hu (fun k k1 k2 => by
    obtain ⟨t, et⟩ := g1 k k1
    obtain ⟨t', et'⟩ := g2 k k2
    rw [et, et']
    have z : decide (ns.getD k 0 = ms.getD k 0) = (ns.getD k 0 == ms.getD k 0) := rfl
    rw [z]
    exact SeqAt.EqAt.int_int _ _ _ _) (fun k k1 k2 _ => by
    obtain ⟨t, et⟩ := g1 k k1
    obtain ⟨t', et'⟩ := g2 k k2
    rw [et, et']
    exact Ob.RcOp.ge_int _ _ _ _)
  rw [l1, l2] at key
  exact key X.prog X.w X.xe (EP X pins σ Q) ⟨.bl _, H, I, rfl, q⟩
def fGeT (d e : D) (st : Sto) : Option (Out D) := match d, e with
  | .tup a, .tup b => match ints? a, ints? b with
    | some ns, some ms => some (.ok (.bl (geT ns ms)) st)
    | _, _ => none
  | _, _ => none
theorem sv_geT (hu : X.A.units < cLine) : SV2 X J (compareOp .GtE) fGeT := by
  intro R st H dx dy x y out Q E h g rx ry t o
  unfold fGeT at h
  split at h
  · split at h
    · rename_i ns ms hn hm
      cases h
      simp only [RelD] at rx ry
      obtain ⟨a, xs, rfl, sx, rx⟩ := rx
      obtain ⟨b, ys, rfl, sy, ry⟩ := ry
      rw [ints_rel hn rx] at sx
      rw [ints_rel hm ry] at sy
      exact rs_of (op_geT hu) ⟨a, b, ns, ms, rfl, rfl, sx, sy, o R H _ Ex.refl g relBl⟩
    · cases h
  · cases h
/-! ### {key: value, ..}, the keys written out -/
def keyE : Option Expr → Option Key
  | some (.Constant (.str s) _ _) => some (.inr s)
  | some (.Constant (.int i) _ _) => some (.inl i)
  | _ => none
def keysE : List (Option Expr) → Option (List Key)
  | [] => some []
  | k :: ks => match keyE k, keysE ks with
    | some a, some b => some (a :: b)
    | _, _ => none
def zipK : List Key → List D → List (Key × D)
  | k :: ks, d :: ds => (k, d) :: zipK ks ds
  | _, _ => []
def zipV : List Key → List V → List (Key × V)
  | k :: ks, d :: ds => (k, d) :: zipV ks ds
  | _, _ => []
theorem zip_rel {K : PySem.W.Frag} {R : List Addr} {H : Hp} : ∀ {ks : List Key} {ds : List D} {vs : List V}, RelDs K R H ds vs → RelKv K R H (zipK ks ds) (zipV ks vs)
  | [], _, _, _ => by simp [zipK, zipV, RelKv]
  | k :: ks, [], _, h => by simp only [RelDs] at h; subst h; simp [zipK, zipV, RelKv]
  | k :: ks, d :: ds, _, h => by
    simp only [RelDs] at h
    obtain ⟨v, ws, rfl, h1, h2⟩ := h
    simp only [zipK, zipV, RelKv]
    exact ⟨v, _, rfl, h1, zip_rel h2⟩
def mDisp (ks : List Key) (m : M (List D)) : M D := mBind m fun ds => fun _ st => match Nat.beq ds.length ks.length && Nat.ble ks.length 15 with
  | true => some (.ok (.loc st.length) (st ++ [.dct (mergeD [] (zipK ks ds))]))
  | false => none
/-- the values, one after another -/
def tVals (X : Cx) : List Expr → Sg → Hp → (List V → Hp → Prop) → Prop
  | [], _, H, Q => Q [] H
  | e :: es, σ, H, Q => tSem X e σ H fun v H1 => tVals X es σ H1 fun vs H2 => Q (v :: vs) H2
def SVs (X : Cx) (J : Hp → Prop) (es : List Expr) (m : M (List D)) : Prop := ∀ R env st σ H out Q E, m env st = some out → Gd X.K J R st H → EnR X.K R H env σ → Tk X E → OkO X.K J R H (RelDs X.K) Q E out → tVals X es σ H Q
theorem svs_nil : SVs X J [] mNil := by
  intro R env st σ H out Q E h g r t o
  cases h
  exact o R H [] Ex.refl g (by simp only [RelDs])
theorem svs_cons {e : Expr} {es : List Expr} {m : M D} {ms : M (List D)} (S : SE X J e m) (T : SVs X J es ms) : SVs X J (e :: es) (mCons m ms) := by
  intro R env st σ H out Q E h g r t o
  refine se_then S h g r t o fun R1 st1 H1 d v e1 g1 r1 rd h1 o1 => ?_
  rcases bind_some h1 with ⟨ds, st2, h2, h3⟩ | ⟨x, st2, h2, h3⟩
  · cases h3
    refine T R1 env st1 σ H1 _ _ E h2 g1 r1 t fun R2 H2 vs e2 g2 rv => ?_
    exact o1 R2 H2 _ e2 g2 (by simp only [RelDs]; exact ⟨v, vs, rfl, rd.mono e2.toEx0, rv⟩)
  · subst h3
    exact T R1 env st1 σ H1 _ _ E h2 g1 r1 t o1
theorem pps_of {pos : Pos} : ∀ {ks : List (Option Expr)} {es : List Expr} {kk : List Key}, keysE ks = some kk → ks.length = es.length → PPs X pos ks es (List.zipWith (fun k e => (tC (kV k), tSem X e)) kk es)
  | [], [], kk, h, _ => by cases h; exact pps_nil
  | k :: ks, e :: es, kk, h, hl => by
    unfold keysE at h
    split at h
    · rename_i a b h1 h2
      cases h
      have hl2 : ks.length = es.length := by simpa using hl
      unfold keyE at h1
      split at h1
      · cases h1
        exact pps_cons pe_str pe_sem (pps_of h2 hl2)
      · cases h1
        exact pps_cons pe_int pe_sem (pps_of h2 hl2)
      · cases h1
    · cases h
  | [], _ :: _, _, _, hl => by simp at hl
  | _ :: _, [], _, _, hl => by simp at hl
theorem pairs_of {σ : Sg} : ∀ {kk : List Key} {es : List Expr} {H : Hp} {Q : List (V × V) → Hp → Prop}, kk.length = es.length → tVals X es σ H (fun vs H1 => Q ((zipV kk vs).map fun kv => (kV kv.1, kv.2)) H1) → tPairs (List.zipWith (fun k e => (tC (kV k), tSem X e)) kk es) σ H Q
  | [], [], H, Q, _, h => h
  | k :: kk, e :: es, H, Q, hl, h => by
    show tSem X e σ H _
    intro pins s I
    refine wpAny_mono (h pins s I) (fun v s1 ⟨x, H1, I1, r1, q1⟩ => ⟨x, H1, I1, r1, ?_⟩) fun _ _ z => z
    exact pairs_of (by simpa using hl) q1
  | [], _ :: _, _, _, hl, _ => by simp at hl
  | _ :: _, [], _, _, hl, _ => by simp at hl
theorem keys_len : ∀ {ks : List (Option Expr)} {kk : List Key}, keysE ks = some kk → kk.length = ks.length ∧ ks.all (·.isSome) = true
  | [], kk, h => by cases h; exact ⟨rfl, rfl⟩
  | k :: ks, kk, h => by
    unfold keysE at h
    split at h
    · rename_i a b h1 h2
      cases h
      obtain ⟨e1, e2⟩ := keys_len h2
      refine ⟨by simp [e1], ?_⟩
      cases k with
      | none => cases h1
      | some k => simpa using e2
    · cases h
theorem zipV_len : ∀ {ks : List Key} {vs : List V}, vs.length = ks.length → (zipV ks vs).length = ks.length
  | [], _, _ => by simp [zipV]
  | k :: ks, [], h => by simp at h
  | k :: ks, v :: vs, h => by simp [zipV, zipV_len (ks := ks) (vs := vs) (by simpa using h)]
theorem se_disp {keys : List (Option Expr)} {es : List Expr} {kk : List Key} {pos : Pos} {m : M (List D)} (j : JS J) (hk : keysE keys = some kk) (hl : keys.length = es.length) (h0 : keys ≠ []) (h15 : keys.length ≤ 15) (S : SVs X J es m) : SE X J (.Dict keys es pos) (mDisp kk m) := by
  obtain ⟨kl, ka⟩ := keys_len hk
  intro R env st σ H out Q E h g r t o
  refine sem_of (pe_disp (pps_of hk hl) ka hl h0 h15) ?_
  intro p hp
  refine pairs_of (kl.trans hl) ?_
  have g0 : Gd X.K J R st (upd H p (.dK [])) := g.new j hp
  have e0 : Ex R R H (upd H p (.dK [])) := Ex.new hp
  have hR : p ∉ R := fun z => by
    obtain ⟨n, ob, _, _, w⟩ := g.mem z
    exact w.some hp
  rcases bind_some h with ⟨ds, st1, h1, h2⟩ | ⟨x, st1, h1, h2⟩
  · refine S R env st σ _ _ _ E h1 g0 (r.mono e0) t fun R1 H1 vs e1 g1 rv => ?_
    split at h2
    · rename_i hh
      cases h2
      simp only [Bool.and_eq_true] at hh
      have hlen := Nat.eq_of_beq_eq_true hh.1
      have hp1 : H1 p = some (.dK []) := e1.fr _ _ upd_same hR (fun _ z => nomatch z)
      have hvl : vs.length = kk.length := by rw [← rv.length, hlen]
      refine ⟨hp1, zipV kk vs, rfl, by rw [zipV_len hvl]; exact Nat.le_of_ble_eq_true hh.2, ?_⟩
      have hR1 : p ∉ R1 := fresh_out e1 hR upd_same
      have g2 : Gd X.K J R1 st1 (upd H1 p (.dK (mergeK [] (zipV kk vs)))) := g1.side j hR1 hp1 rfl rfl
      have x1 : Ex0 R1 R1 H1 (upd H1 p (.dK (mergeK [] (zipV kk vs)))) := Ex0.side hp1 rfl
      have e2 : Ex R R1 H (upd H1 p (.dK (mergeK [] (zipV kk vs)))) := Ex.own (e0.trans e1) hp
      have rk : RelKv X.K R1 (upd H1 p (.dK (mergeK [] (zipV kk vs)))) (mergeD [] (zipK kk ds)) (mergeK [] (zipV kk vs)) := merge_rel (by simp only [RelKv]) (RelKv.mono x1 (zip_rel rv))
      have hpp : (upd H1 p (.dK (mergeK [] (zipV kk vs)))) p = some (.dK (mergeK [] (zipV kk vs))) := upd_same
      refine o (R1 ++ [p]) _ _ (e2.snoc hp) (g2.push hR1 ⟨_, hpp, rk⟩) ?_
      simp only [RelD]
      exact ⟨p, rfl, by rw [← g1.len, List.getElem?_append_right (Nat.le_refl _)]; simp⟩
    · cases h2
  · subst h2
    exact S R env st σ _ _ _ E h1 g0 (r.mono e0) t (o.shift e0)
end
end TA
/-! e[::-1] of a tuple or a list -/
namespace TA
open PySem PySem.Spec
open PyProof.Rows L2
section
variable {prog : Program} {w : World} {A : Around} {E : Value → Shared → Prop} {s : Shared}
theorem rev_places (n : Nat) : Builtin.Slice.sliceAdjust none none (-1) (n : Int) = ((n : Int) - 1, -1) ∧ Builtin.Slice.slicePlaces ((n : Int) - 1) (-1) (-1) = n := by
  refine ⟨rfl, ?_⟩
  unfold Builtin.Slice.slicePlaces
  rw [if_neg (by decide : ¬ ((-1 : Int) > 0))]
  by_cases h : (n : Int) - 1 > -1
  · rw [if_pos h]
    have e : ((n : Int) - 1 - -1 - 1) / (- -1) + 1 = (n : Int) := by
      rw [show (- -1 : Int) = 1 by decide, Int.ediv_one]
      omega
    rw [e]
    exact Int.toNat_natCast n
  · rw [if_neg h]
    have : n = 0 := by omega
    subst this
    rfl
theorem fm_congr {α β : Type} {f g : α → Option β} : ∀ {l : List α}, (∀ a ∈ l, f a = g a) → l.filterMap f = l.filterMap g
  | [], _ => rfl
  | a :: l, h => by
    rw [List.filterMap_cons, List.filterMap_cons, h a List.mem_cons_self, fm_congr fun b hb => h b (List.mem_cons_of_mem _ hb)]
theorem rev_pick (xs : Array Value) : ((List.range xs.size).filterMap fun (m : Nat) => xs[(((xs.size : Int) - 1) + (m : Int) * (-1)).toNat]?).toArray = xs.toList.reverse.toArray := by
  congr 1
  have e : ((List.range xs.size).filterMap fun (m : Nat) => xs[(((xs.size : Int) - 1) + (m : Int) * (-1)).toNat]?) = (List.range xs.size).filterMap fun m => xs[xs.size - 1 - m]? := by
    apply fm_congr
    intro m hm
    have := List.mem_range.mp hm
    have z : ((xs.size : Int) - 1 + (m : Int) * (-1)).toNat = xs.size - 1 - m := by omega
    rw [z]
  rw [e]
  apply List.ext_getElem?
  intro i
  have key : (List.range xs.size).filterMap (fun m => xs[xs.size - 1 - m]?) = (List.range xs.size).map fun m => xs.getD (xs.size - 1 - m) .none := by
    rw [← List.filterMap_eq_map]
    apply fm_congr
    intro m hm
    have hm := List.mem_range.mp hm
    have hlt : xs.size - 1 - m < xs.size := by omega
    simp [Array.getElem?_eq_getElem hlt, Array.getD, hlt]
  rw [key, List.getElem?_map]
  by_cases hi : i < xs.size
  · have hlt : xs.size - 1 - i < xs.size := by omega
    rw [List.getElem?_range hi, List.getElem?_reverse (by simpa using hi)]
    simp [Array.getD, hlt]
  · rw [List.getElem?_eq_none (by simpa using hi), List.getElem?_eq_none (by simpa using hi)]
    rfl
theorem applied_rev {sl : Addr} {vl vu vs : Value} {n : Nat} {Q : Int × Int × Nat → Shared → Prop} (hs : s.heap.IsSliceOf sl vl vu vs) (pl : IsPart vl none) (pu : IsPart vu none) (ps : IsPart vs (some (-1)))
    (h : Q ((n : Int) - 1, -1, n) s) : wpAny (model prog w) A (Builtin.Slice.sliceApplied (.ref sl) (pure (n : Int))) Q E s := by
  obtain ⟨ob, h1, h2, h3⟩ := id hs
  unfold Builtin.Slice.sliceApplied Builtin.Slice.sliceFields
  refine wpAny_bind (wpAny_bind (wpAny_field h1 h3 (x := vl) rfl (wpAny_bind (wpAny_field h1 h3 (x := vu) rfl (wpAny_bind (wpAny_field h1 h3 (x := vs) rfl (wpAny_pure ?_)))))))
  refine wpAny_bind (HT.slicePart_ ps ?_)
  show wpAny _ _ (if ((-1 : Int) == 0) = true then _ else _) _ _ s
  rw [if_neg (by decide)]
  refine wpAny_bind (HT.slicePart_ pl (wpAny_bind (HT.slicePart_ pu (wpAny_bind (wpAny_pure ?_)))))
  obtain ⟨a1, a2⟩ := rev_places n
  show wpAny _ _ (match Builtin.Slice.sliceAdjust none none (-1) (n : Int) with | (lo, hi) => pure (lo, (-1 : Int), Builtin.Slice.slicePlaces lo hi (-1))) _ _ s
  rw [a1]
  show wpAny _ _ (pure ((n : Int) - 1, (-1 : Int), Builtin.Slice.slicePlaces ((n : Int) - 1) (-1) (-1))) _ _ s
  rw [a2]
  exact wpAny_pure h
theorem getItem_rev {t sl : Addr} {xs : Array Value} {vl vu vs : Value} {Q : Value → Shared → Prop} (ht : IsTup s.heap t xs) (hs : s.heap.IsSliceOf sl vl vu vs) (pl : IsPart vl none) (pu : IsPart vu none) (ps : IsPart vs (some (-1)))
    (h : Q (.ref s.heap.objs.size) { s with heap := s.heap.push { cls := .type "tuple", data := .seq xs.toList.reverse.toArray } }) (hz : xs.size ≤ sizeLine) : wpAny (model prog w) A (getItem (.ref t) (.ref sl)) Q E s := by
  have fits : sizeOk (.seq xs.toList.reverse.toArray) := by
    show xs.toList.reverse.toArray.size ≤ sizeLine
    simpa using hz
  obtain ⟨ob, h1, h2, h3⟩ := id hs
  have ty : s.TypeIs (.ref sl) "slice" := ⟨ob, h1, h2⟩
  unfold getItem
  try with_reducible refine wpAny_holding ?_
  first | refine wpAny_bind (wpAny_pure ?_) | skip
  refine wpAny_bind (wpAny_sequenceKey ht.typeIs (by decide) ?_)
  refine wpAny_bind (wpAny_callSpecial?_slot (name := Str.ofString "__getitem__") ht.typeIs PyProof.Rows.slot_tuple_getitem (wpAny_call_entry PyProof.Rows.slot_tuple_getitem ht.typeIs entry_tuple_getitem ?_ (args_tuple_getitem _ _)))
  show wpAny _ _ (Builtin.Tuple.tupleItemsOf (.ref t) >>= _) _ _ s
  refine wpAny_bind (tupleItemsOf_ ht (wpAny_bind (wpAny_typeOf ty ?_)))
  rw [if_pos (by decide)]
  refine wpAny_bind (applied_rev (n := xs.size) hs pl pu ps ?_)
  have no : ¬ ((((xs.size : Int) - 1) == 0 && (-1 : Int) == 1 && xs.size == xs.size) = true) := by
    simp
  show wpAny _ _ (if (((xs.size : Int) - 1) == 0 && (-1 : Int) == 1 && xs.size == xs.size) = true then _ else _) _ _ s
  rw [if_neg no, rev_pick]
  first
    | exact wpAny_bind (m := Builtin.Tuple.tupleExact _) (wpAny_newObj_type (wpAny_pure ⟨_, rfl, wpAny_pure h⟩) fits)
    | exact wpAny_bind (m := Builtin.Tuple.tupleExact _) (wpAny_newObj_type (wpAny_bind (wpAny_pure (wpAny_pure ⟨_, rfl, wpAny_pure h⟩))) fits)
    | exact wpAny_bind (wpAny_bind (m := Builtin.Tuple.tupleExact _) (wpAny_newObj_type (wpAny_pure (wpAny_pure ⟨_, rfl, wpAny_pure h⟩)) fits))
    | exact wpAny_bind (wpAny_bind (m := Builtin.Tuple.tupleExact _) (wpAny_newObj_type (wpAny_pure ⟨_, rfl, wpAny_pure h⟩) fits))
end
section
variable {X : Cx} {J : Hp → Prop}
def tRevT (K : PySem.W.Frag) (te : TE) : TE := fun σ H Q => te σ H fun x H1 => ∃ a xs, x = .ref a ∧ SqT K H1 a xs ∧ ∀ p, H1 p = none → Q (.ref p) (upd H1 p (.tup xs.reverse))
theorem pe_revT {e : Expr} {te : TE} {k : Nat} {p1 p2 p3 pos : Pos} (he : PE X e te) : PE X (.Subscript e (.Slice none none (some (.UnaryOp .USub (.Constant (.int 1) k p1) p2)) p3) pos) (tRevT X.K te) := by
  constructor
  intro pins s σ H Q I h
  refine Subscript_ (thn (he.run pins s σ H _ I h) fun v s1 hh => ?_)
  obtain ⟨x, H1, I1, r1, a, xs, rfl, sx, q⟩ := hh
  cases r1
  have neg : PO X (some (.UnaryOp .USub (.Constant (.int 1) k p1) p2)) (tPart (tUn (rU fun i => .int (-i)) (tC (.int 1)))) := po_some (pe_un un_neg pe_int)
  refine wpAny_Slice (thn (po_none.run pins s1 σ H1 (fun o G => o = none ∧ G = H1) I1 ⟨rfl, rfl⟩) fun vl s2 z2 => ?_)
  obtain ⟨_, _, I2, pl, rfl, rfl⟩ := z2
  refine thn (po_none.run pins s2 σ _ (fun o G => o = none ∧ G = _) I2 ⟨rfl, rfl⟩) fun vu s3 z3 => ?_
  obtain ⟨_, _, I3, pu, rfl, rfl⟩ := z3
  refine thn (neg.run pins s3 σ _ (fun o G => o = some (-1) ∧ G = _) I3 ⟨1, rfl, -1, rfl, rfl, rfl⟩) fun vs s4 z4 => ?_
  obtain ⟨_, H4, I4, ps, rfl, rfl⟩ := z4
  have I5 : Inv X pins σ H4 { s4 with heap := s4.heap.push { cls := .type "slice", data := .fields #[vl, vu, vs] } } := I4.kept (t' := s4.toks) fun b ob z => Heap.get?_push_of_some _ z
  obtain ⟨us, r, ht, hz⟩ := I5.tuple sx
  have hl := r.length
  show wpAny (model X.prog X.w) X.A (subscriptTail e (.Slice none none (some (.UnaryOp .USub (.Constant (.int 1) k p1) p2)) p3) (.ref a) (.ref s4.heap.objs.size)) (EP X pins σ Q) X.xe _
  refine tail_any (ops := [.ref a, .ref s4.heap.objs.size]) ht.typeIs (PyProof.Rows.slot_tuple_getitem.lookup) ?_ (by with_unfolding_all rfl)
  refine getItem_rev ht (Heap.IsSliceOf.new _ vl vu vs) pl pu ps ?_ (by rw [List.size_toArray]; omega)
  refine ⟨.ref _, _, I5.laid (t' := s4.toks) (o := .tup xs.reverse) (fun b ob z => Heap.get?_push_of_some _ z) (Nat.le_refl _) ?_, rfl, q _ (I5.hok.fresh (Nat.le_refl _))⟩
  exact ⟨by rw [List.length_reverse]; exact hz, _, r.reverse, ⟨_, Heap.get?_push_size _ rfl, rfl, _, rfl⟩⟩
def mRevT (m : M D) : M D := mBind m fun d => match d with
  | .tup ds => mPure (.tup ds.reverse)
  | _ => fun _ _ => none
theorem rev_rel {K : PySem.W.Frag} {R : List Addr} {H : Hp} : ∀ {ds : List D} {vs : List V}, RelDs K R H ds vs → RelDs K R H ds.reverse vs.reverse
  | [], _, h => by simp only [RelDs] at h; subst h; simp [RelDs]
  | d :: ds, _, h => by
    simp only [RelDs] at h
    obtain ⟨v, ws, rfl, h1, h2⟩ := h
    rw [List.reverse_cons, List.reverse_cons]
    exact (rev_rel h2).app (by simp only [RelDs]; exact ⟨v, [], rfl, h1, rfl⟩)
theorem se_revT {e : Expr} {k : Nat} {p1 p2 p3 pos : Pos} {m : M D} (j : JS J) (S : SE X J e m) : SE X J (.Subscript e (.Slice none none (some (.UnaryOp .USub (.Constant (.int 1) k p1) p2)) p3) pos) (mRevT m) := by
  intro R env st σ H out Q E h g r t o
  refine sem_of (pe_revT pe_sem) ?_
  refine se_then S h g r t o fun R1 st1 H1 d v e1 g1 r1 rd h1 o1 => ?_
  cases d with
  | tup ds =>
    cases h1
    simp only [RelD] at rd
    obtain ⟨a, xs, rfl, sx, rx⟩ := rd
    refine ⟨a, xs, rfl, sx, fun p hp => o1 R1 _ _ (Ex.new hp) (g1.new j hp) ?_⟩
    simp only [RelD]
    exact ⟨p, xs.reverse, rfl, SqT.of upd_same, (rev_rel rx).mono (Ex.new (R := R1) hp).toEx0⟩
  | _ => cases h1
end
end TA
/-! a comparison with a new list: nothing of it stays -/
namespace TA
open PySem PySem.Spec
open PyProof.Rows L2

def flPy (st : Sto) : FL → Option PyData
  | .fr ds => (allO (toPy 39 st) ds).map .list
  | .at d => toPy 40 st d
def eqX (st : Sto) (x y : FL) : Option Bool := match flPy st x, flPy st y with
  | some a, some b => match SeqAt.shaped a && SeqAt.shaped b with
    | true => some (PyData.eqv a b)
    | false => none
  | _, _ => none
def pickN : Bool → Bool → Bool
  | false, c => c
  | true, c => !c
def opNe : Bool → CmpOp
  | false => .Eq
  | true => .NotEq
def neOf : CmpOp → Option Bool
  | .Eq => some false
  | .NotEq => some true
  | _ => none
theorem neOf_ok {op : CmpOp} {ne : Bool} (h : neOf op = some ne) : op = opNe ne := by
  cases op <;> simp [neOf] at h <;> subst h <;> rfl
def mCmpX (ne : Bool) (a b : M FL) : M D := mBind a fun x => mBind b fun y => fun _ st => match eqX st x y with
  | some c => some (.ok (.bl (pickN ne c)) st)
  | none => none
section
variable {X : Cx} {J : Hp → Prop}
theorem flPy_dp {K : PySem.W.Frag} {R : List Addr} {H : Hp} {st : Sto} {x : FL} {v : V} {p : PyData} (g : Gd K J R st H) (h : flPy st x = some p) (r : relX K R H x v) : Dp K H v p := by
  cases x with
  | fr ds =>
    simp only [flPy, Option.map_eq_some_iff] at h
    obtain ⟨ps, h1, rfl⟩ := h
    obtain ⟨a, xs, rfl, _, hx, rx⟩ := r
    exact .lst (SqL.of hx) (allO_dp (fun d p v => toPy_dp g 39) h1 rx)
  | «at» d => exact toPy_dp g 40 h r
theorem eqX_some {st : Sto} {x y : FL} {b : Bool} (h : eqX st x y = some b) : ∃ p q, flPy st x = some p ∧ flPy st y = some q ∧ SeqAt.shaped p = true ∧ SeqAt.shaped q = true ∧ PyData.eqv p q = b := by
  unfold eqX at h
  split at h
  · rename_i p q h1 h2
    split at h
    · rename_i hs
      obtain ⟨s1, s2⟩ := Bool.and_eq_true_iff.mp hs
      exact ⟨p, q, h1, h2, s1, s2, Option.some.inj h⟩
    · cases h
  · cases h
theorem twoX {a b : Expr} {ma mb : M FL} {ne : Bool} (hu : X.A.units + 64 < cLine) (Sa : SX X J a ma) (Sb : SX X J b mb) {R : List Addr} {env : En} {st : Sto} {σ : Sg} {H : Hp} {out : Out D} {Q : VK} {E : XK}
    (h : mCmpX ne ma mb env st = some out) (g : Gd X.K J R st H) (r : EnR X.K R H env σ) (t : Tk X E) (k : OkO X.K J R H (RelD X.K) Q E out) : tOp (rS X (compareOp (opNe ne))) (tSem X a) (tSem X b) σ H Q := by
  refine sx_then Sa h g r t k fun R1 st1 H1 x v e1 g1 r1 rx h1 o1 => ?_
  refine sx_then Sb h1 g1 r1 t o1 fun R2 st2 H2 y w e2 g2 r2 ry h2 o2 => ?_
  split at h2
  · rename_i c hc
    cases h2
    obtain ⟨p, q, hp, hq, s1, s2, rfl⟩ := eqX_some hc
    have dx := flPy_dp g2 hp (rx.mono e2)
    have dy := flPy_dp g2 hq ry
    cases ne with
    | false => exact rs_of (op_eqD hu) ⟨p, q, dx, dy, s1, s2, o2 R2 H2 _ Ex.refl g2 relBl⟩
    | true => exact rs_of (op_neD hu) ⟨p, q, dx, dy, s1, s2, o2 R2 H2 _ Ex.refl g2 relBl⟩
  · cases h2
theorem se_cmpX {a b : Expr} {pos : Pos} {ma mb : M FL} {ne : Bool} (hu : X.A.units + 64 < cLine) (Sa : SX X J a ma) (Sb : SX X J b mb) (hm : behindInMarks (opNe ne) b = false) : SE X J (.Compare a [opNe ne] [b] pos) (mCmpX ne ma mb) :=
  fun R env st σ H out Q E h g r t k => sem_of (pe_cmpR op_sem pe_sem pe_sem hm) (twoX hu Sa Sb h g r t k)
theorem st_cmpX {a b : Expr} {pos : Pos} {ma mb : M FL} {ne : Bool} (hu : X.A.units + 64 < cLine) (Sa : SX X J a ma) (Sb : SX X J b mb) (hm : behindInMarks (opNe ne) b = false) : STt X J (.Compare a [opNe ne] [b] pos) (mTest (mCmpX ne ma mb)) := by
  intro R env st σ H out Q E h g r t o
  refine sem_ofT (pt_cmpR op_sem pe_sem pe_sem hm) ?_
  show tOp (rS X (compareOp (opNe ne))) (tSem X a) (tSem X b) σ H fun x H' => ∃ k, x = .bl k ∧ Q k H'
  rcases bind_some h with ⟨d, st1, h1, h2⟩ | ⟨x, st1, h1, h2⟩
  · refine twoX hu Sa Sb h1 g r t fun R1 H1 v e1 g1 rd => ?_
    cases d with
    | bl b =>
      cases h2
      simp only [RelD] at rd
      exact ⟨b, rd, o R1 H1 b e1 g1 rfl⟩
    | _ => cases h2
  · subst h2
    exact twoX hu Sa Sb h1 g r t o
end
end TA
/-! sorted: lists of tuples of whole numbers, of any lengths, any number of them -/
namespace TA
open PySem PySem.W PyProof.Rows SrtO
/-! ### the order -/
theorem lex_asym : ∀ a b : List Int, HT.lexLt a b = true → HT.lexLt b a = false
  | [], [], h => by simp [HT.lexLt] at h
  | [], _ :: _, _ => rfl
  | _ :: _, [], h => by simp [HT.lexLt] at h
  | x :: a, y :: b, h => by
    rw [HT.lexLt_cons] at h ⊢
    by_cases e : x = y
    · subst e
      rw [if_pos rfl] at h ⊢
      exact lex_asym a b h
    · rw [if_neg e, decide_eq_true_eq] at h
      rw [if_neg (fun z => e z.symm), decide_eq_false_iff_not]
      omega
theorem lex_tr : ∀ a b c : List Int, HT.lexLt b a = false → HT.lexLt c b = false → HT.lexLt c a = false
  | [], [], c, _, h => h
  | [], y :: b, [], _, h => by simp [HT.lexLt] at h
  | [], y :: b, z :: c, _, h => rfl
  | x :: a, [], c, h, _ => by simp [HT.lexLt] at h
  | x :: a, y :: b, [], _, h => by simp [HT.lexLt] at h
  | x :: a, y :: b, z :: c, h1, h2 => by
    rw [HT.lexLt_cons] at h1 h2 ⊢
    by_cases e1 : y = x
    · subst e1
      rw [if_pos rfl] at h1
      by_cases e2 : z = y
      · subst e2
        rw [if_pos rfl] at h2 ⊢
        exact lex_tr a b c h1 h2
      · rw [if_neg e2] at h2 ⊢
        exact h2
    · rw [if_neg e1, decide_eq_false_iff_not] at h1
      by_cases e2 : z = y
      · subst e2
        rw [if_neg e1, decide_eq_false_iff_not]
        exact h1
      · rw [if_neg e2, decide_eq_false_iff_not] at h2
        rw [if_neg (by omega), decide_eq_false_iff_not]
        omega
theorem lex_eq : ∀ a b : List Int, HT.lexLt a b = false → HT.lexLt b a = false → a = b
  | [], [], _, _ => rfl
  | [], _ :: _, h, _ => by simp [HT.lexLt] at h
  | _ :: _, [], _, h => by simp [HT.lexLt] at h
  | x :: a, y :: b, h, g => by
    rw [HT.lexLt_cons] at h g
    by_cases e : x = y
    · subst e
      rw [if_pos rfl] at h g
      rw [lex_eq a b h g]
    · rw [if_neg e, decide_eq_false_iff_not] at h
      rw [if_neg (fun z => e z.symm), decide_eq_false_iff_not] at g
      omega
theorem swo_ints {α : Type} (k : α → List Int) : Swo fun v u => HT.lexLt (k v) (k u) := ⟨fun x y h => lex_asym _ _ h, fun x y z h1 h2 => lex_tr _ _ _ h1 h2⟩
/-! ### the model's own comparison -/
def IsTI (h : Heap) (v : Value) (ns : List Int) : Prop := ∃ (a : Addr) (o : Obj) (its : Array Value) (n : Nat), v = .ref a ∧ h.get? a = some o ∧ o.cls = .type "tuple" ∧ o.data = .seq its n ∧ IntsAre its.toList ns
theorem IsTI.keeps {h h' : Heap} {v : Value} {ns : List Int} (t : IsTI h v ns) (k : ∀ a o, h.get? a = some o → o.cls = .type "tuple" → h'.get? a = some o) : IsTI h' v ns := by
  obtain ⟨a, o, its, n, e, h1, h2, h3, h4⟩ := t
  exact ⟨a, o, its, n, e, k a o h1 h2, h2, h3, h4⟩
section
variable {prog : Program} {w : World} {A : Around} {E : Value → Shared → Prop} {s : Shared}
theorem katLex_ints {b fin : Bool} {Q : Bool → Shared → Prop} : ∀ {vs ws : List Value} {ns ms : List Int} (i : Nat), IntsAre vs ns → IntsAre ws ms → fin = decide (ns.length < ms.length) → Q (HT.lexLt ns ms) s → KatLex prog w A b fin Q (vs.zip ws) i s
  | _, _, _, _, i, .nil, .nil, hf, h => by
    have e : fin = false := by rw [hf]; rfl
    subst e
    exact kat_nil h
  | _, _, _, _, i, .nil, .cons c u hw, hf, h => by
    have e : fin = true := by rw [hf]; exact decide_eq_true (Nat.succ_pos _)
    subst e
    exact kat_nil h
  | _, _, _, _, i, .cons a t hv, .nil, hf, h => by
    have e : fin = false := by rw [hf]; exact decide_eq_false (Nat.not_lt_zero _)
    subst e
    rw [List.zip_nil_right]
    exact kat_nil h
  | _, _, _, _, i, .cons a t hv, .cons c u hw, hf, h => by
    rw [List.zip_cons_cons]
    refine kat_cons (SeqAt.EqAt.int_int a t c u prog w _ _ ?_)
    rw [HT.lexLt_cons] at h
    refine kat_go (fun e1 => ?_) (fun e1 => ?_)
    · have ex : a = c := by simpa using e1
      rw [if_pos ex] at h
      refine kat_yes (katLex_ints (i + 1) hv hw ?_ h)
      rw [hf]
      simp only [List.length_cons, Nat.add_lt_add_iff_right]
    · have ex : ¬ a = c := by simpa using e1
      rw [if_neg ex] at h
      exact kat_no (oneLt_any_int h)
theorem cmp_tups {vs : List Value} {k : Value → List Int} (hp : ∀ v ∈ vs, IsTI s.heap v (k v)) : Cmp prog w A s (tuples' true) (fun p => p.1 ∈ vs) (lt2 fun v u => HT.lexLt (k v) (k u)) := by
  intro p q hm hm'
  obtain ⟨a, o, its, n, e, h1, h2, h3, h4⟩ := hp _ hm
  obtain ⟨a', o', its', n', e', h1', h2', h3', h4'⟩ := hp _ hm'
  show wpAny (model prog w) A (keyLt' (tuples' true) p.1 q.1) (fun r s' => s' = s ∧ r = HT.lexLt (k p.1) (k q.1)) (fun _ _ => False) s
  generalize k p.1 = ns at h4 ⊢
  generalize k q.1 = ms at h4' ⊢
  rw [e, e']
  refine kat_lt h1 h3 h1' h3' (katLex_ints 0 h4 h4' ?_ ⟨rfl, rfl⟩)
  have l1 := h4.length
  have l2 := h4'.length
  simp only [Array.length_toList] at l1 l2
  rw [l1, l2]
theorem cmp_one {vs : List Value} {k : Value → List Int} (hu : A.units < cLine) (hp : ∀ v ∈ vs, IsTI s.heap v (k v)) : Cmp prog w A s oneType' (fun p => p.1 ∈ vs) (lt2 fun v u => HT.lexLt (k v) (k u)) := by
  intro p q hm hm'
  obtain ⟨a, ⟨cls, dd, data, sl⟩, its, n, e, h1, h2, h3, h4⟩ := hp _ hm
  obtain ⟨a', ⟨cls', dd', data', sl'⟩, its', n', e', h1', h2', h3', h4'⟩ := hp _ hm'
  show wpAny (model prog w) A (keyLt' oneType' p.1 q.1) (fun r s' => s' = s ∧ r = HT.lexLt (k p.1) (k q.1)) (fun _ _ => False) s
  generalize k p.1 = ns at h4 ⊢
  generalize k q.1 = ms at h4' ⊢
  simp only at h2 h3 h2' h3'
  subst h2 h3 h2' h3'
  rw [e, e', keyLt'_oneType, oneLt'_eq]
  simp only [if_true]
  refine wpAny_bind (wpAny_cRoomFor hu ?_)
  refine wpAny_bind (wpAny_callSpecialIfBound?_slot (T := "tuple") ⟨_, h1, rfl⟩ PySem.F.slot_tuple_lt (call_meets PySem.F.slot_tuple_lt ⟨_, h1, rfl⟩ PySem.F.entry_tuple_lt (PySem.F.args_tuple_lt_2 _ _) (HT.tuple_lt_ints a a' its its' n n' dd dd' sl sl' ns ms h4 h4') ⟨h1, h1', ?_⟩))
  exact wpAny_truthy_bool ⟨rfl, rfl⟩
/-! ### the kind that it finds -/
def foV (h : Heap) : Value → Option Value
  | .ref a => match h.get? a with
    | some o => match o.data with
      | .seq its _ => its[0]?
      | _ => none
    | none => none
  | _ => none
theorem fo_ti {h : Heap} {v : Value} {ns : List Int} (t : IsTI h v ns) : (ns = [] → foV h v = none) ∧ (ns ≠ [] → ∃ x u, foV h v = some (.int x u)) := by
  obtain ⟨a, o, its, n, rfl, h1, h2, h3, h4⟩ := t
  have e : foV h (.ref a) = its[0]? := by simp only [foV, h1, h3]
  rw [e, ← Array.getElem?_toList]
  generalize its.toList = l at h4
  cases h4 with
  | nil => exact ⟨fun _ => rfl, fun z => absurd rfl z⟩
  | cons x u r => exact ⟨fun z => by simp at z, fun _ => ⟨x, u, rfl⟩⟩
theorem firsts_map {M : Model} {B : Around} {F : Value → Shared → Prop} : ∀ (vs : List Value) {Q : List (Option Value) → Shared → Prop}, (∀ v ∈ vs, ∃ ns, IsTI s.heap v ns) → Q (vs.map (foV s.heap)) s → wpAny M B (vs.mapM firstOfTuple') Q F s
  | [], _, _, h => by rw [List.mapM_nil]; exact wpAny_pure h
  | v :: vs, Q, t, h => by
    obtain ⟨ns, a, o, its, n, rfl, h1, h2, h3, h4⟩ := t v List.mem_cons_self
    rw [List.mapM_cons]
    refine wpAny_bind ?_
    rw [kas_first_eq]
    refine wpAny_bind (Looks.here (show Looks M s.heap (typeOf (.ref a)) o.cls from (Looks.ld h1).andThen .now) ?_)
    rw [h2, if_neg (by first | decide | simp)]
    refine wpAny_bind (listItems_at h1 h3 (wpAny_pure ?_))
    have e : foV s.heap (.ref a) = its[0]? := by simp only [foV, h1, h3]
    rw [List.map_cons, e] at h
    exact wpAny_bind (firsts_map vs (Q := fun bs s' => wpAny M B (pure (its[0]? :: bs)) Q F s') (fun v hv => t v (List.mem_cons_of_mem _ hv)) (wpAny_pure h))
theorem kind_tups {vs : List Value} {k : Value → List Int} {Q : SortKind → Shared → Prop} (h0 : 0 < vs.length) (hp : ∀ v ∈ vs, IsTI s.heap v (k v)) (hne : ∀ v ∈ vs, k v ≠ []) (hq : Q (tuples' true) s) : wpAny (model prog w) A (keyKind' vs.toArray) Q E s := by
  have fs : ∀ l : List Value, (∀ v ∈ l, IsTI s.heap v (k v)) → (∀ v ∈ l, k v ≠ []) → ∃ fs : List Value, KatTups s.heap l fs ∧ fs.length = l.length ∧ ∀ f ∈ fs, ∃ x t, f = Value.int x t := fun l => by
    induction l with
    | nil => exact fun _ _ => ⟨[], KatTups.nil, rfl, by simp⟩
    | cons v l ih =>
      intro h1 h2
      obtain ⟨fs, a, b, c⟩ := ih (fun v hv => h1 v (List.mem_cons_of_mem _ hv)) (fun v hv => h2 v (List.mem_cons_of_mem _ hv))
      obtain ⟨x, u, hx⟩ := (fo_ti (h1 v List.mem_cons_self)).2 (h2 v List.mem_cons_self)
      obtain ⟨ad, o, its, n, rfl, q1, q2, q3, q4⟩ := h1 v List.mem_cons_self
      have e : foV s.heap (.ref ad) = its[0]? := by simp only [foV, q1, q3]
      rw [e] at hx
      refine ⟨.int x u :: fs, KatTups.cons q1 q2 q3 hx a, by simp [b], fun f hf => ?_⟩
      rcases List.mem_cons.mp hf with rfl | hf
      · exact ⟨x, u, rfl⟩
      · exact c f hf
  obtain ⟨fs, a, b, c⟩ := fs vs hp hne
  refine kat_kind (T := .type "int") a (by omega) (fun f hm => ?_) (by rfl) ?_
  · obtain ⟨x, t, rfl⟩ := c f hm
    exact Looks.now
  · have e : (Value.type "int" != Value.type "tuple") = true := by first | decide +kernel | rfl | decide
    rw [e]
    exact hq
theorem kind_one {v : Value} {r : List Value} {k : Value → List Int} {Q : SortKind → Shared → Prop} (hp : ∀ u ∈ v :: r, IsTI s.heap u (k u)) (he : k v = []) (hq : Q oneType' s) : wpAny (model prog w) A (keyKind' (v :: r).toArray) Q E s := by
  rw [kat_kind_eq, List.mapM_toArray, map_eq_pure_bind]
  refine wpAny_bind (wpAny_bind (firsts_map (v :: r) (fun u hu => ⟨_, hp u hu⟩) (wpAny_pure ?_)))
  have h0 : foV s.heap v = none := (fo_ti (hp v List.mem_cons_self)).1 he
  rw [List.map_cons, h0, if_neg (by simp), if_neg (by simp)]
  rw [oneTypeOnly'_eq, List.mapM_toArray, map_eq_pure_bind]
  refine wpAny_bind (wpAny_bind (wpAny_bind (kas_mapM (r := .type "tuple") _ (fun u hu Q' hq => ?_) (wpAny_pure ?_))))
  · obtain ⟨a, o, its, n, rfl, q1, q2, q3, q4⟩ := hp u hu
    refine Looks.here (show Looks (model prog w) s.heap (typeOf (.ref a)) (.type "tuple") from ?_) hq
    rw [← q2]
    exact (Looks.ld q1).andThen .now
  · have hall : ((List.map (fun _ => Value.type "tuple") (v :: r)).toArray.all fun x => x == Value.type "tuple") = true := by
      simp only [List.all_toArray, List.all_map, List.all_eq_true]
      intro _ _
      rfl
    have h0 : (List.map (fun _ => Value.type "tuple") (v :: r)).toArray[0]? = some (Value.type "tuple") := by simp
    rw [h0]
    simp only [hall, if_true]
    exact wpAny_pure (wpAny_pure hq)
theorem tups_sortable {a : Addr} {vs : List Value} {k : Value → List Int} (hu : A.units < cLine) (h0 : 0 < vs.length) (hp : ∀ v ∈ vs, IsTI s.heap v (k v)) (hh : (∀ v ∈ vs, k v ≠ []) ∨ ∃ v r, vs = v :: r ∧ k v = []) (ha : ∀ o, s.heap.get? a = some o → o.cls ≠ .type "tuple") :
    SortableO prog w A s a vs fun v u => HT.lexLt (k v) (k u) := by
  intro h' keep
  have hp' : ∀ v ∈ vs, IsTI h' v (k v) := fun v hm => (hp v hm).keeps fun b o e c => keep b o (fun z => by subst z; exact ha o e c) e
  rcases hh with hh | ⟨v, r, rfl, he⟩
  · exact ⟨tuples' true, fun Q E hq => kind_tups (s := { s with heap := h' }) h0 hp' hh hq, cmp_tups (s := { s with heap := h' }) hp'⟩
  · exact ⟨oneType', fun Q E hq => kind_one (s := { s with heap := h' }) hp' he hq, cmp_one (s := { s with heap := h' }) hu hp'⟩
theorem sorted_tupsO {l : Addr} {vs : List Value} {k : Value → List Int} {Q : Value → Shared → Prop} (hu : A.in1.in1.units < cLine) (hl : s.heap.IsList l vs.toArray) (hz : vs.length ≤ sizeLine) (hp : ∀ v ∈ vs, IsTI s.heap v (k v)) (hh : (∀ v ∈ vs, k v ≠ []) ∨ ∃ v r, vs = v :: r ∧ k v = [])
    (h : ∀ (h' : Heap) (d : Addr) (out : List Value), Srtd (fun v u => HT.lexLt (k v) (k u)) out → Stb (fun v u => HT.lexLt (k v) (k u)) out vs → (∀ b o, s.heap.get? b = some o → h'.get? b = some o) → s.heap.objs.size ≤ d → (∃ n, h'.get? d = some (seqObj "list" out.toArray n)) → Q (.ref d) { s with heap := h' }) :
    wpAny (model prog w) A (call (.builtin "sorted") [.ref l]) Q E s := by
  refine sorted_ord (swo_ints k) hl hz (fun h2 h₁ a ha kk => ?_) fun out hs hb => ?_
  · refine tups_sortable (s := { s with heap := h₁ }) hu (by omega) (fun v hm => (hp v hm).keeps fun b o e _ => (kk b o e).2) hh fun o e => ?_
    have e' : some o = some (seqObj "list" vs.toArray 0) := e.symm.trans ha
    cases e'
    intro c
    exact absurd (Value.type.inj c) (by decide)
  · exact h _ _ out hs hb (fun b o e => sortedAll_old e) (Nat.le_succ _) (sortedAll_at s.heap vs out.toArray)
end
end TA

namespace TA
open PySem PySem.Spec
open PyProof.Rows L2
/-! ### as a rule of the layer -/
def rSortTO (K : PySem.W.Frag) : List V → Hp → VK → Prop := fun vs H Q => ∃ (a : Addr) (xs : List V), vs = [V.ref a] ∧ SqL K H a xs ∧ (∀ x ∈ xs, ∃ ns, TupI K H x ns) ∧ ((∀ x ∈ xs, ∃ n ns, TupI K H x (n :: ns)) ∨ ∃ x r, xs = x :: r ∧ TupI K H x []) ∧
  ∀ (ys : List V) (p : Addr), ys.Perm xs → ys.Pairwise (fun x y => ∀ n m, TupI K H x n → TupI K H y m → HT.lexLt m n = false) → H p = none → Q (.ref p) (upd H p (.lst ys))
section
variable {X : Cx} {J : Hp → Prop}
theorem ti_of {h : Heap} {v : Value} {ns : List Int} (t : TS.TupInts h v ns) : IsTI h v ns := by
  obtain ⟨a, xs, rfl, ⟨o, h1, h2, n, h3⟩, h4⟩ := t
  exact ⟨a, o, xs, n, rfl, h1, h2, h3, h4⟩
theorem cr_sortTO (hu : X.A.in1.in1.units < cLine) : CallR X (.builtin "sorted") (rSortTO X.K) := by
  intro pins s σ H vs us Q I r h
  obtain ⟨a, xs, rfl, hs, hx, hh, q⟩ := h
  obtain ⟨its, rv, hl, hz⟩ := I.list hs
  rw [Vals.ref1 r]
  obtain ⟨e1, e2⟩ := bkV_refs rv fun x m => by
    obtain ⟨ns, ⟨t, e, _⟩⟩ := hx x m
    exact ⟨t, e⟩
  have raw : ∀ {t : Addr} {ns : List Int}, TupI X.K H (V.ref t) ns → TS.TupInts s.heap (.ref t) ns := fun {t ns} h => by
    obtain ⟨t', e, ht⟩ := h
    cases e
    exact tupI_raw I ht
  have mem : ∀ {t : Addr}, Value.ref t ∈ its → V.ref t ∈ xs := fun {t} hv => by
    rw [e1]
    exact List.mem_map.mpr ⟨_, hv, rfl⟩
  refine sorted_tupsO (k := TS.intsOf s.heap) hu hl.isList (by rw [← rv.length]; exact hz) (fun v hv => ?_) ?_ fun h' d out h1 h2 kp hd hn => ?_
  · obtain ⟨t, rfl⟩ := e2 v hv
    obtain ⟨ns, hn⟩ := hx _ (mem hv)
    have := raw hn
    rw [this.ints]
    exact ti_of this
  · rcases hh with hh | ⟨x, r, rfl, hx0⟩
    · left
      intro v hv
      obtain ⟨t, rfl⟩ := e2 v hv
      obtain ⟨n, ns, hn⟩ := hh _ (mem hv)
      rw [(raw hn).ints]
      simp
    · right
      cases its with
      | nil => simp at e1
      | cons u us =>
        simp only [List.map_cons, List.cons.injEq] at e1
        obtain ⟨t, rfl⟩ := e2 u List.mem_cons_self
        refine ⟨_, _, rfl, ?_⟩
        rw [e1.1] at hx0
        exact (raw hx0).ints
  · have h3 : ∀ u ∈ out, ∃ a, u = Value.ref a := fun u hu => e2 u (h2.perm.mem_iff.mp hu)
    obtain ⟨n, hn⟩ := hn
    have hp : (out.map bkV).Perm xs := by
      rw [e1]
      exact h2.perm.map bkV
    have hlen : (out.map bkV).length ≤ sizeLine := by
      rw [hp.length_eq]
      exact hz
    refine ⟨.ref d, upd H d (.lst (out.map bkV)), I.laid (t' := s.toks) kp hd ⟨hlen, out, n, bkV_vals h3, hn⟩, rfl, q _ d hp ?_ (I.hok.fresh hd)⟩
    rw [List.pairwise_map]
    refine List.Pairwise.imp (fun {u v} huv n m hn hm => ?_) h1
    obtain ⟨t, et, ht⟩ := hn
    obtain ⟨t', et', ht'⟩ := hm
    have eu := bkV_ref et
    have ev := bkV_ref et'
    have i1 : TS.intsOf s.heap u = n := by
      rw [eu]
      exact (tupI_raw I ht).ints
    have i2 : TS.intsOf s.heap v = m := by
      rw [ev]
      exact (tupI_raw I ht').ints
    rw [← i1, ← i2]
    exact huv
/-! ### sorted(list of tuples) -/
def tiD (ns : List Int) : D := .tup (ns.map D.int)
def tups? : List D → Option (List (List Int))
  | [] => some []
  | .tup ds :: r => match ints? ds, tups? r with
    | some ns, some l => some (ns :: l)
    | _, _ => none
  | _ :: _ => none
def noE : List Int → Bool
  | [] => false
  | _ => true
def okH : List (List Int) → Bool
  | [] => true
  | [] :: _ => true
  | l => l.all noE
def insT (a : List Int) : List (List Int) → List (List Int)
  | [] => [a]
  | b :: l => match HT.lexLt b a with
    | false => a :: b :: l
    | true => b :: insT a l
def sortT : List (List Int) → List (List Int)
  | [] => []
  | a :: l => insT a (sortT l)
theorem insT_perm (a : List Int) : ∀ l, (insT a l).Perm (a :: l)
  | [] => .refl _
  | b :: l => by
    unfold insT
    cases HT.lexLt b a with
    | false => exact .refl _
    | true => exact ((insT_perm a l).cons b).trans (.swap a b l)
theorem sortT_perm : ∀ l, (sortT l).Perm l
  | [] => .refl _
  | a :: l => (insT_perm a _).trans ((sortT_perm l).cons a)
theorem insT_pw {a : List Int} : ∀ {l : List (List Int)}, l.Pairwise (fun x y => HT.lexLt y x = false) → (insT a l).Pairwise (fun x y => HT.lexLt y x = false)
  | [], _ => by simp [insT]
  | b :: l, h => by
    rw [List.pairwise_cons] at h
    unfold insT
    cases e : HT.lexLt b a with
    | false =>
      simp only [List.pairwise_cons]
      refine ⟨fun c hc => ?_, h⟩
      rcases List.mem_cons.mp hc with rfl | hc
      · exact e
      · exact lex_tr a b c e (h.1 c hc)
    | true =>
      simp only [List.pairwise_cons]
      refine ⟨fun c hc => ?_, insT_pw h.2⟩
      rcases List.mem_cons.mp ((insT_perm a l).mem_iff.mp hc) with rfl | hc
      · exact lex_asym _ _ e
      · exact h.1 c hc
theorem sortT_pw : ∀ l, (sortT l).Pairwise (fun x y => HT.lexLt y x = false)
  | [] => .nil
  | a :: l => insT_pw (sortT_pw l)
theorem sortT_uniq {a b : List (List Int)} (p : a.Perm b) (ha : a.Pairwise (fun x y => HT.lexLt y x = false)) (hb : b.Pairwise (fun x y => HT.lexLt y x = false)) : a = b :=
  p.eq_of_pairwise (fun x y _ _ h1 h2 => lex_eq _ _ h2 h1) ha hb
def lSortedT (x : FL) (st : Sto) : Option (List D) := match flItems st x with
  | some ds => match tups? ds with
    | some nss => match okH nss with
      | true => some ((sortT nss).map tiD)
      | false => none
    | none => none
  | none => none
theorem ints_eq : ∀ {ds : List D} {ns : List Int}, ints? ds = some ns → ds = ns.map D.int
  | [], ns, h => by simp only [ints?, Option.some.injEq] at h; subst h; rfl
  | d :: ds, ns, h => by
    cases d with
    | int i =>
      simp only [ints?] at h
      split at h
      · rename_i l e
        cases h
        rw [ints_eq e]
        rfl
      · cases h
    | _ => simp [ints?] at h
theorem tups_eq : ∀ {ds : List D} {nss : List (List Int)}, tups? ds = some nss → ds = nss.map tiD
  | [], _, h => by simp only [tups?, Option.some.injEq] at h; subst h; rfl
  | d :: ds, nss, h => by
    cases d with
    | tup es =>
      simp only [tups?] at h
      split at h
      · rename_i ns l h1 h2
        cases h
        rw [ints_eq h1, tups_eq h2]
        rfl
      · cases h
    | _ => simp [tups?] at h
theorem perm_backD {K : PySem.W.Frag} {R : List Addr} {H : Hp} {α : Type} (f : α → D) {ys xs : List V} (h : ys.Perm xs) : ∀ {ps : List α}, RelDs K R H (ps.map f) xs → ∃ ps' : List α, ps'.Perm ps ∧ RelDs K R H (ps'.map f) ys := by
  induction h with
  | nil => exact fun {ps} r => ⟨ps, .refl _, r⟩
  | cons x h ih =>
    intro ps r
    cases ps with
    | nil => simp [RelDs] at r
    | cons p ps =>
      simp only [List.map_cons, RelDs] at r
      obtain ⟨v, ws, e, r1, r2⟩ := r
      cases e
      obtain ⟨ps', q1, q2⟩ := ih r2
      refine ⟨p :: ps', q1.cons p, ?_⟩
      simp only [List.map_cons, RelDs]
      exact ⟨_, _, rfl, r1, q2⟩
  | swap x y l =>
    intro ps r
    cases ps with
    | nil => simp [RelDs] at r
    | cons p ps =>
      simp only [List.map_cons, RelDs] at r
      obtain ⟨v, ws, e, r1, r2⟩ := r
      cases e
      cases ps with
      | nil => simp [RelDs] at r2
      | cons q ps =>
        simp only [List.map_cons, RelDs] at r2
        obtain ⟨v, ws, e, r3, r4⟩ := r2
        cases e
        refine ⟨q :: p :: ps, .swap p q ps, ?_⟩
        simp only [List.map_cons, RelDs]
        exact ⟨_, _, rfl, r3, _, _, rfl, r1, r4⟩
  | trans h1 h2 ih1 ih2 =>
    intro ps r
    obtain ⟨ps1, a1, a2⟩ := ih2 r
    obtain ⟨ps2, b1, b2⟩ := ih1 a2
    exact ⟨ps2, b1.trans a1, b2⟩
theorem tiD_tup {K : PySem.W.Frag} {R : List Addr} {H : Hp} {ns : List Int} {v : V} (r : RelD K R H (tiD ns) v) : TupI K H v ns := by
  simp only [tiD, RelD] at r
  obtain ⟨a, xs, rfl, sx, rx⟩ := r
  have e : ∀ {ns : List Int} {xs : List V}, RelDs K R H (ns.map D.int) xs → xs = ns.map V.int := fun {ns} => by
    induction ns with
    | nil => intro xs r; simpa [RelDs] using r
    | cons n ns ih =>
      intro xs r
      simp only [List.map_cons, RelDs] at r
      obtain ⟨v, ws, rfl, r1, r2⟩ := r
      simp only [RelD] at r1
      subst r1
      rw [ih r2]
      rfl
  rw [e rx] at sx
  exact ⟨a, rfl, sx⟩
theorem pw_backT {K : PySem.W.Frag} {R : List Addr} {H : Hp} : ∀ {nss : List (List Int)} {ys : List V}, RelDs K R H (nss.map tiD) ys → ys.Pairwise (fun x y => ∀ n m, TupI K H x n → TupI K H y m → HT.lexLt m n = false) → nss.Pairwise (fun x y => HT.lexLt y x = false)
  | [], _, _, _ => .nil
  | p :: ps, ys, r, h => by
    simp only [List.map_cons, RelDs] at r
    obtain ⟨v, ws, rfl, r1, r2⟩ := r
    rw [List.pairwise_cons] at h ⊢
    refine ⟨fun q hq => ?_, pw_backT r2 h.2⟩
    obtain ⟨i, hi⟩ := List.getElem?_of_mem (List.mem_map.mpr ⟨q, hq, rfl⟩ : tiD q ∈ ps.map tiD)
    obtain ⟨w, hw, rw'⟩ := r2.get hi
    exact h.1 w (List.mem_of_getElem? hw) _ _ (tiD_tup r1) (tiD_tup rw')
theorem svnl_sortedT (j : JS J) (hu : X.A.in1.in1.units < cLine) : SVNL X J (.builtin "sorted") lSortedT := by
  intro R st H H0 R0 x v ds Q h e0 g rx k
  unfold lSortedT at h
  split at h
  · rename_i es he
    split at h
    · rename_i nss hp
      split at h
      · rename_i hc
        cases h
        obtain ⟨p, xs, rfl, hx, rxs⟩ := rx.items g he
        rw [tups_eq hp] at rxs
        have each : ∀ y ∈ xs, ∃ ns ∈ nss, TupI X.K H y ns := fun y hy => by
          obtain ⟨i, hi⟩ := List.getElem?_of_mem hy
          have hlt : i < (nss.map tiD).length := by rw [rxs.length]; exact (List.getElem?_eq_some_iff.mp hi).1
          obtain ⟨w, hw, rw'⟩ := rxs.get (List.getElem?_eq_getElem hlt)
          rw [hi] at hw
          cases hw
          have hm : (nss.map tiD)[i] ∈ nss.map tiD := List.getElem_mem hlt
          obtain ⟨z, hz, ez⟩ := List.mem_map.mp hm
          rw [← ez] at rw'
          exact ⟨z, hz, tiD_tup rw'⟩
        refine rc_of (cr_sortTO hu) ⟨p, xs, rfl, SqL.of hx, fun y hy => ?_, ?_, fun ys q hpm hpw hq => ?_⟩
        · obtain ⟨ns, _, h⟩ := each y hy
          exact ⟨ns, h⟩
        · match nss, hc, rxs, each with
          | [], _, rxs, _ =>
            left
            intro y hy
            simp only [List.map_nil, RelDs] at rxs
            subst rxs
            simp at hy
          | [] :: r, _, rxs, _ =>
            right
            simp only [List.map_cons, RelDs] at rxs
            obtain ⟨v, ws, rfl, r1, r2⟩ := rxs
            exact ⟨v, ws, rfl, tiD_tup r1⟩
          | (a :: b) :: r, hc, _, each =>
            left
            intro y hy
            obtain ⟨ns, hn, h⟩ := each y hy
            have := List.all_eq_true.mp (show (((a :: b) :: r).all noE) = true from hc) ns hn
            cases ns with
            | nil => simp [noE] at this
            | cons n ns => exact ⟨n, ns, h⟩
        · obtain ⟨ps', q1, q2⟩ := perm_backD tiD hpm rxs
          have e : ps' = sortT nss := sortT_uniq (q1.trans (sortT_perm nss).symm) (pw_backT q2 hpw) (sortT_pw nss)
          subst e
          obtain ⟨x1, x2, x3⟩ := new_lst (R0 := R0) (H0 := H0) j e0 g hq q2
          exact k R _ _ x1 x2 x3
      · cases h
    · cases h
  · cases h
end
end TA
/-! update by a list of pairs, dict(pairs); min, max, sum of a new list -/
namespace TA
open PySem PySem.Spec
open PyProof.Rows L2
section
variable {X : Cx} {J : Hp → Prop}
theorem mt_updateP (hc : X.calm = true) : MtR X "dict.update" (fun x xs H Q => ∃ (a l : Addr) (kvs more : List (Key × V)) (ps : List Addr), x = .ref a ∧ xs = [.ref l] ∧ H a = some (.dK kvs) ∧ SqL X.K H l (ps.map V.ref) ∧ Paired (fun p kv => SqT X.K H p [kV kv.1, kv.2]) ps more ∧
    a ≠ l ∧ kvs.length + more.length ≤ sizeLine ∧ Q .non (upd H a (.dK (mergeV kvs more)))) := by
  intro pins s σ H x xs v us Q I rx rv h
  obtain ⟨a, l, kvs, more, ps, rfl, rfl, ha, hl, hp, hal, hz, q⟩ := h
  cases rx
  obtain ⟨u, rfl, ru⟩ := rv.one
  cases ru
  obtain ⟨z1, hs1, vs, rel1, d1⟩ := dk_of I.hok ha
  obtain ⟨its, rl, pl, hzl⟩ := I.list hl
  have ei := refs_at rl
  subst ei
  obtain ⟨prs, rel, hln, hpr⟩ := L2.pairs_of I hp
  obtain ⟨ol, n, ho, hcl, hdl, hdat⟩ := pl
  -- the pairs by their addresses
  have key : ∀ j, j < prs.length → ∃ (b : Addr) (u : Value), ps[j]? = some b ∧ ∃ q : Key × Value, prs[j]? = some q ∧ IsTup s.heap b #[u, q.2] ∧ keyIs q.1 u = true := fun j hj => by
    obtain ⟨b, u, e1, e2, e3⟩ := hpr j prs[j] (List.getElem?_eq_getElem hj)
    exact ⟨b, u, e1, prs[j], List.getElem?_eq_getElem hj, e2, e3⟩
  let us : Nat → Value := fun j => if hj : j < prs.length then (key j hj).choose_spec.choose else .none
  let prv : List (Value × Value) := (List.range prs.length).map fun j => (us j, (prs.getD j (.inl 0, .none)).2)
  have us_ok : ∀ j (hj : j < prs.length), ∃ b, ps[j]? = some b ∧ IsTup s.heap b #[us j, prs[j].2] ∧ keyIs prs[j].1 (us j) = true := fun j hj => by
    have hsp := (key j hj).choose_spec.choose_spec
    obtain ⟨h1, q, h2, h3, h4⟩ := hsp
    rw [List.getElem?_eq_getElem hj] at h2
    cases h2
    refine ⟨_, h1, ?_, ?_⟩
    · simp only [us, dif_pos hj]; exact h3
    · simp only [us, dif_pos hj]; exact h4
  have lv : prv.length = prs.length := by simp [prv]
  have gv : ∀ j (hj : j < prs.length), prv[j]? = some (us j, prs[j].2) := fun j hj => by simp [prv, hj]
  have P := PairArg.list (prog := X.prog) (w := X.w) l (ps.map Value.ref).toArray (fun j => ps.getD j 0) prv
  have ok : PlainSeq "list" s.heap l (ps.map Value.ref).toArray ∧ PairItems s.heap (ps.map Value.ref).toArray (fun j => ps.getD j 0) prv := by
    refine ⟨⟨ol, n, ho, hcl, hdl, hdat⟩, ⟨by simp [lv, hln], fun j k v hj => ?_⟩⟩
    have hj' : j < prs.length := by rw [← lv]; exact (List.getElem?_eq_some_iff.mp hj).1
    rw [gv j hj'] at hj
    cases hj
    obtain ⟨b, e1, e2, e3⟩ := us_ok j hj'
    have eb : ps.getD j 0 = b := by rw [List.getD_eq_getElem?_getD, e1]; rfl
    refine ⟨by simp [e1, eb], ?_⟩
    simp only [eb]
    exact .inl e2
  have hd : a ∉ l :: (List.range prv.length).map (fun j => ps.getD j 0) := fun hm => by
    rcases List.mem_cons.mp hm with z | hm
    · exact hal z
    · obtain ⟨j, hj, z⟩ := List.mem_map.mp hm
      rw [List.mem_range, lv] at hj
      obtain ⟨b, e1, ⟨o, e2, e4, _⟩, e3⟩ := us_ok j hj
      have eb : ps.getD j 0 = b := by rw [List.getD_eq_getElem?_getD, e1]; rfl
      simp only [eb] at z
      subst z
      obtain ⟨o', h1, h2⟩ := d1.typeIs
      rw [e2] at h1
      cases h1
      rw [e4] at h2
      exact absurd (Value.type.inj h2) (by decide)
  refine call_update_pairs (knd := mixKind X.prog X.w) (acc := vs) (kvs := prs) P (I.ok.hd hc) ok hd ⟨lv.symm, fun i k v hr => ?_⟩ d1 (by rw [lv, ← rel1.length, ← rel.length]; exact hz) fun h' tk hd' hk => ?_
  · have hr : prv[i]? = some (k, v) := hr
    have hi : i < prs.length := by rw [← lv]; exact (List.getElem?_eq_some_iff.mp hr).1
    rw [gv i hi] at hr
    cases hr
    obtain ⟨b, e1, e2, e3⟩ := us_ok i hi
    exact ⟨prs[i].1, by rw [List.getElem?_eq_getElem hi], e3⟩
  · have he : ∃ q, h'.get? a = some q := let ⟨q, _, _, hq, _⟩ := hd'; ⟨q, hq⟩
    have hlen : (mergeV kvs more).length ≤ sizeLine := Nat.le_trans (mergeV_len kvs more) hz
    exact ⟨.non, _, I.write (x := a) (e := a) (t' := tk) (by rw [ha]; exact True.intro) (.inl rfl) (fun b q hb z => hk b q hb (by simp) z) he (dk_new hlen hs1 (kv_merge rel1 rel) hd'), rfl, q⟩
/-! ### pairs as data -/
def kvs? : List D → Option (List (Key × D))
  | [] => some []
  | .tup [k, v] :: r => match keyD k, kvs? r with
    | some q, some l => some ((q, v) :: l)
    | _, _ => none
  | _ :: _ => none
theorem kvs_rel {K : PySem.W.Frag} {R : List Addr} {H : Hp} : ∀ {ds : List D} {xs : List V} {kvs : List (Key × D)}, kvs? ds = some kvs → RelDs K R H ds xs → ∃ (ps : List Addr) (ws : List (Key × V)), xs = ps.map V.ref ∧ Paired (fun p kv => SqT K H p [kV kv.1, kv.2]) ps ws ∧ RelKv K R H kvs ws
  | [], _, _, h, r => by
    simp only [kvs?, Option.some.injEq] at h
    simp only [RelDs] at r
    subst h; subst r
    exact ⟨[], [], rfl, .nil, by simp only [RelKv]⟩
  | d :: ds, xs, kvs, h, r => by
    unfold kvs? at h
    split at h
    · rename_i heq
      cases heq
    · rename_i k v r' heq
      cases heq
      split at h
      · rename_i q l hk hl
        cases h
        simp only [RelDs, RelD] at r
        obtain ⟨w, ws, rfl, ⟨a, zs, rfl, sa, v1, w1, rfl, r1, v2, w2, rfl, r2, rfl⟩, r3⟩ := r
        obtain ⟨ps, us, rfl, hp, hr⟩ := kvs_rel hl r3
        have e := keyD_rel hk r1
        subst e
        refine ⟨a :: ps, (q, v2) :: us, rfl, .cons sa hp, ?_⟩
        simp only [RelKv]
        exact ⟨v2, us, rfl, r2, hr⟩
      · cases h
    · cases h
theorem RelKv.len {K : PySem.W.Frag} {R : List Addr} {H : Hp} : ∀ {l : List (Key × D)} {m : List (Key × V)}, RelKv K R H l m → l.length = m.length
  | [], _, h => by simp only [RelKv] at h; subst h; rfl
  | p :: l, _, h => by
    simp only [RelKv] at h
    obtain ⟨v, ws, rfl, _, h3⟩ := h
    simp [RelKv.len h3]
def vUpdateF (d : D) (ds : List D) (st : Sto) : Option (Out D) := match d with
  | .loc n => match st[n]? with
    | some (.dct l) => match kvs? ds with
      | some more => match Nat.ble (l.length + more.length) 1000000 with
        | true => some (.ok .non (st.set n (.dct (mergeD l more))))
        | false => none
      | none => none
    | _ => none
  | _ => none
theorem svmf_update (j : JS J) (hc : X.calm = true) : SVMF X J "dict.update" vUpdateF := by
  intro R st H d ds v b zs out Q E h g rd hb hz rz t o
  unfold vUpdateF at h
  split at h
  · rename_i n
    split at h
    · rename_i l e
      split at h
      · rename_i more hm
        split at h
        · rename_i hl
          cases h
          simp only [RelD] at rd
          obtain ⟨a, rfl, ra⟩ := rd
          obtain ⟨xs, hx, rx⟩ := g.ob n _ a e ra
          obtain ⟨ps, ws, rfl, hp, rk⟩ := kvs_rel hm rz
          have hab : a ≠ b := fun z => by subst z; exact hb (List.mem_of_getElem? ra)
          refine rm_of (mt_updateP hc) ⟨a, b, xs, ws, ps, rfl, rfl, hx, SqL.of hz, hp, hab, by rw [← RelKv.len rx, ← RelKv.len rk]; exact szL hl, ?_⟩
          have ex := Ex.put (u := .dK (mergeV xs ws)) (List.mem_of_getElem? ra) hx rfl
          exact o R _ _ ex (g.put j ra hx rfl rfl ⟨_, upd_same, RelKv.mono ex.toEx0 (merge_rel rx rk)⟩) relNon
        · cases h
      · cases h
    · cases h
  · cases h
/-- dict([..]) -/
def bDictF (ds : List D) (st : Sto) : Option (Out D) := match kvs? ds with
  | some more => match Nat.ble more.length 1000000 with
    | true => some (.ok (.loc st.length) (st ++ [.dct (mergeD [] more)]))
    | false => none
  | none => none
theorem svf_dict (j : JS J) (hc : X.calm = true) : SVF X J (.type "dict") bDictF := by
  intro R st H ds a xs out Q E h g hx rx t o
  unfold bDictF at h
  split at h
  · rename_i more hm
    split at h
    · rename_i hl
      cases h
      obtain ⟨ps, ws, rfl, hp, rk⟩ := kvs_rel hm rx
      refine rc_of (call_dictP hc) ⟨a, ps, ws, rfl, SqL.of hx, hp, fun p hn => ?_⟩
      have hp' : p ∉ R := fun hmem => by
        obtain ⟨n, ob, _, _, z⟩ := g.mem hmem
        exact z.some hn
      have e0 : Ex R R H (upd H p (.dK (mergeV [] ws))) := Ex.new hn
      have r0 : RelKv X.K R H (mergeD [] more) (mergeV [] ws) := merge_rel (by simp only [RelKv]) rk
      have g1 : Gd X.K J R st (upd H p (.dK (mergeV [] ws))) := g.new j hn
      refine o (R ++ [p]) _ (.ref p) (e0.snoc hn) (g1.push hp' ⟨_, upd_same, r0.mono e0.toEx0⟩) ?_
      simp only [RelD]
      exact ⟨p, rfl, by rw [← g.len]; simp⟩
    · cases h
  · cases h
/-! ### min, max, sum of a new list -/
def minI (n : Int) : List Int → Int
  | [] => n
  | m :: l => minI (match decide (m < n) with | true => m | false => n) l
def maxI (n : Int) : List Int → Int
  | [] => n
  | m :: l => maxI (match decide (n < m) with | true => m | false => n) l
theorem minI_ok : ∀ (l : List Int) (n : Int), minI n l ∈ n :: l ∧ ∀ y ∈ n :: l, minI n l ≤ y
  | [], n => ⟨by simp [minI], fun y hy => by simp only [List.mem_singleton] at hy; subst hy; exact Int.le_refl _⟩
  | m :: l, n => by
    by_cases h : m < n
    · have ih := minI_ok l m
      have e : minI n (m :: l) = minI m l := by simp only [minI, decide_eq_true h]
      rw [e]
      refine ⟨List.mem_cons_of_mem _ ih.1, fun y hy => ?_⟩
      rcases List.mem_cons.mp hy with rfl | hy
      · have := ih.2 m List.mem_cons_self; omega
      · exact ih.2 y hy
    · have ih := minI_ok l n
      have e : minI n (m :: l) = minI n l := by simp only [minI, decide_eq_false h]
      rw [e]
      refine ⟨?_, fun y hy => ?_⟩
      · rcases List.mem_cons.mp ih.1 with z | z
        · rw [z]; exact List.mem_cons_self
        · exact List.mem_cons_of_mem _ (List.mem_cons_of_mem _ z)
      · rcases List.mem_cons.mp hy with rfl | hy
        · exact ih.2 _ List.mem_cons_self
        · rcases List.mem_cons.mp hy with rfl | hy
          · have := ih.2 n List.mem_cons_self; omega
          · exact ih.2 y (List.mem_cons_of_mem _ hy)
theorem maxI_ok : ∀ (l : List Int) (n : Int), maxI n l ∈ n :: l ∧ ∀ y ∈ n :: l, y ≤ maxI n l
  | [], n => ⟨by simp [maxI], fun y hy => by simp only [List.mem_singleton] at hy; subst hy; exact Int.le_refl _⟩
  | m :: l, n => by
    by_cases h : n < m
    · have ih := maxI_ok l m
      have e : maxI n (m :: l) = maxI m l := by simp only [maxI, decide_eq_true h]
      rw [e]
      refine ⟨List.mem_cons_of_mem _ ih.1, fun y hy => ?_⟩
      rcases List.mem_cons.mp hy with rfl | hy
      · have := ih.2 m List.mem_cons_self; omega
      · exact ih.2 y hy
    · have ih := maxI_ok l n
      have e : maxI n (m :: l) = maxI n l := by simp only [maxI, decide_eq_false h]
      rw [e]
      refine ⟨?_, fun y hy => ?_⟩
      · rcases List.mem_cons.mp ih.1 with z | z
        · rw [z]; exact List.mem_cons_self
        · exact List.mem_cons_of_mem _ (List.mem_cons_of_mem _ z)
      · rcases List.mem_cons.mp hy with rfl | hy
        · exact ih.2 _ List.mem_cons_self
        · rcases List.mem_cons.mp hy with rfl | hy
          · have := ih.2 n List.mem_cons_self; omega
          · exact ih.2 y (List.mem_cons_of_mem _ hy)
def bMinF (ds : List D) (st : Sto) : Option (Out D) := match ints? ds with
  | some (n :: l) => some (.ok (.int (minI n l)) st)
  | _ => none
def bMaxF (ds : List D) (st : Sto) : Option (Out D) := match ints? ds with
  | some (n :: l) => some (.ok (.int (maxI n l)) st)
  | _ => none
def sumI : List Int → Int
  | [] => 0
  | n :: l => n + sumI l
theorem sumI_eq : ∀ l : List Int, sumI l = l.sum
  | [] => rfl
  | n :: l => by simp only [sumI, List.sum_cons, sumI_eq l]
def bSumF (ds : List D) (st : Sto) : Option (Out D) := match ints? ds with
  | some l => some (.ok (.int (sumI l)) st)
  | none => none
theorem svf_min (hc : X.calm = true) : SVF X J (.builtin "min") bMinF := by
  intro R st H ds a xs out Q E h g hx rx t o
  unfold bMinF at h
  split at h
  · rename_i n l e
    cases h
    rw [ints_rel e rx] at hx
    refine rc_of (cr_min hc) ⟨a, n :: l, rfl, SqL.of hx, by simp, fun m hm hle => ?_⟩
    have mo := minI_ok l n
    have e1 : m = minI n l := Int.le_antisymm (hle _ mo.1) (mo.2 m hm)
    subst e1
    exact o R H _ Ex.refl g relInt
  · cases h
theorem svf_max (hc : X.calm = true) : SVF X J (.builtin "max") bMaxF := by
  intro R st H ds a xs out Q E h g hx rx t o
  unfold bMaxF at h
  split at h
  · rename_i n l e
    cases h
    rw [ints_rel e rx] at hx
    refine rc_of (cr_max hc) ⟨a, n :: l, rfl, SqL.of hx, by simp, fun m hm hle => ?_⟩
    have mo := maxI_ok l n
    have e1 : m = maxI n l := Int.le_antisymm (mo.2 m hm) (hle _ mo.1)
    subst e1
    exact o R H _ Ex.refl g relInt
  · cases h
theorem svf_sum (hc : X.calm = true) : SVF X J (.builtin "sum") bSumF := by
  intro R st H ds a xs out Q E h g hx rx t o
  unfold bSumF at h
  split at h
  · rename_i l e
    cases h
    rw [ints_rel e rx] at hx
    refine rc_of (cr_sum hc) ⟨a, l, rfl, SqL.of hx, ?_⟩
    rw [← sumI_eq]
    exact o R H _ Ex.refl g relInt
  · cases h
end
end TA
/-! enumerate(tuple) -/
namespace TA
open PySem PySem.Spec
open PyProof.Rows L2
open PySem.AutoSeq1 (wpAny_loadPart')
/-- enumerate's own making, of a tuple -/
theorem newT_meets (q : Addr) (ys : Array Value) (m : Nat) (dq : Option Addr) (sq : Array (Option Value)) :
    Meets (Builtin.«enumerate.__new__» ⟨[.type "enumerate", .ref q], []⟩) (fun _ R z => z.heap.get? q = some { cls := .type "tuple", dict := dq, data := .seq ys m, slots := sq } ∧
      R (.ok (.ret (.ref (z.heap.push { cls := .type "tuple_iterator", data := .fields #[.ref q, .int 0 0] }).objs.size)))
        { z with heap := (z.heap.push { cls := .type "tuple_iterator", data := .fields #[.ref q, .int 0 0] }).push { cls := .type "enumerate", data := .fields #[.none, .bool false, .ref z.heap.objs.size, rawInt 0, .none, .none] } }) :=
  .of_wp fun prog w A R z h => by
    obtain ⟨hp, g, d, tk, os⟩ := z
    obtain ⟨hq, h⟩ := h
    have hsub := sub_enumerate
    have hT : Heap.IsTuple (Shared.heap ⟨hp, g, d, tk, os⟩) q ys := ⟨_, hq, rfl, m, rfl⟩
    wp_walk using wpAny_loadPart' hq
    refine wpAny_stack_any fun stk => wpAny_pure ?_
    split
    · rename_i c _ _ _ _ _
      cases (c == Value.type "enumerate") <;> (wp_walk using wpAny_loadPart' hq, wpAny_pyIter_tuple hT; exact ⟨_, rfl, h⟩)
    · (wp_walk using wpAny_loadPart' hq, wpAny_pyIter_tuple hT)
      exact ⟨_, rfl, h⟩
section
variable {prog : Program} {w : World} {A : Around} {E : Value → Shared → Prop} {s : Shared}
theorem call_enumT {q : Addr} {ys : Array Value} {Q : Value → Shared → Prop} (hT : s.heap.IsTuple q ys)
    (h : ∀ g, IsEnum g (s.heap.objs.size + 1) s.heap.objs.size 0 .none → g.IsTupleIter s.heap.objs.size q 0 → (∀ b o, s.heap.get? b = some o → g.get? b = some o) → Q (.ref (s.heap.objs.size + 1)) { s with heap := g }) :
    wpAny (model prog w) A (call (.type "enumerate") [.ref q]) Q E s := by
  obtain ⟨⟨c, dq, dt, sq⟩, hq, hc, m, hd⟩ := hT
  simp only at hc hd
  subst hc hd
  refine callType_new F.called_enumerate (by decide) (F.typeCall_enumerate_1 _) (F.newCall_enumerate_1 _) (fun ob => F.args_object_init_2 ob _) F.entry_enumerate_new (newT_meets q ys m dq sq) ⟨hq, ?_⟩
  have hz : (s.heap.push { cls := .type "tuple_iterator", data := .fields #[.ref q, .int 0 0] }).objs.size = s.heap.objs.size + 1 := Heap.size_push ..
  show _ ∧ _
  rw [hz]
  have he : IsEnum ((s.heap.push { cls := .type "tuple_iterator", data := .fields #[.ref q, .int 0 0] }).push { cls := .type "enumerate", data := .fields #[.none, .bool false, .ref s.heap.objs.size, rawInt 0, .none, .none] }) (s.heap.objs.size + 1) s.heap.objs.size 0 .none := by
    have e := Heap.get?_push_size (s.heap.push { cls := .type "tuple_iterator", data := .fields #[.ref q, .int 0 0] }) (o := { cls := .type "enumerate", data := .fields #[.none, .bool false, .ref s.heap.objs.size, rawInt 0, .none, .none] }) rfl
    rw [hz] at e
    exact e
  exact ⟨⟨_, he, rfl⟩, h _ he ⟨_, Heap.get?_push_of_some _ (Heap.get?_push_size _ rfl), rfl, rfl⟩ fun b o x => Heap.get?_push_of_some _ (Heap.get?_push_of_some _ x)⟩
theorem endT {e it q : Addr} {k : Int} {i : Nat} {ys : Array Value} {old : Value} {Q : Option Value → Shared → Prop} (hh : A.handled = none) (he : IsEnum s.heap e it k old) (hit : s.heap.IsTupleIter it q i) (hT : s.heap.IsTuple q ys) (hx : ys[i]? = none)
    (hQ : ∀ g, Heap.ExtBut it s.heap g → Q none { s with heap := g }) : wpAny (model prog w) A (pyNext (.ref e)) Q E s := by
  have ty : s.TypeIs (.ref e) "enumerate" := ⟨_, he, rfl⟩
  unfold pyNext
  refine wpAny_bind (wpAny_attempt (wpAny_callSpecial?_slot (name := Str.ofString "__next__") ty F.slot_enumerate_next (wpAny_call_entry F.slot_enumerate_next ty F.entry_enumerate_next ?_ (F.args_enumerate_next_1 _))))
  show wpAny _ _ (field (.ref e) 2 >>= _) _ _ _
  refine wpAny_bind (wpAny_field he rfl (x := .ref it) rfl ?_)
  refine wpAny_bind (wpAny_nextOf_tuple_end hh hit hT hx fun g x he' hx' => ?_)
  obtain ⟨o, ho, hc⟩ := hx'
  exact wpAny_bind (wpAny_isInstance (T := "StopIteration") (b := true) ⟨o, ho, hc⟩ isSubtype_stop (wpAny_pure (hQ _ he')))
end
/-- the tuple at a, each item in a new pair -/
def Itt (K : PySem.W.Frag) (a : Addr) : It :=
  ⟨fun i H => ∃ (ys : List V) (y : V), SqT K H a ys ∧ ys[i]? = some y, fun i H v H' => ∃ T y, v = .ref T ∧ H T = none ∧ H' = upd H T (.tup [.int (i : Nat), y]) ∧ ∀ ys, SqT K H a ys → ys[i]? = some y, fun i H => ∃ ys : List V, SqT K H a ys ∧ ys.length ≤ i⟩
theorem turn_enumT {P : Program} {w : World} {K : PySem.W.Frag} {elts : List Expr} {kk : Nat} {tpos : Pos} (a e it : Addr) :
    Turn P w K (.Tuple elts kk tpos) (Itt K a) [e, it] e (fun i h => (∃ old, IsEnum h e it ((i : Nat) : Int) old) ∧ h.IsTupleIter it a i ∧ e ≠ it ∧ a ≠ it ∧ a ≠ e) where
  mem := by simp
  obj := fun i h tn b hb => by
    obtain ⟨⟨old, he⟩, ⟨o, ho, hc, hd⟩, _⟩ := tn
    have e' : b = e ∨ b = it := by simpa using hb
    rcases e' with z | z
    · rw [z]; exact ⟨_, he, fun v q => nomatch q⟩
    · rw [z]; exact ⟨o, ho, fun v q => by rw [hd] at q; cases q⟩
  keep := fun i h h' tn k => let ⟨⟨old, he⟩, hi, hne⟩ := tn; ⟨⟨old, k e (by simp) _ he⟩, hi.at fun o q => k it (by simp) o q, hne⟩
  item := by
    intro X hP hw hK hc i pins s σ H E I hf tn hg
    subst hP hw hK
    obtain ⟨⟨old, he⟩, hit, hne, hai, hae⟩ := tn
    obtain ⟨ys, y, hq, hy⟩ := hg
    obtain ⟨its, rv, hT, hz⟩ := I.tuple hq
    obtain ⟨u, hu, ru⟩ := rv.get hy
    have hel : e < s.heap.objs.size := Heap.lt_size he
    have hil : it < s.heap.objs.size := by obtain ⟨_, q, _⟩ := hit; exact Heap.lt_size q
    have hlt : i < its.toArray.size := by simpa using (List.getElem?_eq_some_iff.mp hu).1
    have D := Draws.tuple (prog := X.prog) (w := X.w) (A := X.A.in1) (I.ok.hd hc) it a hai its.toArray
    refine wpAny_pyNext_enum_itemD D he ⟨hit, hT⟩ hlt hne (by simp [hne, Ne.symm hae]) fun x h' tk hx ho hst hT' hsz hk => ?_
    have ex : x = u := by
      have hx : its.toArray[i]? = some x := hx
      simp only [List.getElem?_toArray] at hx
      rw [hu] at hx
      exact (Option.some.inj hx).symm
    subst ex
    refine ⟨_, rfl, wpAny_letOwnedTupleGo_enum (s := { s with heap := h', toks := tk + 1 }) ho fun h'' he' sb => ?_⟩
    have hT2 : h''.get? s.heap.objs.size = some { cls := .type "tuple", data := .seq #[.int i tk, x] } := (sb.2 _ (Nat.ne_of_gt hel)).trans hT'
    have new : ObjOk X.prog X.w (upd H s.heap.objs.size (.tup [.int (i : Nat), y])) h'' s.heap.objs.size (.tup [.int (i : Nat), y]) :=
      ⟨by show 2 ≤ sizeLine; decide, [.int i tk, x], .cons ⟨_, rfl⟩ (.cons ru .nil), ⟨_, hT2, rfl, _, rfl⟩⟩
    have I1 : Inv X pins σ (upd H s.heap.objs.size (.tup [.int (i : Nat), y])) { s with heap := h'', toks := tk + 1 } :=
      I.turnedNew (ch := [e, it]) (fun b ob hb q => (sb.2 b (fun z => hb (by simp [z]))).trans (hk b ob (fun z => hb (by simp [z])) (fun z => hb (by simp [z])) q)) hf (Nat.le_refl _) new
    refine ⟨.ref s.heap.objs.size, _, I1, rfl, ⟨_, y, rfl, I.hok.fresh (Nat.le_refl _), rfl, fun zs hzs => by rw [I.tuple_inj hzs hq]; exact hy⟩, ⟨⟨x, ?_⟩, hst.1.at fun o q => (sb.2 it (Ne.symm hne)).trans q, hne, hai, hae⟩, fun b hb => ?_⟩
    · have e1 : ((i + 1 : Nat) : Int) = (i : Int) + 1 := by omega
      rw [e1]; exact he'
    · have hb' : b < s.heap.objs.size := by
        have e' : b = e ∨ b = it := by simpa using hb
        rcases e' with z | z
        · rw [z]; exact hel
        · rw [z]; exact hil
      rw [upd_ne (Nat.ne_of_lt hb')]
      exact (hf b hb).1
  done := by
    intro X hP hw hK hc i pins s σ H E I hf tn hg
    subst hP hw hK
    obtain ⟨⟨old, he⟩, hit, hne, hai, hae⟩ := tn
    obtain ⟨ys, hq, hy⟩ := hg
    obtain ⟨its, rv, hT, hz⟩ := I.tuple hq
    obtain ⟨f0, f1, f2, f3, f4, f5⟩ := hf it (by simp)
    have hl := rv.length
    exact endT (I.ok.hd hc) he hit hT (by simp; omega) fun g eb => ⟨rfl, I.turned (t' := s.toks) (fun b o hb q => eb b o hb q) f0 f1 f3 f4 f5⟩
  self := fun A i s Q E tn h => let ⟨⟨_, he⟩, _⟩ := tn; wpAny_pyIter_enum he h
def iEnumT (K : PySem.W.Frag) (ta : L2.TA) : TI := fun σ H R => ta σ H fun vs H1 => ∃ a ys, vs = [.ref a] ∧ SqT K H1 a ys ∧ R (Itt K a) H1
theorem pi_enumT {X : Cx} {e : Expr} {ta : L2.TA} {p pos tpos : Pos} {elts : List Expr} {kk : Nat} (hg : Gl X "enumerate") (hm : X.mg "enumerate" = none) (ha : PA X [e] ta) (hs : starEach [e] X.env = [(false, eval e X.env)]) :
    PI X (.Tuple elts kk tpos) (.Call (.Name "enumerate" p) [e] [] pos) (iEnumT X.K ta) := by
  refine ⟨fun pins s σ H R I h => ?_⟩
  refine Call_ (ld_blt I hg hm boot_enumerate (PyProof.Rows.callWith_type1 (L2.thn (ha.run pos pins s σ H _ I h) fun us s1 ⟨vs, H1, I1, r1, q1⟩ => ?_) hs rfl))
  obtain ⟨a, ys, ex, hq, q⟩ := q1
  subst ex
  cases r1 with
  | cons r rr =>
    cases rr
    cases r
    obtain ⟨its, rv, hT, hz⟩ := I1.tuple hq
    refine call_enumT hT fun g he hit hk => wpAny_pyIter_enum he ?_
    have I2 : Inv X pins σ H1 { s1 with heap := g } := I1.kept (t' := s1.toks) hk
    have al : a < s1.heap.objs.size := by
      obtain ⟨o, ho, _⟩ := hT
      exact Heap.lt_size ho
    refine ⟨s1.heap.objs.size + 1, [s1.heap.objs.size + 1, s1.heap.objs.size], _, _, H1, rfl, I2, turn_enumT a (s1.heap.objs.size + 1) s1.heap.objs.size, ⟨⟨.none, he⟩, hit, Nat.succ_ne_self _, Nat.ne_of_lt al, Nat.ne_of_lt (Nat.lt_succ_of_lt al)⟩, fun b hb => ?_, q⟩
    have hle : s1.heap.objs.size ≤ b := by
      have e' : b = s1.heap.objs.size + 1 ∨ b = s1.heap.objs.size := by simpa using hb
      rcases e' with rfl | rfl
      · exact Nat.le_succ _
      · exact Nat.le_refl _
    exact I1.fpOk hle (I1.hok.fresh hle)
/-! ### as data -/
def mEnumT (m : M FL) : M Wkd := mBind m fun x => fun _ st => match x with
  | .at (.tup ds) => some (.ok (enumD 0 ds, yes) st)
  | _ => none
section
variable {X : Cx} {J : Hp → Prop}
theorem wk_enumT {R : List Addr} {H : Hp} {a : Addr} {ds : List D} (j : JS J) (hl : ∀ R1 st1 H1, Ex R R1 H H1 → Gd X.K J R1 st1 H1 → ∃ xs, SqT X.K H1 a xs ∧ RelDs X.K R1 H1 ds xs) : Wk X J R H (enumD 0 ds, yes) (Itt X.K a) := by
  intro R1 st1 H1 i e1 g1 hc
  obtain ⟨xs, sx, rx⟩ := hl R1 st1 H1 e1 g1
  refine ⟨fun hi => ⟨xs, sx, ?_⟩, fun d hd => ?_⟩
  · have hi : i = (enumD 0 ds).length := hi
    rw [enumD_len, rx.length] at hi
    omega
  · obtain ⟨x, hx, rfl⟩ := enumD_get hd
    obtain ⟨v, hv, rv⟩ := rx.get hx
    refine ⟨⟨xs, v, sx, hv⟩, fun y H3 hy => ?_⟩
    obtain ⟨T, v', rfl, hT, rfl, q⟩ := hy
    have := q xs sx
    rw [hv] at this
    cases this
    refine ⟨Ex.new hT, g1.new j hT, ?_⟩
    rw [Nat.zero_add]
    exact tup2 hT (by simp only [RelD]) rv
theorem si_enumT {e : Expr} {elts : List Expr} {kk : Nat} {tpos p pos : Pos} {m : M FL} (j : JS J) (hg : Gl X "enumerate") (hm : X.mg "enumerate" = none) (S : SX X J e m) (hp : plainArg e = true) :
    SI X J (.Tuple elts kk tpos) (.Call (.Name "enumerate" p) [e] [] pos) (mEnumT m) := by
  intro R env st σ H out Rk E h g r t o
  refine sem_ofI (pi_enumT hg hm (pa_cons pe_sem pa_nil (star_cons hp)) (star_cons hp)) ?_
  refine sx_then S h g r t o fun R1 st1 H1 x v e1 g1 r1 rx h1 o1 => ?_
  split at h1
  · rename_i ds
    cases h1
    have rx : RelD X.K R1 H1 (.tup ds) v := rx
    simp only [RelD] at rx
    obtain ⟨a, xs, rfl, sx, rxs⟩ := rx
    refine ⟨a, xs, rfl, sx, o1 R1 H1 _ Ex.refl g1 (wk_enumT j fun R2 st2 H2 e2 g2 => ?_)⟩
    exact ⟨xs, e2.toEx0.sqT sx, rxs.mono e2.toEx0⟩
  · cases h1
end
end TA
/-! sorted: a tuple of whole numbers -/
namespace TA
open PySem PySem.Spec
open PyProof.Rows L2
section
variable {X : Cx} {J : Hp → Prop}
theorem call_sortedU : CallR X (.builtin "sorted") (fun xs H Q => ∃ (a : Addr) (ns : List Int), xs = [.ref a] ∧ SqT X.K H a (ns.map V.int) ∧ ∀ (ys : List Int) (p : Addr), ys.Perm ns → ys.Pairwise (· ≤ ·) → H p = none → Q (.ref p) (upd H p (.lst (ys.map V.int)))) := by
  intro pins s σ H xs us Q I r q
  obtain ⟨a, ns, ex, hd, q⟩ := q
  subst ex
  obtain ⟨its, rv, ht, hz⟩ := I.tuple hd
  rw [Vals.ref1 r]
  have hi := rv.ints
  have hz' : its.length ≤ sizeLine := by rw [← rv.length]; exact hz
  obtain ⟨o, ho, hc, n, hdt⟩ := ht
  refine Calls.call_function_entry PyProof.Rows.kind_sorted PyProof.Rows.plain_sorted PyProof.Rows.entry_sorted (PyProof.Rows.args_sorted1 _) ?_
  unfold Builtin.«sorted»
  refine wpAny_bind (m := checkCount "sorted" 1 1 _) (wpAny_pure ?_)
  refine wpAny_bind (wpAny_collect_seq a (.inr rfl) ho hc hdt (fun h' hk => ?_) (by rw [List.size_toArray]; exact hz'))
  have I1 : Inv X pins σ H { s with heap := h' } := I.kept (t' := s.toks) hk
  refine wpAny_bind (wpAny_newList ?_ hz')
  have hoL : (h'.push (seqObj "list" its.toArray 0)).get? h'.objs.size = some (seqObj "list" its.toArray 0) := Heap.get?_push_size _ rfl
  show wpAny _ _ _ _ _ { s with heap := h'.push (seqObj "list" its.toArray 0) }
  refine wpAny_bind (wpAny_holding (wpAny_call_entry PyProof.Rows.slot_list_sort ⟨_, hoL, rfl⟩ PyProof.Rows.entry_list_sort
    (SrtO.list_sort_ord (s := { s with heap := h'.push (seqObj "list" its.toArray 0) }) SrtO.swo_int hoL hz' (fun h2 => SrtO.ints_sortable hi h2) fun out h1 h2 => ⟨_, rfl, ?_⟩) (PyProof.Rows.args_list_sort _)))
  obtain ⟨k1, k2, k3⟩ := SrtO.ints_out hi h1 h2
  obtain ⟨e', he'⟩ := PyProof.Rows.sortedHeap_at (vs := its) (out := out.toArray) hoL
  have hlen : ((out.map SrtO.iv).map V.int).length ≤ sizeLine := by
    rw [List.length_map, k2.length_eq]
    rw [List.length_map] at hz
    exact hz
  refine wpAny_pure ⟨_, rfl, .ref h'.objs.size, upd H h'.objs.size (.lst ((out.map SrtO.iv).map V.int)), I1.laid (t' := s.toks) (fun b u e => ?_) (Nat.le_refl _)
    (show ObjOk X.prog X.w _ _ _ (.lst ((out.map SrtO.iv).map V.int)) from ⟨hlen, out, e', vals_of_ints k1, he'⟩), rfl, q _ _ k2 k3 (I1.hok.fresh (Nat.le_refl _))⟩
  have hb : b < h'.objs.size := Heap.lt_size e
  rw [PyProof.Rows.sortedHeap_old (Nat.ne_of_lt hb) (by rw [size_push']; exact Nat.lt_succ_of_lt hb)]
  exact Heap.get?_push_of_some _ e
def lSortedU (x : FL) (st : Sto) : Option (List D) := match x with
  | .at (.tup ds) => match ints? ds with
    | some ns => some ((sortI ns).map D.int)
    | none => none
  | _ => none
theorem svnl_sortedU (j : JS J) : SVNL X J (.builtin "sorted") lSortedU := by
  intro R st H H0 R0 x v ds Q h e0 g rx k
  unfold lSortedU at h
  split at h
  · rename_i es
    split at h
    · rename_i ns hi
      cases h
      have rx : RelD X.K R H (.tup es) v := rx
      simp only [RelD] at rx
      obtain ⟨a, xs, rfl, hs, rxs⟩ := rx
      rw [ints_rel hi rxs] at hs
      refine rc_of call_sortedU ⟨a, ns, rfl, hs, fun ns' q hp hw hq => ?_⟩
      have e : ns' = sortI ns := sorted_eq (hp.trans (sortI_perm ns).symm) hw (sortI_pw ns)
      subst e
      obtain ⟨x1, x2, x3⟩ := new_lst (R0 := R0) (H0 := H0) j e0 g hq ints_map
      exact k R _ _ x1 x2 x3
    · cases h
  · cases h
end
end TA
/-! sorted(set(..)) of a list of ints -/
namespace TA
open PySem PySem.Spec
open PyProof.Rows L2
/-- a set just made -/
abbrev eSet (w : World) : Obj := { cls := .type "set", dict := none, data := .set #[] 0 (.fresh 0 0 (!w.params.followText "set-order")) }
section
variable {P : Program} {w : World} {A : Around} {E : Value → Shared → Prop} {s : Shared}
theorem set_listI {l : Addr} {its : Array Value} (ns : List Int) {Q : Value → Shared → Prop} (hd : A.handled = none) (isl : s.heap.IsList l its) (hi : IntsAre its.toList ns) (few : ns.length + 1 < scanBound)
    (fin : ∀ (h1 : Heap) (tk c : Nat), SetR w h1 s.heap.objs.size (fun j => decide (j ∈ ns)) c → c ≤ ns.length → (∀ b o, s.heap.get? b = some o → h1.get? b = some o) → Q (.ref s.heap.objs.size) { s with heap := h1, toks := tk }) :
    wpAny (model P w) A (call (.type "set") [.ref l]) Q E s := by
  have sz : its.size = ns.length := by have q := hi.length; rw [Array.length_toList] at q; exact q
  obtain ⟨mc, mt, m1⟩ := F.called_set.mro
  have m2 := F.called_set.made
  have m3 := F.called_set.sub
  have m4 := F.called_set.notType
  have m5 := F.called_set.canCreate
  have m6 := F.typeCall_set_1 (.ref l)
  refine wpAny_call (codeAny_of_tree (show wpAny _ _ (callAny (.type "set") _) _ _ _ from ?_))
  refine wpAny_pure ⟨Code.quiet_builtin _ (by decide +kernel), codeAny_builtin F.entry_type_call ?_⟩
  rw [Around.under_plain (weight_type_call_type "set" [.ref l] []) rfl]
  repeat (any_goals (first | assumption | wp_step))
  refine codeAny_mono (code_set_led1 (.ref l) (E := E) (Q₁ := fun ob t => ob = .ref s.heap.objs.size ∧ t = { s with heap := s.heap.push (eSet w) }) ⟨rfl, rfl⟩) fun res t hres => ?_
  match res, hres with
  | .error e, hres => exact hres
  | .ok .next, hres => exact hres.elim
  | .ok .brk, hres => exact hres.elim
  | .ok .cont, hres => exact hres.elim
  | .ok (.ret ob), hres =>
    obtain ⟨rfl, rfl⟩ := hres
    have oS : (s.heap.push (eSet w)).get? s.heap.objs.size = some (eSet w) := Heap.get?_push_size _ rfl
    have tS : Shared.TypeIs { s with heap := s.heap.push (eSet w) } (.ref s.heap.objs.size) "set" := ⟨_, oS, rfl⟩
    have m7 := F.called_set.init.lookup
    have m8 := F.called_set.init.bind (.ref s.heap.objs.size)
    repeat (any_goals (first | assumption | wp_step))
    refine codeAny_mono (codeAny_call_builtin (R := wants (fun r t => r = .none ∧ ∃ h1 tk c, t = { s with heap := h1, toks := tk } ∧ SetR w h1 s.heap.objs.size (fun j => decide (j ∈ ns)) c ∧ c ≤ ns.length ∧ (∀ b o, s.heap.get? b = some o → h1.get? b = some o)) E)
      F.called_set.init.plain F.entry_set_init (check_set_init_1 tS ?_)) fun r2 t2 hr2 => ?_
    · obtain ⟨⟨cl, dd, da, sl⟩, ol, c1, nl, d1⟩ := isl
      simp only at c1 d1
      subst c1
      subst d1
      have ol2 : (s.heap.push (eSet w)).get? l = some { cls := .type "list", dict := dd, data := .seq its nl, slots := sl } := Heap.get?_push_of_some _ ol
      have n1 := F.sub_list_set
      have n2 := F.sub_list_frozenset
      have n3 : (Value.type "list" == Value.type "dict") = false := by decide
      have il : (s.heap.push (eSet w)).IsList l its := ⟨_, ol2, rfl, nl, rfl⟩
      have lt : l < s.heap.objs.size := Heap.lt_size ol
      have h3 : A.in1.in1.in1.handled = none := by simp [hd]
      have sz1 : (s.heap.push (eSet w)).objs.size = s.heap.objs.size + 1 := Heap.size_push ..
      have ne1 : l ≠ (s.heap.push (eSet w)).objs.size := by rw [sz1]; exact Nat.ne_of_lt (Nat.lt_succ_of_lt lt)
      have nin : s.heap.objs.size ∉ [(s.heap.push (eSet w)).objs.size, l] := by
        rw [sz1]
        simp only [List.mem_cons, List.not_mem_nil, or_false, not_or]
        exact ⟨Nat.ne_of_lt (Nat.lt_succ_self _), fun z => Nat.lt_irrefl _ (z ▸ lt)⟩
      have val : ∀ (i : Nat) (v : Value), its[i]? = some v → ∃ k t, ns[i]? = some k ∧ v = .int k t := fun i v hv => by
        have hlt : i < ns.length := by rw [← sz]; exact (Array.getElem?_eq_some_iff.mp hv).1
        obtain ⟨t, e⟩ := IntsAre.int_at hi i v (by rw [Array.getElem?_toList]; exact hv)
        refine ⟨ns[i], t, List.getElem?_eq_getElem hlt, ?_⟩
        rw [e, List.getD_eq_getElem?_getD, List.getElem?_eq_getElem hlt]
        rfl
      unfold Builtin.«set.__init__» noKeywords Builtin.Frozenset.updateFrom
      generalize hIt : pyIter = It
      wp_walk
      subst hIt
      refine wpAny_pyIter_list il (wpAny_bind (wpAny_runValue ?_))
      refine set_update_ints ((Walks.list h3 _ l ne1 its).toS) s.heap.objs.size nin ns sz few val (its.size - 0) 0 _ (by omega) (Nat.zero_le _) ⟨⟨_, Heap.get?_push_size _ rfl, rfl, rfl⟩, (il.push _)⟩ ⟨0, Nat.le_refl 0, setR_new_at (Heap.get?_push_of_some _ oS)⟩ ?_
      rintro ⟨h1, gs, dr, tk, os⟩ c mv hc hS
      have e1 : gs = s.gens := mv.gens
      have e2 : dr = s.drawn := mv.drawn
      have e3 : os = s.os := mv.os
      subst e1
      subst e2
      subst e3
      rw [sz] at hc
      refine wpAny_pure (show wpAny _ _ (ret Value.none) _ _ _ from wpAny_pure ⟨rfl, h1, tk, c, rfl, hS, hc, fun b o e => ?_⟩)
      have lb : b < s.heap.objs.size := Heap.lt_size e
      refine mv.heap b o ?_ (Heap.get?_push_of_some _ (Heap.get?_push_of_some _ e))
      simp only [List.mem_cons, List.not_mem_nil, or_false, not_or]
      exact ⟨Nat.ne_of_lt lb, by rw [sz1]; exact Nat.ne_of_lt (Nat.lt_succ_of_lt lb)⟩
    · match r2, hr2 with
      | .error e, hr2 => exact hr2
      | .ok .next, hr2 => exact hr2.elim
      | .ok .brk, hr2 => exact hr2.elim
      | .ok .cont, hr2 => exact hr2.elim
      | .ok (.ret r), hr2 =>
        obtain ⟨rfl, h1, tk, c, rfl, x1, x2, x3⟩ := hr2
        repeat (any_goals (first | assumption | wp_step))
        exact fin _ _ _ x1 x2 x3
end
section
variable {X : Cx} {J : Hp → Prop}
/-- set(l) -/
def rSetI (K : PySem.W.Frag) (w : World) : List V → Hp → VK → Prop := fun xs H Q => ∃ (l : Addr) (ns : List Int), xs = [.ref l] ∧ SqL K H l (ns.map V.int) ∧ ns.length < 64 ∧
  ∀ p c, H p = none → c ≤ ns.length → Q (.ref p) (upd H p (SetO w p (fun j => decide (j ∈ ns)) c))
theorem cr_setI (hc : X.calm = true) : CallR X (.type "set") (rSetI X.K X.w) := by
  intro pins s σ H xs us Q I r h
  obtain ⟨l, ns, rfl, hs, few, q⟩ := h
  rw [Vals.ref1 r]
  obtain ⟨its, rv, ⟨⟨cls, dd, data, sl⟩, n, ho, h1, h2, h3⟩, hlen⟩ := I.list hs
  simp only at h1 h3
  subst h1
  subst h3
  have hi := ints_of_vals rv
  refine set_listI ns (I.ok.hd hc) ⟨_, ho, rfl, n, rfl⟩ (by simpa using hi) (by unfold scanBound; omega) fun h' tk c hS hc' kp => ?_
  exact ⟨.ref _, upd H s.heap.objs.size (SetO X.w s.heap.objs.size (fun j => decide (j ∈ ns)) c), I.laid (t' := tk) (fun b u e => kp b u e) (Nat.le_refl _) (setO_new hS), rfl, q _ c (I.hok.fresh (Nat.le_refl _)) hc'⟩
def uniqI : List Int → List Int
  | [] => []
  | i :: l => match decide (i ∈ l) with
    | true => uniqI l
    | false => i :: uniqI l
theorem uniqI_mem : ∀ {l : List Int} {i : Int}, i ∈ uniqI l ↔ i ∈ l
  | [], i => by simp [uniqI]
  | j :: l, i => by
    unfold uniqI
    by_cases hj : j ∈ l
    · rw [decide_eq_true hj]
      simp only [uniqI_mem, List.mem_cons]
      constructor
      · exact .inr
      · rintro (rfl | h)
        · exact hj
        · exact h
    · rw [decide_eq_false hj]
      simp only [List.mem_cons, uniqI_mem]
theorem uniqI_nodup : ∀ {l : List Int}, (uniqI l).Nodup
  | [] => by simp [uniqI]
  | j :: l => by
    unfold uniqI
    by_cases hj : j ∈ l
    · rw [decide_eq_true hj]
      exact uniqI_nodup
    · rw [decide_eq_false hj]
      simp only [List.nodup_cons, uniqI_mem]
      exact ⟨hj, uniqI_nodup⟩
def flInts (x : FL) (st : Sto) : Option (List Int) := match x with
  | .at (.loc n) => match st[n]? with
    | some (.lst ds) => ints? ds
    | _ => none
  | .fr ds => ints? ds
  | _ => none
def lSset (x : FL) (st : Sto) : Option (List D) := match flInts x st with
  | some ns => match Nat.blt ns.length 64 with
    | true => some ((sortI (uniqI ns)).map D.int)
    | false => none
  | none => none
theorem flInts_rel {R : List Addr} {st : Sto} {H : Hp} {x : FL} {v : V} {ns : List Int} (g : Gd X.K J R st H) (h : flInts x st = some ns) (r : relX X.K R H x v) : ∃ a, v = .ref a ∧ H a = some (.lst (ns.map V.int)) := by
  unfold flInts at h
  split at h
  · rename_i n
    have r : RelD X.K R H (.loc n) v := r
    simp only [RelD] at r
    obtain ⟨a, rfl, ra⟩ := r
    split at h
    · rename_i ds e
      obtain ⟨xs, hx, rx⟩ := g.ob n _ a e ra
      rw [ints_rel h rx] at hx
      exact ⟨a, rfl, hx⟩
    · cases h
  · obtain ⟨a, xs, rfl, _, hx, rx⟩ := r
    rw [ints_rel h rx] at hx
    exact ⟨a, rfl, hx⟩
  · cases h
theorem sl_sset {x y : Str} {p1 p2 p3 p4 : Pos} {e : Expr} {m : M FL} (j : JS J) (hc : X.calm = true) (hg1 : Gl X x) (hm1 : X.mg x = none) (hg2 : Gl X y) (hm2 : X.mg y = none) (hv1 : bootBuiltins x = some (.builtin "sorted")) (hv2 : bootBuiltins y = some (.type "set"))
    (hn1 : x ≠ "__name__") (hn2 : y ≠ "__name__") (hd1 : (x == ("__debug__" : Str)) = false) (hd2 : (y == ("__debug__" : Str)) = false) (S : SX X J e m) (he : plainArg e = true) : SL X J (.Call (.Name x p1) [.Call (.Name y p2) [e] [] p3] [] p4) (mBL lSset m) := by
  intro R env st σ H out Q E h g r t o
  refine sem_of (pe_callB call_sem hg1 hm1 hv1 pa_sem hn1 hd1 (star_cons rfl) rfl) ?_
  refine sem_ofA (pa_cons pe_sem pa_nil (star_cons rfl)) ?_
  refine sem_of (pe_callTy call_sem hg2 hm2 hv2 pa_sem hn2 hd2 (star_cons he) rfl) ?_
  refine sem_ofA (pa_cons pe_sem pa_nil (star_cons he)) ?_
  refine sx_then S h g r t o fun R1 st1 H1 x v e1 g1 r1 rx h1 o1 => ?_
  split at h1
  · rename_i ds hf
    cases h1
    unfold lSset at hf
    split at hf
    · rename_i ns hi
      split at hf
      · rename_i hl
        cases hf
        have hl : ns.length < 64 := Nat.blt_eq.mp hl
        obtain ⟨a, rfl, ha⟩ := flInts_rel g1 hi rx
        refine rc_of (cr_setI hc) ⟨a, ns, rfl, SqL.of ha, hl, fun p c hp hcl => ?_⟩
        refine rc_of (cr_sortedSet hc) ⟨p, _, c, rfl, upd_same, by omega, fun ns' q hpw hmem hlen hq => ?_⟩
        have en : ns' = sortI (uniqI ns) := by
          refine sorted_eq (((List.perm_ext_iff_of_nodup (hpw.imp fun h => Int.ne_of_lt h) uniqI_nodup).mpr fun k => ?_).trans (sortI_perm _).symm) (hpw.imp fun h => Int.le_of_lt h) (sortI_pw _)
          rw [hmem, decide_eq_true_iff, uniqI_mem]
        subst en
        obtain ⟨x1, x2, x3⟩ := new_lst (R0 := R) (H0 := H) j (e1.trans (Ex.new hp)) (g1.new j hp) hq ints_map
        exact o1 R1 _ _ ((Ex.new hp).trans x1) x2 x3
      · cases hf
    · cases hf
  · cases h1
end
end TA
/-! a lambda made, with defaults or without -/
namespace TA
open PySem PySem.Spec
open PyProof.Rows L2 LamX
/-- a lambda's data; dV: its defaults -/
abbrev lmF (q : Str) (ar : Arguments) (b : Expr) (sc : Scope) (cl : List (Str × Addr)) (dV pm cv ct : Value) : FuncData := { PySem.W.kla_fn "<lambda>" q ar b sc cl pm cv ct with defaults := dV }
abbrev lmO (q : Str) (ar : Arguments) (b : Expr) (sc : Scope) (cl : List (Str × Addr)) (dV pm cv ct : Value) : Obj := { cls := .type "function", data := .func (lmF q ar b sc cl dV pm cv ct) }
section
variable {M : Model} {A : Around} {E : Value → Shared → Prop} {s : Shared} {q : Str} {ar : Arguments} {b : Expr} {sc : Scope} {env : Env} {c P : Addr} {tb : Array Value} {pos : Pos} {ln : Nat} {mg : Str → Option Value} {cl : List (Str × Addr)} {dV : Value} {Q : Value → Shared → Prop}
theorem lm_tail (h1 : closureFor sc env = pure cl) (h2 : env.globals = mainGlobals) (h3 : s.heap.Ns mainGlobals mg) (h4 : env.code = .ref c) (h5 : PySem.W.CodeHd s.heap c P) (h6 : s.heap.get? P = some { cls := .none, data := .fields tb }) (h7 : TriplesOk tb.toList) (h8 : mainGlobals ≠ P) (h9 : s.heap.BuiltinsAt mg P)
    (k1 : codeAmong pos tb.toList = none → ∀ (c' : Addr) (ct : Value) (h' : Heap) (tk : Tok), Heap.ExtBut P s.heap h' → s.heap.objs.size ≤ c' → c' < h'.objs.size → h'.CodeRec (.ref c') q → h'.get? P = some { cls := .none, data := .fields (tb ++ #[rawInt pos.line, rawInt pos.col, .ref c']) } →
      Q (.ref h'.objs.size) { s with heap := h'.push (lmO q ar b sc cl dV ((mg "__name__").getD .none) (.ref c') ct), toks := tk })
    (k2 : ∀ cv : Value, codeAmong pos tb.toList = some cv → ∀ (ct : Value) (h' : Heap), (∀ a o, s.heap.get? a = some o → h'.get? a = some o) → s.heap.objs.size ≤ h'.objs.size →
      Q (.ref h'.objs.size) { s with heap := h'.push (lmO q ar b sc cl dV ((mg "__name__").getD .none) cv ct) }) :
    wpAny M A (makeTail "<lambda>" q ar (.expr b) sc env dV .none none pos ln) Q E s := by
  obtain ⟨bm, ob, z1, z2, z3, z4, z5, z6, z7, z8⟩ := h9
  have rest : ∀ (ct : Value) (g : Heap), (∀ a o, s.heap.get? a = some o → g.get? a = some o) → s.heap.objs.size ≤ g.objs.size →
      wpAny M A (do
        let cd ← functionCode env pos ln "<lambda>" q ar sc (.expr b)
        let bu ← builtinsFor mainGlobals env.builtins
        let nm ← nsGet mainGlobals "__name__"
        newObj (.type "function") (.func { name := "<lambda>", qualname := q, params := ar, body := .expr b, scope := sc, globals := mainGlobals, closure := cl, closureTuple := ct, code := cd, builtins := bu, defaults := dV, kwdefaults := .none, annotations := none, pyModule := nm.getD .none, doc := .none })) Q E { s with heap := g } := by
    intro ct g kp sz
    have C := h5.keeps kp
    have hP := kp _ _ h6
    cases hc : codeAmong pos tb.toList with
    | none =>
      refine wpAny_bind (wpAny_functionCodeX h4 (C.code hP h7) (C.tab hP) hc fun c' h' tk x1 x2 x3 _ x5 x6 _ => ?_)
      have n1 := (h3.keeps kp).extBut x1 h8
      refine wpAny_bind (wpAny_builtinsFor n1 z1 z2 (x1 _ _ z4 (kp _ _ z5)) z6 z7 z8 ?_)
      refine wpAny_bind (wpAny_nsGet n1 ?_)
      exact wpAny_newObj_type (k1 hc c' ct h' tk (fun a o ha e => x1 a o ha (kp _ _ e)) (Nat.le_trans sz x2) x3 x5 x6.2) (by size_fits)
    | some cv =>
      refine wpAny_bind (wpAny_functionCode_hit h4 (C.code hP h7) hc ?_)
      refine wpAny_bind (wpAny_builtinsFor (h3.keeps kp) z1 z2 (kp _ _ z5) z6 z7 z8 ?_)
      refine wpAny_bind (wpAny_nsGet (h3.keeps kp) ?_)
      exact wpAny_newObj_type (k2 cv hc ct g kp sz) (by size_fits)
  unfold makeTail
  rw [h1, h2]
  refine wpAny_bind (wpAny_pure ?_)
  cases cl with
  | nil => exact wpAny_bind (wpAny_pure (rest .none s.heap (fun _ _ e => e) (Nat.le_refl _)))
  | cons x r =>
    refine wpAny_bind (wpAny_newTextTuple ?_)
    exact rest _ _ (fun a o e => Heap.get?_push_of_some _ e) (by rw [Heap.size_push]; omega)
end
end TA
/-! a lambda made: the layer's invariants -/
namespace TA
open PySem PySem.Spec
open PyProof.Rows L2 LamX
section
variable {X : Cx} {pins : List (Addr × Obj)} {σ : L2.St} {H : Hp} {s : Shared}
theorem no_frame (I : Inv X pins σ H s) {f : Addr} (hf : s.heap.objs.size ≤ f) : f ∉ frs X.stack := fun z => by
  rcases List.mem_cons.mp (I.stkSub _ z) with e | e
  · have := I.lt
    rw [← e] at this
    exact absurd (Nat.lt_of_lt_of_le this hf) (Nat.lt_irrefl _)
  · exact I.nofs hf e
theorem lm_fin {TT : List (Addr × Str)} {c P : Addr} {ar : Arguments} {b : Expr} {sc : Scope} {dV : Value} {pos : Pos} {ln : Nat} {E : Value → Shared → Prop} {Q : Value → Shared → Prop} (I : Inv X pins σ H s) (TB : TabB X.base X.mg c P) (hc : X.env.code = .ref c)
    (hm : (P, X.env.qual ++ "<lambda>") ∈ TT) (hu : ∀ p ∈ TT, p.1 = P → p.2 = X.env.qual ++ "<lambda>") (hT : Tabs TT H) (hfree : ∀ y ∈ sc.names, y.2 = .free → ∃ c, X.env.cells.lookup y.1 = some c)
    (h : ∀ (f c' : Addr) (pm ct : Value) (H1 : Hp) (t : Shared), Inv X pins σ H1 t → ExtN H H1 → Tabs TT H1 → t.heap.get? f = some (lmO (X.env.qual ++ "<lambda>") ar b sc (cloFrom X.env.cells sc.names []) dV pm (.ref c') ct) → H1 f = none → f ∉ frs X.stack →
      H1 c' = some (CodeO c' (X.env.qual ++ "<lambda>")) → (∀ a o, s.heap.get? a = some o → H a = none → t.heap.get? a = some o ∧ H1 a = none) → (∀ a, H a ≠ none → H1 a ≠ none) → Q (.ref f) t) :
    wpAny (model X.prog X.w) X.A (makeTail "<lambda>" (X.env.qual ++ "<lambda>") ar (.expr b) sc X.env dV .none none pos ln) Q E s := by
  obtain ⟨tb, hP, ht, ha⟩ := hT _ hm
  have oP : s.heap.get? P = some { cls := .none, data := .fields tb } := I.hok P _ hP
  refine lm_tail (mg := X.mg) (closure_ok hfree) I.ok.glob (I.mod.glob.keeps I.bk) hc (TB.code.keeps I.bk) oP ht TB.gP (TB.bm.keeps I.bk) (fun hn c' ct h' tk x1 x2 x3 x4 x5 => ?_) (fun cv hh ct h' kp sz => ?_)
  · obtain ⟨c2, oc, vs, t, e2, o1, o2, o3⟩ := x4
    cases e2
    have fc : H c' = none := I.hok.fresh x2
    have szs : s.heap.objs.size ≤ h'.objs.size := Nat.le_of_lt (Nat.lt_of_le_of_lt x2 x3)
    have I1 := inv_table (t' := tk) (c := c') (q := X.env.qual ++ "<lambda>") (more := #[rawInt pos.line, rawInt pos.col, .ref c']) (h' := h'.push (lmO (X.env.qual ++ "<lambda>") ar b sc (cloFrom X.env.cells sc.names []) dV ((X.mg "__name__").getD .none) (.ref c') ct)) I hP
      (fun a o hne e => Heap.get?_push_of_some _ (x1 a o hne e)) (Heap.get?_push_of_some _ x5) x2 ⟨oc, vs, t, Heap.get?_push_of_some _ o1, o2, o3⟩
    have ex : ExtN H (upd (upd H P (.tbl (tb ++ #[rawInt pos.line, rawInt pos.col, .ref c']))) c' (CodeO c' (X.env.qual ++ "<lambda>"))) := fun a o e n => by
      have : a ≠ P := fun z => by
        rw [z, hP] at e
        exact n tb (Option.some.inj e).symm
      rw [upd_ne (ne_of_none e fc), upd_ne this, e]
    have eL : (tb ++ #[rawInt pos.line, rawInt pos.col, .ref c']).toList = tb.toList ++ [rawInt pos.line, rawInt pos.col, .ref c'] := by simp
    refine h h'.objs.size c' _ ct _ _ I1 ex (fun p hp => ?_) (Heap.get?_push_size _ rfl) ?_ (no_frame I szs) upd_same (fun a o e n => ⟨?_, ?_⟩) (fun a n => ?_)
    · by_cases hb : p.1 = P
      · rw [hu p hp hb, hb]
        refine ⟨_, by rw [upd_ne (ne_of_none hP fc), upd_same], by rw [eL]; exact PySem.TriplesOk_snoc _ _ _ _ ht, fun p' cv hcv => ?_⟩
        rw [eL] at hcv
        rcases among_app _ ht hcv with z | z
        · obtain ⟨c0, y1, y2⟩ := ha p' cv z
          exact ⟨c0, y1, ex _ _ y2 codeO_ne⟩
        · exact ⟨c', z, upd_same⟩
      · obtain ⟨tb', a1, a2, a3⟩ := hT p hp
        refine ⟨tb', by rw [upd_ne (ne_of_none a1 fc), upd_ne hb, a1], a2, fun p' cv hcv => ?_⟩
        obtain ⟨c0, y1, y2⟩ := a3 p' cv hcv
        exact ⟨c0, y1, ex _ _ y2 codeO_ne⟩
    · have nP : h'.objs.size ≠ P := Nat.ne_of_gt (Nat.lt_of_lt_of_le (Heap.lt_size oP) szs)
      rw [upd_ne (Nat.ne_of_gt x3), upd_ne nP]
      exact I.hok.fresh szs
    · have nP : a ≠ P := fun z => by rw [z, hP] at n; cases n
      exact Heap.get?_push_of_some _ (x1 a o nP e)
    · have nP : a ≠ P := fun z => by rw [z, hP] at n; cases n
      have nc : a ≠ c' := Nat.ne_of_lt (Nat.lt_of_lt_of_le (Heap.lt_size e) x2)
      rw [upd_ne nc, upd_ne nP, n]
    · by_cases z : a = c'
      · rw [z, upd_same]; simp
      · rw [upd_ne z]
        by_cases z2 : a = P
        · rw [z2, upd_same]; simp
        · rw [upd_ne z2]; exact n
  · obtain ⟨c', e, co⟩ := ha pos cv hh
    subst e
    have I1 : Inv X pins σ H { s with heap := h'.push (lmO (X.env.qual ++ "<lambda>") ar b sc (cloFrom X.env.cells sc.names []) dV ((X.mg "__name__").getD .none) (.ref c') ct) } := I.kept (t' := s.toks) fun a o e => Heap.get?_push_of_some _ (kp a o e)
    exact h h'.objs.size c' _ ct H _ I1 (ExtN.refl H) hT (Heap.get?_push_size _ rfl) (I.hok.fresh sz) (no_frame I sz) co (fun a o e n => ⟨Heap.get?_push_of_some _ (kp a o e), n⟩) fun a n => n
/-- what stands for the defaults: none, or one that is 0 -/
def LmD (ow : Option Str) (dV : Value) (h : Heap) (H : Hp) (fr : List Addr) : Prop := match ow with
  | none => dV = .none
  | some _ => ∃ (T : Addr) (t : Tok), dV = .ref T ∧ h.get? T = some { cls := .type "tuple", data := .seq #[.int 0 t] } ∧ H T = none ∧ T ∉ fr
/-- the text of the parameters -/
def LmA (ow : Option Str) (ar : Arguments) (env : Env) : Prop := match ow with
  | none => defaultsOf ar env = ([], [])
  | some _ => ∃ j p, defaultsOf ar env = ([eval (.Constant (.int 0) j p) env], [])
theorem lm_make {TT : List (Addr × Str)} {c P : Addr} {ow : Option Str} {ar : Arguments} {b : Expr} {sc : Scope} {pos : Pos} {E : Value → Shared → Prop} {Q : Value → Shared → Prop} (I : Inv X pins σ H s) (TB : TabB X.base X.mg c P) (hc : X.env.code = .ref c)
    (hm : (P, X.env.qual ++ "<lambda>") ∈ TT) (hu : ∀ p ∈ TT, p.1 = P → p.2 = X.env.qual ++ "<lambda>") (hT : Tabs TT H) (hfree : ∀ y ∈ sc.names, y.2 = .free → ∃ c, X.env.cells.lookup y.1 = some c) (hA : LmA ow ar X.env)
    (h : ∀ (f c' : Addr) (dV pm ct : Value) (H1 : Hp) (t : Shared), Inv X pins σ H1 t → ExtN H H1 → Tabs TT H1 → t.heap.get? f = some (lmO (X.env.qual ++ "<lambda>") ar b sc (cloFrom X.env.cells sc.names []) dV pm (.ref c') ct) → H1 f = none → f ∉ frs X.stack →
      H1 c' = some (CodeO c' (X.env.qual ++ "<lambda>")) → LmD ow dV t.heap H1 (frs X.stack) → (∀ a, H a ≠ none → H1 a ≠ none) → Q (.ref f) t) :
    wpAny (model X.prog X.w) X.A (eval (.Lambda ar b sc pos) X.env) Q E s := by
  rw [arm_eval_Lambda]
  cases ow with
  | none =>
    have hA : defaultsOf ar X.env = ([], []) := hA
    rw [hA]
    refine wpAny_bind (m := evalAll []) (wpAny_pure (wpAny_bind (wpAny_holding (wpAny_pure ?_))))
    rw [makeFunction_eq]
    simp only [List.zip_nil_right, List.filterMap_nil, List.isEmpty_nil, if_true, pure_bind]
    exact lm_fin I TB hc hm hu hT hfree fun f c' pm ct H1 t I1 x1 x2 x3 x4 x5 x6 x7 x8 => h f c' .none pm ct H1 t I1 x1 x2 x3 x4 x5 x6 rfl x8
  | some x =>
    obtain ⟨j, p, hA⟩ : ∃ j p, defaultsOf ar X.env = ([eval (.Constant (.int 0) j p) X.env], []) := hA
    rw [hA]
    refine wpAny_bind (m := evalAll [eval (.Constant (.int 0) j p) X.env]) (wpAny_bind (wpAny_Constant_int ?_))
    have I0 := I.tok (s.toks + 1)
    refine wpAny_bind (wpAny_holding (wpAny_pure (wpAny_pure ?_)))
    refine wpAny_bind (wpAny_holding (wpAny_pure ?_))
    rw [makeFunction_eq]
    refine wpAny_bind (m := newTextTuple _) (wpAny_newTextTuple ?_)
    simp only [List.zip_nil_right, List.filterMap_nil, List.isEmpty_nil, if_true, pure_bind]
    have I1 : Inv X pins σ H { s with heap := s.heap.push { cls := .type "tuple", data := .seq [Value.int 0 s.toks].toArray }, toks := s.toks + 1 } := I.kept (t' := s.toks + 1) fun a o e => Heap.get?_push_of_some _ e
    have oT : (s.heap.push { cls := .type "tuple", data := .seq [Value.int 0 s.toks].toArray }).get? s.heap.objs.size = some { cls := .type "tuple", data := .seq #[Value.int 0 s.toks] } := Heap.get?_push_size _ rfl
    have fT : H s.heap.objs.size = none := I.hok.fresh (Nat.le_refl _)
    refine lm_fin I1 TB hc hm hu hT hfree fun f c' pm ct H1 t I2 x1 x2 x3 x4 x5 x6 x7 x8 => h f c' (.ref s.heap.objs.size) pm ct H1 t I2 x1 x2 x3 x4 x5 x6 ?_ x8
    obtain ⟨y1, y2⟩ := x7 _ _ oT fT
    exact ⟨_, s.toks, rfl, y1, y2, no_frame I (Nat.le_refl _)⟩
end
end TA
/-! a lambda's body, entered -/
namespace TA
open PySem PySem.Spec
open PyProof.Rows L2 LamX
/-- the lambda's names: captured ones, globals, at most the own parameter, which is no slot -/
structure LmS (N : List Str) (sc scope : Scope) (ow : Option Str) : Prop where
  kind : scope.kind = .function
  co : scope.isCoroutine = false
  gen : scope.isGenerator = false
  cel : ∀ y ∈ scope.names, y.2 ≠ .cell
  own : ∀ y ∈ scope.names, y.2 = .local → y.1 ∉ N
  par : ∀ x, ow = some x → scope.names.lookup x = some .local
  free : ∀ y ∈ scope.names, y.2 = .free → sc.names.lookup y.1 = some .cell ∨ sc.names.lookup y.1 = some .free
def lmSB (N : List Str) (sc scope : Scope) (ow : Option Str) : Bool :=
  decide (scope.kind = .function) && !scope.isCoroutine && !scope.isGenerator && (scope.names.all fun y => !decide (y.2 = .cell) && (!decide (y.2 = .local) || !N.contains y.1) && (!decide (y.2 = .free) || decide (sc.names.lookup y.1 = some .cell) || decide (sc.names.lookup y.1 = some .free))) &&
    (match ow with | none => true | some x => decide (scope.names.lookup x = some .local))
theorem lmSB_ok {N : List Str} {sc scope : Scope} {ow : Option Str} (h : lmSB N sc scope ow = true) : LmS N sc scope ow := by
  simp only [lmSB, Bool.and_eq_true, Bool.or_eq_true, Bool.not_eq_true', decide_eq_true_eq, decide_eq_false_iff_not, List.all_eq_true] at h
  obtain ⟨⟨⟨⟨h1, h2⟩, h3⟩, h4⟩, h5⟩ := h
  refine ⟨h1, h2, h3, fun y hy => (h4 y hy).1.1, fun y hy e => ?_, fun x e => ?_, fun y hy e => ?_⟩
  · rcases (h4 y hy).1.2 with z | z
    · exact absurd e z
    · intro hm
      have : N.contains y.1 = true := List.contains_iff_mem.mpr hm
      rw [this] at z
      cases z
  · subst e
    simpa using h5
  · rcases (h4 y hy).2 with (z | z) | z
    · exact absurd e z
    · exact .inl z
    · exact .inr z
section
variable {X : Cx} {pins : List (Addr × Obj)} {σ : L2.St} {H HZ : Hp} {s s1 : Shared} {ow : Option Str}
theorem LmS.has {scope : Scope} (L : LmS X.N X.env.scope scope ow) (ok : X.Ok) (y : Str × NameKind) (hy : y ∈ scope.names) (e : y.2 = .free) : ∃ c, X.env.cells.lookup y.1 = some c :=
  (L.free y hy e).elim (fun k => ok.has _ (.inl k)) fun k => ok.has _ (.inr k)
theorem lm_start {A : Around} {outer : List Env} {E : XK} {scope : Scope} {f c' : Addr} {h₁ : Heap} {tk : Nat} {m : Str → Option Value} (I : Inv X pins σ H s) (L : LmS X.N X.env.scope scope ow) (e0 : Env0 X.prog X.w X.K X.mg X.base A outer s1 HZ) (hd : A.handled = none)
    (un : Un (frs X.stack) [] H HZ s.heap s1.heap) (hns : h₁.Ns s1.heap.objs.size m) (kp : ∀ b o, s1.heap.get? b = some o → h₁.get? b = some o) :
    Inv (lamCx X A outer s1 HZ E scope f c') [] σ HZ { s1 with heap := h₁, toks := tk } := by
  -- a captured name's cell is the caller's
  have same : ∀ y c, (cloFrom X.env.cells scope.names []).lookup y = some c → X.env.cells.lookup y = some c := by
    intro y c e
    rcases cloFrom_mem (PySem.mem_of_lookup e) with z | ⟨z1, z2⟩
    · cases z
    · obtain ⟨c1, k⟩ := L.has I.ok _ z1 rfl
      have k : X.env.cells.lookup y = some c1 := k
      have : c = c1 := by rw [z2, k] <;> rfl
      rw [this, k]
  have there : ∀ y, scope.names.lookup y = some .free → ∃ c, (cloFrom X.env.cells scope.names []).lookup y = some c := fun y e =>
    mem_lookup (cloFrom_has (cells := X.env.cells) (acc := []) (PySem.mem_of_lookup e))
  have cells : ∀ (c : Addr) (v : Option Value), H c = none → s.heap.IsCell c v → h₁.IsCell c v := by
    rintro c v n ⟨o, o1, o2⟩
    obtain ⟨sl, k⟩ := un.any o1 n (by simp)
    exact ⟨_, kp _ _ k, o2⟩
  have none' : ∀ b : Addr, b ∈ (lamCx X A outer s1 HZ E scope f c').ex → False := fun b z => by
    have : b ∈ ([] : List Addr) := z
    simp at this
  refine {
    ok := {
      mod := e0.mod
      kind := L.kind
      glob := rfl
      blt := rfl
      above := Nat.le_refl _
      inj := fun y z c q1 q2 => I.ok.inj y z c (same _ _ q1) (same _ _ q2)
      has := fun y hy => ?_
      cab := fun y c z _ => nomatch (show false = true from z)
      hd := fun _ => hd
      frames := Around.frames_deeper e0.frames
      stk := .inr ⟨rfl, rfl⟩
      exf := fun b z => (none' b z).elim
      bs := e0.bs
      bsz := e0.bsz
      noex := fun b _ _ z => none' b z
      exfs := fun b z => (none' b z).elim
      funs := e0.funs
      frf := e0.frf }
    os := rfl
    bare := e0.bare
    base := Un.kept kp
    loc := ⟨m, hns, fun i y v q1 q2 q3 => ?_⟩
    cell := fun y c q => ?_
    free := e0.hok.fresh (Nat.le_refl _)
    freeC := fun y c q => ?_
    pin := fun p hp => by
      have : p ∈ ([] : List (Addr × Obj)) ++ [] := hp
      simp at this
    hok := e0.hok.kept kp
    len := I.len }
  · have hy : scope.names.lookup y = some .cell ∨ scope.names.lookup y = some .free := hy
    exact hy.elim (fun k => absurd rfl (L.cel _ (PySem.mem_of_lookup k))) (there y)
  · have q3 : Vis scope y := q3
    have q1 : X.N[i]? = some y := q1
    rcases q3 with k | k | k
    · exact absurd (List.mem_of_getElem? q1) (L.own _ (PySem.mem_of_lookup k) rfl)
    · exact absurd rfl (L.cel _ (PySem.mem_of_lookup k))
    · have fr := L.free _ (PySem.mem_of_lookup k) rfl
      obtain ⟨m0, _, hl⟩ := I.loc
      obtain ⟨u, r, look⟩ := hl i y v q1 q2 (fr.elim (fun z => .inr (.inl z)) fun z => .inr (.inr z))
      obtain ⟨c2, k2⟩ := there y k
      have k1 := same _ _ k2
      refine ⟨u, r, .inr ⟨.inr k, c2, k2, ?_⟩⟩
      rcases look with ⟨z, _⟩ | ⟨_, c3, z1, z2⟩
      · have z : X.env.scope.names.lookup y = some .local := z
        rcases fr with w | w
        · cases z.symm.trans w
        · cases z.symm.trans w
      · obtain rfl := Option.some.inj (k1.symm.trans z1)
        exact cells _ _ (I.freeC y _ k1) z2
  · obtain ⟨u, z⟩ := I.cell y c (same _ _ q)
    exact ⟨u, cells _ _ (I.freeC y c (same _ _ q)) z⟩
  · obtain ⟨u, o, o1, o2⟩ := I.cell y c (same _ _ q)
    exact un.free c o o1 (I.freeC y c (same _ _ q)) (by simp)
end
end TA
/-! a lambda called -/
namespace TA
open PySem PySem.Spec
open PyProof.Rows L2 LamX
/-- the parameters' text: none, or one with 0 for its default -/
def arOf : Arguments → Option (Option Str)
  | ⟨[], [], none, [], [], none, []⟩ => some none
  | ⟨[], [⟨x, _, _⟩], none, [], [], none, [.Constant (.int 0) _ _]⟩ => some (some x)
  | _ => none
theorem arOf_none {ar : Arguments} (h : arOf ar = some none) : ar = ⟨[], [], none, [], [], none, []⟩ := by
  unfold arOf at h
  split at h
  · rfl
  · cases h
  · cases h
theorem arOf_some {ar : Arguments} {x : Str} (h : arOf ar = some (some x)) : ∃ an p j q, ar = ⟨[], [⟨x, an, p⟩], none, [], [], none, [.Constant (.int 0) j q]⟩ := by
  unfold arOf at h
  split at h
  · cases h
  · cases h
    exact ⟨_, _, _, _, rfl⟩
  · cases h
theorem arOf_def {ar : Arguments} {ow : Option Str} (h : arOf ar = some ow) (env : Env) : LmA ow ar env := by
  cases ow with
  | none =>
    obtain rfl := arOf_none h
    rfl
  | some x =>
    obtain ⟨an, p, j, q, rfl⟩ := arOf_some h
    exact ⟨j, q, rfl⟩
/-- what is bound -/
def lmB (ow : Option Str) (t : Tok) : List (Str × Value) := match ow with
  | none => []
  | some x => [(x, .int 0 t)]
theorem lm_bind {ar : Arguments} {ow : Option Str} {q : Str} {b : Expr} {sc : Scope} {cl : List (Str × Addr)} {dV pm cv ct : Value} {s : Shared} {H : Hp} {fr : List Addr} (h : arOf ar = some ow) (d : LmD ow dV s.heap H fr) :
    ∃ t, ∀ (M : Model) (A : Around) (Q : List (Str × Value) → Shared → Prop) (E : Value → Shared → Prop), Q (lmB ow t) s → wpAny M A (bindArgs (lmF q ar b sc cl dV pm cv ct) ⟨[], []⟩) Q E s := by
  cases ow with
  | none =>
    obtain rfl := arOf_none h
    obtain rfl : dV = .none := d
    exact ⟨0, fun M A Q E hq => wpAny_pure hq⟩
  | some x =>
    obtain ⟨an, p, j, z, rfl⟩ := arOf_some h
    obtain ⟨T, t, rfl, o1, _, _⟩ := d
    refine ⟨t, fun M A Q E hq => ?_⟩
    have e : ∃ k : Option (Array Value) → Sem (List (Str × Value)), bindArgs (lmF q ⟨[], [⟨x, an, p⟩], none, [], [], none, [.Constant (.int 0) j z]⟩ b sc cl (.ref T) pm cv ct) ⟨[], []⟩ = seqItems? (.ref T) >>= k ∧ k (some #[.int 0 t]) = pure [(x, .int 0 t)] := by
      refine ⟨_, rfl, ?_⟩
      simp [List.zip, List.lookup]
    obtain ⟨k, e1, e2⟩ := e
    rw [e1]
    refine wpAny_bind (wpAny_seqItems o1 rfl ?_)
    rw [e2]
    exact wpAny_pure hq
section
variable {X : Cx} {pins : List (Addr × Obj)} {σ : L2.St} {H : Hp} {s : Shared}
/-- a(), in the def that got the lambda -/
theorem lm_act {CXg : CXT} {Eg : XK} {Ng : List Str} {qg : Str} {sg : Scope} {g f c' : Addr} {cdg dV pm ct : Value} {ar : Arguments} {ow : Option Str} {b : Expr} {sc : Scope} {k i : Nat} {a : Str} {pn : List (Addr × Obj)} {xe : Value → Shared → Prop} {W : WX} {E : XK} {p1 p2 : Pos} {σZ : L2.St} {HZ : Hp} {Q : VK}
    (I : Inv X pins σ H s) (L : LmS X.N X.env.scope sc ow) (har : arOf ar = some ow) (hf : s.heap.get? f = some (lmO (X.env.qual ++ "<lambda>") ar b sc (cloFrom X.env.cells sc.names []) dV pm (.ref c') ct)) (hfn : H f = none) (hfr : f ∉ frs X.stack) (hD : LmD ow dV s.heap H (frs X.stack))
    (tk : Takes ((cxOf CXg X.prog X.w X.K X.mg X.base Ng qg sg g cdg X.A X.stack s H Eg).tr pn xe) W) (hW : ∀ cls d σ' H', E cls d H' → W cls d σ' H') (hr : Room (k + 1) (X.A.deeper (envOfC qg sg s.heap.objs.size g cdg)))
    (hN : Ng[i]? = some a) (hv : Vis sg a) (hd : (a == ("__debug__" : Str)) = false) (hcd : (a == ("__classdict__" : Str)) = false)
    (hs : σZ[i]? = some (some (.ref f))) (hc : HZ c' = some (CodeO c' (X.env.qual ++ "<lambda>")))
    (hb : ∀ (A : Around) (outer : List Env) (s1 : Shared), A.guards = X.A.guards → Room k (A.deeper (lamEnv X sc s1.heap.objs.size f c')) → tSem (lamCx X A outer s1 HZ E sc f c') b σ HZ Q) :
    tSem ((cxOf CXg X.prog X.w X.K X.mg X.base Ng qg sg g cdg X.A X.stack s H Eg).tr pn xe) (.Call (.Name a p1) [] [] p2) σZ HZ Q := by
  intro pinsZ sZ IZ
  refine wpAny_Call_Name_kw (thn ((pe_var (pos := p1) (i := i) hN hv hd hcd).run pinsZ sZ σZ HZ (fun v H1 => v = .ref f ∧ H1 = HZ) IZ ⟨.ref f, hs, rfl, rfl⟩) ?_)
  rintro u s1 ⟨v, H1, I1, r1, ev, eH⟩
  subst ev
  subst eH
  obtain rfl : u = Value.ref f := r1
  have keep : ∀ b o, s.heap.get? b = some o → H b = none → b ∉ frs X.stack → s1.heap.get? b = some o := fun b o e n nf => I1.base.keep b o e n nf (fun z => nomatch (show b ∈ ([] : List Addr) from z))
  have of1 := keep f _ hf hfn hfr
  refine PySem.W.callWith_F0 ⟨_, _, _, _, of1⟩ ?_
  have un : Un (frs X.stack) [] H H1 s.heap s1.heap := I1.base
  obtain ⟨⟨oc, vs, t, o1, o2, o3⟩, _, _⟩ := I1.hok c' _ hc
  have hD1 : LmD ow dV s1.heap H1 (frs X.stack) := by
    cases ow with
    | none => exact hD
    | some x =>
      obtain ⟨T, t, e1, e2, e3, e4⟩ := hD
      exact ⟨T, t, e1, keep T _ e2 e3 e4, un.free T _ e2 e3 (by simp), e4⟩
  obtain ⟨tt, bind⟩ := lm_bind (q := X.env.qual ++ "<lambda>") (b := b) (sc := sc) (cl := cloFrom X.env.cells sc.names []) (pm := pm) (cv := .ref c') (ct := ct) har hD1
  have rc : codeAny (model X.prog X.w) (X.A.deeper (envOfC qg sg s.heap.objs.size g cdg)) (.call (.ref f) ⟨[], []⟩) (CR (L2.CX X.prog X.w) (envOfC qg sg s.heap.objs.size g cdg :: X.stack) X.prog X.w H1 s1 Q E) s1 := by
    refine PySem.W.kla_callFunE hr.depth of1 rfl L.co L.gen rfl ⟨c', oc, vs, t, rfl, o1, o2, o3⟩ (bind _ _ _ _ ?_)
    refine wpAny_newFunctionEnv L.cel (fun y hy => ?_) (fun h₁ hns hsb => ⟨I1.nolimit.fresh _ hsb, ?_⟩) L.kind
    · cases ow with
      | none => cases hy
      | some x =>
        have hy : y ∈ [(x, Value.int 0 tt)] := hy
        rw [List.mem_singleton] at hy
        subst hy
        exact L.par x rfl
    · show codeAny _ _ (.expr b (lamEnv X sc s1.heap.objs.size f c')) _ _
      have kp : ∀ d o, s1.heap.get? d = some o → h₁.get? d = some o := fun d o e => hsb.extBut d o (Nat.ne_of_lt (Heap.lt_size e)) (Heap.get?_push_of_some _ e)
      have J := lm_start (A := X.A.deeper (envOfC qg sg s.heap.objs.size g cdg)) (outer := envOfC qg sg s.heap.objs.size g cdg :: X.stack) (E := E) (f := f) (c' := c') (tk := s1.toks + (lmB ow tt).length) I L I1.env0 hr.hd un hns kp
      refine PySem.W.kla_codeExpr (wpAny_mono (hb (X.A.deeper (envOfC qg sg s.heap.objs.size g cdg)) _ s1 rfl (hr.deeper _) [] _ J) (fun v s' hq => ?_) fun e s' hq => hq)
      obtain ⟨w', H', J', rv, q⟩ := hq
      exact ⟨w', H', J'.os, J'.bare, J'.base, J'.hok, rv, q⟩
  have hx : Passes (L2.CX X.prog X.w) ((cxOf CXg X.prog X.w X.K X.mg X.base Ng qg sg g cdg X.A X.stack s H Eg).tr pn xe) E := passes_call tk hW
  refine wpAny_call (codeAny_mono rc fun r s' hq => ?_)
  match r, hq with
  | .error e, hq => exact hx pinsZ σZ H1 s1 e s' I1 hq
  | .ok (.ret u), hq => exact I1.after hq
  | .ok .next, hq => exact False.elim hq
  | .ok .brk, hq => exact False.elim hq
  | .ok .cont, hq => exact False.elim hq
end
end TA
/-! f(lambda: e), where f hears what comes of it -/
namespace TA
open PySem PySem.Spec
open PyProof.Rows L2 LamX
/-- run e; what it gives in a new list, what it raises by the clauses -/
def mHear (t : Exm) (m : M D) (ks : List Hn) : M D := fun env st => match m env st with
  | some (.ok d st1) => some (.ok (.loc st1.length) (st1 ++ [.lst [d]]))
  | some (.exc x st1) => match catchS t x st1 ks with
    | some (.rt d st2) => some (.ok d st2)
    | some (.exc y st2) => some (.exc y st2)
    | _ => none
  | none => none
def mBody (m : M D) (env : En) : MS := fun _ st => match m env st with
  | some (.ok d st1) => some (.rt (.loc st1.length) (st1 ++ [.lst [d]]))
  | some (.exc x st1) => some (.exc x st1)
  | none => none
section
variable {X : Cx} {J : Hp → Prop}
theorem ext_ex {R : List Addr} {H H1 : Hp} (x : ExtN H H1) (k : ∀ a, H a ≠ none → H1 a ≠ none) : Ex R R H H1 :=
  ⟨⟨fun _ _ h => h, fun a xs h => x a _ h (fun ps z => nomatch z), fun a o u h => x a _ h (fun ps z => nomatch z)⟩, fun a o h _ n => x a o h n, k, fun _ h => .inl h⟩
theorem ext_gd {K : PySem.W.Frag} {R : List Addr} {st : Sto} {H H1 : Hp} (g : Gd K J R st H) (x : ExtN H H1) (k : ∀ a, H a ≠ none → H1 a ≠ none) (j : J H1) : Gd K J R st H1 :=
  ⟨g.len, g.nd, fun n o a h1 h2 => by
    have r := g.ob n o a h1 h2
    refine r.mono (ext_ex (R := R) x k).toEx0 ?_
    cases q : H a with
    | none => exact absurd q r.some
    | some u => exact x a u q (r.notbl u q), j⟩
/-- what is known of the def that hears: its parameter a, its clauses ks -/
structure HrAt (P : Program) (w : World) (K : PySem.W.Frag) (mg : Str → Option Value) (base : Heap) (k : Nat) (x a : Str) (ks : List Hn) : Prop where
  ex : ∃ (g : Addr) (fd : FuncData) (st : Stmt) (Ng : List Str) (h0 : ExceptHandler) (hds : List ExceptHandler) (p1 p2 p3 p4 p5 : Pos), Fun K x x st g fd ∧ FnScope Ng [a] (defScope st) ∧ mg x = some (.ref g) ∧ Binds K fd [a] [] ∧ Ng[0]? = some a ∧ Vis (defScope st) a ∧
    defBody st = [.Try [.Return (some (.List [.Call (.Name a p1) [] [] p2] p3)) p4] (h0 :: hds) [] [] p5] ∧
    ∀ (cdv : Value) (A : Around) (outer : List Env) (s : Shared) (H : Hp) (E : XK), A.guards = some [] → Room k (A.deeper (envOfC x (defScope st) s.heap.objs.size g cdv)) → HnsAt (cxOf (CX P w) P w K mg base Ng x (defScope st) g cdv A outer s H E) (h0 :: hds) ks
theorem se_hear {TT : List (Addr × Str)} {t : Exm} {ks : List Hn} {m : M D} {x a : Str} {k : Nat} {c P : Addr} {ow : Option Str} {ar : Arguments} {b : Expr} {sc : Scope} {p lpos pos : Pos} (js : JS J) (hJ : ∀ H, J H → Tabs TT H) (hJ2 : ∀ H H1, J H → ExtN H H1 → Tabs TT H1 → J H1)
    (gd : X.A.guards = some []) (HR : HrAt X.prog X.w X.K X.mg X.base (k + 1) x a ks) (ht : ∀ p ∈ t, PySem.W.exmOne X.K (.ref (He.ga X.K p.1)) (.ref (He.ga X.K p.2.1)) = some p.2.2) (hg : Gl X x) (hr : Room (k + 2) X.A)
    (TB : TabB X.base X.mg c P) (hc : X.env.code = .ref c) (hm : (P, X.env.qual ++ "<lambda>") ∈ TT) (hu : ∀ p ∈ TT, p.1 = P → p.2 = X.env.qual ++ "<lambda>") (L : LmS X.N X.env.scope sc ow) (har : arOf ar = some ow)
    (S : ∀ (A : Around) (outer : List Env) (s1 : Shared) (H1 : Hp) (E : XK) (f c' : Addr), A.guards = X.A.guards → Room k (A.deeper (lamEnv X sc s1.heap.objs.size f c')) → SE (lamCx X A outer s1 H1 E sc f c') J b m)
    (hdb : (x == ("__debug__" : Str)) = false) (hd : (a == ("__debug__" : Str)) = false) (hcd : (a == ("__classdict__" : Str)) = false) :
    SE X J (.Call (.Name x p) [.Lambda ar b sc lpos] [] pos) (mHear t m ks) := by
  intro R env st σ H out Q E h g r tk o pins s I
  obtain ⟨gA, fd, stm, Ng, h0, hds, p1, p2, p3, p4, p5, F, Sg, hmg, hb, hN0, hva, hbody, hhs⟩ := HR.ex
  obtain ⟨oc, od, kV, doc, pm, an, cdv, ct, osl, rfl, lk, hcg⟩ := F.ex
  refine wpAny_Call_Name_kw (ld_glob I hg hmg ?_ hdb)
  refine PySem.W.callWith_K (h₀ := X.base) I.ok.mod.kin F.kp ?_ (by rfl) (by rfl)
  show wpAny _ _ (spliced ((false, eval (.Lambda ar b sc lpos) X.env) :: backTo pos (starEach [] X.env))) _ _ s
  refine Calls.spliced_cons (lm_make I TB hc hm hu (hJ H g.j) (L.has I.ok) (arOf_def har X.env) fun f c' dV pm' ct' H1 s1 I1 x1 x2 x3 x4 x5 x6 x7 x8 => ?_)
  refine Calls.spliced_nil ⟨I1.kIn, ?_⟩
  have e1 : Ex R R H H1 := ext_ex x1 x8
  have g1 : Gd X.K J R st H1 := ext_gd g x1 x8 (hJ2 H H1 g.j x1 x2)
  have r1 := r.mono e1
  have o1 := o.shift e1
  -- the def's run
  have rc : codeAny (model X.prog X.w) X.A (.call (.ref gA) ⟨[.ref f], []⟩) (CR (CX X.prog X.w) X.stack X.prog X.w H1 s1 Q E) s1 := by
    refine run_ofS (N := Ng) (ps := [a]) (us := [.ref f]) (vs := [.ref f]) lk hcg Sg hr I1.env0 (hb s1 [.ref f] I1.kIn rfl) (.cons rfl .nil) rfl fun hr' => ?_
    refine ⟨_, pss_sem, ?_⟩
    rw [hbody]
    refine sem_ofB (pss_one ps_sem) ?_
    have lnN : (L2.start Ng [V.ref f])[0]? = some (some (.ref f)) := by
      unfold L2.start
      rfl
    have fin : ∀ out', sTry t (mBody m env) ks (List.replicate Ng.length none) st = some out' → OkS X.K J R H1 (EnR X.K) { nx := fun _ H' => Q .non H', rt := Q } E out' → tsSem (cxOf (CX X.prog X.w) X.prog X.w X.K X.mg X.base Ng x (defScope stm) gA cdv X.A X.stack s1 H1 E) (.Try [.Return (some (.List [.Call (.Name a p1) [] [] p2] p3)) p4] (h0 :: hds) [] [] p5) { nx := fun _ H' => Q .non H', rt := Q } (L2.start Ng [.ref f]) H1 := by
      intro out' h' o'
      refine try_at (X := cxOf (CX X.prog X.w) X.prog X.w X.K X.mg X.base Ng x (defScope stm) gA cdv X.A X.stack s1 H1 E) (R := R) js rfl rfl Sg.nd ht (fun pn xe po out2 De' E' hmb tkE oS => ?_) (hhs cdv X.A X.stack s1 H1 E gd hr') h' (takes_of rfl rfl rfl rfl) o'
      refine sem_ofB (pss_one (ps_ret pe_sem)) ?_
      refine sem_of (pe_lst (pa_cons pe_sem pa_nil rfl)) ?_
      refine lm_act (W := fun c d _ H => E' c d H) (E := E') I1 L har x3 x4 x5 x7 tkE (fun _ _ _ _ q => q) hr' hN0 hva hd hcd lnN x6 fun A outer s2 hgd room => ?_
      have body := S A outer s2 H1 E' f c' hgd room
      unfold mBody at hmb
      split at hmb
      · rename_i d st1 hmm
        cases hmb
        refine body R env st σ H1 _ _ E' hmm g1 r1 (takes_of rfl rfl rfl rfl) fun R2 H2 v e2 g2 rv => ?_
        refine ⟨by show 1 ≤ sizeLine; decide, fun q hq => ?_⟩
        have hq1 : H1 q = none := by
          cases z : H1 q with
          | none => rfl
          | some u => exact absurd hq (e2.kp q (by rw [z]; simp))
        have hqR : q ∉ R2 := fun hm => by
          obtain ⟨n, ob, _, _, z⟩ := g2.mem hm
          exact z.some hq
        have rel : ObjR X.K R2 (upd H2 q (.lst [v])) q (.lst [d]) := ⟨[v], upd_same, by
          simp only [RelDs]
          exact ⟨v, [], rfl, rv.mono (Ex.new hq).toEx0, rfl⟩⟩
        refine oS (R2 ++ [q]) _ _ ((e2.trans (Ex.new hq)).snoc hq1) ((g2.new js hq).push hqR rel) ?_
        simp only [RelD]
        exact ⟨q, rfl, by rw [← g2.len, List.getElem?_append_right (Nat.le_refl _)]; simp⟩
      · rename_i y st1 hmm
        cases hmb
        exact body R env st σ H1 _ _ E' hmm g1 r1 (takes_of rfl rfl rfl rfl) oS
      · cases hmb
    unfold mHear at h
    split at h
    · rename_i d st1 hmm
      cases h
      exact fin (.rt (.loc st1.length) (st1 ++ [.lst [d]])) (by simp only [sTry, mBody, hmm]) fun R' H' v e' g' r' => o1 R' H' v e' g' r'
    · rename_i y st1 hmm
      split at h
      · rename_i d st2 hc2
        cases h
        exact fin (.rt d st2) (by simp only [sTry, mBody, hmm, hc2]) fun R' H' v e' g' r' => o1 R' H' v e' g' r'
      · rename_i z st2 hc2
        cases h
        exact fin (.exc z st2) (by simp only [sTry, mBody, hmm, hc2]) fun R' H' c d e' g' r' => o1 R' H' c d e' g' r'
      · cases h
    · cases h
  refine wpAny_call (codeAny_mono rc fun res s2 hq => ?_)
  match res, hq with
  | .error e, hq => exact passes_call tk (fun _ _ _ _ q => q) pins σ H1 s1 e s2 I1 hq
  | .ok (.ret u), hq => exact I1.after hq
  | .ok .next, hq => exact False.elim hq
  | .ok .brk, hq => exact False.elim hq
  | .ok .cont, hq => exact False.elim hq
end
end TA
/-! a text's plan: plain data, and what it does -/
namespace TA
open PySem PySem.Spec
open PyProof.Rows L2

abbrev Sm := List D → Sto → Option (Out D)
inductive IR where
  | no
  | nil
  | cons (a b : IR)
  | var (i : Nat)
  | int (i : Int)
  | bl (b : Bool)
  | str (s : Str)
  | non
  | ty (T : String)
  | op2 (op : Operator) (a b : IR)
  | cmp (op : CmpOp) (a b : IR)
  | chain (op op' : CmpOp) (a b c : IR)
  | andV (a b : IR)
  | orV (a b : IR)
  | notV (a : IR)
  | neg (a : IR)
  | ifE (c a b : IR)
  | tup (a : IR)
  | dict0
  | ix (a b : IR)
  | sl (a lo hi : IR)
  | bv (k : Nat) (a : IR)
  | bf (k : Nat) (a : IR)
  | bL (k : Nat) (a : IR)
  | call (k n : Nat) (a : IR)
  | mv (k : Nat) (o a : IR)
  | mf (k : Nat) (o a : IR)
  | keep (a : IR)
  | tst (a : IR)
  | andT (a b : IR)
  | orT (a b : IR)
  | notT (a : IR)
  | tru
  | lst (a : IR)
  | cat (a b : IR)
  | rep (a b : IR)
  | ifL (c a b : IR)
  | lc (it tg ifs elt : IR) (vs : List Nat)
  | fr (a : IR)
  | at (a : IR)
  | rng1 (a : IR)
  | rng2 (a : IR)
  | zip (a : IR)
  | itN (a : IR)
  | itV (a : IR)
  | retN
  | ret (a : IR)
  | ex (a : IR)
  | ifS (c a b : IR)
  | set (i : Nat) (a : IR)
  | par2 (i j : Nat) (a : IR)
  | par3 (i j l : Nat) (a : IR)
  | put (o i a : IR)
  | tgt (t a : IR)
  | aug (i : Nat) (op : Operator) (a : IR)
  | for (it tg b : IR)
  | while (c b : IR)
  | pass
  | brk
  | cnt
  | disp (ks : List (Sum Int Str)) (a : IR)
  | rev (a : IR)
  | enum (a : IR)
  | lcV (e tg ifs elt : IR) (vs : List Nat)
  | forV (e tg b : IR)
  | raise (C f : Str) (a : IR)
  | tryS (b : IR) (hs : List Hn) (t : List (Str × Str × Bool))
  | cmpX (ne : Bool) (a b : IR)
  | hear (e : IR) (hs : List Hn) (t : List (Str × Str × Bool))
  | sset (a : IR)
  deriving DecidableEq, Repr, Inhabited

def mNo {α : Type} : M α := fun _ _ => none
def sNo : MS := fun _ _ => none

/-! ### tables -/
def binF : Operator → Option (D → D → Sto → Option (Out D))
  | .Add => some (fOr fAdd fCatL)
  | .Sub => some fSub
  | .Mult => some (fOr fMul fRepT)
  | .Mod => some fMod
  | .FloorDiv => some fDiv
  | .Pow => some fPow
  | _ => none
def cmpF : CmpOp → D → D → Sto → Option (Out D)
  | .Eq => fEq
  | .NotEq => fNe
  | .Lt => fLt
  | .LtE => fLe
  | .Gt => fGt
  | .GtE => fOr fGe fGeT
  | .Is => fIs
  | .IsNot => fIsNot
  | .In => fIn
  | .NotIn => fNotIn
structure Mth where
  T : String
  id : String
  f : D → List D → Sto → Option (Out D)
def bltV : List (Str × Sm) := [("len", bLen), ("isinstance", bIsi), ("tuple", bTup), ("int", bInt), ("repr", bReprV), ("min", bMin2), ("max", bMax2)]
def bltF : List (Str × Sm) := [("len", bLenF), ("all", bAllF), ("any", bAnyF), ("tuple", bTupF), ("repr", bReprF), ("min", bMinF), ("max", bMaxF), ("sum", bSumF), ("dict", bDictF)]
def lSort : FL → Sto → Option (List D) := lOr (lOr (lOr lSorted lSortedP) lSortedT) lSortedU
def bltL : List (Str × (FL → Sto → Option (List D))) := [("list", lList), ("sorted", lSort)]
def mthV : List (Str × Mth) := [("append", ⟨"list", "list.append", vAppend⟩), ("extend", ⟨"list", "list.extend", vExtend⟩), ("update", ⟨"dict", "dict.update", vUpdate⟩)]
def mthF : List (Str × Mth) := [("extend", ⟨"list", "list.extend", vExtendF⟩), ("update", ⟨"dict", "dict.update", vUpdateF⟩)]

def whN : Nat := 100000
def mIfL (c : M Bool) (a b : M (List D)) : M (List D) := mBind c fun k => match k with
  | true => a
  | false => b
def sPar3 (i j l : Nat) (m : M (List D)) : MS := sBind m fun ds => fun env st => match ds with
  | [a, b, c] => some (.nx (((env.set i (some a)).set j (some b)).set l (some c)) st)
  | _ => none

/-! ### what a plan does -/
mutual
def tgD : IR → Tg
  | .var i => .nm i
  | .tup a => .tp (tgsD a)
  | _ => .nm 0
def tgsD : IR → List Tg
  | .cons a b => tgD a :: tgsD b
  | _ => []
end
section
variable (fs : Nat → Sm)
mutual
def dE : IR → M D
  | .var i => mVar i
  | .int i => mPure (.int i)
  | .bl b => mPure (.bl b)
  | .str s => mPure (.str s)
  | .non => mPure .non
  | .ty T => mPure (.ty T)
  | .op2 op a b => match binF op with
    | some f => mOp2 f (dE a) (dE b)
    | none => mNo
  | .cmp op a b => mOp2 (cmpF op) (dE a) (dE b)
  | .chain op op' a b c => mChain (cmpF op) (cmpF op') (dE a) (dE b) (dE c)
  | .andV a b => mAndV (dE a) (dE b)
  | .orV a b => mOrV (dE a) (dE b)
  | .notV a => mNotV (dE a)
  | .neg a => mNeg (dE a)
  | .ifE c a b => mIf (dT c) (dE a) (dE b)
  | .tup a => mTup (dA a)
  | .dict0 => mDict0
  | .ix a b => mOp2 fIx (dE a) (dE b)
  | .sl a lo hi => mAlt (mSlT (dE a) (dP lo) (dP hi)) (mKeep (mSlL (dE a) (dP lo) (dP hi)))
  | .bv k a => match bltV[k]? with
    | some f => mB f.2 (dA a)
    | none => mNo
  | .bf k a => match bltF[k]? with
    | some f => mB f.2 (dL a)
    | none => mNo
  | .call k n a => mCall n (fs k) (dA a)
  | .mv k o a => match mthV[k]? with
    | some m => mMeth m.2.T m.2.f (dE o) (dA a)
    | none => mNo
  | .mf k o a => match mthF[k]? with
    | some m => mMeth m.2.T m.2.f (dE o) (dL a)
    | none => mNo
  | .keep a => mKeep (dL a)
  | .disp ks a => mDisp ks (dA a)
  | .rev a => mRevT (dE a)
  | .cmpX ne a b => mCmpX ne (dX a) (dX b)
  | .hear e hs t => mHear t (dE e) hs
  | _ => mNo
def dT : IR → M Bool
  | .tst a => mTest (dE a)
  | .andT a b => mAnd (dT a) (dT b)
  | .orT a b => mOr (dT a) (dT b)
  | .notT a => mNot (dT a)
  | .tru => mPure true
  | _ => mNo
def dA : IR → M (List D)
  | .nil => mNil
  | .cons a b => mCons (dE a) (dA b)
  | _ => mNo
def dP : IR → M (Option Int)
  | .nil => mPure none
  | .at a => mPart (dE a)
  | _ => mNo
def dX : IR → M FL
  | .fr a => mFr (dL a)
  | .at a => mAt (dE a)
  | _ => mNo
def dL : IR → M (List D)
  | .lst a => mLst (dA a)
  | .cat a b => mCat (dX a) (dX b)
  | .rep a b => mRep (dX a) (dE b)
  | .ifL c a b => mIfL (dT c) (dL a) (dL b)
  | .bL k a => match bltL[k]? with
    | some f => mBL f.2 (dX a)
    | none => mNo
  | .sset a => mBL lSset (dX a)
  | .lc it tg ifs elt vs => mLc (dI it) (tgD tg) (dT ifs) (dE elt) vs
  | .lcV e tg ifs elt vs => mPick (isDct (dE e)) (mLock (locOf (dE e)) (mLc (mItK (dE e)) (tgD tg) (dT ifs) (dE elt) vs)) (mLc (mItV (dE e)) (tgD tg) (dT ifs) (dE elt) vs)
  | _ => mNo
def dI : IR → M Wkd
  | .rng1 a => mRng1 (dA a)
  | .rng2 a => mRng2 (dA a)
  | .zip a => mZip (dA a)
  | .itN a => mItN (dL a)
  | .itV a => mItV (dE a)
  | .enum a => mAlt (mEnum (dX a)) (mEnumT (dX a))
  | _ => mNo
end
mutual
def dS : IR → MS
  | .retN => sRetN
  | .ret a => sRet (dE fs a)
  | .ex a => sExpr (dE fs a)
  | .ifS c a b => sIf (dT fs c) (dB a) (dB b)
  | .set i a => sSet i (dE fs a)
  | .par2 i j a => sPar i j (dA fs a)
  | .par3 i j l a => sPar3 i j l (dA fs a)
  | .put o i a => sPut (dE fs o) (dE fs i) (dE fs a)
  | .tgt t a => sTgt (tgD t) (dE fs a)
  | .aug i op a => sAug i op (dE fs a)
  | .for it tg b => sFor (dI fs it) (tgD tg) (dB b)
  | .while c b => sWhile whN (dT fs c) (dB b)
  | .pass => sPass
  | .brk => sBreak
  | .cnt => sCont
  | .forV e tg b => sPick (isDct (dE fs e)) (sLock (locOf (dE fs e)) (sFor (mItK (dE fs e)) (tgD tg) (dB b))) (sFor (mItV (dE fs e)) (tgD tg) (dB b))
  | .raise C f a => sRaise C f (dE fs a)
  | .tryS b hs t => sTry t (dB b) hs
  | _ => sNo
def dB : IR → MS
  | .nil => sNil
  | .cons a b => sCons (dS a) (dB b)
  | _ => sNo
end
end
end TA
/-! from the text to its plan; that the plan is right -/
namespace TA
open PySem PySem.Spec
open PyProof.Rows L2

structure CE where
  N : List Str
  sc : Scope
  fn : Str → Bool
  bnd : List Str
  funs : List (Str × Nat × Nat)
  cst : List (Str × Int)
  cls : List Str
  xcs : List (Str × Str)
  exm : Exm
  hrs : List (Str × Str × List Hn) := []
structure FitsC (fs : Nat → Sm) (J : Hp → Prop) (ce : CE) (X : Cx) : Prop where
  js : JS J
  nN : X.N = ce.N
  nd : ce.N.Nodup
  sc : X.env.scope = ce.sc
  fn : X.fn = ce.fn
  calm : X.calm = true
  gd : X.A.guards = some []
  un : X.A.units + 200 < cLine
  blt : ∀ x ∈ ce.bnd, X.mg x = none
  funs : ∀ p ∈ ce.funs, FnAt X J p.1 p.2.2 (fs p.2.1)
  cst : ∀ p ∈ ce.cst, ∃ u, X.mg p.1 = some u ∧ RelV (.int p.2) u
  rm : Room 2 X.A
  cls : ∀ x ∈ ce.cls, X.mg x = some (.ref (He.ga X.K x))
  xcs : ∀ p ∈ ce.xcs, XcAt X p.1 p.2 ∧ XrAt X p.1 p.2
  exm : ∀ p ∈ ce.exm, PySem.W.exmOne X.K (.ref (He.ga X.K p.1)) (.ref (He.ga X.K p.2.1)) = some p.2.2
/-- the lambda's own view of the names -/
def CE.lam (ce : CE) (sc : Scope) : CE := { ce with sc := sc, fn := fun _ => false, hrs := [] }
/-- what is to be known where a lambda is made and handed to the def q -/
structure LamAt (fs : Nat → Sm) (J : Hp → Prop) (ce : CE) (X : Cx) (q : Str × Str × List Hn) : Prop where
  ex : ∃ (TT : List (Addr × Str)) (k : Nat) (c P : Addr), (∀ H, J H → LamX.Tabs TT H) ∧ (∀ H H1, J H → LamX.ExtN H H1 → LamX.Tabs TT H1 → J H1) ∧ HrAt X.prog X.w X.K X.mg X.base (k + 1) q.1 q.2.1 q.2.2 ∧ Room (k + 2) X.A ∧ LamX.TabB X.base X.mg c P ∧ X.env.code = .ref c ∧ (P, X.env.qual ++ "<lambda>") ∈ TT ∧
    (∀ p ∈ TT, p.1 = P → p.2 = X.env.qual ++ "<lambda>") ∧ ∀ (sc : Scope) (A : Around) (outer : List Env) (s1 : Shared) (H1 : Hp) (E : XK) (f c' : Addr), A.guards = X.A.guards → Room k (A.deeper (LamX.lamEnv X sc s1.heap.objs.size f c')) → FitsC fs J (ce.lam sc) (LamX.lamCx X A outer s1 H1 E sc f c')
structure Fits (fs : Nat → Sm) (J : Hp → Prop) (ce : CE) (X : Cx) : Prop extends FitsC fs J ce X where
  hrs : ∀ q ∈ ce.hrs, LamAt fs J ce X q
/-- a def's frame -/
structure StOk (X : Cx) : Prop where
  kd : X.env.scope.kind = .function
  po : PassesOwn (model X.prog X.w) X.A X.env X.xe
  stk : X.stack = X.env :: X.outer
  frm : X.env.frame = some X.env.locals
def CE.blk (ce : CE) (scope : Scope) : CE := { ce with sc := relS scope ce.sc, fn := fun x => scope.names.lookup x == some .cell, hrs := [] }
structure Rec where
  E : CE → Expr → IR
  T : CE → Expr → IR
  L : CE → Expr → IR
  S : CE → Stmt → IR
structure Rec.Ok (fs : Nat → Sm) (J : Hp → Prop) (r : Rec) : Prop where
  e : ∀ ce X x, Fits fs J ce X → SE X J x (dE fs (r.E ce x))
  t : ∀ ce X x, Fits fs J ce X → STt X J x (dT fs (r.T ce x))
  l : ∀ ce X x, Fits fs J ce X → SL X J x (dL fs (r.L ce x))
  s : ∀ ce X x, Fits fs J ce X → StOk X → SS X J x (dS fs (r.S ce x))
def ixOf : List Str → Str → Nat → Option Nat
  | [], _, _ => none
  | y :: r, x, i => match decide (y = x) with
    | true => some i
    | false => ixOf r x (i + 1)
theorem ixOf_get {x : Str} : ∀ {N : List Str} {k i : Nat}, ixOf N x k = some i → ∃ j, i = k + j ∧ N[j]? = some x
  | [], k, i, h => by simp [ixOf] at h
  | y :: r, k, i, h => by
    unfold ixOf at h
    by_cases e : y = x
    · rw [decide_eq_true e] at h
      cases h
      exact ⟨0, rfl, by simp [e]⟩
    · rw [decide_eq_false e] at h
      obtain ⟨j, e1, e2⟩ := ixOf_get h
      exact ⟨j + 1, by omega, by simpa using e2⟩
def okN (x : Str) : Bool := !(x == ("__debug__" : Str)) && !(x == ("__classdict__" : Str))
def kindE (ce : CE) (x : Str) : Option NameKind := ce.sc.names.lookup x
def isLoc : Option NameKind → Bool
  | some .local => true
  | some .cell => true
  | _ => false
def isVis : Option NameKind → Bool
  | some .local => true
  | some .cell => true
  | some .free => true
  | _ => false
def isGl : Option NameKind → Bool
  | some .globalImplicit => true
  | _ => false
def mem (l : List Str) (x : Str) : Bool := l.any fun y => decide (y = x)
theorem mem_in {l : List Str} {x : Str} (h : mem l x = true) : x ∈ l := by
  simp only [mem, List.any_eq_true, decide_eq_true_eq] at h
  obtain ⟨y, hy, e⟩ := h
  exact e ▸ hy
def look {α : Type} : List (Str × α) → Str → Option α
  | [], _ => none
  | p :: r, x => match decide (p.1 = x) with
    | true => some p.2
    | false => look r x
theorem look_in {α : Type} {x : Str} {a : α} : ∀ {l : List (Str × α)}, look l x = some a → (x, a) ∈ l
  | [], h => by simp [look] at h
  | p :: r, h => by
    unfold look at h
    by_cases e : p.1 = x
    · rw [decide_eq_true e] at h
      cases h
      exact List.mem_cons.mpr (.inl (by rw [← e]))
    · rw [decide_eq_false e] at h
      exact List.mem_cons_of_mem _ (look_in h)

def lookI {α : Type} : List (Str × α) → Str → Nat → Option Nat
  | [], _, _ => none
  | p :: r, x, k => match decide (p.1 = x) with
    | true => some k
    | false => lookI r x (k + 1)
theorem lookI_get {α : Type} {x : Str} : ∀ {l : List (Str × α)} {k i : Nat}, lookI l x k = some i → ∃ j a, i = k + j ∧ l[j]? = some (x, a)
  | [], k, i, h => by simp [lookI] at h
  | p :: r, k, i, h => by
    unfold lookI at h
    by_cases e : p.1 = x
    · rw [decide_eq_true e] at h
      cases h
      exact ⟨0, p.2, rfl, by simp [← e]⟩
    · rw [decide_eq_false e] at h
      obtain ⟨j, a, e1, e2⟩ := lookI_get h
      exact ⟨j + 1, a, by omega, by simpa using e2⟩
theorem lookI_in {α : Type} {x : Str} {l : List (Str × α)} {i : Nat} (h : lookI l x 0 = some i) : ∃ a, l[i]? = some (x, a) ∧ (x, a) ∈ l := by
  obtain ⟨j, a, e1, e2⟩ := lookI_get h
  have : i = j := by omega
  subst this
  exact ⟨a, e2, List.mem_of_getElem? e2⟩
/-- a name of a slot -/
def slotV (ce : CE) (x : Str) : Option Nat := match isVis (kindE ce x) && okN x with
  | true => ixOf ce.N x 0
  | false => none
def slotL (ce : CE) (x : Str) : Option Nat := match isLoc (kindE ce x) && (ce.fn x || decide (kindE ce x = some .local)) with
  | true => ixOf ce.N x 0
  | false => none
/-- a builtin's name, free to be read -/
def gB (ce : CE) (x : Str) : Bool := isGl (kindE ce x) && mem ce.bnd x && okN x && !decide (x = ("__name__" : Str))
def gM (ce : CE) (x : Str) : Bool := isGl (kindE ce x) && okN x

section
variable {X : Cx} {J : Hp → Prop} {ce : CE} {r : Rec} {fs : Nat → Sm}
theorem isVis_ok {sc : Scope} {x : Str} (h : isVis (sc.names.lookup x) = true) : Vis sc x := by
  unfold Vis
  cases e : sc.names.lookup x with
  | none => rw [e] at h; cases h
  | some k => rw [e] at h; cases k <;> simp_all [isVis]
theorem isLoc_ok {sc : Scope} {x : Str} (h : isLoc (sc.names.lookup x) = true) : Loc sc x := by
  unfold L2.Loc
  cases e : sc.names.lookup x with
  | none => rw [e] at h; cases h
  | some k => rw [e] at h; cases k <;> simp_all [isLoc]
theorem isGl_ok {k : Option NameKind} (h : isGl k = true) : k = some .globalImplicit := by
  cases k with
  | none => cases h
  | some k => cases k <;> simp_all [isGl]
theorem slotV_ok {x : Str} {i : Nat} (F : Fits fs J ce X) (h : slotV ce x = some i) : X.N[i]? = some x ∧ Vis X.env.scope x ∧ (x == ("__debug__" : Str)) = false ∧ (x == ("__classdict__" : Str)) = false := by
  unfold slotV at h
  split at h
  · rename_i hh
    simp only [Bool.and_eq_true, okN, Bool.not_eq_true'] at hh
    obtain ⟨j, e1, e2⟩ := ixOf_get h
    have e1 : i = j := by omega
    subst e1
    rw [F.nN, F.sc]
    exact ⟨e2, isVis_ok hh.1, hh.2.1, hh.2.2⟩
  · cases h
theorem slotL_ok {x : Str} {i : Nat} (F : Fits fs J ce X) (h : slotL ce x = some i) : X.N[i]? = some x ∧ Loc X.env.scope x ∧ (X.fn x = true ∨ X.env.scope.names.lookup x = some .local) := by
  unfold slotL at h
  split at h
  · rename_i hh
    simp only [Bool.and_eq_true, Bool.or_eq_true, decide_eq_true_eq] at hh
    obtain ⟨j, e1, e2⟩ := ixOf_get h
    have e1 : i = j := by omega
    subst e1
    rw [F.nN, F.sc, F.fn]
    exact ⟨e2, isLoc_ok hh.1, hh.2⟩
  · cases h
theorem gM_ok {x : Str} (F : Fits fs J ce X) (h : gM ce x = true) : Gl X x ∧ (x == ("__debug__" : Str)) = false := by
  simp only [gM, okN, Bool.and_eq_true, Bool.not_eq_true'] at h
  refine ⟨?_, h.2.1⟩
  show X.env.scope.names.lookup x = _
  rw [F.sc]
  exact isGl_ok h.1
theorem gB_ok {x : Str} (F : Fits fs J ce X) (h : gB ce x = true) : Gl X x ∧ X.mg x = none ∧ (x == ("__debug__" : Str)) = false ∧ x ≠ "__name__" := by
  simp only [gB, okN, Bool.and_eq_true, Bool.not_eq_true', decide_eq_false_iff_not] at h
  refine ⟨?_, F.blt x (mem_in h.1.1.2), h.1.2.1, h.2⟩
  show X.env.scope.names.lookup x = _
  rw [F.sc]
  exact isGl_ok h.1.1.1
theorem se_no {e : Expr} : SE X J e mNo := fun R env st σ H out Q E h => by cases h
theorem sl_no {e : Expr} : SL X J e mNo := fun R env st σ H out Q E h => by cases h
theorem st_no {e : Expr} : STt X J e mNo := fun R env st σ H out Q E h => by cases h
theorem stw_no {e : Expr} : STw X J e mNo := fun R env st σ H out Q E h => by cases h
theorem sa_no {e : List Expr} : SA X J e mNo := fun R env st σ H out Q E h => by cases h
theorem so_no {e : Option Expr} : SO X J e mNo := fun R env st σ H out Q E h => by cases h
theorem si_no {t e : Expr} : SI X J t e mNo := fun R env st σ H out Q E h => by cases h
theorem sf_no {e : List Expr} : SF X J e mNo := fun R env st σ H out Q E h => by cases h
theorem ss_no {e : Stmt} : SS X J e sNo := fun R env st σ H out Q E h => by cases h
theorem sb_no {e : List Stmt} : SB X J e sNo := fun R env st σ H out Q E h => by cases h

/-! ### a name -/
def tyNames : List Str := ["int", "bool", "str", "tuple", "list", "dict"]
def tyOf (x : Str) : Option String := match decide (x = ("int" : Str)) with
  | true => some "int"
  | false => match decide (x = ("bool" : Str)) with
    | true => some "bool"
    | false => match decide (x = ("str" : Str)) with
      | true => some "str"
      | false => match decide (x = ("tuple" : Str)) with
        | true => some "tuple"
        | false => match decide (x = ("list" : Str)) with
          | true => some "list"
          | false => match decide (x = ("dict" : Str)) with
            | true => some "dict"
            | false => none
theorem tyOf_ok {x : Str} {T : String} (h : tyOf x = some T) : bootBuiltins x = some (.type T) := by
  unfold tyOf at h
  repeat' split at h
  all_goals (first | cases h | skip)
  all_goals
    rename_i hh
    rw [decide_eq_true_eq] at hh
    subst hh
    rfl
def cName (ce : CE) (x : Str) : IR := match slotV ce x with
  | some i => .var i
  | none => match gM ce x with
    | true => match look ce.cst x with
      | some d => .int d
      | none => match gB ce x, tyOf x with
        | true, some T => .ty T
        | _, _ => .no
    | false => .no
theorem cName_ok {x : Str} {pos : Pos} (F : Fits fs J ce X) : SE X J (.Name x pos) (dE fs (cName ce x)) := by
  unfold cName
  split
  · rename_i i h
    obtain ⟨a, b, c, d⟩ := slotV_ok F h
    exact se_var a b c d
  · split
    · rename_i h
      obtain ⟨hg, hd⟩ := gM_ok F h
      split
      · rename_i d hl
        obtain ⟨u, e1, e2⟩ := F.cst _ (look_in hl)
        exact se_const (v := .int d) (pe_glob hg e1 e2 hd) fun R H => by simp only [RelD]
      · split
        · rename_i T hb ht
          obtain ⟨h1, h2, h3, h4⟩ := gB_ok F hb
          exact se_const (v := .ty T) (pe_bltn h1 h2 (tyOf_ok ht) rfl h4 h3) fun R H => by simp only [RelD]
        · exact se_no
    · exact se_no


theorem binF_ok {op : Operator} {f : D → D → Sto → Option (Out D)} (F : Fits fs J ce X) (h : binF op = some f) : SV2 X J (binaryOp op) f := by
  cases op <;> simp only [binF, Option.some.injEq, reduceCtorEq] at h <;> subst h
  · exact sv_or (sv_add F.js) (sv_catL F.js)
  · exact sv_sub
  · exact sv_or sv_mul (sv_repT F.js)
  · exact sv_mod
  · exact sv_pow
  · exact sv_div
theorem cmpF_ok {op : CmpOp} (F : Fits fs J ce X) : SV2 X J (compareOp op) (cmpF op) := by
  have u := F.un
  cases op <;> simp only [cmpF]
  · exact sv_eq (by omega)
  · exact sv_ne (by omega)
  · exact sv_lt (by omega)
  · exact sv_le
  · exact sv_gt
  · exact sv_or sv_ge (sv_geT (by omega))
  · exact sv_is
  · exact sv_isNot
  · exact sv_in (by omega)
  · exact sv_notIn (by omega)
def isFresh : Nat → Expr → Bool
  | _, .List .. => true
  | _, .ListComp .. => true
  | n + 1, .BinOp a .Add b _ => isFresh n a || isFresh n b
  | n + 1, .BinOp a .Mult _ _ => isFresh n a
  | n + 1, .IfExp _ a b _ => isFresh n a && isFresh n b
  | _, .Call (.Name x _) [_] [] _ => decide (x = ("list" : Str)) || decide (x = ("sorted" : Str))
  | _, _ => false

theorem Fits.blk (F : Fits fs J ce X) (scope : Scope) (s : Shared) (H : Hp) (C : Addr) (cl : List (Str × Addr)) (fp : List Addr) : Fits fs J (ce.blk scope) (X.blk s H scope (compEnvC scope cl C X.env) fp) where
  js := F.js
  nN := F.nN
  nd := F.nd
  sc := by
    show relS scope X.env.scope = relS scope ce.sc
    rw [F.sc]
  fn := rfl
  calm := F.calm
  gd := F.gd
  un := F.un
  blt := F.blt
  funs := fun p hp => ⟨(F.funs p hp).ex⟩
  cst := F.cst
  rm := F.rm
  cls := F.cls
  xcs := fun p hp => ⟨⟨(F.xcs p hp).1.ex⟩, ⟨(F.xcs p hp).2.xf, (F.xcs p hp).2.no⟩⟩
  exm := F.exm
  hrs := fun q hq => nomatch (show q ∈ ([] : List (Str × Str × List Hn)) from hq)
theorem Fits.tr (F : Fits fs J ce X) (pn : List (Addr × Obj)) (xe : Value → Shared → Prop) : Fits fs J ce (X.tr pn xe) where
  js := F.js
  nN := F.nN
  nd := F.nd
  sc := F.sc
  fn := F.fn
  calm := F.calm
  gd := F.gd
  un := F.un
  blt := F.blt
  funs := fun p hp => ⟨(F.funs p hp).ex⟩
  cst := F.cst
  rm := F.rm
  cls := F.cls
  xcs := fun p hp => ⟨⟨(F.xcs p hp).1.ex⟩, ⟨(F.xcs p hp).2.xf, (F.xcs p hp).2.no⟩⟩
  exm := F.exm
  hrs := fun q hq => by
    obtain ⟨TT, k, c, P, j1, j2, hr, rm, tb, hc, hm, hu, sub⟩ := (F.hrs q hq).ex
    exact ⟨TT, k, c, P, j1, j2, hr, rm, tb, hc, hm, hu, fun sc A outer s1 H1 E f c' g1 g2 => sub sc A outer s1 H1 E f c' g1 g2⟩

/-! ### arguments -/
def cArgs (r : Rec) (ce : CE) : List Expr → IR
  | [] => .nil
  | e :: es => match plainArg e with
    | true => .cons (r.E ce e) (cArgs r ce es)
    | false => .no
theorem cArgs_ok (O : r.Ok fs J) (F : Fits fs J ce X) : ∀ es, SA X J es (dA fs (cArgs r ce es))
  | [] => sa_nil
  | e :: es => by
    unfold cArgs
    split
    · rename_i h
      exact sa_cons (O.e ce X e F) (cArgs_ok O F es) (star_cons h)
    · exact sa_no
theorem cVals_ok (O : r.Ok fs J) (F : Fits fs J ce X) : ∀ {es : List Expr}, plainArgs es = true → SVs X J es (dA fs (cArgs r ce es))
  | [], _ => svs_nil
  | e :: es, h => by
    simp only [plainArgs, Bool.and_eq_true] at h
    unfold cArgs
    rw [h.1]
    exact svs_cons (O.e ce X e F) (cVals_ok O F h.2)
def cX (r : Rec) (ce : CE) (e : Expr) : IR := match isFresh 9 e with
  | true => .fr (r.L ce e)
  | false => .at (r.E ce e)
theorem cX_ok (O : r.Ok fs J) (F : Fits fs J ce X) (e : Expr) : SX X J e (dX fs (cX r ce e)) := by
  unfold cX
  split
  · exact sx_fr (O.l ce X e F)
  · exact sx_at (O.e ce X e F)

/-! ### and, or -/
def vBool (r : Rec) (ce : CE) (op : BoolOp) : List Expr → IR
  | [] => .no
  | [a] => r.E ce a
  | a :: b :: rest => match op with
    | .And => .andV (r.E ce a) (vBool r ce op (b :: rest))
    | .Or => .orV (r.E ce a) (vBool r ce op (b :: rest))
theorem vBool_ok (O : r.Ok fs J) (F : Fits fs J ce X) (op : BoolOp) (pos : Pos) : ∀ es, SE X J (.BoolOp op es pos) (dE fs (vBool r ce op es))
  | [] => se_no
  | [a] => se_one (O.e ce X a F)
  | a :: b :: rest => by
    unfold vBool
    cases op with
    | And => exact se_and (O.e ce X a F) (vBool_ok O F .And pos (b :: rest))
    | Or => exact se_or (O.e ce X a F) (vBool_ok O F .Or pos (b :: rest))
def tBool (r : Rec) (ce : CE) (op : BoolOp) : List Expr → IR
  | [] => .no
  | [a] => r.T ce a
  | a :: b :: rest => match op with
    | .And => .andT (r.T ce a) (tBool r ce op (b :: rest))
    | .Or => .orT (r.T ce a) (tBool r ce op (b :: rest))
theorem tBool_ok (O : r.Ok fs J) (F : Fits fs J ce X) (op : BoolOp) (pos : Pos) : ∀ es, STw X J (.BoolOp op es pos) (dT fs (tBool r ce op es))
  | [] => stw_no
  | [a] => by
    unfold tBool
    cases op with
    | And => exact stw_and1 (O.t ce X a F)
    | Or => exact stw_or1 (O.t ce X a F)
  | a :: b :: rest => by
    unfold tBool
    cases op with
    | And => exact stw_and (O.t ce X a F) (tBool_ok O F .And pos (b :: rest))
    | Or => exact stw_or (O.t ce X a F) (tBool_ok O F .Or pos (b :: rest))

/-! ### compare -/
def cCmp (r : Rec) (ce : CE) (a : Expr) (ops : List CmpOp) (bs : List Expr) : IR := match ops, bs with
  | [op], [b] => match behindInMarks op b with
    | false => match isFresh 9 a || isFresh 9 b with
      | true => match neOf op with
        | some ne => .cmpX ne (cX r ce a) (cX r ce b)
        | none => .cmp op (r.E ce a) (r.E ce b)
      | false => .cmp op (r.E ce a) (r.E ce b)
    | true => .no
  | [op, op'], [b, c] => match lastMarks [op, op'] [b, c] with
    | false => .chain op op' (r.E ce a) (r.E ce b) (r.E ce c)
    | true => .no
  | _, _ => .no
theorem cCmp_ok (O : r.Ok fs J) (F : Fits fs J ce X) (a : Expr) (ops : List CmpOp) (bs : List Expr) (pos : Pos) : SE X J (.Compare a ops bs pos) (dE fs (cCmp r ce a ops bs)) := by
  unfold cCmp
  split
  · have u := F.un
    split
    · rename_i h
      split
      · split
        · rename_i ne hne
          cases neOf_ok hne
          exact se_cmpX (by omega) (cX_ok O F _) (cX_ok O F _) h
        · exact se_cmp (cmpF_ok F) (O.e _ _ _ F) (O.e _ _ _ F) h
      · exact se_cmp (cmpF_ok F) (O.e _ _ _ F) (O.e _ _ _ F) h
    · exact se_no
  · split
    · rename_i h
      exact se_chain (cmpF_ok F) (cmpF_ok F) (O.e _ _ _ F) (O.e _ _ _ F) (O.e _ _ _ F) h
    · exact se_no
  · exact se_no
theorem tCmp_ok (O : r.Ok fs J) (F : Fits fs J ce X) (a : Expr) (ops : List CmpOp) (bs : List Expr) (pos : Pos) : STt X J (.Compare a ops bs pos) (dT fs (.tst (cCmp r ce a ops bs))) := by
  have no : dT fs (.tst .no) = mNo := by funext env st; rfl
  unfold cCmp
  split
  · have u := F.un
    split
    · rename_i h
      split
      · split
        · rename_i ne hne
          cases neOf_ok hne
          exact st_cmpX (by omega) (cX_ok O F _) (cX_ok O F _) h
        · exact st_cmp (cmpF_ok F) (O.e _ _ _ F) (O.e _ _ _ F) h
      · exact st_cmp (cmpF_ok F) (O.e _ _ _ F) (O.e _ _ _ F) h
    · rw [no]; exact st_no
  · split
    · rename_i h
      exact st_chain (cmpF_ok F) (cmpF_ok F) (O.e _ _ _ F) (O.e _ _ _ F) (O.e _ _ _ F) h
    · rw [no]; exact st_no
  · rw [no]; exact st_no

/-! ### parts of a slice -/
def cPart (r : Rec) (ce : CE) : Option Expr → IR
  | none => .nil
  | some e => .at (r.E ce e)
theorem cPart_ok (O : r.Ok fs J) (F : Fits fs J ce X) : ∀ e, SO X J e (dP fs (cPart r ce e))
  | none => so_none
  | some e => so_some (O.e _ _ _ F)
def cSub (r : Rec) (ce : CE) (a b : Expr) : IR := match b with
  | .Slice lo hi none _ => .sl (r.E ce a) (cPart r ce lo) (cPart r ce hi)
  | .Slice none none (some (.UnaryOp .USub (.Constant (.int 1) _ _) _)) _ => .rev (r.E ce a)
  | b => match plainIx b with
    | true => .ix (r.E ce a) (r.E ce b)
    | false => .no
theorem cSub_ok (O : r.Ok fs J) (F : Fits fs J ce X) (a b : Expr) (pos : Pos) : SE X J (.Subscript a b pos) (dE fs (cSub r ce a b)) := by
  have u := F.un
  unfold cSub
  split
  · exact se_alt (se_slT F.js (O.e _ _ _ F) (cPart_ok O F _) (cPart_ok O F _)) (se_keep (sl_slL F.js (O.e _ _ _ F) (cPart_ok O F _) (cPart_ok O F _)))
  · exact se_revT F.js (O.e _ _ _ F)
  · split
    · rename_i h
      exact se_ix (by omega) (O.e _ _ _ F) (O.e _ _ _ F) (plainIx_ok h)
    · exact se_no

/-! ### builtins -/
def BOk (X : Cx) (J : Hp → Prop) (P : Value → Prop) (x : Str) : Prop := (∃ id, bootBuiltins x = some (.builtin id) ∧ P (.builtin id)) ∨ (∃ T, bootBuiltins x = some (.type T) ∧ P (.type T))
theorem bltV_ok (F : Fits fs J ce X) {x : Str} {f : Sm} (hm : (x, f) ∈ bltV) : BOk X J (fun v => SVN X J v f) x := by
  have u := F.un
  simp only [bltV, List.mem_cons, Prod.mk.injEq, List.not_mem_nil, or_false] at hm
  rcases hm with ⟨rfl, rfl⟩ | ⟨rfl, rfl⟩ | ⟨rfl, rfl⟩ | ⟨rfl, rfl⟩ | ⟨rfl, rfl⟩ | ⟨rfl, rfl⟩ | ⟨rfl, rfl⟩
  · exact .inl ⟨_, rfl, svn_len⟩
  · exact .inl ⟨_, rfl, svn_isi⟩
  · exact .inr ⟨_, rfl, svn_tup F.js⟩
  · exact .inr ⟨_, rfl, svn_int⟩
  · exact .inl ⟨_, rfl, svn_reprV F.gd (by omega)⟩
  · exact .inl ⟨_, rfl, svn_min2 F.calm⟩
  · exact .inl ⟨_, rfl, svn_max2 F.calm⟩
theorem bltF_ok (F : Fits fs J ce X) {x : Str} {f : Sm} (hm : (x, f) ∈ bltF) : BOk X J (fun v => SVF X J v f) x := by
  have u := F.un
  simp only [bltF, List.mem_cons, Prod.mk.injEq, List.not_mem_nil, or_false] at hm
  rcases hm with ⟨rfl, rfl⟩ | ⟨rfl, rfl⟩ | ⟨rfl, rfl⟩ | ⟨rfl, rfl⟩ | ⟨rfl, rfl⟩ | ⟨rfl, rfl⟩ | ⟨rfl, rfl⟩ | ⟨rfl, rfl⟩ | ⟨rfl, rfl⟩
  · exact .inl ⟨_, rfl, svf_len⟩
  · exact .inl ⟨_, rfl, svf_all F.calm⟩
  · exact .inl ⟨_, rfl, svf_any F.calm⟩
  · exact .inr ⟨_, rfl, svf_tup F.js⟩
  · exact .inl ⟨_, rfl, svf_repr F.gd (by omega)⟩
  · exact .inl ⟨_, rfl, svf_min F.calm⟩
  · exact .inl ⟨_, rfl, svf_max F.calm⟩
  · exact .inl ⟨_, rfl, svf_sum F.calm⟩
  · exact .inr ⟨_, rfl, svf_dict F.js F.calm⟩
theorem bltL_ok (F : Fits fs J ce X) {x : Str} {f : FL → Sto → Option (List D)} (hm : (x, f) ∈ bltL) : BOk X J (fun v => SVNL X J v f) x := by
  have u := F.un
  simp only [bltL, List.mem_cons, Prod.mk.injEq, List.not_mem_nil, or_false] at hm
  rcases hm with ⟨rfl, rfl⟩ | ⟨rfl, rfl⟩
  · exact .inr ⟨_, rfl, svnl_list F.js F.calm⟩
  · exact .inl ⟨_, rfl, svnl_or (svnl_or (svnl_or (svnl_sorted F.js F.calm) (svnl_sortedP F.js)) (svnl_sortedT F.js (by show X.A.units + 1 + 1 < cLine; omega))) (svnl_sortedU F.js)⟩
/-- a call of a builtin by values -/
def cBv (r : Rec) (ce : CE) (x : Str) (args : List Expr) : IR := match args with
  | [] => .no
  | _ :: _ => match lookI bltV x 0 with
    | some k => .bv k (cArgs r ce args)
    | none => .no
def cBlt (r : Rec) (ce : CE) (x : Str) (args : List Expr) : IR := match args with
  | [a] => match isFresh 9 a with
    | true => match lookI bltF x 0 with
      | some k => .bf k (r.L ce a)
      | none => cBv r ce x [a]
    | false => cBv r ce x [a]
  | args => cBv r ce x args
theorem cBv_ok (O : r.Ok fs J) (F : Fits fs J ce X) {x : Str} {args : List Expr} {p pos : Pos} (hp : plainArgs args = true) (hg : gB ce x = true) : SE X J (.Call (.Name x p) args [] pos) (dE fs (cBv r ce x args)) := by
  obtain ⟨g1, g2, g3, g4⟩ := gB_ok F hg
  unfold cBv
  split
  · exact se_no
  · rename_i a as
    simp only [plainArgs, Bool.and_eq_true] at hp
    split
    · rename_i k hf
      obtain ⟨f, hk, hm⟩ := lookI_in hf
      simp only [dE, hk]
      rcases bltV_ok F hm with ⟨id, h1, h2⟩ | ⟨T, h1, h2⟩
      · exact se_blt h2 g1 g2 h1 (cArgs_ok O F _) g4 g3 (star_cons hp.1) (star_any hp.2)
      · exact se_blty h2 g1 g2 h1 (cArgs_ok O F _) g4 g3 (star_cons hp.1) (star_any hp.2)
    · exact se_no
theorem cBlt_ok (O : r.Ok fs J) (F : Fits fs J ce X) {x : Str} {args : List Expr} {p pos : Pos} (hp : plainArgs args = true) (hg : gB ce x = true) : SE X J (.Call (.Name x p) args [] pos) (dE fs (cBlt r ce x args)) := by
  obtain ⟨g1, g2, g3, g4⟩ := gB_ok F hg
  unfold cBlt
  split
  · rename_i a
    split
    · split
      · rename_i k hf
        obtain ⟨f, hk, hm⟩ := lookI_in hf
        simp only [dE, hk]
        have hp' := hp
        simp only [plainArgs, Bool.and_eq_true] at hp'
        rcases bltF_ok F hm with ⟨id, h1, h2⟩ | ⟨T, h1, h2⟩
        · exact se_bltF h2 g1 g2 h1 (O.l _ _ _ F) g4 g3 (star_cons hp'.1)
        · exact se_bltyF h2 g1 g2 h1 (O.l _ _ _ F) g4 g3 (star_cons hp'.1)
      · exact cBv_ok O F hp hg
    · exact cBv_ok O F hp hg
  · exact cBv_ok O F hp hg
/-- a call of a def -/
def cFun (r : Rec) (ce : CE) (args : List Expr) (k n : Nat) : IR := match args, n with
  | [], 0 => .call k 0 .nil
  | [], _ + 1 => .no
  | a :: as, n => .call k n (cArgs r ce (a :: as))
theorem cFun_ok (O : r.Ok fs J) (F : Fits fs J ce X) {x : Str} {args : List Expr} {k n : Nat} {p pos : Pos} (hp : plainArgs args = true) (hg : gM ce x = true) (hl : look ce.funs x = some (k, n)) : SE X J (.Call (.Name x p) args [] pos) (dE fs (cFun r ce args k n)) := by
  obtain ⟨g1, g2⟩ := gM_ok F hg
  have hf := F.funs _ (look_in hl)
  unfold cFun
  split
  · exact se_call0 hf F.gd g1 g2
  · exact se_no
  · simp only [plainArgs, Bool.and_eq_true] at hp
    exact se_call hf F.gd g1 (cArgs_ok O F _) g2 (star_cons hp.1) (star_any hp.2)

/-! ### methods -/
structure MthOk (P : String → (D → List D → Sto → Option (Out D)) → Prop) (x : Str) (m : Mth) : Prop where
  ty : m.T = "list" ∨ m.T = "dict"
  pa : PlainAttrs m.T
  sl : Slot m.T x m.id
  hty : typeOf (.builtin m.id) = pure (.type "method_descriptor")
  sv : P m.id m.f
theorem mthV_ok (F : Fits fs J ce X) {x : Str} {m : Mth} (hm : (x, m) ∈ mthV) : MthOk (SVM X J) x m := by
  simp only [mthV, List.mem_cons, Prod.mk.injEq, List.not_mem_nil, or_false] at hm
  rcases hm with ⟨rfl, rfl⟩ | ⟨rfl, rfl⟩ | ⟨rfl, rfl⟩
  · exact ⟨.inl rfl, PySem.F.plainAttrs_list, PySem.F.slot_list_append, rfl, svm_append F.js⟩
  · exact ⟨.inl rfl, PySem.F.plainAttrs_list, PySem.F.slot_list_extend, rfl, svm_extend F.js⟩
  · exact ⟨.inr rfl, PySem.F.plainAttrs_dict, PySem.F.slot_dict_update, rfl, svm_update F.js⟩
theorem mthF_ok (F : Fits fs J ce X) {x : Str} {m : Mth} (hm : (x, m) ∈ mthF) : MthOk (SVMF X J) x m := by
  simp only [mthF, List.mem_cons, Prod.mk.injEq, List.not_mem_nil, or_false] at hm
  rcases hm with ⟨rfl, rfl⟩ | ⟨rfl, rfl⟩
  · exact ⟨.inl rfl, PySem.F.plainAttrs_list, PySem.F.slot_list_extend, rfl, svmf_extend F.js⟩
  · exact ⟨.inr rfl, PySem.F.plainAttrs_dict, PySem.F.slot_dict_update, rfl, svmf_update F.js F.calm⟩
def okLen (l : List Expr) : Bool := Nat.blt l.length 20
def notCall : Expr → Bool
  | .Call .. => false
  | _ => true
theorem base_ok {o : Expr} {x : Str} {env : Env} (h : notCall o = true) : attributeBase o x env (eval o env) = eval o env := by
  unfold attributeBase
  cases o <;> first | rfl | cases h
def cMv (r : Rec) (ce : CE) (o : Expr) (x : Str) (args : List Expr) : IR := match lookI mthV x 0 with
  | some k => match args with
    | [] => .mv k (r.E ce o) .nil
    | a :: as => .mv k (r.E ce o) (cArgs r ce (a :: as))
  | none => .no
def cMth (r : Rec) (ce : CE) (o : Expr) (x : Str) (args : List Expr) : IR := match args with
  | [a] => match isFresh 9 a with
    | true => match lookI mthF x 0 with
      | some k => .mf k (r.E ce o) (r.L ce a)
      | none => cMv r ce o x [a]
    | false => cMv r ce o x [a]
  | args => cMv r ce o x args
theorem cMv_ok (O : r.Ok fs J) (F : Fits fs J ce X) {o : Expr} {x : Str} {args : List Expr} {apos cpos : Pos} (hp : plainArgs args = true) (hl : okLen args = true) (hn : notCall o = true) (hline : (apos.endLine == cpos.line) = true) :
    SE X J (.Call (.Attribute o x apos) args [] cpos) (dE fs (cMv r ce o x args)) := by
  unfold cMv
  split
  · rename_i i hi
    obtain ⟨m, hk, hm⟩ := lookI_in hi
    have k := mthV_ok F hm
    split <;> simp only [dE, hk, dA]
    · exact se_meth0 k.ty k.pa k.sl k.hty k.sv (O.e _ _ _ F) (base_ok hn) hline
    · exact se_meth k.ty k.pa k.sl k.hty k.sv (O.e _ _ _ F) (cArgs_ok O F _) (base_ok hn) hp (Nat.blt_eq.mp hl) hline
  · exact se_no
theorem cMth_ok (O : r.Ok fs J) (F : Fits fs J ce X) {o : Expr} {x : Str} {args : List Expr} {apos cpos : Pos} (hp : plainArgs args = true) (hl : okLen args = true) (hn : notCall o = true) (hline : (apos.endLine == cpos.line) = true) :
    SE X J (.Call (.Attribute o x apos) args [] cpos) (dE fs (cMth r ce o x args)) := by
  unfold cMth
  split
  · split
    · split
      · rename_i i hi
        obtain ⟨m, hk, hm⟩ := lookI_in hi
        have k := mthF_ok F hm
        simp only [dE, hk]
        have hp' := hp
        simp only [plainArgs, Bool.and_eq_true] at hp'
        exact se_methF k.ty k.pa k.sl k.hty k.sv (O.e _ _ _ F) (O.l _ _ _ F) (base_ok hn) hp'.1 hline
      · exact cMv_ok O F hp hl hn hline
    · exact cMv_ok O F hp hl hn hline
  · exact cMv_ok O F hp hl hn hline
/-- a lambda handed to a def that hears -/
def noNm (x : Str) : Bool := !(x == ("__debug__" : Str))
def cLam (r : Rec) (ce : CE) (x : Str) (e : Expr) : IR := match e with
  | .Lambda ar b sc _ => match gM ce x, look ce.hrs x, arOf ar with
    | true, some q, some ow => match lmSB ce.N ce.sc sc ow && noNm x && noNm q.1 && !(q.1 == ("__classdict__" : Str)) with
      | true => .hear (r.E (ce.lam sc) b) q.2 ce.exm
      | false => .no
    | _, _, _ => .no
  | _ => .no
theorem cLam_ok (O : r.Ok fs J) (F : Fits fs J ce X) {x : Str} {e : Expr} {p pos : Pos} : SE X J (.Call (.Name x p) [e] [] pos) (dE fs (cLam r ce x e)) := by
  unfold cLam
  split
  · rename_i ar b sc lp
    split
    · rename_i q ow hg hl ha
      split
      · rename_i hh
        simp only [Bool.and_eq_true, noNm, Bool.not_eq_true'] at hh
        obtain ⟨⟨⟨h1, h2⟩, h3⟩, h4⟩ := hh
        obtain ⟨TT, k, c, P, j1, j2, hr, rm, tb, hc, hm, hu, sub⟩ := (F.hrs _ (look_in hl)).ex
        have L : LmS X.N X.env.scope sc ow := by
          rw [F.nN, F.sc]
          exact lmSB_ok h1
        exact se_hear F.js j1 j2 F.gd hr F.exm (gM_ok F hg).1 rm tb hc hm hu L ha (fun A outer s1 H1 E f c' g1 g2 => O.e _ _ _ { sub sc A outer s1 H1 E f c' g1 g2 with hrs := fun q hq => nomatch (show q ∈ ([] : List (Str × Str × List Hn)) from hq) }) h2 h3 h4
      · exact se_no
    · exact se_no
  · exact se_no
def isLam : List Expr → Option Expr
  | [.Lambda a b c d] => some (.Lambda a b c d)
  | _ => none
theorem isLam_eq {l : List Expr} {e : Expr} (h : isLam l = some e) : l = [e] := by
  unfold isLam at h
  split at h
  · cases h; rfl
  · cases h
/-- a call -/
def cCall (r : Rec) (ce : CE) (f : Expr) (args : List Expr) (kws : List Keyword) (pos : Pos) : IR := match kws with
  | _ :: _ => .no
  | [] => match plainArgs args with
    | false => .no
    | true => match f with
      | .Name x _ => match gM ce x with
        | false => .no
        | true => match isLam args with
          | some e => cLam r ce x e
          | none => match look ce.funs x with
            | some q => cFun r ce args q.1 q.2
            | none => match gB ce x with
              | true => cBlt r ce x args
              | false => .no
      | .Attribute o x apos => match okLen args && notCall o && (apos.endLine == pos.line) with
        | true => cMth r ce o x args
        | false => .no
      | _ => .no
theorem cCall_ok (O : r.Ok fs J) (F : Fits fs J ce X) (f : Expr) (args : List Expr) (kws : List Keyword) (pos : Pos) : SE X J (.Call f args kws pos) (dE fs (cCall r ce f args kws pos)) := by
  unfold cCall
  split
  · exact se_no
  · split
    · exact se_no
    · rename_i hp
      split
      · split
        · exact se_no
        · rename_i hg
          split
          · rename_i e he
            rw [isLam_eq he]
            exact cLam_ok O F
          · split
            · rename_i q hq
              exact cFun_ok O F hp hg hq
            · split
              · rename_i hb
                exact cBlt_ok O F hp hb
              · exact se_no
      · split
        · rename_i hh
          simp only [Bool.and_eq_true] at hh
          exact cMth_ok O F hp hh.1.1 hh.1.2 hh.2
        · exact se_no
      · exact se_no
/-! ### targets -/
def noStar : Expr → Bool
  | .Starred .. => false
  | _ => true
def noStars (es : List Expr) : Bool := es.all noStar
def tgsOf (f : Expr → Option IR) : List Expr → Option IR
  | [] => some .nil
  | e :: es => match f e, tgsOf f es with
    | some t, some ts => some (.cons t ts)
    | _, _ => none
def tgOf (ce : CE) : Nat → Expr → Option IR
  | 0, _ => none
  | n + 1, e => match e with
    | .Name x _ => (slotL ce x).map IR.var
    | .Tuple es _ _ => match noStars es with
      | true => (tgsOf (tgOf ce n) es).map IR.tup
      | false => none
    | _ => none
theorem each_cons {e : Expr} {es : List Expr} {env : Env} (h : noStar e = true) : assignEach (e :: es) env = (false, assign e env) :: assignEach es env := by
  cases e <;> first | rfl | cases h
theorem each_len {env : Env} : ∀ {es : List Expr}, noStars es = true → (assignEach es env).length = es.length ∧ (assignEach es env).findIdx? (·.1) = none
  | [], _ => ⟨rfl, rfl⟩
  | e :: es, h => by
    simp only [noStars, List.all_cons, Bool.and_eq_true] at h
    obtain ⟨a, b⟩ := each_len (env := env) (es := es) h.2
    rw [each_cons h.1]
    refine ⟨by simp [a], ?_⟩
    rw [List.findIdx?_cons]
    simp [b]
theorem tgs_pgs {f : Expr → Option IR} (hf : ∀ e t, f e = some t → PG X e (gOf X.K (tgD t))) : ∀ {es : List Expr} {ts : IR}, noStars es = true → tgsOf f es = some ts → PGs X es (gsOf X.K (tgsD ts)) ∧ (tgsD ts).length = es.length
  | [], ts, _, h => by
    simp only [tgsOf, Option.some.injEq] at h
    subst h
    exact ⟨pgs_nil, rfl⟩
  | e :: es, ts, hn, h => by
    simp only [noStars, List.all_cons, Bool.and_eq_true] at hn
    unfold tgsOf at h
    split at h
    · rename_i t ts' h1 h2
      cases h
      obtain ⟨a, b⟩ := tgs_pgs hf hn.2 h2
      refine ⟨?_, by simp [tgsD, b]⟩
      simp only [tgsD]
      unfold gsOf
      exact pgs_cons (hf e t h1) a (by rw [each_cons hn.1]; rfl)
    · cases h
theorem tgOf_ok (F : Fits fs J ce X) : ∀ (n : Nat) (e : Expr) (t : IR), tgOf ce n e = some t → PG X e (gOf X.K (tgD t))
  | 0, e, t, h => by cases h
  | n + 1, e, t, h => by
    unfold tgOf at h
    split at h
    · rename_i x p
      cases hs : slotL ce x with
      | none => rw [hs] at h; cases h
      | some i =>
        rw [hs] at h
        cases h
        obtain ⟨a, b, c⟩ := slotL_ok F hs
        simp only [tgD, gOf]
        exact pg_name (by rw [F.nN]; exact F.nd) a b c
    · rename_i es k p
      split at h
      · rename_i hn
        cases hs : tgsOf (tgOf ce n) es with
        | none => rw [hs] at h; cases h
        | some ts =>
          rw [hs] at h
          cases h
          obtain ⟨a, b⟩ := tgs_pgs (tgOf_ok F n) hn hs
          obtain ⟨c, d⟩ := each_len (env := X.env) hn
          simp only [tgD, gOf]
          exact pg_tup F.calm a (by rw [c, b]) d
      · cases h
    · cases h

/-! ### what is walked -/
def isTupE : Expr → Bool
  | .Tuple .. => true
  | _ => false
def cItV (r : Rec) (ce : CE) (iter : Expr) : IR := match isFresh 9 iter with
  | true => .itN (r.L ce iter)
  | false => .itV (r.E ce iter)
theorem cItV_ok (O : r.Ok fs J) (F : Fits fs J ce X) (tge iter : Expr) : SI X J tge iter (dI fs (cItV r ce iter)) := by
  unfold cItV
  split
  · exact si_new (O.l _ _ _ F)
  · exact si_val (O.e _ _ _ F)
inductive ItK where
  | rng1 (a : Expr)
  | rng2 (a b : Expr)
  | zip (a b : Expr)
  | enm (a : Expr)
  | val
def itK (ce : CE) (tge iter : Expr) : ItK := match iter with
  | .Call (.Name x _) args [] _ => match gB ce x && plainArgs args with
    | true => match decide (x = ("range" : Str)), args with
      | true, [a] => .rng1 a
      | true, [a, b] => .rng2 a b
      | _, _ => match decide (x = ("zip" : Str)), args, isTupE tge with
        | true, [a, b], true => .zip a b
        | _, _, _ => match decide (x = ("enumerate" : Str)), args, isTupE tge with
          | true, [a], true => .enm a
          | _, _, _ => .val
    | false => .val
  | _ => .val
def cIt (r : Rec) (ce : CE) (tge iter : Expr) : IR := match itK ce tge iter with
  | .rng1 a => .rng1 (cArgs r ce [a])
  | .rng2 a b => .rng2 (cArgs r ce [a, b])
  | .zip a b => .zip (cArgs r ce [a, b])
  | .enm a => .enum (cX r ce a)
  | .val => cItV r ce iter
theorem cIt_ok (O : r.Ok fs J) (F : Fits fs J ce X) (tge iter : Expr) : SI X J tge iter (dI fs (cIt r ce tge iter)) := by
  unfold cIt
  cases hk : itK ce tge iter with
  | val => exact cItV_ok O F tge iter
  | rng1 a =>
    unfold itK at hk
    split at hk
    · rename_i x p args pos
      split at hk
      · rename_i hh
        simp only [Bool.and_eq_true] at hh
        obtain ⟨g1, g2, g3, g4⟩ := gB_ok F hh.1
        split at hk
        · rename_i a' hx
          cases hk
          rw [decide_eq_true_eq] at hx
          subst hx
          have hp := hh.2
          simp only [plainArgs, Bool.and_eq_true] at hp
          exact si_range1 g1 g2 (cArgs_ok O F _) (by rw [star_cons hp.1]; rfl)
        · cases hk
        · split at hk
          · cases hk
          · split at hk <;> cases hk
      · cases hk
    · cases hk
  | rng2 a b =>
    unfold itK at hk
    split at hk
    · rename_i x p args pos
      split at hk
      · rename_i hh
        simp only [Bool.and_eq_true] at hh
        obtain ⟨g1, g2, g3, g4⟩ := gB_ok F hh.1
        split at hk
        · cases hk
        · rename_i hx
          cases hk
          rw [decide_eq_true_eq] at hx
          subst hx
          have hp := hh.2
          simp only [plainArgs, Bool.and_eq_true] at hp
          exact si_range2 g1 g2 (cArgs_ok O F _) (by rw [star_cons hp.1, star_cons hp.2.1]; rfl) (by rw [star_cons hp.2.1]; rfl)
        · split at hk
          · cases hk
          · split at hk <;> cases hk
      · cases hk
    · cases hk
  | zip a b =>
    unfold itK at hk
    split at hk
    · rename_i x p args pos
      split at hk
      · rename_i hh
        simp only [Bool.and_eq_true] at hh
        obtain ⟨g1, g2, g3, g4⟩ := gB_ok F hh.1
        split at hk
        · cases hk
        · cases hk
        · split at hk
          · rename_i hx ht _ _
            cases hk
            have hx := of_decide_eq_true hx
            subst hx
            have hp := hh.2
            simp only [plainArgs, Bool.and_eq_true] at hp
            cases tge with
            | Tuple elts kk tpos => exact si_zipT F.js g1 g2 (cArgs_ok O F _) (star_cons hp.1) (star_any (by simp only [plainArgs, Bool.and_eq_true]; exact hp.2))
            | _ => cases ht
          · split at hk <;> cases hk
      · cases hk
    · cases hk
  | enm a =>
    unfold itK at hk
    split at hk
    · rename_i x p args pos
      split at hk
      · rename_i hh
        simp only [Bool.and_eq_true] at hh
        obtain ⟨g1, g2, g3, g4⟩ := gB_ok F hh.1
        split at hk
        · cases hk
        · cases hk
        · split at hk
          · cases hk
          · split at hk
            · rename_i hx ht _ _ _
              cases hk
              have hx := of_decide_eq_true hx
              subst hx
              have hp := hh.2
              simp only [plainArgs, Bool.and_eq_true] at hp
              cases tge with
              | Tuple elts kk tpos => exact si_alt (si_enum F.js g1 g2 (cX_ok O F _) hp.1) (si_enumT F.js g1 g2 (cX_ok O F _) hp.1)
              | _ => cases ht
            · cases hk
      · cases hk
    · cases hk
def notSet : Expr → Bool
  | .Set .. => false
  | _ => true
theorem notSet_ok {iter : Expr} {env : Env} (h : notSet iter = true) : ∀ x, foldedSetIterable iter env x = pure x := by
  intro x
  unfold foldedSetIterable
  cases iter <;> first | rfl | cases h

/-! ### comprehensions -/
def ownOf (N : List Str) (names : List (Str × NameKind)) : List (Str × Nat) := names.filterMap fun y => match isLoc (some y.2) with
  | true => (ixOf N y.1 0).map fun i => (y.1, i)
  | false => none
def isFnK : ScopeKind → Bool
  | .function => true
  | _ => false
def blkB (N : List Str) (sc scope : Scope) : Bool := isFnK scope.kind && scope.names.all (fun y => decide (scope.names.lookup y.1 = some y.2)) &&
  scope.names.all fun y => match y.2 with
    | .free => match sc.names.lookup y.1 with
      | some .cell => true
      | some .free => true
      | _ => false
    | _ => true
theorem ixOf_none {x : Str} : ∀ {N : List Str} {k : Nat}, ixOf N x k = none → x ∉ N
  | [], _, _ => by simp
  | y :: r, k, h => by
    unfold ixOf at h
    by_cases e : y = x
    · rw [decide_eq_true e] at h; cases h
    · rw [decide_eq_false e] at h
      simp only [List.mem_cons, not_or]
      exact ⟨fun z => e z.symm, ixOf_none h⟩
theorem blkB_ok {N : List Str} {sc scope : Scope} (h : blkB N sc scope = true) : BlkOk N sc scope (ownOf N scope.names) := by
  simp only [blkB, Bool.and_eq_true, List.all_eq_true, decide_eq_true_eq] at h
  obtain ⟨⟨h1, h2⟩, h3⟩ := h
  refine ⟨?_, h2, fun p hp => ?_, fun y hy e => ?_, fun y hy e => ?_⟩
  · cases hk : scope.kind <;> rw [hk] at h1 <;> first | rfl | cases h1
  · simp only [ownOf, List.mem_filterMap] at hp
    obtain ⟨y, hy, he⟩ := hp
    split at he
    · cases hi : ixOf N y.1 0 with
      | none => rw [hi] at he; cases he
      | some i =>
        rw [hi] at he
        cases he
        obtain ⟨j, e1, e2⟩ := ixOf_get hi
        have : i = j := by omega
        rw [this]
        exact e2
    · cases he
  · have := h3 y hy
    rw [e] at this
    cases hl : sc.names.lookup y.1 with
    | none => rw [hl] at this; cases this
    | some k => rw [hl] at this; cases k <;> first | exact .inl rfl | exact .inr rfl | cases this
  · have hl : isLoc (some y.2) = true := by rcases e with e | e <;> rw [e] <;> rfl
    cases hi : ixOf N y.1 0 with
    | none => exact .inr (ixOf_none hi)
    | some i =>
      refine .inl ?_
      simp only [ownOf, List.mem_map, List.mem_filterMap]
      exact ⟨(y.1, i), ⟨y, hy, by rw [hl, hi]; rfl⟩, rfl⟩
def cIfs (r : Rec) (ce : CE) : List Expr → IR
  | [] => .tru
  | [c] => r.T ce c
  | _ => .no
theorem cIfs_ok (O : r.Ok fs J) (F : Fits fs J ce X) : ∀ es, SF X J es (dT fs (cIfs r ce es))
  | [] => sf_nil
  | [c] => sf_one (O.t _ _ _ F)
  | _ :: _ :: _ => sf_no
structure LcI where
  tge : Expr
  iter : Expr
  ifs : List Expr
  tg : IR
def lcI (ce : CE) (gs : List Comprehension) (scope : Scope) : Option LcI := match gs with
  | [g] => match decide (g.is_async = 0) && blkB ce.N ce.sc scope && notSet g.iter with
    | true => match tgOf (ce.blk scope) 5 g.target with
      | some tg => match tgIn ((ownOf ce.N scope.names).map (·.2)) (tgD tg) with
        | true => some ⟨g.target, g.iter, g.ifs, tg⟩
        | false => none
      | none => none
    | false => none
  | _ => none
def cLc (r : Rec) (ce : CE) (elt : Expr) (gs : List Comprehension) (scope : Scope) : IR := match lcI ce gs scope with
  | some l => .lc (cIt r ce l.tge l.iter) l.tg (cIfs r (ce.blk scope) l.ifs) (r.E (ce.blk scope) elt) ((ownOf ce.N scope.names).map (·.2))
  | none => .no
def isVal : ItK → Bool
  | .val => true
  | _ => false
/-- .. with a lock where a dict is walked -/
def cLcV (r : Rec) (ce : CE) (elt : Expr) (gs : List Comprehension) (scope : Scope) : IR := match lcI ce gs scope with
  | some l => match isVal (itK ce l.tge l.iter) && !isFresh 9 l.iter with
    | true => .lcV (r.E ce l.iter) l.tg (cIfs r (ce.blk scope) l.ifs) (r.E (ce.blk scope) elt) ((ownOf ce.N scope.names).map (·.2))
    | false => .lc (cIt r ce l.tge l.iter) l.tg (cIfs r (ce.blk scope) l.ifs) (r.E (ce.blk scope) elt) ((ownOf ce.N scope.names).map (·.2))
  | none => .no
structure LcOk (fs : Nat → Sm) (X : Cx) (J : Hp → Prop) (ce : CE) (r : Rec) (elt : Expr) (scope : Scope) (gs : List Comprehension) (l : LcI) : Prop where
  gs : gs = [⟨l.tge, l.iter, l.ifs, 0⟩]
  it : SI X J l.tge l.iter (dI fs (cIt r ce l.tge l.iter))
  ok : BlkOk X.N X.env.scope scope (ownOf ce.N scope.names)
  hv : tgIn ((ownOf ce.N scope.names).map (·.2)) (tgD l.tg) = true
  hg : Blk X scope fun Y => PG Y l.tge (gOf X.K (tgD l.tg))
  ht : Blk X scope fun Y => SF Y J l.ifs (dT fs (cIfs r (ce.blk scope) l.ifs))
  he : Blk X scope fun Y => SE Y J elt (dE fs (r.E (ce.blk scope) elt))
  hs : ∀ x, foldedSetIterable l.iter X.env x = pure x
theorem lcI_ok (O : r.Ok fs J) (F : Fits fs J ce X) {elt : Expr} {gs : List Comprehension} {scope : Scope} {l : LcI} (h : lcI ce gs scope = some l) : LcOk fs X J ce r elt scope gs l := by
  unfold lcI at h
  split at h
  · rename_i g
    split at h
    · rename_i hh
      simp only [Bool.and_eq_true, decide_eq_true_eq] at hh
      split at h
      · rename_i tg htg
        split at h
        · rename_i hv
          cases h
          refine ⟨?_, cIt_ok O F _ _, ?_, hv, ?_, ?_, ?_, notSet_ok hh.2⟩
          · obtain ⟨a, b, c, d⟩ := g
            simp only at hh
            rw [hh.1.1]
          · rw [F.nN, F.sc]; exact blkB_ok hh.1.2
          · intro s H C cl fp
            exact tgOf_ok (F.blk scope s H C cl fp) 5 _ _ htg
          · intro s H C cl fp
            exact cIfs_ok O (F.blk scope s H C cl fp) _
          · intro s H C cl fp
            exact O.e _ _ _ (F.blk scope s H C cl fp)
        · cases h
      · cases h
    · cases h
  · cases h
theorem cLc_ok (O : r.Ok fs J) (F : Fits fs J ce X) (elt : Expr) (gs : List Comprehension) (scope : Scope) (pos : Pos) : SL X J (.ListComp elt gs scope pos) (dL fs (cLc r ce elt gs scope)) := by
  unfold cLc
  split
  · rename_i l hl
    have k := lcI_ok (elt := elt) O F hl
    rw [k.gs]
    exact sl_lc F.js F.calm (by rw [F.nN]; exact F.nd) k.it k.ok k.hv k.hg k.ht k.he k.hs
  · exact sl_no
theorem cLcV_ok (O : r.Ok fs J) (F : Fits fs J ce X) (elt : Expr) (gs : List Comprehension) (scope : Scope) (pos : Pos) : SL X J (.ListComp elt gs scope pos) (dL fs (cLcV r ce elt gs scope)) := by
  have nd : X.N.Nodup := by rw [F.nN]; exact F.nd
  unfold cLcV
  split
  · rename_i l hl
    have k := lcI_ok (elt := elt) O F hl
    rw [k.gs]
    split
    · exact sl_pick (sl_lock F.js (sl_lc F.js F.calm nd (si_keys (O.e _ _ _ F)) k.ok k.hv k.hg k.ht k.he k.hs)) (sl_lc F.js F.calm nd (si_val (O.e _ _ _ F)) k.ok k.hv k.hg k.ht k.he k.hs)
    · exact sl_lc F.js F.calm nd k.it k.ok k.hv k.hg k.ht k.he k.hs
  · exact sl_no

/-! ### lists -/
theorem sl_if {c a b : Expr} {pos : Pos} {mc : M Bool} {ma mb : M (List D)} (Sc : STt X J c mc) (Sa : SL X J a ma) (Sb : SL X J b mb) : SL X J (.IfExp c a b pos) (mIfL mc ma mb) := by
  intro R env st σ H out Q E h g r t o
  refine sem_of (pe_ifExp pt_sem pe_sem pe_sem) ?_
  refine st_then Sc h g r t o fun R1 st1 H1 k e1 g1 r1 h1 o1 => ?_
  have o2 : OkO X.K J R1 H1 (relL X.K H1) Q E out := by
    cases out with
    | ok a st' => exact fun R2 H2 v e2 g2 rl => o1 R2 H2 v e2 g2 (by
        obtain ⟨p, xs, e1', hp, rest⟩ := rl
        exact ⟨p, xs, e1', none_back e1 hp, rest⟩)
    | exc x st' => exact o1
  cases k with
  | true => rw [if_pos rfl]; exact Sa R1 env st1 σ H1 out Q E h1 g1 r1 t o2
  | false => rw [if_neg Bool.false_ne_true]; exact Sb R1 env st1 σ H1 out Q E h1 g1 r1 t o2
/-- sorted(set(b)) -/
def setArg (ce : CE) (x : Str) (a : Expr) : Option Expr := match a with
  | .Call (.Name y _) [b] [] _ => match (x == ("sorted" : Str)) && gB ce x && (y == ("set" : Str)) && gB ce y && plainArg b with
    | true => some b
    | false => none
  | _ => none
theorem setArg_ok (O : r.Ok fs J) (F : Fits fs J ce X) {x : Str} {a b : Expr} {p pos : Pos} (h : setArg ce x a = some b) : SL X J (.Call (.Name x p) [a] [] pos) (dL fs (.sset (cX r ce b))) := by
  unfold setArg at h
  split at h
  · rename_i y p1 b' p2
    split at h
    · rename_i hh
      cases h
      simp only [Bool.and_eq_true] at hh
      obtain ⟨⟨⟨⟨e1, h1⟩, e2⟩, h2⟩, h3⟩ := hh
      obtain rfl := eq_of_beq e1
      obtain rfl := eq_of_beq e2
      obtain ⟨g1, g2, g3, g4⟩ := gB_ok F h1
      obtain ⟨k1, k2, k3, k4⟩ := gB_ok F h2
      exact sl_sset F.js F.calm g1 g2 k1 k2 rfl rfl g4 k4 g3 k3 (cX_ok O F b) h3
    · cases h
  · cases h
def cBltL (r : Rec) (ce : CE) (x : Str) (a : Expr) : IR := match setArg ce x a with
  | some b => .sset (cX r ce b)
  | none => match gB ce x && plainArg a with
    | true => match lookI bltL x 0 with
      | some k => .bL k (cX r ce a)
      | none => .no
    | false => .no
theorem cBltL_ok (O : r.Ok fs J) (F : Fits fs J ce X) {x : Str} {a : Expr} {p pos : Pos} : SL X J (.Call (.Name x p) [a] [] pos) (dL fs (cBltL r ce x a)) := by
  unfold cBltL
  split
  · rename_i b hb
    exact setArg_ok O F hb
  split
  · rename_i hh
    simp only [Bool.and_eq_true] at hh
    obtain ⟨g1, g2, g3, g4⟩ := gB_ok F hh.1
    split
    · rename_i k hf
      obtain ⟨f, hk, hm⟩ := lookI_in hf
      simp only [dL, hk]
      rcases bltL_ok F hm with ⟨id, h1, h2⟩ | ⟨T, h1, h2⟩
      · exact sl_blt h2 g1 g2 h1 (cX_ok O F a) g4 g3 hh.2
      · exact sl_blty h2 g1 g2 h1 (cX_ok O F a) g4 g3 hh.2
    · exact sl_no
  · exact sl_no
def compL (r : Rec) (ce : CE) (e : Expr) : IR := match e with
  | .List es _ => .lst (cArgs r ce es)
  | .ListComp elt gs scope _ => cLcV r ce elt gs scope
  | .BinOp a .Add b _ => .cat (cX r ce a) (cX r ce b)
  | .BinOp a .Mult b _ => .rep (cX r ce a) (r.E ce b)
  | .IfExp c a b _ => .ifL (r.T ce c) (r.L ce a) (r.L ce b)
  | .Call (.Name x _) [a] [] _ => cBltL r ce x a
  | _ => .no
theorem compL_ok (O : r.Ok fs J) (F : Fits fs J ce X) (e : Expr) : SL X J e (dL fs (compL r ce e)) := by
  unfold compL
  split
  · exact sl_lst F.js (cArgs_ok O F _)
  · exact cLcV_ok O F _ _ _ _
  · exact sl_cat F.js (cX_ok O F _) (cX_ok O F _)
  · exact sl_rep F.js (cX_ok O F _) (O.e _ _ _ F)
  · exact sl_if (O.t _ _ _ F) (O.l _ _ _ F) (O.l _ _ _ F)
  · exact cBltL_ok O F
  · exact sl_no

/-! ### values -/
def cConst : Const → IR
  | .int i => .int i
  | .bool b => .bl b
  | .str s => .str s
  | .none => .non
  | _ => .no
theorem cConst_ok (c : Const) (j : Nat) (pos : Pos) : SE X J (.Constant c j pos) (dE fs (cConst c)) := by
  cases c <;> first | exact se_int | exact se_bl | exact se_str | exact se_non | exact se_no
def cBin (r : Rec) (ce : CE) (a : Expr) (op : Operator) (b : Expr) : IR := .op2 op (r.E ce a) (r.E ce b)
def cUn (r : Rec) (ce : CE) (op : UnaryOp) (a : Expr) : IR := match op with
  | .Not => .notV (r.E ce a)
  | .USub => .neg (r.E ce a)
  | _ => .no
def cVal (r : Rec) (ce : CE) (e : Expr) : IR := match e with
  | .Constant c _ _ => cConst c
  | .Name x _ => cName ce x
  | .BinOp a op b _ => cBin r ce a op b
  | .Compare a ops bs _ => cCmp r ce a ops bs
  | .BoolOp op es _ => vBool r ce op es
  | .UnaryOp op a _ => cUn r ce op a
  | .IfExp c a b _ => .ifE (r.T ce c) (r.E ce a) (r.E ce b)
  | .Tuple es _ _ => .tup (cArgs r ce es)
  | .Dict [] [] _ => .dict0
  | .Dict ks vs _ => match keysE ks with
    | some kk => match Nat.beq ks.length vs.length && Nat.blt 0 ks.length && Nat.ble ks.length 15 && plainArgs vs with
      | true => .disp kk (cArgs r ce vs)
      | false => .no
    | none => .no
  | .Subscript a b _ => cSub r ce a b
  | .Call f args kws pos => cCall r ce f args kws pos
  | _ => .no
theorem cVal_ok (O : r.Ok fs J) (F : Fits fs J ce X) (e : Expr) : SE X J e (dE fs (cVal r ce e)) := by
  unfold cVal
  split
  · exact cConst_ok _ _ _
  · exact cName_ok F
  · unfold cBin
    simp only [dE]
    split
    · rename_i f hf
      exact se_op (binF_ok F hf) (O.e _ _ _ F) (O.e _ _ _ F)
    · exact se_no
  · exact cCmp_ok O F _ _ _ _
  · exact vBool_ok O F _ _ _
  · unfold cUn
    split
    · exact se_not (O.e _ _ _ F)
    · exact se_neg (O.e _ _ _ F)
    · exact se_no
  · exact se_if (O.t _ _ _ F) (O.e _ _ _ F) (O.e _ _ _ F)
  · exact se_tup F.js (cArgs_ok O F _)
  · exact se_dict0 F.js
  · split
    · rename_i kk hk
      split
      · rename_i hh
        simp only [Bool.and_eq_true] at hh
        refine se_disp F.js hk (Nat.eq_of_beq_eq_true hh.1.1.1) (fun z => ?_) (Nat.le_of_ble_eq_true hh.1.2) (cVals_ok O F hh.2)
        rw [z] at hh
        exact absurd hh.1.1.2 (by decide)
      · exact se_no
    · exact se_no
  · exact cSub_ok O F _ _ _
  · exact cCall_ok O F _ _ _ _
  · exact se_no
def compE (r : Rec) (ce : CE) (e : Expr) : IR := match isFresh 9 e with
  | true => .keep (compL r ce e)
  | false => cVal r ce e
theorem compE_ok (O : r.Ok fs J) (F : Fits fs J ce X) (e : Expr) : SE X J e (dE fs (compE r ce e)) := by
  unfold compE
  split
  · exact se_keep (compL_ok O F e)
  · exact cVal_ok O F e
def compT (r : Rec) (ce : CE) (e : Expr) : IR := match e with
  | .Compare a ops bs _ => .tst (cCmp r ce a ops bs)
  | .BoolOp op es _ => tBool r ce op es
  | .UnaryOp .Not a _ => .notT (r.T ce a)
  | e => match plainTest e with
    | true => .tst (compE r ce e)
    | false => .no
theorem compT_ok (O : r.Ok fs J) (F : Fits fs J ce X) (e : Expr) : STt X J e (dT fs (compT r ce e)) := by
  unfold compT
  split
  · exact tCmp_ok O F _ _ _ _
  · exact stw_pt (tBool_ok O F _ _ _)
  · exact st_not (O.t _ _ _ F)
  · split
    · rename_i h
      exact st_val (compE_ok O F _) (plainTest_ok h)
    · exact st_no
theorem ss_par3 {i j l : Nat} {x y z : Str} {a b c : Expr} {px py pz pt pos : Pos} {kt k2 : Nat} {pt2 : Pos} {m : M (List D)} (hc : X.calm = true) (hN : X.N.Nodup) (hi : X.N[i]? = some x) (hj : X.N[j]? = some y) (hl : X.N[l]? = some z) (hij : i ≠ j) (hil : i ≠ l) (hjl : j ≠ l)
    (hx : X.env.scope.names.lookup x = some .local) (hy : X.env.scope.names.lookup y = some .local) (hz : X.env.scope.names.lookup z = some .local) (S : SA X J [a, b, c] m)
    (hw : swappedStores [.Tuple [.Name x px, .Name y py, .Name z pz] kt pt] (.Tuple [a, b, c] k2 pt2) X.env = pure (some [x, y, z])) :
    SS X J (.Assign [.Tuple [.Name x px, .Name y py, .Name z pz] kt pt] (.Tuple [a, b, c] k2 pt2) pos) (sPar3 i j l m) := by
  intro R env st σ H out De E h g r t o
  refine sem_ofS (L2.ps_par3 hc hN hi hj hl hij hil hjl hx hy hz pa_sem hw rfl) ?_
  refine sa_thenS S h g r t o fun R1 st1 H1 ds vs e1 g1 r1 rd h1 o1 => ?_
  match ds, h1, rd with
  | [a, b, c], h1, rd =>
    cases h1
    simp only [RelDs] at rd
    obtain ⟨v, ws, rfl, ra, w, zs, rfl, rb, u, qs, rfl, rc, rfl⟩ := rd
    exact ⟨v, w, u, rfl, o1 R1 H1 _ Ex.refl g1 (((r1.set ra).set rb).set rc)⟩
  | [], h1, _ => cases h1
  | [_], h1, _ => cases h1
  | [_, _], h1, _ => cases h1
  | _ :: _ :: _ :: _ :: _, h1, _ => cases h1

/-! ### name = value -/
def isLcE : Expr → Bool
  | .ListComp .. => true
  | _ => false
/-- the store of a comprehension's value goes by the comprehension -/
def swB (sc : Scope) (x : Str) (py pos : Pos) (scope : Scope) : Bool := decide (sc.names.lookup x = some .local) && (py.line == pos.line) && !(scope.names.any fun (n, k) => n == x && (k == .local || k == .cell))
theorem swB_true {sc scope : Scope} {x : Str} {py pos : Pos} {elt : Expr} {gs : List Comprehension} {l : Nat} {env : Env} (hk : env.scope.kind = .function) (hs : env.scope = sc) (h : swB sc x py pos scope = true) : env.scope.names.lookup x = some .local ∧ swapsWith (.ListComp elt gs scope pos) (some (.Name x py)) l env = pure true := by
  simp only [swB, Bool.and_eq_true, decide_eq_true_eq, Bool.not_eq_true'] at h
  rw [← hs] at h
  exact ⟨h.1.1, sw_true hk h.1.1 h.1.2 h.2⟩
theorem swB_false {sc scope : Scope} {x : Str} {py pos : Pos} {elt : Expr} {gs : List Comprehension} {l : Nat} {env : Env} (hs : env.scope = sc) (h : swB sc x py pos scope = false) : swapsWith (.ListComp elt gs scope pos) (some (.Name x py)) l env = pure false := by
  unfold swapsWith
  simp only [Env.kindOf, hs, Expr.pos]
  have : (env.blockKind == ScopeKind.function && List.lookup x sc.names == some NameKind.local && py.line == pos.line && !scope.names.any fun x_1 => x_1.fst == x && (x_1.snd == NameKind.local || x_1.snd == NameKind.cell)) = false := by
    unfold swB at h
    have e : (List.lookup x sc.names == some NameKind.local) = decide (List.lookup x sc.names = some NameKind.local) := by
      by_cases z : List.lookup x sc.names = some NameKind.local
      · rw [z]; rfl
      · rw [decide_eq_false z]; exact beq_eq_false_iff_ne.mpr z
    rw [e, Bool.and_assoc, Bool.and_assoc, ← Bool.and_assoc (decide _), h, Bool.and_false]
  rw [this]
def cSetN (r : Rec) (ce : CE) (x : Str) (py : Pos) (e : Expr) : IR := match slotL ce x with
  | none => .no
  | some i => match e with
    | .ListComp elt gs scope pos => match swB ce.sc x py pos scope with
      | true => .set i (.keep (cLc r ce elt gs scope))
      | false => .set i (.keep (cLcV r ce elt gs scope))
    | e => match isComp e with
      | true => .no
      | false => .set i (r.E ce e)
theorem cSetN_ok (O : r.Ok fs J) (F : Fits fs J ce X) (hk : X.env.scope.kind = .function) (x : Str) (py : Pos) (e : Expr) (pos : Pos) : SS X J (.Assign [.Name x py] e pos) (dS fs (cSetN r ce x py e)) := by
  have nd : X.N.Nodup := by rw [F.nN]; exact F.nd
  unfold cSetN
  split
  · exact ss_no
  · rename_i i hi
    obtain ⟨h1, h2, h3⟩ := slotL_ok F hi
    split
    · rename_i elt gs scope p2
      cases hs : swB ce.sc x py p2 scope with
      | true =>
        obtain ⟨hl, hsw⟩ := swB_true (elt := elt) (gs := gs) (l := pos.line) hk F.sc hs
        show SS X J _ (sSet i (mKeep (dL fs (cLc r ce elt gs scope))))
        unfold cLc
        split
        · rename_i l hl'
          have k := lcI_ok (elt := elt) O F hl'
          rw [k.gs] at hsw ⊢
          exact ss_setLc F.js F.calm nd h1 hl hsw k.it k.ok k.hv k.hg k.ht k.he k.hs
        · intro R env st σ H out De E h
          cases h
      | false =>
        exact ss_set nd h1 h2 (se_keep (cLcV_ok O F _ _ _ _)) (swB_false F.sc hs) h3
    · split
      · exact ss_no
      · rename_i hc
        exact ss_set nd h1 h2 (O.e _ _ _ F) (noSwap hc) h3

/-! ### names = values -/
def lcl (ce : CE) (x : Str) : Option Nat := match decide (kindE ce x = some .local) with
  | true => ixOf ce.N x 0
  | false => none
theorem lcl_ok {x : Str} {i : Nat} (F : Fits fs J ce X) (h : lcl ce x = some i) : X.N[i]? = some x ∧ X.env.scope.names.lookup x = some .local := by
  unfold lcl at h
  split at h
  · rename_i hh
    obtain ⟨j, e1, e2⟩ := ixOf_get h
    have : i = j := by omega
    subst this
    rw [F.nN, F.sc]
    exact ⟨e2, of_decide_eq_true hh⟩
  · cases h
/-- how the stores of a display go -/
inductive SwK where
  | two (x y : Str) (a b : Expr) (i j : Nat)
  | three (x y z : Str) (a b c : Expr) (i j l : Nat)
  | plain
  | no
def dup (l : List Str) : Bool := l.eraseDups.length != l.length
def swNames (ce : CE) (ts : List Expr) : List Str := ts.filterMap fun
    | .Name id pos => if (kindE ce id == some .local && pos.line == (ts.head?.map (·.pos.line)).getD 0) = true then some id else none
    | _ => none
/-- as the model decides: none: stored in order; some false: not covered; some true: swapped -/
def swWay (ce : CE) (ts vs : List Expr) : Option Bool := match !(ts.length == 2 || ts.length == 3) || vs.length != ts.length with
  | true => none
  | false => match vs.any fun | .Starred .. => true | _ => false with
    | true => none
    | false => match (swNames ce ts).length != ts.length || dup (swNames ce ts) with
      | true => none
      | false => match vs.all (foldedForSure 8) with
        | true => none
        | false => match vs.all (constantsAlone 8) with
          | true => some false
          | false => some true
theorem blockKind_fn {env : Env} (hk : env.scope.kind = .function) : (env.blockKind != ScopeKind.function) = false := by
  unfold Env.blockKind
  rw [hk]
  rfl
theorem swWay_none {ts vs : List Expr} {k k2 : Nat} {p p2 : Pos} (F : Fits fs J ce X) (hk : X.env.scope.kind = .function) (h : swWay ce ts vs = none) : swappedStores [.Tuple ts k p] (.Tuple vs k2 p2) X.env = pure none := by
  have hn : (ts.filterMap fun
    | .Name id pos => if (X.env.kindOf id == some .local && pos.line == (ts.head?.map (·.pos.line)).getD 0) = true then some id else none
    | _ => none) = swNames ce ts := by
    unfold swNames kindE Env.kindOf
    rw [F.sc]
  unfold swappedStores
  simp only [pure_bind]
  unfold swWay at h
  rw [blockKind_fn hk, Bool.or_false]
  split at h
  · rename_i a; rw [a]; rfl
  · rename_i a
    rw [a]
    simp only [Bool.false_eq_true, if_false]
    split at h
    · rename_i b
      erw [b]; rfl
    · rename_i b
      erw [b]
      simp only [Bool.false_eq_true, if_false]
      erw [hn]
      split at h
      · rename_i c
        erw [c]; rfl
      · rename_i c
        erw [c]
        simp only [Bool.false_eq_true, if_false]
        split at h
        · rename_i d
          rw [d]; rfl
        · split at h <;> cases h
theorem swWay_some {ts vs : List Expr} {k k2 : Nat} {p p2 : Pos} (F : Fits fs J ce X) (hk : X.env.scope.kind = .function) (h : swWay ce ts vs = some true) : swappedStores [.Tuple ts k p] (.Tuple vs k2 p2) X.env = pure (some (swNames ce ts)) := by
  have hn : (ts.filterMap fun
    | .Name id pos => if (X.env.kindOf id == some .local && pos.line == (ts.head?.map (·.pos.line)).getD 0) = true then some id else none
    | _ => none) = swNames ce ts := by
    unfold swNames kindE Env.kindOf
    rw [F.sc]
  unfold swappedStores
  simp only [pure_bind]
  unfold swWay at h
  rw [blockKind_fn hk, Bool.or_false]
  split at h
  · cases h
  · rename_i a
    rw [a]
    simp only [Bool.false_eq_true, if_false]
    split at h
    · cases h
    · rename_i b
      erw [b]
      simp only [Bool.false_eq_true, if_false]
      erw [hn]
      split at h
      · cases h
      · rename_i c
        erw [c]
        simp only [Bool.false_eq_true, if_false]
        split at h
        · cases h
        · rename_i d
          rw [d]
          simp only [Bool.false_eq_true, if_false]
          split at h
          · cases h
          · rename_i e
            rw [e]
            rfl
def nmOf : Expr → Option Str
  | .Name x _ => some x
  | _ => none
def cPar (r : Rec) (ce : CE) (ts vs : List Expr) (k : Nat) (p : Pos) (e : Expr) : IR := match swWay ce ts vs with
  | none => match tgOf ce 5 (.Tuple ts k p) with
    | some tg => .tgt tg (r.E ce e)
    | none => .no
  | some false => .no
  | some true => match ts, vs with
    | [.Name x _, .Name y _], [a, b] => match lcl ce x, lcl ce y with
      | some i, some j => match !(i == j) && decide (swNames ce ts = [x, y]) with
        | true => .par2 i j (cArgs r ce [a, b])
        | false => .no
      | _, _ => .no
    | [.Name x _, .Name y _, .Name z _], [a, b, c] => match lcl ce x, lcl ce y, lcl ce z with
      | some i, some j, some l => match !(i == j) && !(i == l) && !(j == l) && decide (swNames ce ts = [x, y, z]) with
        | true => .par3 i j l (cArgs r ce [a, b, c])
        | false => .no
      | _, _, _ => .no
    | _, _ => .no
theorem cPar_ok (O : r.Ok fs J) (F : Fits fs J ce X) (hk : X.env.scope.kind = .function) (ts vs : List Expr) (k k2 : Nat) (p p2 pos : Pos) : SS X J (.Assign [.Tuple ts k p] (.Tuple vs k2 p2) pos) (dS fs (cPar r ce ts vs k p (.Tuple vs k2 p2))) := by
  have nd : X.N.Nodup := by rw [F.nN]; exact F.nd
  unfold cPar
  split
  · rename_i hw
    split
    · rename_i tg ht
      exact ss_tgt (tgOf_ok F 5 _ _ ht) (O.e _ _ _ F) rfl (swWay_none F hk hw) rfl
    · exact ss_no
  · exact ss_no
  · rename_i hw
    split
    · split
      · rename_i i j hi hj
        split
        · rename_i hh
          simp only [Bool.and_eq_true, Bool.not_eq_true', beq_eq_false_iff_ne, decide_eq_true_eq] at hh
          obtain ⟨a1, a2⟩ := lcl_ok F hi
          obtain ⟨b1, b2⟩ := lcl_ok F hj
          exact ss_par F.calm nd a1 b1 hh.1 a2 b2 (cArgs_ok O F _) (by rw [swWay_some F hk hw, hh.2]) rfl
        · exact ss_no
      · exact ss_no
    · split
      · rename_i i j l hi hj hl
        split
        · rename_i hh
          simp only [Bool.and_eq_true, Bool.not_eq_true', beq_eq_false_iff_ne, decide_eq_true_eq] at hh
          obtain ⟨a1, a2⟩ := lcl_ok F hi
          obtain ⟨b1, b2⟩ := lcl_ok F hj
          obtain ⟨c1, c2⟩ := lcl_ok F hl
          exact ss_par3 F.calm nd a1 b1 c1 hh.1.1.1 hh.1.1.2 hh.1.2 a2 b2 c2 (cArgs_ok O F _) (by rw [swWay_some F hk hw, hh.2])
        · exact ss_no
      · exact ss_no
    · exact ss_no

/-! ### statements -/
def isTupV : Expr → Bool
  | .Tuple .. => true
  | _ => false
def cAsg (r : Rec) (ce : CE) (tg e : Expr) : IR := match tg with
  | .Name x py => cSetN r ce x py e
  | .Subscript o i _ => match isComp e || !plainIx i with
    | true => .no
    | false => .put (r.E ce o) (r.E ce i) (r.E ce e)
  | .Tuple ts k p => match e with
    | .Tuple vs k2 p2 => cPar r ce ts vs k p (.Tuple vs k2 p2)
    | e => match isComp e with
      | true => .no
      | false => match tgOf ce 5 (.Tuple ts k p) with
        | some tg => .tgt tg (r.E ce e)
        | none => .no
  | _ => .no
theorem sub_asg {o i : Expr} {pos' : Pos} {env : Env} (h : plainIx i = true) : ∀ v, assign (.Subscript o i pos') env v = (do
      let ov ← holding [v] (eval o env)
      let iv ← holding [v, ov] (eval i env)
      standAt pos'
      holding [v, ov, iv] (setItem ov iv v)
      release [v, ov, iv] []) := by
  intro v
  cases i <;> first | rfl | cases h
theorem cAsg_ok (O : r.Ok fs J) (F : Fits fs J ce X) (hk : X.env.scope.kind = .function) (tg e : Expr) (pos : Pos) : SS X J (.Assign [tg] e pos) (dS fs (cAsg r ce tg e)) := by
  have u := F.un
  unfold cAsg
  split
  · exact cSetN_ok O F hk _ _ _ _
  · split
    · exact ss_no
    · rename_i hh
      simp only [Bool.or_eq_false_iff, Bool.not_eq_false'] at hh
      exact ss_put F.js (by omega) (O.e _ _ _ F) (O.e _ _ _ F) (O.e _ _ _ F) hh.1 (sub_asg hh.2)
  · split
    · exact cPar_ok O F hk _ _ _ _ _ _ _
    · rename_i hnt
      split
      · exact ss_no
      · rename_i hc
        split
        · rename_i t ht
          refine ss_tgt (tgOf_ok F 5 _ _ ht) (O.e _ _ _ F) (by unfold swapsWithSole; exact noSwap hc) ?_ rfl
          unfold swappedStores
          cases e <;> first | rfl | exact absurd rfl (hnt _ _ _)
        · exact ss_no
  · exact ss_no
def cBody (r : Rec) (ce : CE) : List Stmt → IR
  | [] => .nil
  | s :: rest => .cons (r.S ce s) (cBody r ce rest)
theorem cBody_ok (O : r.Ok fs J) (F : Fits fs J ce X) (hk : StOk X) : ∀ b, SB X J b (dB fs (cBody r ce b))
  | [] => sb_nil
  | s :: rest => sb_cons (O.s _ _ _ F hk) (cBody_ok O F hk rest)
/-! ### try -/
def asOf (ce : CE) : Option Str → Option (Option Nat)
  | none => some none
  | some n => (lcl ce n).map some
def hnOf (ce : CE) : ExceptHandler → Option Hn
  | .ExceptHandler (some (.Name y _)) nm [.Return (some e) _] _ => match gM ce y && mem ce.cls y with
    | true => match hrE nm e, asOf ce nm with
      | some res, some as => match res.fls.all fun f => decide (look ce.xcs y = some f) with
        | true => some ⟨y, as, res⟩
        | false => none
      | _, _ => none
    | false => none
  | _ => none
def hnsOf (ce : CE) : List ExceptHandler → Option (List Hn)
  | [] => some []
  | h :: hs => match hnOf ce h, hnsOf ce hs with
    | some k, some ks => some (k :: ks)
    | _, _ => none
theorem hnOf_ok (F : Fits fs J ce X) {h : ExceptHandler} {k : Hn} (hh : hnOf ce h = some k) : HnAt X h k := by
  unfold hnOf at hh
  split at hh
  · rename_i y np nm e rp pp
    split at hh
    · rename_i hg
      simp only [Bool.and_eq_true] at hg
      obtain ⟨g1, g2⟩ := gM_ok F hg.1
      split at hh
      · rename_i res as hr ha
        split at hh
        · rename_i hf
          cases hh
          simp only [List.all_eq_true, decide_eq_true_eq] at hf
          refine ⟨nm, e, np, rp, pp, rfl, hr, ⟨g1, g2, .inl (F.cls _ (mem_in hg.2))⟩, fun f hm => (F.xcs _ (look_in (hf f hm))).2, ?_⟩
          cases nm with
          | none =>
            cases ha
            exact .inl ⟨rfl, rfl⟩
          | some n =>
            simp only [asOf] at ha
            cases hl : lcl ce n with
            | none => rw [hl] at ha; cases ha
            | some i =>
              rw [hl] at ha
              cases ha
              obtain ⟨l1, l2⟩ := lcl_ok F hl
              exact .inr ⟨n, i, rfl, rfl, l1, l2⟩
        · cases hh
      · cases hh
    · cases hh
  · cases hh
theorem hnsOf_ok (F : Fits fs J ce X) : ∀ {hs : List ExceptHandler} {ks : List Hn}, hnsOf ce hs = some ks → HnsAt X hs ks
  | [], ks, h => by cases h; trivial
  | h :: hs, ks, hh => by
    unfold hnsOf at hh
    split at hh
    · rename_i k ks' h1 h2
      cases hh
      exact ⟨hnOf_ok F h1, hnsOf_ok F h2⟩
    · cases hh
def isAS : Operator → Bool
  | .Add => true
  | .Sub => true
  | _ => false
theorem isAS_ok {op : Operator} (h : isAS op = true) : op = .Add ∨ op = .Sub := by cases op <;> simp_all [isAS]
def compS (r : Rec) (ce : CE) (s : Stmt) : IR := match s with
  | .Return none _ => .retN
  | .Return (some e) _ => .ret (r.E ce e)
  | .Expr e _ => match isComp e with
    | true => .no
    | false => .ex (r.E ce e)
  | .If c a b _ => .ifS (r.T ce c) (cBody r ce a) (cBody r ce b)
  | .Assign [tg] e _ => cAsg r ce tg e
  | .AugAssign (.Name x _) op e _ => match slotL ce x, isAS op with
    | some i, true => .aug i op (r.E ce e)
    | _, _ => .no
  | .For tge iter body [] _ => match tgOf ce 5 tge, notSet iter with
    | some tg, true => match isVal (itK ce tge iter) && !isFresh 9 iter with
      | true => .forV (r.E ce iter) tg (cBody r ce body)
      | false => .for (cIt r ce tge iter) tg (cBody r ce body)
    | _, _ => .no
  | .While c body [] _ => .while (r.T ce c) (cBody r ce body)
  | .Pass _ => .pass
  | .Break _ => .brk
  | .Continue _ => .cnt
  | .Raise (some (.Call (.Name C _) [e] [] _)) none _ => match look ce.xcs C with
    | some f => match gM ce C && plainArg e with
      | true => .raise C f (r.E ce e)
      | false => .no
    | none => .no
  | .Try body (h0 :: hds) [] [] _ => match hnsOf ce (h0 :: hds) with
    | some ks => .tryS (cBody r ce body) ks ce.exm
    | none => .no
  | _ => .no
theorem compS_ok (O : r.Ok fs J) (F : Fits fs J ce X) (hk : StOk X) (s : Stmt) : SS X J s (dS fs (compS r ce s)) := by
  have nd : X.N.Nodup := by rw [F.nN]; exact F.nd
  unfold compS
  split
  · exact ss_retN
  · exact ss_ret (O.e _ _ _ F)
  · split
    · exact ss_no
    · rename_i hc
      exact ss_expr (O.e _ _ _ F) (noSwap hc)
  · exact ss_if (O.t _ _ _ F) (cBody_ok O F hk _) (cBody_ok O F hk _)
  · exact cAsg_ok O F hk.kd _ _ _
  · split
    · rename_i i hi ha
      obtain ⟨h1, h2, h3⟩ := slotL_ok F hi
      exact ss_aug (isAS_ok ha) nd h1 h2 (O.e _ _ _ F) h3
    · exact ss_no
  · split
    · rename_i tg ht hn
      split
      · exact ss_pick (ss_lock F.js (ss_for hk.po F.calm (si_keys (O.e _ _ _ F)) (tgOf_ok F 5 _ _ ht) (cBody_ok O F hk _) (notSet_ok hn))) (ss_for hk.po F.calm (si_val (O.e _ _ _ F)) (tgOf_ok F 5 _ _ ht) (cBody_ok O F hk _) (notSet_ok hn))
      · exact ss_for hk.po F.calm (cIt_ok O F _ _) (tgOf_ok F 5 _ _ ht) (cBody_ok O F hk _) (notSet_ok hn)
    · exact ss_no
  · exact ss_while hk.po (O.t _ _ _ F) (cBody_ok O F hk _)
  · exact ss_pass
  · exact ss_break
  · exact ss_cont
  · split
    · rename_i f hf
      split
      · rename_i hh
        simp only [Bool.and_eq_true] at hh
        obtain ⟨g1, g2⟩ := gM_ok F hh.1
        exact ss_raise F.js (F.xcs _ (look_in hf)).1 F.calm F.rm g1 g2 (O.e _ _ _ F) hh.2
      · exact ss_no
    · exact ss_no
  · split
    · rename_i ks hks
      exact ss_try F.js hk.stk hk.frm nd F.exm (fun pn xe po => cBody_ok O (F.tr pn xe) ⟨hk.kd, po, hk.stk, hk.frm⟩ _) (hnsOf_ok F hks)
    · exact ss_no
  · exact ss_no
def rec0 : Rec := ⟨fun _ _ => .no, fun _ _ => .no, fun _ _ => .no, fun _ _ => .no⟩
def recS (r : Rec) : Rec := ⟨compE r, compT r, compL r, compS r⟩
def recN : Nat → Rec
  | 0 => rec0
  | n + 1 => recS (recN n)
theorem recN_ok : ∀ n, (recN n).Ok fs J
  | 0 => ⟨fun _ _ _ _ => se_no, fun _ _ _ _ => st_no, fun _ _ _ _ => sl_no, fun _ _ _ _ _ => ss_no⟩
  | n + 1 => ⟨fun _ _ e F => compE_ok (recN_ok n) F e, fun _ _ e F => compT_ok (recN_ok n) F e, fun _ _ e F => compL_ok (recN_ok n) F e, fun _ _ s F hk => compS_ok (recN_ok n) F hk s⟩
end
end TA
/-! the defs of a text, one after another -/
namespace TA
open PySem PySem.Spec
open PyProof.Rows L2

/-- one def: its name, its text, its slots, how many parameters -/
structure Df where
  name : Str
  st : Stmt
  N : List Str
  n : Nat
/-- an own error's class: its name, its field, the text of its __init__ -/
structure Xd where
  name : Str
  f : Str
  st : Stmt
/-- what the module gives: builtins that it does not bind, its whole numbers -/
structure Md where
  bnd : List Str
  cst : List (Str × Int)
  cls : List Str
  xds : List Xd
  exm : Exm
  lams : List Str := []
/-- the later first -/
def funsOf : List Df → List (Str × Nat × Nat)
  | [] => []
  | d :: r => (d.name, r.length, d.n) :: funsOf r
def ceB (m : Md) (r : List Df) (d : Df) : CE := ⟨d.N, defScope d.st, fun _ => true, m.bnd, funsOf r, m.cst, m.cls, m.xds.map (fun x => (x.name, x.f)), m.exm, []⟩
/-- a def that hears: its parameter, its clauses -/
def hearOf (ce : CE) (d : Df) : Option (Str × List Hn) := match defBody d.st with
  | [.Try [.Return (some (.List [.Call (.Name a _) [] [] _] _)) _] (h0 :: hds) [] [] _] => match hnsOf ce (h0 :: hds), d.n, decide (d.N.head? = some a) with
    | some ks, 1, true => some (a, ks)
    | _, _, _ => none
  | _ => none
def hrsOf (m : Md) : List Df → List (Str × Str × List Hn)
  | [] => []
  | d :: r => match hearOf (ceB m r d) d with
    | some q => (d.name, q) :: hrsOf m r
    | none => hrsOf m r
def ceOf (m : Md) (r : List Df) (d : Df) : CE := { ceB m r d with hrs := match mem m.lams d.name with
  | true => hrsOf m r
  | false => [] }
def planOf (m : Md) (r : List Df) (d : Df) : IR := cBody (recN 60) (ceOf m r d) (defBody d.st)
/-- plans, the later first, with the count of slots -/
def fsOf : List (Nat × IR) → Nat → Sm
  | [] => fun _ _ _ => none
  | p :: r => fun k => match Nat.beq k r.length with
    | true => semOf p.1 (dB (fsOf r) p.2)
    | false => fsOf r k
def plansOf (m : Md) : List Df → List (Nat × IR)
  | [] => []
  | d :: r => (d.N.length, planOf m r d) :: plansOf m r
theorem plansOf_len (m : Md) : ∀ l, (plansOf m l).length = l.length
  | [] => rfl
  | d :: r => by simp [plansOf, plansOf_len m r]
theorem funs_lt : ∀ {l : List Df} {p : Str × Nat × Nat}, p ∈ funsOf l → p.2.1 < l.length
  | [], p, h => by simp [funsOf] at h
  | d :: r, p, h => by
    simp only [funsOf, List.mem_cons] at h
    rcases h with rfl | h
    · simp
    · have := funs_lt h
      simp only [List.length_cons]
      omega
theorem fs_old {q : Nat × IR} {l : List (Nat × IR)} {k : Nat} (h : k < l.length) : fsOf (q :: l) k = fsOf l k := by
  have : Nat.beq k l.length = false := by
    cases z : Nat.beq k l.length with
    | false => rfl
    | true => have := Nat.eq_of_beq_eq_true z; omega
  simp only [fsOf, this]
theorem fs_new {q : Nat × IR} {l : List (Nat × IR)} : fsOf (q :: l) l.length = semOf q.1 (dB (fsOf l) q.2) := by
  have : Nat.beq l.length l.length = true := Nat.beq_refl _
  simp only [fsOf, this]
section
variable {P : Program} {w : World} {K : PySem.W.Frag} {mg : Str → Option Value} {base : Heap} {J : Hp → Prop}
/-- the def at f does what its plan does -/
structure FnHas (P : Program) (w : World) (K : PySem.W.Frag) (mg : Str → Option Value) (base : Heap) (J : Hp → Prop) (k : Nat) (x : Str) (n : Nat) (sem : Sm) : Prop where
  ex : ∃ (j : Nat) (f : Addr) (fd : FuncData) (ps : List Str), j ≤ k ∧ FnG P w K mg base j f fd ps (spOf K J sem n) ∧ mg x = some (.ref f) ∧ PySem.W.keepIn K (.ref f) = true ∧ Binds K fd ps []
structure AllHas (P : Program) (w : World) (K : PySem.W.Frag) (mg : Str → Option Value) (base : Heap) (J : Hp → Prop) (m : Md) (l : List Df) : Prop where
  fn : ∀ p ∈ funsOf l, FnHas P w K mg base J (3 * l.length + 2) p.1 p.2.2 (fsOf (plansOf m l) p.2.1)
  hr : ∀ q ∈ hrsOf m l, HrAt P w K mg base (3 * l.length + 2) q.1 q.2.1 q.2.2
theorem room_le {k j : Nat} {A : Around} (h : Room k A) (hj : j ≤ k) : Room j A := ⟨h.hd, by have := h.dp; omega, by have := h.un; omega⟩
theorem HrAt.mono {k j : Nat} {x a : Str} {ks : List Hn} (h : HrAt P w K mg base k x a ks) (hj : k ≤ j) : HrAt P w K mg base j x a ks := by
  obtain ⟨g, fd, st, Ng, h0, hds, p1, p2, p3, p4, p5, F, S, hm, hb, hN, hv, hbd, hh⟩ := h.ex
  exact ⟨g, fd, st, Ng, h0, hds, p1, p2, p3, p4, p5, F, S, hm, hb, hN, hv, hbd, fun cdv A outer s H E gd r => hh cdv A outer s H E gd (room_le r hj)⟩
theorem AllHas.nil {m : Md} : AllHas P w K mg base J m [] := ⟨fun p hp => by simp [funsOf] at hp, fun q hq => by simp [hrsOf] at hq⟩
/-- what is to be known of one def in the module -/
structure DfOk (K : PySem.W.Frag) (mg : Str → Option Value) (d : Df) : Prop where
  ex : ∃ (f : Addr) (fd : FuncData) (ps : List Str), Fun K d.name d.name d.st f fd ∧ FnScope d.N ps (defScope d.st) ∧ ps.length = d.n ∧ mg d.name = some (.ref f) ∧ Binds K fd ps []
structure XcK (K : PySem.W.Frag) (mg : Str → Option Value) (C f : Str) : Prop where
  ex : ∃ (fI : Addr) (fd : FuncData), OexC K (He.ga K C) ∧ PySem.W.findIn K (.ref (He.ga K C)) "__init__" = some (some (.ref fI)) ∧ PySem.W.typeIn K (.ref fI) = some (.type "function") ∧
    (∀ (P : Program) (w : World) (base : Heap), FnOk P w K mg base CX0 1 fI fd ["self", f] (spInit K f)) ∧ Binds K fd ["self", f] [] ∧ mg C = some (.ref (He.ga K C)) ∧ PySem.W.findIn K (.ref (He.ga K C)) f = some none
  xf : XfC K (He.ga K C)
structure MdOk (K : PySem.W.Frag) (mg : Str → Option Value) (m : Md) : Prop where
  cls : ∀ x ∈ m.cls, mg x = some (.ref (He.ga K x))
  xcs : ∀ x ∈ m.xds, XcK K mg x.name x.f
  exm : ∀ p ∈ m.exm, PySem.W.exmOne K (.ref (He.ga K p.1)) (.ref (He.ga K p.2.1)) = some p.2.2
  blt : ∀ x ∈ m.bnd, mg x = none
  cst : ∀ p ∈ m.cst, ∃ u, mg p.1 = some u ∧ RelV (.int p.2) u
/-- the name of a lambda's code in the def x -/
def lamQ (x : Str) : Str := x ++ ".<locals>." ++ "<lambda>"
/-- a def that makes lambdas: its code object and its table -/
structure LmOk (K : PySem.W.Frag) (mg : Str → Option Value) (base : Heap) (TT : List (Addr × Str)) (x : Str) : Prop where
  ex : ∃ c tb : Addr, LamX.TabB base mg c tb ∧ (∀ (f : Addr) (o : Obj) (fd : FuncData), mg x = some (.ref f) → K.lookup f = some o → o.data = .func fd → fd.code = .ref c) ∧ (tb, lamQ x) ∈ TT ∧ ∀ p ∈ TT, p.1 = tb → p.2 = lamQ x
theorem fitsC {X : Cx} {m : Md} {l : List Df} {N : List Str} {sc : Scope} {fn : Str → Bool} {hr : List (Str × Str × List Hn)} {k : Nat} (js : JS J) (mo : MdOk X.K X.mg m) (a : AllHas X.prog X.w X.K X.mg X.base J m l) (h1 : X.N = N) (h2 : N.Nodup) (h3 : X.env.scope = sc)
    (h4 : X.fn = fn) (h5 : X.calm = true) (h6 : X.A.guards = some []) (h7 : Room k X.A) (h8 : 3 * l.length + 2 ≤ k) : FitsC (fsOf (plansOf m l)) J ⟨N, sc, fn, m.bnd, funsOf l, m.cst, m.cls, m.xds.map (fun x => (x.name, x.f)), m.exm, hr⟩ X where
  js := js
  nN := h1
  nd := h2
  sc := h3
  fn := h4
  calm := h5
  gd := h6
  un := by have := h7.un; omega
  blt := mo.blt
  funs := fun q hq => by
    obtain ⟨j, f', fd', ps', hj, G, a1, a2, a3⟩ := (a.fn q hq).ex
    exact ⟨j, f', fd', ps', G, room_le h7 (Nat.le_trans hj h8), a1, a2, a3⟩
  cst := mo.cst
  rm := room_le h7 (by omega)
  cls := mo.cls
  xcs := fun q hq => by
    obtain ⟨x, hx, rfl⟩ := List.mem_map.mp hq
    obtain ⟨⟨fI, fd', b1, b2, b3, b4, b5, b6, b7⟩, hf⟩ := mo.xcs x hx
    exact ⟨⟨fI, fd', b1, b2, b3, b4 X.prog X.w X.base, b5, b6, b7⟩, ⟨hf, b7⟩⟩
  exm := mo.exm
theorem ceB_eq {m : Md} {l : List Df} {d : Df} : ceB m l d = ⟨d.N, defScope d.st, fun _ => true, m.bnd, funsOf l, m.cst, m.cls, m.xds.map (fun x => (x.name, x.f)), m.exm, []⟩ := rfl
/-- what hearOf reads -/
theorem hearOf_eq {ce : CE} {d : Df} {a : Str} {ks : List Hn} (h : hearOf ce d = some (a, ks)) : ∃ (h0 : ExceptHandler) (hds : List ExceptHandler) (p1 p2 p3 p4 p5 : Pos),
    defBody d.st = [.Try [.Return (some (.List [.Call (.Name a p1) [] [] p2] p3)) p4] (h0 :: hds) [] [] p5] ∧ hnsOf ce (h0 :: hds) = some ks ∧ d.n = 1 ∧ d.N.head? = some a := by
  unfold hearOf at h
  split at h
  · rename_i a' p1 p2 p3 p4 h0 hds p5 hb
    split at h
    · rename_i ks' h1 h2 h3
      cases h
      exact ⟨h0, hds, p1, p2, p3, p4, p5, hb, h1, h2, of_decide_eq_true h3⟩
    · cases h
  · cases h
theorem AllHas.cons {m : Md} {l : List Df} {d : Df} {TT : List (Addr × Str)} (js : JS J) (hJ : ∀ H, J H → LamX.Tabs TT H) (hJ2 : ∀ H H1, J H → LamX.ExtN H H1 → LamX.Tabs TT H1 → J H1) (mo : MdOk K mg m) (a : AllHas P w K mg base J m l) (ok : DfOk K mg d)
    (lm : mem m.lams d.name = true → LmOk K mg base TT d.name) : AllHas P w K mg base J m (d :: l) := by
  obtain ⟨f, fd, ps, F, S, hl, hm, hb⟩ := ok.ex
  have hlen : (plansOf m l).length = l.length := plansOf_len m l
  have up : 3 * l.length + 2 ≤ 3 * (d :: l).length + 2 := by simp only [List.length_cons]; omega
  refine ⟨fun p hp => ?_, fun q hq => ?_⟩
  · simp only [funsOf, List.mem_cons] at hp
    rcases hp with rfl | hp
    · refine ⟨3 * l.length + 4 + 1, f, fd, ps, by simp only [List.length_cons]; omega, ?_, hm, F.kp, hb⟩
      show FnG P w K mg base (3 * l.length + 4 + 1) f fd ps (spOf K J (fsOf (plansOf m (d :: l)) l.length) d.n)
      have e : fsOf (plansOf m (d :: l)) l.length = semOf d.N.length (dB (fsOf (plansOf m l)) (planOf m l d)) := by
        have := fs_new (q := (d.N.length, planOf m l d)) (l := plansOf m l)
        rw [hlen] at this
        exact this
      rw [e, ← hl]
      refine fng_ofK F S fun cdv A outer s H E hcd gd hr => ?_
      refine cBody_ok (recN_ok 60) ?_ ⟨S.kind, passes_of rfl, rfl, rfl⟩ _
      refine { fitsC (X := cxOf (CX P w) P w K mg base d.N d.name (defScope d.st) f cdv A outer s H E) (k := 3 * l.length + 4) js mo a rfl S.nd rfl rfl rfl gd hr (by omega) with hrs := fun q hq => ?_ }
      have hq : q ∈ (match mem m.lams d.name with | true => hrsOf m l | false => []) := hq
      split at hq
      · rename_i hin
        obtain ⟨c, tb, t1, t2, t3, t4⟩ := (lm hin).ex
        obtain ⟨o, fd', o1, o2, o3⟩ := hcd
        have ec : cdv = .ref c := by rw [← o3]; exact t2 f o fd' hm o1 o2
        refine ⟨TT, 3 * l.length + 2, c, tb, hJ, hJ2, (a.hr q hq).mono (by omega), hr, t1, ec, t3, t4, fun sc A' outer' s1 H1 E' f' c' g1 g2 => ?_⟩
        exact fitsC (X := LamX.lamCx (cxOf (CX P w) P w K mg base d.N d.name (defScope d.st) f cdv A outer s H E) A' outer' s1 H1 E' sc f' c') (k := 3 * l.length + 2) js mo a rfl S.nd rfl rfl rfl (g1.trans gd) g2 (Nat.le_refl _)
      · cases hq
    · obtain ⟨j, f', fd', ps', hj, G, h1, h2, h3⟩ := (a.fn p hp).ex
      refine ⟨j, f', fd', ps', Nat.le_trans hj up, ?_, h1, h2, h3⟩
      have : fsOf (plansOf m (d :: l)) p.2.1 = fsOf (plansOf m l) p.2.1 := fs_old (by rw [hlen]; exact funs_lt hp)
      rw [this]
      exact G
  · have old : q ∈ hrsOf m l → HrAt P w K mg base (3 * (d :: l).length + 2) q.1 q.2.1 q.2.2 := fun z => (a.hr q z).mono up
    simp only [hrsOf] at hq
    split at hq
    · rename_i q' hh
      rw [List.mem_cons] at hq
      rcases hq with rfl | hq
      · obtain ⟨nm, ks⟩ := q'
        obtain ⟨h0, hds, p1, p2, p3, p4, p5, hbd, hks, hn, hN⟩ := hearOf_eq hh
        have eps : ps = [nm] := by
          have hp := S.pre
          have h1 : ps.length = 1 := hl.trans hn
          rw [h1] at hp
          rw [← hp]
          match hN' : d.N, hN with
          | y :: ys, hN =>
            simp only [List.head?_cons, Option.some.injEq] at hN
            rw [hN]
            rfl
        subst eps
        refine ⟨f, fd, d.st, d.N, h0, hds, p1, p2, p3, p4, p5, F, S, hm, hb, ?_, ?_, hbd, fun cdv A outer s H E gd r => ?_⟩
        · match hN' : d.N, hN with
          | y :: ys, hN =>
            simp only [List.head?_cons, Option.some.injEq] at hN
            rw [hN]
            rfl
        · rcases S.par nm (by simp) with z | z
          · exact .inl z
          · exact .inr (.inl z)
        · refine hnsOf_ok (ce := ceB m l d) (fs := fsOf (plansOf m l)) (J := J) ?_ hks
          exact { fitsC (X := cxOf (CX P w) P w K mg base d.N d.name (defScope d.st) f cdv A outer s H E) (k := 3 * (d :: l).length + 2) js mo a rfl S.nd rfl rfl rfl gd r up with hrs := fun q hq => nomatch (show q ∈ ([] : List (Str × Str × List Hn)) from hq) }
      · exact old hq
    · exact old hq
theorem AllHas.of {m : Md} {TT : List (Addr × Str)} (js : JS J) (hJ : ∀ H, J H → LamX.Tabs TT H) (hJ2 : ∀ H H1, J H → LamX.ExtN H H1 → LamX.Tabs TT H1 → J H1) (mo : MdOk K mg m) : ∀ {l : List Df}, (∀ d ∈ l, DfOk K mg d) → (∀ d ∈ l, mem m.lams d.name = true → LmOk K mg base TT d.name) → AllHas P w K mg base J m l
  | [], _, _ => AllHas.nil
  | d :: l, h, h' => AllHas.cons js hJ hJ2 mo (AllHas.of js hJ hJ2 mo (fun e he => h e (List.mem_cons_of_mem _ he)) fun e he => h' e (List.mem_cons_of_mem _ he)) (h d List.mem_cons_self) (h' d List.mem_cons_self)
end
end TA
/-! the end of a law: from the law's plan to the call of its def -/
namespace TA
open PySem PySem.Spec
open PyProof.Rows L2

/-- what may be tracked at the law's entry: the script and the tables of code objects cs, none of them among the module's own things -/
structure AtIn (K : PySem.W.Frag) (cs : List (Addr × Addr)) (a : Addr) (H : Hp) : Prop where
  one : ∀ b u, H b = some u → (b = a ∧ ∃ ob ys, u = .frz ob (.lst ys)) ∨ ((∃ p ∈ cs, p.2 = b) ∧ u = .tbl #[])
  own : ∀ b, H b ≠ none → K.lookup b = none
  tab : ∀ p ∈ cs, H p.2 = some (.tbl #[])
/-- the tables' objects -/
structure TbS (K : PySem.W.Frag) (mg : Str → Option Value) (cs : List (Addr × Addr)) (h : Heap) : Prop where
  tb : ∀ p ∈ cs, h.get? p.2 = some (PySem.W.tabObj #[])
  no : ∀ p ∈ cs, K.lookup p.2 = none
  cd : ∀ p ∈ cs, PySem.W.CodeHd h p.1 p.2
  bm : cs = [] ∨ ∃ (b : Addr) (ob : Obj), mg "__builtins__" = some (.ref b) ∧ b ≠ builtinsNs ∧ h.get? b = some ob ∧ ob.cls = .type "module" ∧ ob.dict = some builtinsNs ∧ ob.data = .plain
section
variable {P : Program} {w : World} {K : PySem.W.Frag} {mg mb : Str → Option Value} {cs : List (Addr × Addr)} {TT : List (Addr × Str)} {a : Addr} {s : Shared} {vals : List Value} {nums : List Int} {H : Hp} {J : Hp → Prop}
theorem AtIn.out (q : AtIn K cs a H) (t : TbS K mg cs s.heap) (hl : s.heap.get? a = some { cls := .type "list", data := .seq vals.toArray }) {b : Addr} {ob : Obj} (hb : s.heap.get? b = some ob) (h1 : ∀ us n, ob.data ≠ .seq us n) (h2 : ob.data ≠ .fields #[]) : H b = none := by
  cases hu : H b with
  | none => rfl
  | some u =>
    rcases q.one b u hu with ⟨rfl, _⟩ | ⟨⟨p, hp, rfl⟩, _⟩
    · obtain rfl := Option.some.inj (hl.symm.trans hb)
      exact (h1 _ _ rfl).elim
    · obtain rfl := Option.some.inj ((t.tb p hp).symm.trans hb)
      exact (h2 rfl).elim
theorem AtIn.ns (q : AtIn K cs a H) (t : TbS K mg cs s.heap) (hl : s.heap.get? a = some { cls := .type "list", data := .seq vals.toArray }) {b : Addr} {m : Str → Option Value} (n : s.heap.Ns b m) : (hidT s.heap H).Ns b m := by
  obtain ⟨ob, es, ep, h1, h2, h3⟩ := n
  exact ⟨ob, es, ep, hidT_get h1 (q.out t hl h1 (fun us n z => by rw [h2] at z; cases z) fun z => by rw [h2] at z; cases z), h2, h3⟩
theorem AtIn.kin (q : AtIn K cs a H) (KX : K.In s.heap) : K.In (hidT s.heap H) := fun b ob hb => by
  refine hidT_get (KX b ob hb) (Classical.byContradiction fun hn => ?_)
  rw [q.own b hn] at hb
  cases hb
theorem AtIn.env (q : AtIn K cs a H) (t : TbS K mg cs s.heap) (hl : s.heap.get? a = some { cls := .type "list", data := .seq vals.toArray }) (KX : K.In s.heap) (g : s.heap.Ns mainGlobals mg) (b : s.heap.Ns builtinsNs mb) (bo : ∀ x : Str, x ≠ "__name__" → mb x = bootBuiltins x) (lim : s.heap.NoLimit)
    (gens : s.gens = #[]) (hok : HOk P w H s.heap) : Env0 P w K mg (hidT s.heap H) callerA [] s H where
  frames := rfl
  mod := by
    obtain ⟨mc, l1, l2⟩ := lim
    exact ⟨q.kin KX, q.ns t hl g, ⟨mb, q.ns t hl b, bo⟩, mc, q.ns t hl l1, l2⟩
  bs := fun _ _ z => of_hidT z
  bsz := by rw [hidT_size]; exact Nat.le_refl _
  funs := trivial
  frf := fun _ z => by simp [frs] at z
  hok := hok
  bare := .of_eq gens
/-- what the makers of lambdas ask -/
theorem AtIn.tabB (q : AtIn K cs a H) (t : TbS K mg cs s.heap) (hl : s.heap.get? a = some { cls := .type "list", data := .seq vals.toArray }) (g : s.heap.Ns mainGlobals mg) {p : Addr × Addr} (hp : p ∈ cs) : LamX.TabB (hidT s.heap H) mg p.1 p.2 := by
  have op := t.tb p hp
  obtain ⟨og, es, ep, g1, g2, _⟩ := g
  constructor
  · obtain ⟨o, us, x1, x2, x3, x4, x5, x6, x7, y1, y2, y3, y4, y5⟩ := t.cd p hp
    refine ⟨o, us, x1, x2, x3, x4, x5, x6, x7, hidT_get y1 (q.out t hl y1 (fun _ _ z => ?_) fun z => ?_), y2, y3, y4, y5⟩
    · rw [y3] at z; cases z
    · rw [y3] at z
      cases z
      simp at y4
  · rcases t.bm with z | ⟨b, ob, b1, b2, b3, b4, b5, b6⟩
    · rw [z] at hp; cases hp
    · refine ⟨b, ob, b1, b2, fun z => ?_, fun z => ?_, hidT_get b3 (q.out t hl b3 (fun _ _ z => ?_) fun z => ?_), b4, b5, b6⟩
      · rw [z] at b3
        obtain rfl := Option.some.inj (g1.symm.trans b3)
        rw [g2] at b6; cases b6
      · rw [z] at b3
        obtain rfl := Option.some.inj (op.symm.trans b3)
        cases b6
      · rw [b6] at z; cases z
      · rw [b6] at z; cases z
  · intro z
    rw [z] at g1
    obtain rfl := Option.some.inj (op.symm.trans g1)
    cases g2
theorem AtIn.after (q : AtIn K cs a H) (t : TbS K mg cs s.heap) {H' : Hp} {s' : Shared} (hok : HOk P w H s.heap) (un : Un (frs []) [] H H' s.heap s'.heap) (hok' : HOk P w H' s'.heap) : OldK s.heap s'.heap := by
  have key : ∀ b ob, s.heap.get? b = some ob → (¬ ∃ p ∈ cs, p.2 = b) → s'.heap.get? b = some ob := fun b ob hb nt => by
    cases hu : H b with
    | none => exact un.keep b ob hb hu (fun z => by simp [frs] at z) (fun z => nomatch z)
    | some u =>
      rcases q.one b u hu with ⟨_, o2, ys, rfl⟩ | ⟨z, _⟩
      · obtain ⟨e1, _⟩ := hok b _ hu
        obtain ⟨e2, _⟩ := hok' b _ (un.frzs b o2 _ hu)
        obtain rfl := Option.some.inj (e1.symm.trans hb)
        exact e2
      · exact absurd z nt
  have grow : ∀ p ∈ cs, ∃ us : Array Value, s'.heap.get? p.2 = some (PySem.W.tabObj us) := fun p hp => by
    obtain ⟨us, z⟩ := un.tbls p.2 #[] (q.tab p hp)
    exact ⟨_, hok' p.2 _ z⟩
  constructor
  · intro b ob hb
    by_cases hm : ∃ p ∈ cs, p.2 = b
    · obtain ⟨p, hp, rfl⟩ := hm
      obtain ⟨us, hus⟩ := grow p hp
      have op := t.tb p hp
      obtain rfl := Option.some.inj (op.symm.trans hb)
      refine .inr (.inl ⟨((t.cd p hp).tab op).isCodeTable, rfl, #[], us, rfl, ?_⟩)
      rw [Array.empty_append]
      exact hus
    · exact .inl (key b ob hb hm)
  · intro b ob hb
    by_cases hm : ∃ p ∈ cs, p.2 = b
    · obtain ⟨p, hp, rfl⟩ := hm
      obtain ⟨us, hus⟩ := grow p hp
      exact ⟨_, hus⟩
    · exact ⟨_, key b ob hb hm⟩
theorem JS.tabs : JS (LamX.Tabs TT) := by
  have go : ∀ (H H' : Hp), LamX.Tabs TT H → (∀ b us, H b = some (.tbl us) → H' b = some (.tbl us)) → (∀ b f, H b = some (.ext f) → H' b = some (.ext f)) → LamX.Tabs TT H' := fun H H' t h1 h2 p hp => by
    obtain ⟨us, a1, a2, a3⟩ := t p hp
    refine ⟨us, h1 _ _ a1, a2, fun pos cv hc => ?_⟩
    obtain ⟨c, c1, c2⟩ := a3 pos cv hc
    exact ⟨c, c1, h2 _ _ c2⟩
  have at_ : ∀ (H : Hp) (p : Addr) (o u : HO), H p = some o → (∀ us, o ≠ .tbl us) → (∀ f, o ≠ .ext f) → LamX.Tabs TT H → LamX.Tabs TT (upd H p u) := fun H p o u hp n1 n2 t => by
    refine go H _ t (fun b us e => ?_) fun b f e => ?_
    · rw [upd_ne (fun z => by rw [z, hp] at e; exact n1 us (Option.some.inj e)), e]
    · rw [upd_ne (fun z => by rw [z, hp] at e; exact n2 f (Option.some.inj e)), e]
  constructor
  · intro H p o t hn
    exact t.ext fun b u e => by rw [upd_ne (ne_of_none e hn), e]
  · intro H p o u t hp hm _
    refine at_ H p o u hp (fun us z => ?_) (fun f z => ?_) t
    · rw [z] at hm; cases hm
    · rw [z] at hm; cases hm
  · intro H p o ob t hp hm
    refine at_ H p o _ hp (fun us z => ?_) (fun f z => ?_) t
    · rw [z] at hm; cases hm
    · rw [z] at hm; cases hm
  · intro H p o ob t hp hm
    exact at_ H p _ o hp (fun us z => nomatch z) (fun f z => nomatch z) t
/-- the script as data -/
theorem script_rel (r : RoL K H a (nums.map V.int)) : RelDs K [] H [.rol (nums.map D.int)] [.ref a] := by
  simp only [RelDs, RelD]
  exact ⟨_, _, rfl, ⟨a, nums.map V.int, rfl, r, ints_map⟩, rfl⟩
theorem law_ofG {fa : Addr} {sem : Sm} {st' : Sto} (KX : K.In s.heap) (g : s.heap.Ns mainGlobals mg) (b : s.heap.Ns builtinsNs mb) (bo : ∀ x : Str, x ≠ "__name__" → mb x = bootBuiltins x) (lim : s.heap.NoLimit)
    (gens : s.gens = #[]) (hl : s.heap.get? a = some { cls := .type "list", data := .seq vals.toArray }) (hi : IntsAre vals nums) (hz : nums.length ≤ sizeLine) (t : TbS K mg cs s.heap) (hTT : ∀ p ∈ TT, ∃ q ∈ cs, q.2 = p.1)
    (F : ∀ base : Heap, (∀ p ∈ cs, LamX.TabB base mg p.1 p.2) → ∃ (k : Nat) (fd : FuncData) (ps : List Str), Room k callerA ∧ Binds K fd ps [] ∧ FnG P w K mg base k fa fd ps (spOf K (LamX.Tabs TT) sem 1)) (hs : sem [.rol (nums.map D.int)] [] = some (.ok (.bl true) st')) :
    codeAny (model P w) callerA (.call (.ref fa) ⟨[.ref a], []⟩) (fun r t => r = .ok (.ret (.bool true)) ∧ OldK s.heap t.heap ∧ t.os = s.os ∧ AllBare t.gens) s := by
  have go : ∀ H : Hp, AtIn K cs a H → RoL K H a (nums.map V.int) → HOk P w H s.heap →
      codeAny (model P w) callerA (.call (.ref fa) ⟨[.ref a], []⟩) (fun r t => r = .ok (.ret (.bool true)) ∧ OldK s.heap t.heap ∧ t.os = s.os ∧ AllBare t.gens) s := by
    intro H q ro hok
    have hJ : LamX.Tabs TT H := fun p hp => by
      obtain ⟨p', hp', e⟩ := hTT p hp
      rw [← e]
      exact LamX.TabS.nil (q.tab p' hp')
    have sp1 : spOf K (LamX.Tabs TT) sem 1 [.ref a] H (fun v _ => v = .bl true) (fun _ _ _ => False) := by
      refine ⟨rfl, [], [], [.rol (nums.map D.int)], _, ⟨rfl, List.nodup_nil, fun n o a' z => by simp at z, hJ⟩, script_rel ro, hs, ?_⟩
      intro R' H' v _ _ rv
      simpa only [RelD] using rv
    obtain ⟨k, fd, ps, room, hb, G⟩ := F (hidT s.heap H) fun p hp => q.tabB t hl g hp
    have hp : 1 = ps.length := G.len _ _ _ _ sp1
    have run := G.run callerA [] s H ⟨[.ref a], []⟩ [.ref a] [.ref a] _ _ rfl room (q.env t hl KX g b bo lim gens hok) (hb s [.ref a] KX (by rw [← hp]; rfl)) (.cons rfl .nil) sp1
    refine codeAny_mono run fun r t' h => ?_
    match r, h with
    | .ok (.ret u), h =>
      obtain ⟨v, H', h1, h2, h3, h4, h5, h6⟩ := h
      have h6 : v = .bl true := h6
      subst h6
      have h5 : u = Value.bool true := h5
      subst h5
      exact ⟨rfl, q.after t hok h3 h4, h1, h2⟩
    | .ok .next, h => exact False.elim h
    | .ok .brk, h => exact False.elim h
    | .ok .cont, h => exact False.elim h
    | .error e, h =>
      obtain ⟨_, _, _, _, _, _, _, _, _, _, _, _, z⟩ := h
      exact z.elim
  have rv := vals_ints hi
  -- the tables tracked, and what g tells at other places
  have lay : ∀ G : Hp, (∀ b u, G b = some u → b = a ∧ u = .frz { cls := .type "list", data := .seq vals.toArray } (.lst (nums.map V.int)) ∧ K.lookup a = none) → (G a ≠ none ∨ ∀ H, RoL K H a (nums.map V.int)) →
      codeAny (model P w) callerA (.call (.ref fa) ⟨[.ref a], []⟩) (fun r t => r = .ok (.ret (.bool true)) ∧ OldK s.heap t.heap ∧ t.os = s.os ∧ AllBare t.gens) s := by
    intro G hG hR
    have ta : ¬ ∃ p ∈ cs, p.2 = a := fun ⟨p, hp, e⟩ => by
      have := t.tb p hp
      rw [e, hl] at this
      cases this
    have at1 : ∀ b, (∃ p ∈ cs, p.2 = b) → (fun b => if ∃ p ∈ cs, p.2 = b then some (HO.tbl #[]) else G b : Hp) b = some (.tbl #[]) := fun b hb => if_pos hb
    have at2 : ∀ b, (¬ ∃ p ∈ cs, p.2 = b) → (fun b => if ∃ p ∈ cs, p.2 = b then some (HO.tbl #[]) else G b : Hp) b = G b := fun b hb => if_neg hb
    generalize (fun b => if ∃ p ∈ cs, p.2 = b then some (HO.tbl #[]) else G b : Hp) = H at at1 at2
    refine go H ⟨fun b u hu => ?_, fun b hn => ?_, fun p hp => at1 _ ⟨p, hp, rfl⟩⟩ ?_ fun b u hu => ?_
    · by_cases hb : ∃ p ∈ cs, p.2 = b
      · exact .inr ⟨hb, Option.some.inj (hu.symm.trans (at1 b hb))⟩
      · rw [at2 b hb] at hu
        obtain ⟨e, e2, _⟩ := hG b u hu
        exact .inl ⟨e, _, _, e2⟩
    · by_cases hb : ∃ p ∈ cs, p.2 = b
      · obtain ⟨p, hp, rfl⟩ := hb
        exact t.no p hp
      · rw [at2 b hb] at hn
        obtain ⟨u, hu⟩ := Option.ne_none_iff_exists'.mp hn
        obtain ⟨e, _, e3⟩ := hG b u hu
        rw [e]
        exact e3
    · rcases hR with hR | hR
      · obtain ⟨u, hu⟩ := Option.ne_none_iff_exists'.mp hR
        obtain ⟨_, e2, _⟩ := hG a u hu
        refine .inl ⟨{ cls := .type "list", data := .seq vals.toArray }, ?_⟩
        rw [at2 a ta, hu, e2]
      · exact hR H
    · by_cases hb : ∃ p ∈ cs, p.2 = b
      · obtain rfl := Option.some.inj (hu.symm.trans (at1 b hb))
        obtain ⟨p, hp, rfl⟩ := hb
        exact t.tb p hp
      · rw [at2 b hb] at hu
        obtain ⟨e, e2, _⟩ := hG b u hu
        subst e
        subst e2
        refine ⟨hl, ?_, vals, _, rv, hl⟩
        rw [List.length_map]
        exact hz
  by_cases hk : K.lookup a = none
  · refine lay (fun b => if b = a then some (HO.frz { cls := .type "list", data := .seq vals.toArray } (.lst (nums.map V.int))) else none) (fun b u hu => ?_) (.inl ?_)
    · by_cases z : b = a
      · have e := Option.some.inj ((if_pos z).symm.trans hu)
        exact ⟨z, e.symm, hk⟩
      · have := (if_neg z).symm.trans hu
        cases this
    · show (if a = a then _ else none) ≠ none
      rw [if_pos rfl]
      simp
  · obtain ⟨ob, ho⟩ := Option.ne_none_iff_exists'.mp hk
    obtain rfl := Option.some.inj ((KX a ob ho).symm.trans hl)
    refine lay (fun _ => none) (fun b u hu => nomatch hu) (.inr fun H => .inr fun H' => .inr ?_)
    refine ⟨_, vals.toArray, _, ho, rfl, rfl, rfl, ?_, ?_⟩
    · rw [List.size_toArray, hi.length]
      exact hz
    · simpa using rv
/-- what the head knows of the tables -/
def TbH (q : Program) (mg : Str → Option Value) (h : Heap) : Prop := (∃ (b : Addr) (ob : Obj), mg "__builtins__" = some (.ref b) ∧ b ≠ builtinsNs ∧ h.get? b = some ob ∧ ob.cls = .type "module" ∧ ob.dict = some builtinsNs ∧ ob.data = .plain) ∧
  ∀ (K : PySem.W.Frag) (x : Str) (c p : Addr), K.In h → ((recsOf q).any fun e => e.name == x) = true → PySem.W.tabIn K x = some (c, p) → PySem.W.CodeHd h c p ∧ h.get? p = some (PySem.W.tabObj #[])
/-- the goal that the head leaves -/
theorem walk_G {l : PySem.W.OpenLaw} {n : Nat} {q : Program} {loose : List Str} {XP : (Str → Option Value) → Heap → Prop} {YP : World → Heap → Prop} {d : DefRec} {sem : Sm} (hn : l.most = some n) (hz : n ≤ sizeLine) (hd : d.params.defaults = [])
    (F : ∀ (w : World) (mg : Str → Option Value) (fa : Addr) (h : Heap), YP w h → h.Ns mainGlobals mg → mg d.name = some (.ref fa) → TbH q mg h →
      ∃ (K : PySem.W.Frag) (cs : List (Addr × Addr)) (TT : List (Addr × Str)), K.In h ∧ TbS K mg cs h ∧ (∀ p ∈ TT, ∃ q ∈ cs, q.2 = p.1) ∧ ∀ base : Heap, (∀ p ∈ cs, LamX.TabB base mg p.1 p.2) → ∃ (k : Nat) (fd : FuncData) (ps : List Str), Room k callerA ∧ Binds K fd ps [] ∧ FnG l.prog w K mg base k fa fd ps (spOf K (LamX.Tabs TT) sem 1))
    (S : ∀ ns : List Int, ns.length ≤ n → (∀ z ∈ ns, Builtin.Int.intBits z ≤ 1048576) → ∃ st', sem [.rol (ns.map D.int)] [] = some (.ok (.bl true) st')) :
    PySem.W.WalkO q loose XP YP l.row.toRowW d [] (fun f vs => PySem.call f vs) := by
  refine Att.attach_callB hn hd ?_
  intro w s0 s1 mg mb fa o pm cd doc a vs ns G Y ho hfd hcd hmg hobj hints hlen hbits hg
  have tbh : TbH q mg s1.heap := ⟨G.T.bmain, fun K x c p KX hx ht => by
    cases hf : (recsOf q).find? (fun e => e.name == x) with
    | some e => exact PySem.W.tab_of G.T KX hf ht
    | none =>
      obtain ⟨e, he, hx'⟩ := List.any_eq_true.mp hx
      exact absurd hx' (List.find?_eq_none.mp hf e he)⟩
  obtain ⟨K, cs, TT, KX, t, hTT, hF⟩ := F w mg fa s1.heap Y G.T.g hmg tbh
  obtain ⟨st', hs⟩ := S ns hlen hbits
  exact law_ofG KX G.T.g G.T.b G.T.builtins G.T.nolimit hg hobj hints (Nat.le_trans hlen hz) t hTT hF hs
end
/-- a def of the head's facts -/
theorem fun_of {K : PySem.W.Frag} {x q : Str} {st : Stmt} {f : Addr} {fd : FuncData} {kws : List (Str × V)} (F : FunD K x q (defArgs st) (defBody st) (defScope st) [] kws f fd) : Fun K x q st f fd := by
  obtain ⟨oc, od, dV, kV, doc, pm, an, cdv, ct, osl, h1, h2, h3, h4, h5⟩ := F.ex
  have e : dV = .none := by
    rcases h4 with h4 | h4
    · exact h4.2
    · exact absurd rfl h4.1
  subst e
  exact ⟨⟨oc, od, kV, doc, pm, an, cdv, ct, osl, h1, h2, h3⟩, F.kp⟩
def scB (N ps : List Str) (sc : Scope) : Bool :=
  isFnK sc.kind && !sc.isCoroutine && !sc.isGenerator && decide N.Nodup && decide (N.take ps.length = ps) && ps.all (fun x => isLoc (sc.names.lookup x)) && sc.names.all fun y => !decide (y.2 = .free)
theorem scB_ok {N ps : List Str} {sc : Scope} (h : scB N ps sc = true) : FnScope N ps sc := by
  simp only [scB, Bool.and_eq_true, Bool.not_eq_true', decide_eq_true_eq, List.all_eq_true, decide_eq_false_iff_not] at h
  obtain ⟨⟨⟨⟨⟨⟨h1, h2⟩, h3⟩, h4⟩, h5⟩, h6⟩, h7⟩ := h
  refine ⟨?_, h2, h3, h4, h5, fun x hx => isLoc_ok (h6 x hx), h7⟩
  cases hk : sc.kind <;> rw [hk] at h1 <;> first | rfl | cases h1
/-- what a def's text must be like -/
structure DfT (d : Df) : Prop where
  sc : scB d.N (d.N.take d.n) (defScope d.st) = true
  bd : ∀ (kV doc pm : Value) (an : Option Addr) (cdv ct : Value) (us : List Value), us.length = d.n → bindArgs (PySem.W.fnOf d.name d.name (defArgs d.st) (defBody d.st) (defScope d.st) .none kV doc pm an cdv ct) ⟨us, []⟩ = pure ((d.N.take d.n).zip us)
  ln : (d.N.take d.n).length = d.n
def defD (d : Df) : He.DefD := ⟨(d.name, none), d.name, d.name, defArgs d.st, defBody d.st, defScope d.st, [], []⟩
def defX (x : Xd) : He.DefD := ⟨(x.name, some "__init__"), "__init__", x.name ++ ".__init__", defArgs x.st, defBody x.st, defScope x.st, [], []⟩
def faL (m : Md) (l : List Df) : List He.Fa := (l.map fun d => He.Fa.glo d.name) ++ ((m.bnd.map He.Fa.free) ++ ((m.cst.map fun p => He.Fa.int p.1 p.2) ++ (m.cls.map He.Fa.glo)))
def fnL (m : Md) (l : List Df) : List He.DefD := l.map defD ++ m.xds.map defX
/-- what an own error's class is like -/
def oexB (K : PySem.W.Frag) (C : Addr) : Bool := (match K.lookup C with
  | some ⟨.type "type", _, .cls cd, sl⟩ => (match cd.mro, sl.toList with
    | .ref C' :: bm, [_, _, _, _, some (.builtin n), _] => C' == C && n == "ValueError.__new__" && !cd.hasDel && cd.hasDict && PySem.HandSPX.refsVE bm
    | _, _ => false)
  | _ => false) && decide (PySem.W.findIn K (.ref C) "__setattr__" = some (some (.builtin "object.__setattr__"))) && decide (PySem.W.subIn K (.ref C) (.type "BaseException") = some true) &&
  decide (PySem.W.typeIn K (.ref C) = some (.type "type")) && PySem.W.keepIn K (.ref C)
theorem oexB_ok {K : PySem.W.Frag} {C : Addr} (h : oexB K C = true) : OexC K C := by
  simp only [oexB, Bool.and_eq_true, decide_eq_true_eq] at h
  obtain ⟨⟨⟨⟨h1, h2⟩, h3⟩, h4⟩, h5⟩ := h
  refine ⟨?_, h2, h3, h4, h5⟩
  split at h1
  · rename_i dd cd sl hl
    split at h1
    · rename_i C' bm k0 k1 k2 k3 n k5 hm hs
      simp only [Bool.and_eq_true, beq_iff_eq, Bool.not_eq_true'] at h1
      obtain ⟨⟨⟨⟨a1, a2⟩, a3⟩, a4⟩, a5⟩ := h1
      obtain ⟨nm, bs, mro, ns, q, hd, sn, sub, ab, col, hdl⟩ := cd
      simp only at hm a3 a4
      subst hm
      subst a1
      subst a2
      subst a3
      subst a4
      have e : sl = #[k0, k1, k2, k3, some (.builtin "ValueError.__new__"), k5] := by
        rw [← Array.toList_inj, hs]
      subst e
      exact ⟨_, _, _, _, _, _, _, _, _, _, _, _, _, _, _, hl, a5⟩
    · cases h1
  · cases h1
/-- the code object and the table of the def x -/
def lamT (K : PySem.W.Frag) (x : Str) : Addr × Addr := (PySem.W.tabIn K x).getD (0, 0)
def lamB (m : Md) (K : PySem.W.Frag) : Bool := m.lams.all fun x => (PySem.W.tabIn K x).isSome && (K.lookup (lamT K x).2).isNone && m.lams.all fun y => y == x || !Nat.beq (lamT K y).2 (lamT K x).2
def csOf (m : Md) (K : PySem.W.Frag) : List (Addr × Addr) := m.lams.map (lamT K)
def ttOf (m : Md) (K : PySem.W.Frag) : List (Addr × Str) := m.lams.map fun x => ((lamT K x).2, lamQ x)
def exB (m : Md) (K : PySem.W.Frag) : Bool := (m.xds.all fun x => oexB K (He.ga K x.name) && xfB K (He.ga K x.name) && decide (PySem.W.findIn K (.ref (He.ga K x.name)) "__init__" = some (some (.ref (He.fAd K (x.name, some "__init__"))))) &&
    decide (PySem.W.typeIn K (.ref (He.fAd K (x.name, some "__init__"))) = some (.type "function")) && decide (PySem.W.findIn K (.ref (He.ga K x.name)) x.f = some none)) &&
  (m.exm.all fun p => decide (PySem.W.exmOne K (.ref (He.ga K p.1)) (.ref (He.ga K p.2.1)) = some p.2.2)) && lamB m K
/-- what the text of an __init__ must be like -/
structure XdT (x : Xd) : Prop where
  sc : scB ["self", x.f] ["self", x.f] (defScope x.st) = true
  bd : ∀ (kV doc pm : Value) (an : Option Addr) (cdv ct : Value) (us : List Value), us.length = 2 → bindArgs (PySem.W.fnOf "__init__" (x.name ++ ".__init__") (defArgs x.st) (defBody x.st) (defScope x.st) .none kV doc pm an cdv ct) ⟨us, []⟩ = pure ((["self", x.f] : List Str).zip us)
  by_ : ∃ p1 p2 p3 pos, defBody x.st = [.Assign [.Attribute (.Name "self" p1) x.f p2] (.Name x.f p3) pos]
  n1 : (x.f == ("__debug__" : Str)) = false
  n2 : (x.f == ("__classdict__" : Str)) = false
section
variable {K : PySem.W.Frag} {mg : Str → Option Value} {h : Heap} {m : Md} {l : List Df}
theorem fact_of {f : He.Fa} (c : He.SaysD (faL m l) (fnL m l) K) (hf : f ∈ faL m l) : f.ok K = true := by
  obtain ⟨i, hi⟩ := List.getElem?_of_mem hf
  exact c.fact i hi
theorem dfOk_of (X : K.In h) (G : h.Ns mainGlobals mg) (c : He.SaysD (faL m l) (fnL m l) K) {d : Df} (hd : d ∈ l) (T : DfT d) : DfOk K mg d := by
  have hm : defD d ∈ fnL m l := List.mem_append.mpr (.inl (List.mem_map.mpr ⟨d, hd, rfl⟩))
  obtain ⟨i, hi⟩ := List.getElem?_of_mem hm
  obtain ⟨fd, F⟩ := c.def_ i hi
  have F' : Fun K d.name d.name d.st (He.fAd K (d.name, none)) fd := fun_of F
  have gl := He.glo_ok X G (fact_of c (f := .glo d.name) (List.mem_append.mpr (.inl (List.mem_map.mpr ⟨d, hd, rfl⟩))))
  refine ⟨He.fAd K (d.name, none), fd, d.N.take d.n, F', scB_ok T.sc, T.ln, gl, F'.binds fun kV doc pm an cdv ct us hl => ?_⟩
  exact T.bd kV doc pm an cdv ct us (by rw [hl, T.ln])
theorem mdOk_of (X : K.In h) (G : h.Ns mainGlobals mg) (c : He.SaysD (faL m l) (fnL m l) K) (b : exB m K = true) (T : ∀ x ∈ m.xds, XdT x) (hsub : ∀ x ∈ m.xds, x.name ∈ m.cls) : MdOk K mg m where
  blt := fun x hx => He.free_ok X G (fact_of c (f := .free x) (List.mem_append.mpr (.inr (List.mem_append.mpr (.inl (List.mem_map.mpr ⟨x, hx, rfl⟩))))))
  cst := fun p hp => by
    obtain ⟨t, e⟩ := He.int_ok X G (fact_of c (f := .int p.1 p.2) (List.mem_append.mpr (.inr (List.mem_append.mpr (.inr (List.mem_append.mpr (.inl (List.mem_map.mpr ⟨p, hp, rfl⟩))))))))
    exact ⟨_, e, t, rfl⟩
  cls := fun x hx => He.glo_ok X G (fact_of c (f := .glo x) (List.mem_append.mpr (.inr (List.mem_append.mpr (.inr (List.mem_append.mpr (.inr (List.mem_map.mpr ⟨x, hx, rfl⟩))))))))
  xcs := fun x hx => by
    simp only [exB, Bool.and_eq_true, List.all_eq_true, decide_eq_true_eq] at b
    obtain ⟨⟨⟨⟨b1, b2⟩, b3⟩, b4⟩, b5⟩ := b.1.1 x hx
    have t := T x hx
    have hm : defX x ∈ fnL m l := List.mem_append.mpr (.inr (List.mem_map.mpr ⟨x, hx, rfl⟩))
    obtain ⟨i, hi⟩ := List.getElem?_of_mem hm
    obtain ⟨fd, F⟩ := c.def_ i hi
    have F' : Fun K "__init__" (x.name ++ ".__init__") x.st (He.fAd K (x.name, some "__init__")) fd := fun_of F
    have gl := He.glo_ok X G (fact_of c (f := .glo x.name) (List.mem_append.mpr (.inr (List.mem_append.mpr (.inr (List.mem_append.mpr (.inr (List.mem_map.mpr ⟨x.name, hsub x hx, rfl⟩))))))))
    obtain ⟨p1, p2, p3, pos, hb⟩ := t.by_
    refine ⟨⟨He.fAd K (x.name, some "__init__"), fd, oexB_ok b1, b3, b4, fun P w base => init_ok F' (scB_ok t.sc) hb t.n1 t.n2, F'.binds fun kV doc pm an cdv ct us hl => t.bd kV doc pm an cdv ct us hl, gl, b5⟩, xfB_ok b2⟩
  exm := fun p hp => by
    simp only [exB, Bool.and_eq_true, List.all_eq_true, decide_eq_true_eq] at b
    exact b.1.2 p hp
theorem exB_lam (b : exB m K = true) : lamB m K = true := by
  unfold exB at b
  exact (Bool.and_eq_true_iff.mp b).2
theorem lamB_at (b : lamB m K = true) {x : Str} (hx : x ∈ m.lams) : PySem.W.tabIn K x = some (lamT K x) ∧ K.lookup (lamT K x).2 = none ∧ ∀ y ∈ m.lams, (lamT K y).2 = (lamT K x).2 → y = x := by
  simp only [lamB, List.all_eq_true, Bool.and_eq_true] at b
  obtain ⟨⟨b1, b2⟩, b3⟩ := b x hx
  refine ⟨?_, Option.isNone_iff_eq_none.mp b2, fun y hy e => ?_⟩
  · cases h : PySem.W.tabIn K x with
    | none => rw [h] at b1; cases b1
    | some p => simp [lamT, h]
  · have z := b3 y hy
    rw [Bool.or_eq_true] at z
    rcases z with z | z
    · exact eq_of_beq z
    · rw [e, Nat.beq_refl] at z
      cases z
/-- the law's def, its plan's promise -/
theorem law_fn {P q : Program} {w : World} {d : Df} {fa : Addr} (X : K.In h) (G : h.Ns mainGlobals mg) (c : He.SaysD (faL m (d :: l)) (fnL m (d :: l)) K) (b : exB m K = true) (TX : ∀ x ∈ m.xds, XdT x) (hsub : ∀ x ∈ m.xds, x.name ∈ m.cls) (T : ∀ e ∈ d :: l, DfT e) (hn : d.n = 1) (hfa : mg d.name = some (.ref fa)) (room : Room (3 * (d :: l).length + 2) callerA)
    (tb : TbH q mg h) (hq : (m.lams.all fun x => (recsOf q).any fun e => e.name == x) = true) :
    ∃ (K : PySem.W.Frag) (cs : List (Addr × Addr)) (TT : List (Addr × Str)), K.In h ∧ TbS K mg cs h ∧ (∀ p ∈ TT, ∃ q ∈ cs, q.2 = p.1) ∧
      ∀ base : Heap, (∀ p ∈ cs, LamX.TabB base mg p.1 p.2) → ∃ (k : Nat) (fd : FuncData) (ps : List Str), Room k callerA ∧ Binds K fd ps [] ∧ FnG P w K mg base k fa fd ps (spOf K (LamX.Tabs TT) (fsOf (plansOf m (d :: l)) l.length) 1) := by
  have lb := exB_lam b
  have ta : ∀ x ∈ m.lams, PySem.W.CodeHd h (lamT K x).1 (lamT K x).2 ∧ h.get? (lamT K x).2 = some (PySem.W.tabObj #[]) := fun x hx => tb.2 K x _ _ X (List.all_eq_true.mp hq x hx) (lamB_at lb hx).1
  refine ⟨K, csOf m K, ttOf m K, X, ⟨fun p hp => ?_, fun p hp => ?_, fun p hp => ?_, .inr tb.1⟩, fun p hp => ?_, fun base hB => ?_⟩
  · obtain ⟨x, hx, rfl⟩ := List.mem_map.mp hp
    exact (ta x hx).2
  · obtain ⟨x, hx, rfl⟩ := List.mem_map.mp hp
    exact (lamB_at lb hx).2.1
  · obtain ⟨x, hx, rfl⟩ := List.mem_map.mp hp
    exact (ta x hx).1
  · obtain ⟨x, hx, rfl⟩ := List.mem_map.mp hp
    exact ⟨_, List.mem_map.mpr ⟨x, hx, rfl⟩, rfl⟩
  · have A : AllHas P w K mg base (LamX.Tabs (ttOf m K)) m (d :: l) := by
      refine AllHas.of JS.tabs (fun _ z => z) (fun _ _ _ _ z => z) (mdOk_of X G c b TX hsub) (fun e he => dfOk_of X G c he (T e he)) fun e he hm => ?_
      have hx := mem_in hm
      obtain ⟨y1, y2, y3⟩ := lamB_at lb hx
      refine ⟨(lamT K e.name).1, (lamT K e.name).2, hB _ (List.mem_map.mpr ⟨_, hx, rfl⟩), fun f o fd e1 e2 e3 => ?_, List.mem_map.mpr ⟨_, hx, rfl⟩, fun p hp ep => ?_⟩
      · exact PySem.W.law_code X G y1 e1 (X _ _ e2) e3
      · obtain ⟨y, hy, rfl⟩ := List.mem_map.mp hp
        rw [y3 y hy ep]
    have mem : (d.name, l.length, d.n) ∈ funsOf (d :: l) := by simp [funsOf]
    obtain ⟨j, f', fd', ps', hj, B, h1, h2, h3⟩ := (A.fn _ mem).ex
    obtain rfl : fa = f' := by
      have := hfa.symm.trans h1
      cases this
      rfl
    rw [← hn]
    exact ⟨j, fd', ps', room_le room hj, h3, B⟩
end
end TA
/-! what plans do, node by node: rows for simp (each applied to slots and store, so that loop bodies stay closed) -/
namespace TA
open PySem
section
variable (fs : Nat → Sm) (env : En) (st : Sto)
/-- then -/
def thn {α β : Type} (o : Option (Out α)) (f : α → Sto → Option (Out β)) : Option (Out β) := match o with
  | some (.ok a st') => f a st'
  | some (.exc x st') => some (.exc x st')
  | none => none
def thnS {α : Type} (o : Option (Out α)) (f : α → Sto → Option SOut) : Option SOut := match o with
  | some (.ok a st') => f a st'
  | some (.exc x st') => some (.exc x st')
  | none => none
@[simp] theorem thn_ok {α β : Type} (a : α) (st' : Sto) (f : α → Sto → Option (Out β)) : thn (some (.ok a st')) f = f a st' := rfl
@[simp] theorem thn_exc {α β : Type} (x : Xn) (st' : Sto) (f : α → Sto → Option (Out β)) : thn (some (.exc x st')) f = some (.exc x st') := rfl
@[simp] theorem thn_no {α β : Type} (f : α → Sto → Option (Out β)) : thn (none : Option (Out α)) f = none := rfl
@[simp] theorem thnS_ok {α : Type} (a : α) (st' : Sto) (f : α → Sto → Option SOut) : thnS (some (.ok a st')) f = f a st' := rfl
@[simp] theorem thnS_exc {α : Type} (x : Xn) (st' : Sto) (f : α → Sto → Option SOut) : thnS (some (.exc x st') : Option (Out α)) f = some (.exc x st') := rfl
@[simp] theorem thnS_no {α : Type} (f : α → Sto → Option SOut) : thnS (none : Option (Out α)) f = none := rfl
theorem bind_thn {α β : Type} (m : M α) (f : α → M β) : mBind m f env st = thn (m env st) fun a st' => f a env st' := by
  unfold mBind thn
  cases m env st with
  | none => rfl
  | some o => cases o <;> rfl
theorem sbind_thn {α : Type} (m : M α) (f : α → MS) : sBind m f env st = thnS (m env st) fun a st' => f a env st' := by
  unfold sBind thnS
  cases m env st with
  | none => rfl
  | some o => cases o <;> rfl
/-! values -/
@[simp] theorem ev_var (i : Nat) : dE fs (.var i) env st = match env[i]? with | some (some d) => some (.ok d st) | _ => none := rfl
@[simp] theorem ev_int (i : Int) : dE fs (.int i) env st = some (.ok (.int i) st) := rfl
@[simp] theorem ev_bl (b : Bool) : dE fs (.bl b) env st = some (.ok (.bl b) st) := rfl
@[simp] theorem ev_str (s : Str) : dE fs (.str s) env st = some (.ok (.str s) st) := rfl
@[simp] theorem ev_non : dE fs .non env st = some (.ok .non st) := rfl
@[simp] theorem ev_ty (T : String) : dE fs (.ty T) env st = some (.ok (.ty T) st) := rfl
theorem op2_thn (f : D → D → Sto → Option (Out D)) (a b : M D) : mOp2 f a b env st = thn (a env st) fun x st1 => thn (b env st1) fun y st2 => f x y st2 := by
  simp only [mOp2, bind_thn]
@[simp] theorem ev_add (a b : IR) : dE fs (.op2 .Add a b) env st = thn (dE fs a env st) fun x st1 => thn (dE fs b env st1) fun y st2 => fOr fAdd fCatL x y st2 := op2_thn _ _ _ _ _
@[simp] theorem ev_sub (a b : IR) : dE fs (.op2 .Sub a b) env st = thn (dE fs a env st) fun x st1 => thn (dE fs b env st1) fun y st2 => fSub x y st2 := op2_thn _ _ _ _ _
@[simp] theorem ev_mul (a b : IR) : dE fs (.op2 .Mult a b) env st = thn (dE fs a env st) fun x st1 => thn (dE fs b env st1) fun y st2 => fOr fMul fRepT x y st2 := op2_thn _ _ _ _ _
@[simp] theorem ev_mod (a b : IR) : dE fs (.op2 .Mod a b) env st = thn (dE fs a env st) fun x st1 => thn (dE fs b env st1) fun y st2 => fMod x y st2 := op2_thn _ _ _ _ _
@[simp] theorem ev_div (a b : IR) : dE fs (.op2 .FloorDiv a b) env st = thn (dE fs a env st) fun x st1 => thn (dE fs b env st1) fun y st2 => fDiv x y st2 := op2_thn _ _ _ _ _
@[simp] theorem ev_pow (a b : IR) : dE fs (.op2 .Pow a b) env st = thn (dE fs a env st) fun x st1 => thn (dE fs b env st1) fun y st2 => fPow x y st2 := op2_thn _ _ _ _ _
@[simp] theorem ev_cmp (op : CmpOp) (a b : IR) : dE fs (.cmp op a b) env st = thn (dE fs a env st) fun x st1 => thn (dE fs b env st1) fun y st2 => cmpF op x y st2 := op2_thn _ _ _ _ _
@[simp] theorem ev_ix (a b : IR) : dE fs (.ix a b) env st = thn (dE fs a env st) fun x st1 => thn (dE fs b env st1) fun y st2 => fIx x y st2 := op2_thn _ _ _ _ _
@[simp] theorem ev_chain (op op' : CmpOp) (a b c : IR) : dE fs (.chain op op' a b c) env st = thn (dE fs a env st) fun x st1 => thn (dE fs b env st1) fun y st2 => match cmpF op x y st2 with
    | some (.ok (.bl true) st3) => thn (dE fs c env st3) fun z st4 => cmpF op' y z st4
    | some (.ok (.bl false) st3) => some (.ok (.bl false) st3)
    | some (.exc e st3) => some (.exc e st3)
    | _ => none := by
  show mChain (cmpF op) (cmpF op') (dE fs a) (dE fs b) (dE fs c) env st = _
  simp only [mChain, bind_thn]
  all_goals rfl
@[simp] theorem ev_andV (a b : IR) : dE fs (.andV a b) env st = thn (dE fs a env st) fun c st1 => match c with | .bl true => dE fs b env st1 | .bl false => some (.ok (.bl false) st1) | _ => none := by
  show mAndV (dE fs a) (dE fs b) env st = _
  unfold mAndV
  rw [bind_thn]
  congr 1
  funext c st1
  cases c with
  | bl b => cases b <;> rfl
  | _ => rfl
@[simp] theorem ev_orV (a b : IR) : dE fs (.orV a b) env st = thn (dE fs a env st) fun c st1 => match c with | .bl true => some (.ok (.bl true) st1) | .bl false => dE fs b env st1 | _ => none := by
  show mOrV (dE fs a) (dE fs b) env st = _
  unfold mOrV
  rw [bind_thn]
  congr 1
  funext c st1
  cases c with
  | bl b => cases b <;> rfl
  | _ => rfl
@[simp] theorem ev_notV (a : IR) : dE fs (.notV a) env st = thn (dE fs a env st) fun c st1 => match c with | .bl b => some (.ok (.bl (!b)) st1) | _ => none := by
  show mNotV (dE fs a) env st = _
  unfold mNotV
  rw [bind_thn]
  congr 1
  funext c st1
  cases c with
  | bl b => cases b <;> rfl
  | _ => rfl
@[simp] theorem ev_neg (a : IR) : dE fs (.neg a) env st = thn (dE fs a env st) fun c st1 => match c with | .int i => some (.ok (.int (-i)) st1) | _ => none := by
  show mNeg (dE fs a) env st = _
  unfold mNeg
  rw [bind_thn]
  congr 1
  funext c st1
  cases c with
  | bl b => cases b <;> rfl
  | _ => rfl
@[simp] theorem ev_ifE (c a b : IR) : dE fs (.ifE c a b) env st = thn (dT fs c env st) fun k st1 => match k with | true => dE fs a env st1 | false => dE fs b env st1 := by
  show mIf (dT fs c) (dE fs a) (dE fs b) env st = _
  unfold mIf
  rw [bind_thn]
  congr 1
  funext k st1
  cases k <;> rfl
@[simp] theorem ev_tup (a : IR) : dE fs (.tup a) env st = thn (dA fs a env st) fun ds st1 => match Nat.ble ds.length 1000000 with | true => some (.ok (.tup ds) st1) | false => none := by simp only [dE, dT, dA, dP, dX, dL, dI, dS, dB, mTup, mLst, mKeep, mDisp, mCall, mRng1, mRng2, mZip, mItN, mEnum, mLc, mBL, mFr, mAt, mTest, mNot, mPart, mB, mPure, sRet, sExpr, sSet, sRaise, sTgt, sPar, sPar3, sFor, bind_thn, sbind_thn, bltV, bltF, bltL, List.getElem?_cons_zero, List.getElem?_cons_succ] <;> rfl
@[simp] theorem ev_dict0 : dE fs .dict0 env st = some (.ok (.loc st.length) (st ++ [.dct []])) := rfl
@[simp] theorem ev_keep (a : IR) : dE fs (.keep a) env st = thn (dL fs a env st) fun ds st1 => some (.ok (.loc st1.length) (st1 ++ [.lst ds])) := by simp only [dE, dT, dA, dP, dX, dL, dI, dS, dB, mTup, mLst, mKeep, mDisp, mCall, mRng1, mRng2, mZip, mItN, mEnum, mLc, mBL, mFr, mAt, mTest, mNot, mPart, mB, mPure, sRet, sExpr, sSet, sRaise, sTgt, sPar, sPar3, sFor, bind_thn, sbind_thn, bltV, bltF, bltL, List.getElem?_cons_zero, List.getElem?_cons_succ] <;> rfl
@[simp] theorem ev_disp (ks : List L2.Key) (a : IR) : dE fs (.disp ks a) env st = thn (dA fs a env st) fun ds st1 => match Nat.beq ds.length ks.length && Nat.ble ks.length 15 with | true => some (.ok (.loc st1.length) (st1 ++ [.dct (mergeD [] (zipK ks ds))])) | false => none := by simp only [dE, dT, dA, dP, dX, dL, dI, dS, dB, mTup, mLst, mKeep, mDisp, mCall, mRng1, mRng2, mZip, mItN, mEnum, mLc, mBL, mFr, mAt, mTest, mNot, mPart, mB, mPure, sRet, sExpr, sSet, sRaise, sTgt, sPar, sPar3, sFor, bind_thn, sbind_thn, bltV, bltF, bltL, List.getElem?_cons_zero, List.getElem?_cons_succ] <;> rfl
@[simp] theorem ev_call (k n : Nat) (a : IR) : dE fs (.call k n a) env st = thn (dA fs a env st) fun ds st1 => match Nat.beq ds.length n with | true => callS (fs k) ds st1 | false => none := by simp only [dE, dT, dA, dP, dX, dL, dI, dS, dB, mTup, mLst, mKeep, mDisp, mCall, mRng1, mRng2, mZip, mItN, mEnum, mLc, mBL, mFr, mAt, mTest, mNot, mPart, mB, mPure, sRet, sExpr, sSet, sRaise, sTgt, sPar, sPar3, sFor, bind_thn, sbind_thn, bltV, bltF, bltL, List.getElem?_cons_zero, List.getElem?_cons_succ] <;> rfl
@[simp] theorem ev_rev (a : IR) : dE fs (.rev a) env st = thn (dE fs a env st) fun d st1 => match d with | .tup ds => some (.ok (.tup ds.reverse) st1) | _ => none := by
  show mRevT (dE fs a) env st = _
  unfold mRevT
  rw [bind_thn]
  congr 1
  funext c st1
  cases c with
  | bl b => cases b <;> rfl
  | _ => rfl
@[simp] theorem ev_hear (a : IR) (hs : List Hn) (t : Exm) : dE fs (.hear a hs t) env st = match dE fs a env st with
    | some (.ok d st1) => some (.ok (.loc st1.length) (st1 ++ [.lst [d]]))
    | some (.exc x st1) => (match catchS t x st1 hs with
      | some (.rt d st2) => some (.ok d st2)
      | some (.exc y st2) => some (.exc y st2)
      | _ => none)
    | none => none := rfl
@[simp] theorem ev_cmpX (ne : Bool) (a b : IR) : dE fs (.cmpX ne a b) env st = thn (dX fs a env st) fun x st1 => thn (dX fs b env st1) fun y st2 => match eqX st2 x y with | some c => some (.ok (.bl (pickN ne c)) st2) | none => none := by
  show mCmpX ne (dX fs a) (dX fs b) env st = _
  simp only [mCmpX, bind_thn]
  all_goals rfl
theorem b_thn (f : Sm) (m : M (List D)) : mB f m env st = thn (m env st) fun ds st1 => f ds st1 := bind_thn _ _ _ _
@[simp] theorem ev_len (a : IR) : dE fs (.bv 0 a) env st = thn (dA fs a env st) fun ds st1 => bLen ds st1 := b_thn _ _ _ _
@[simp] theorem ev_isi (a : IR) : dE fs (.bv 1 a) env st = thn (dA fs a env st) fun ds st1 => bIsi ds st1 := b_thn _ _ _ _
@[simp] theorem ev_bTup (a : IR) : dE fs (.bv 2 a) env st = thn (dA fs a env st) fun ds st1 => bTup ds st1 := b_thn _ _ _ _
@[simp] theorem ev_bInt (a : IR) : dE fs (.bv 3 a) env st = thn (dA fs a env st) fun ds st1 => bInt ds st1 := b_thn _ _ _ _
@[simp] theorem ev_bRepr (a : IR) : dE fs (.bv 4 a) env st = thn (dA fs a env st) fun ds st1 => bReprV ds st1 := b_thn _ _ _ _
@[simp] theorem ev_bMin (a : IR) : dE fs (.bv 5 a) env st = thn (dA fs a env st) fun ds st1 => bMin2 ds st1 := b_thn _ _ _ _
@[simp] theorem ev_bMax (a : IR) : dE fs (.bv 6 a) env st = thn (dA fs a env st) fun ds st1 => bMax2 ds st1 := b_thn _ _ _ _
@[simp] theorem ev_lenF (a : IR) : dE fs (.bf 0 a) env st = thn (dL fs a env st) fun ds st1 => bLenF ds st1 := b_thn _ _ _ _
@[simp] theorem ev_allF (a : IR) : dE fs (.bf 1 a) env st = thn (dL fs a env st) fun ds st1 => bAllF ds st1 := b_thn _ _ _ _
@[simp] theorem ev_anyF (a : IR) : dE fs (.bf 2 a) env st = thn (dL fs a env st) fun ds st1 => bAnyF ds st1 := b_thn _ _ _ _
@[simp] theorem ev_tupF (a : IR) : dE fs (.bf 3 a) env st = thn (dL fs a env st) fun ds st1 => bTupF ds st1 := b_thn _ _ _ _
@[simp] theorem ev_reprF (a : IR) : dE fs (.bf 4 a) env st = thn (dL fs a env st) fun ds st1 => bReprF ds st1 := b_thn _ _ _ _
@[simp] theorem ev_minF (a : IR) : dE fs (.bf 5 a) env st = thn (dL fs a env st) fun ds st1 => bMinF ds st1 := b_thn _ _ _ _
@[simp] theorem ev_maxF (a : IR) : dE fs (.bf 6 a) env st = thn (dL fs a env st) fun ds st1 => bMaxF ds st1 := b_thn _ _ _ _
@[simp] theorem ev_sumF (a : IR) : dE fs (.bf 7 a) env st = thn (dL fs a env st) fun ds st1 => bSumF ds st1 := b_thn _ _ _ _
@[simp] theorem ev_dictF (a : IR) : dE fs (.bf 8 a) env st = thn (dL fs a env st) fun ds st1 => bDictF ds st1 := b_thn _ _ _ _
theorem meth_thn (T : String) (f : D → List D → Sto → Option (Out D)) (mo : M D) (ma : M (List D)) : mMeth T f mo ma env st = thn (mo env st) fun d st1 => match isTy T d st1 with | true => thn (ma env st1) fun ds st2 => f d ds st2 | false => none := by
  simp only [mMeth, bind_thn]
  all_goals rfl
@[simp] theorem ev_append (o a : IR) : dE fs (.mv 0 o a) env st = thn (dE fs o env st) fun d st1 => match isTy "list" d st1 with | true => thn (dA fs a env st1) fun ds st2 => vAppend d ds st2 | false => none := meth_thn _ _ _ _ _ _
@[simp] theorem ev_extend (o a : IR) : dE fs (.mv 1 o a) env st = thn (dE fs o env st) fun d st1 => match isTy "list" d st1 with | true => thn (dA fs a env st1) fun ds st2 => vExtend d ds st2 | false => none := meth_thn _ _ _ _ _ _
@[simp] theorem ev_update (o a : IR) : dE fs (.mv 2 o a) env st = thn (dE fs o env st) fun d st1 => match isTy "dict" d st1 with | true => thn (dA fs a env st1) fun ds st2 => vUpdate d ds st2 | false => none := meth_thn _ _ _ _ _ _
@[simp] theorem ev_extendF (o a : IR) : dE fs (.mf 0 o a) env st = thn (dE fs o env st) fun d st1 => match isTy "list" d st1 with | true => thn (dL fs a env st1) fun ds st2 => vExtendF d ds st2 | false => none := meth_thn _ _ _ _ _ _
@[simp] theorem ev_updateF (o a : IR) : dE fs (.mf 1 o a) env st = thn (dE fs o env st) fun d st1 => match isTy "dict" d st1 with | true => thn (dL fs a env st1) fun ds st2 => vUpdateF d ds st2 | false => none := meth_thn _ _ _ _ _ _
/-! arguments -/
@[simp] theorem ea_nil : dA fs .nil env st = some (.ok [] st) := rfl
@[simp] theorem ea_cons (a b : IR) : dA fs (.cons a b) env st = thn (dE fs a env st) fun d st1 => thn (dA fs b env st1) fun ds st2 => some (.ok (d :: ds) st2) := by
  show mCons (dE fs a) (dA fs b) env st = _
  simp only [mCons, bind_thn, mPure]
/-! tests -/
@[simp] theorem et_tst (a : IR) : dT fs (.tst a) env st = thn (dE fs a env st) fun d st1 => match d with | .bl b => some (.ok b st1) | _ => none := by simp only [dE, dT, dA, dP, dX, dL, dI, dS, dB, mTup, mLst, mKeep, mDisp, mCall, mRng1, mRng2, mZip, mItN, mEnum, mLc, mBL, mFr, mAt, mTest, mNot, mPart, mB, mPure, sRet, sExpr, sSet, sRaise, sTgt, sPar, sPar3, sFor, bind_thn, sbind_thn, bltV, bltF, bltL, List.getElem?_cons_zero, List.getElem?_cons_succ] <;> rfl
@[simp] theorem et_and (a b : IR) : dT fs (.andT a b) env st = thn (dT fs a env st) fun c st1 => match c with | true => dT fs b env st1 | false => some (.ok false st1) := by
  show mAnd (dT fs a) (dT fs b) env st = _
  unfold mAnd
  rw [bind_thn]
  congr 1
  funext c st1
  cases c <;> rfl
@[simp] theorem et_or (a b : IR) : dT fs (.orT a b) env st = thn (dT fs a env st) fun c st1 => match c with | true => some (.ok true st1) | false => dT fs b env st1 := by
  show mOr (dT fs a) (dT fs b) env st = _
  unfold mOr
  rw [bind_thn]
  congr 1
  funext c st1
  cases c <;> rfl
@[simp] theorem et_not (a : IR) : dT fs (.notT a) env st = thn (dT fs a env st) fun c st1 => some (.ok (!c) st1) := by simp only [dE, dT, dA, dP, dX, dL, dI, dS, dB, mTup, mLst, mKeep, mDisp, mCall, mRng1, mRng2, mZip, mItN, mEnum, mLc, mBL, mFr, mAt, mTest, mNot, mPart, mB, mPure, sRet, sExpr, sSet, sRaise, sTgt, sPar, sPar3, sFor, bind_thn, sbind_thn, bltV, bltF, bltL, List.getElem?_cons_zero, List.getElem?_cons_succ] <;> rfl
@[simp] theorem et_tru : dT fs .tru env st = some (.ok true st) := rfl
/-! new lists -/
@[simp] theorem el_lst (a : IR) : dL fs (.lst a) env st = thn (dA fs a env st) fun ds st1 => match Nat.ble ds.length 1000000 with | true => some (.ok ds st1) | false => none := by simp only [dE, dT, dA, dP, dX, dL, dI, dS, dB, mTup, mLst, mKeep, mDisp, mCall, mRng1, mRng2, mZip, mItN, mEnum, mLc, mBL, mFr, mAt, mTest, mNot, mPart, mB, mPure, sRet, sExpr, sSet, sRaise, sTgt, sPar, sPar3, sFor, bind_thn, sbind_thn, bltV, bltF, bltL, List.getElem?_cons_zero, List.getElem?_cons_succ] <;> rfl
@[simp] theorem el_ifL (c a b : IR) : dL fs (.ifL c a b) env st = thn (dT fs c env st) fun k st1 => match k with | true => dL fs a env st1 | false => dL fs b env st1 := by
  show mIfL (dT fs c) (dL fs a) (dL fs b) env st = _
  unfold mIfL
  rw [bind_thn]
  congr 1
  funext k st1
  cases k <;> rfl
@[simp] theorem el_list (a : IR) : dL fs (.bL 0 a) env st = thn (dX fs a env st) fun x st1 => match lList x st1 with | some ds => some (.ok ds st1) | none => none := by simp only [dE, dT, dA, dP, dX, dL, dI, dS, dB, mTup, mLst, mKeep, mDisp, mCall, mRng1, mRng2, mZip, mItN, mEnum, mLc, mBL, mFr, mAt, mTest, mNot, mPart, mB, mPure, sRet, sExpr, sSet, sRaise, sTgt, sPar, sPar3, sFor, bind_thn, sbind_thn, bltV, bltF, bltL, List.getElem?_cons_zero, List.getElem?_cons_succ] <;> rfl
@[simp] theorem el_sset (a : IR) : dL fs (.sset a) env st = thn (dX fs a env st) fun x st1 => match lSset x st1 with | some ds => some (.ok ds st1) | none => none := by simp only [dE, dT, dA, dP, dX, dL, dI, dS, dB, mTup, mLst, mKeep, mDisp, mCall, mRng1, mRng2, mZip, mItN, mEnum, mLc, mBL, mFr, mAt, mTest, mNot, mPart, mB, mPure, sRet, sExpr, sSet, sRaise, sTgt, sPar, sPar3, sFor, bind_thn, sbind_thn, bltV, bltF, bltL, List.getElem?_cons_zero, List.getElem?_cons_succ] <;> rfl
@[simp] theorem el_sorted (a : IR) : dL fs (.bL 1 a) env st = thn (dX fs a env st) fun x st1 => match lSort x st1 with | some ds => some (.ok ds st1) | none => none := by simp only [dE, dT, dA, dP, dX, dL, dI, dS, dB, mTup, mLst, mKeep, mDisp, mCall, mRng1, mRng2, mZip, mItN, mEnum, mLc, mBL, mFr, mAt, mTest, mNot, mPart, mB, mPure, sRet, sExpr, sSet, sRaise, sTgt, sPar, sPar3, sFor, bind_thn, sbind_thn, bltV, bltF, bltL, List.getElem?_cons_zero, List.getElem?_cons_succ] <;> rfl
@[simp] theorem ex_fr (a : IR) : dX fs (.fr a) env st = thn (dL fs a env st) fun ds st1 => some (.ok (.fr ds) st1) := by simp only [dE, dT, dA, dP, dX, dL, dI, dS, dB, mTup, mLst, mKeep, mDisp, mCall, mRng1, mRng2, mZip, mItN, mEnum, mLc, mBL, mFr, mAt, mTest, mNot, mPart, mB, mPure, sRet, sExpr, sSet, sRaise, sTgt, sPar, sPar3, sFor, bind_thn, sbind_thn, bltV, bltF, bltL, List.getElem?_cons_zero, List.getElem?_cons_succ] <;> rfl
@[simp] theorem ex_at (a : IR) : dX fs (.at a) env st = thn (dE fs a env st) fun d st1 => some (.ok (.at d) st1) := by simp only [dE, dT, dA, dP, dX, dL, dI, dS, dB, mTup, mLst, mKeep, mDisp, mCall, mRng1, mRng2, mZip, mItN, mEnum, mLc, mBL, mFr, mAt, mTest, mNot, mPart, mB, mPure, sRet, sExpr, sSet, sRaise, sTgt, sPar, sPar3, sFor, bind_thn, sbind_thn, bltV, bltF, bltL, List.getElem?_cons_zero, List.getElem?_cons_succ] <;> rfl
@[simp] theorem ep_nil : dP fs .nil env st = some (.ok none st) := rfl
@[simp] theorem ep_at (a : IR) : dP fs (.at a) env st = thn (dE fs a env st) fun d st1 => match d with | .int i => some (.ok (some i) st1) | _ => none := by
  show mPart (dE fs a) env st = _
  unfold mPart
  rw [bind_thn]
  congr 1
  funext c st1
  cases c with
  | bl b => cases b <;> rfl
  | _ => rfl
@[simp] theorem el_cat (a b : IR) : dL fs (.cat a b) env st = thn (dX fs a env st) fun x st1 => thn (dX fs b env st1) fun y st2 => match flItems st2 x, flItems st2 y with
    | some xs, some ys => match Nat.ble (xs.length + ys.length) 1000000 with
      | true => some (.ok (xs ++ ys) st2)
      | false => none
    | _, _ => none := by
  show mCat (dX fs a) (dX fs b) env st = _
  simp only [mCat, bind_thn]
  all_goals rfl
@[simp] theorem el_rep (a b : IR) : dL fs (.rep a b) env st = thn (dX fs a env st) fun x st1 => thn (dE fs b env st1) fun y st2 => match flItems st2 x, y with
    | some xs, .int k => match small k && Nat.ble (xs.length * k.toNat) 1000000 with
      | true => some (.ok (repD k.toNat xs) st2)
      | false => none
    | _, _ => none := by
  show mRep (dX fs a) (dE fs b) env st = _
  simp only [mRep, bind_thn]
  all_goals rfl
@[simp] theorem el_lc (it tg ifs elt : IR) (vs : List Nat) : dL fs (.lc it tg ifs elt vs) env st = thn (dI fs it env st) fun a st1 => lcL a.2 (tgD tg) (dT fs ifs) (dE fs elt) (wipeE env vs) a.1 [] st1 := by simp only [dE, dT, dA, dP, dX, dL, dI, dS, dB, mTup, mLst, mKeep, mDisp, mCall, mRng1, mRng2, mZip, mItN, mEnum, mLc, mBL, mFr, mAt, mTest, mNot, mPart, mB, mPure, sRet, sExpr, sSet, sRaise, sTgt, sPar, sPar3, sFor, bind_thn, sbind_thn, bltV, bltF, bltL, List.getElem?_cons_zero, List.getElem?_cons_succ] <;> rfl
theorem el_lcV (e tg ifs elt : IR) (vs : List Nat) : dL fs (.lcV e tg ifs elt vs) env st = match isDct (dE fs e) env st with
    | true => mLock (locOf (dE fs e)) (mLc (mItK (dE fs e)) (tgD tg) (dT fs ifs) (dE fs elt) vs) env st
    | false => thn (dI fs (.itV e) env st) fun a st1 => lcL a.2 (tgD tg) (dT fs ifs) (dE fs elt) (wipeE env vs) a.1 [] st1 := by
  show mPick _ _ _ env st = _
  unfold mPick
  cases isDct (dE fs e) env st with
  | true => rfl
  | false =>
    show mLc (mItV (dE fs e)) (tgD tg) (dT fs ifs) (dE fs elt) vs env st = _
    simp only [mLc, bind_thn]
    rfl
/-! walks -/
@[simp] theorem ei_rng1 (a : IR) : dI fs (.rng1 a) env st = thn (dA fs a env st) fun ds st1 => match ds with | [.int j] => (match small j with | true => some (.ok (rngD 0 j.toNat, yes) st1) | false => none) | _ => none := by simp only [dE, dT, dA, dP, dX, dL, dI, dS, dB, mTup, mLst, mKeep, mDisp, mCall, mRng1, mRng2, mZip, mItN, mEnum, mLc, mBL, mFr, mAt, mTest, mNot, mPart, mB, mPure, sRet, sExpr, sSet, sRaise, sTgt, sPar, sPar3, sFor, bind_thn, sbind_thn, bltV, bltF, bltL, List.getElem?_cons_zero, List.getElem?_cons_succ] <;> rfl
@[simp] theorem ei_rng2 (a : IR) : dI fs (.rng2 a) env st = thn (dA fs a env st) fun ds st1 => match ds with | [.int i, .int j] => (match small i && small j with | true => some (.ok (rngD i (j - i).toNat, yes) st1) | false => none) | _ => none := by simp only [dE, dT, dA, dP, dX, dL, dI, dS, dB, mTup, mLst, mKeep, mDisp, mCall, mRng1, mRng2, mZip, mItN, mEnum, mLc, mBL, mFr, mAt, mTest, mNot, mPart, mB, mPure, sRet, sExpr, sSet, sRaise, sTgt, sPar, sPar3, sFor, bind_thn, sbind_thn, bltV, bltF, bltL, List.getElem?_cons_zero, List.getElem?_cons_succ] <;> rfl
@[simp] theorem ei_zip (a : IR) : dI fs (.zip a) env st = thn (dA fs a env st) fun ds st1 => match ds with | [.tup a, .tup b] => some (.ok (zipD a b, yes) st1) | _ => none := by simp only [dE, dT, dA, dP, dX, dL, dI, dS, dB, mTup, mLst, mKeep, mDisp, mCall, mRng1, mRng2, mZip, mItN, mEnum, mLc, mBL, mFr, mAt, mTest, mNot, mPart, mB, mPure, sRet, sExpr, sSet, sRaise, sTgt, sPar, sPar3, sFor, bind_thn, sbind_thn, bltV, bltF, bltL, List.getElem?_cons_zero, List.getElem?_cons_succ] <;> rfl
@[simp] theorem ei_new (a : IR) : dI fs (.itN a) env st = thn (dL fs a env st) fun ds st1 => some (.ok (ds, yes) st1) := by simp only [dE, dT, dA, dP, dX, dL, dI, dS, dB, mTup, mLst, mKeep, mDisp, mCall, mRng1, mRng2, mZip, mItN, mEnum, mLc, mBL, mFr, mAt, mTest, mNot, mPart, mB, mPure, sRet, sExpr, sSet, sRaise, sTgt, sPar, sPar3, sFor, bind_thn, sbind_thn, bltV, bltF, bltL, List.getElem?_cons_zero, List.getElem?_cons_succ] <;> rfl
@[simp] theorem ei_enum (a : IR) : dI fs (.enum a) env st = thn (dX fs a env st) fun x st1 => match x with
    | .fr ds => some (.ok (enumD 0 ds, yes) st1)
    | .at (.tup ds) => some (.ok (enumD 0 ds, yes) st1)
    | .at (.loc n) => (match st1[n]? with
      | some (.lst ds) => some (.ok (enumD 0 ds, lstIs n ds) st1)
      | _ => none)
    | _ => none := by
  show mAlt (mEnum (dX fs a)) (mEnumT (dX fs a)) env st = _
  unfold mAlt mEnum mEnumT
  simp only [bind_thn]
  cases dX fs a env st with
  | none => rfl
  | some o =>
    cases o with
    | exc x st' => rfl
    | ok x st' =>
      simp only [thn_ok]
      cases x with
      | fr ds => rfl
      | «at» d =>
        cases d with
        | loc n =>
          simp only
          cases st'[n]? with
          | none => rfl
          | some o => cases o <;> rfl
        | _ => rfl
/-- a value walked, by what it is -/
theorem ei_val {e : IR} {d : D} {st1 : Sto} (h : dE fs e env st = some (.ok d st1)) : dI fs (.itV e) env st = match d with
    | .tup ds => some (.ok (ds, yes) st1)
    | .rol ds => some (.ok (ds, yes) st1)
    | .loc n => match st1[n]? with
      | some (.lst ds) => some (.ok (ds, lstIs n ds) st1)
      | some (.dlk kvs) => some (.ok (kvs.map fun p => kD p.1, yes) st1)
      | _ => none
    | _ => none := by
  show mItV (dE fs e) env st = _
  unfold mItV mAlt mItT mItL mItK
  simp only [bind_thn, h, thn_ok]
  cases d with
  | tup ds => rfl
  | rol ds => rfl
  | loc n =>
    simp only
    cases st1[n]? with
    | none => rfl
    | some o => cases o <;> rfl
  | _ => rfl
/-! statements -/
@[simp] theorem es_ret (a : IR) : dS fs (.ret a) env st = thnS (dE fs a env st) fun d st1 => some (.rt d st1) := by simp only [dE, dT, dA, dP, dX, dL, dI, dS, dB, mTup, mLst, mKeep, mDisp, mCall, mRng1, mRng2, mZip, mItN, mEnum, mLc, mBL, mFr, mAt, mTest, mNot, mPart, mB, mPure, sRet, sExpr, sSet, sRaise, sTgt, sPar, sPar3, sFor, bind_thn, sbind_thn, bltV, bltF, bltL, List.getElem?_cons_zero, List.getElem?_cons_succ] <;> rfl
@[simp] theorem es_retN : dS fs .retN env st = some (.rt .non st) := rfl
@[simp] theorem es_ex (a : IR) : dS fs (.ex a) env st = thnS (dE fs a env st) fun _ st1 => some (.nx env st1) := by simp only [dE, dT, dA, dP, dX, dL, dI, dS, dB, mTup, mLst, mKeep, mDisp, mCall, mRng1, mRng2, mZip, mItN, mEnum, mLc, mBL, mFr, mAt, mTest, mNot, mPart, mB, mPure, sRet, sExpr, sSet, sRaise, sTgt, sPar, sPar3, sFor, bind_thn, sbind_thn, bltV, bltF, bltL, List.getElem?_cons_zero, List.getElem?_cons_succ] <;> rfl
@[simp] theorem es_set (i : Nat) (a : IR) : dS fs (.set i a) env st = thnS (dE fs a env st) fun d st1 => some (.nx (env.set i (some d)) st1) := by simp only [dE, dT, dA, dP, dX, dL, dI, dS, dB, mTup, mLst, mKeep, mDisp, mCall, mRng1, mRng2, mZip, mItN, mEnum, mLc, mBL, mFr, mAt, mTest, mNot, mPart, mB, mPure, sRet, sExpr, sSet, sRaise, sTgt, sPar, sPar3, sFor, bind_thn, sbind_thn, bltV, bltF, bltL, List.getElem?_cons_zero, List.getElem?_cons_succ] <;> rfl
@[simp] theorem es_raise (C f : Str) (a : IR) : dS fs (.raise C f a) env st = thnS (dE fs a env st) fun d st1 => some (.exc ⟨C, [(f, d)]⟩ st1) := by simp only [dE, dT, dA, dP, dX, dL, dI, dS, dB, mTup, mLst, mKeep, mDisp, mCall, mRng1, mRng2, mZip, mItN, mEnum, mLc, mBL, mFr, mAt, mTest, mNot, mPart, mB, mPure, sRet, sExpr, sSet, sRaise, sTgt, sPar, sPar3, sFor, bind_thn, sbind_thn, bltV, bltF, bltL, List.getElem?_cons_zero, List.getElem?_cons_succ] <;> rfl
@[simp] theorem es_tgt (t a : IR) : dS fs (.tgt t a) env st = thnS (dE fs a env st) fun d st1 => match tgSet (tgD t) d env with | some env' => some (.nx env' st1) | none => none := by simp only [dE, dT, dA, dP, dX, dL, dI, dS, dB, mTup, mLst, mKeep, mDisp, mCall, mRng1, mRng2, mZip, mItN, mEnum, mLc, mBL, mFr, mAt, mTest, mNot, mPart, mB, mPure, sRet, sExpr, sSet, sRaise, sTgt, sPar, sPar3, sFor, bind_thn, sbind_thn, bltV, bltF, bltL, List.getElem?_cons_zero, List.getElem?_cons_succ] <;> rfl
@[simp] theorem es_if (c a b : IR) : dS fs (.ifS c a b) env st = thnS (dT fs c env st) fun k st1 => match k with | true => dB fs a env st1 | false => dB fs b env st1 := by
  show sIf (dT fs c) (dB fs a) (dB fs b) env st = _
  unfold sIf
  rw [sbind_thn]
  congr 1
  funext k st1
  cases k <;> rfl
@[simp] theorem es_par2 (i j : Nat) (a : IR) : dS fs (.par2 i j a) env st = thnS (dA fs a env st) fun ds st1 => match ds with | [a, b] => some (.nx ((env.set i (some a)).set j (some b)) st1) | _ => none := by simp only [dE, dT, dA, dP, dX, dL, dI, dS, dB, mTup, mLst, mKeep, mDisp, mCall, mRng1, mRng2, mZip, mItN, mEnum, mLc, mBL, mFr, mAt, mTest, mNot, mPart, mB, mPure, sRet, sExpr, sSet, sRaise, sTgt, sPar, sPar3, sFor, bind_thn, sbind_thn, bltV, bltF, bltL, List.getElem?_cons_zero, List.getElem?_cons_succ] <;> rfl
@[simp] theorem es_par3 (i j l : Nat) (a : IR) : dS fs (.par3 i j l a) env st = thnS (dA fs a env st) fun ds st1 => match ds with | [a, b, c] => some (.nx (((env.set i (some a)).set j (some b)).set l (some c)) st1) | _ => none := by simp only [dE, dT, dA, dP, dX, dL, dI, dS, dB, mTup, mLst, mKeep, mDisp, mCall, mRng1, mRng2, mZip, mItN, mEnum, mLc, mBL, mFr, mAt, mTest, mNot, mPart, mB, mPure, sRet, sExpr, sSet, sRaise, sTgt, sPar, sPar3, sFor, bind_thn, sbind_thn, bltV, bltF, bltL, List.getElem?_cons_zero, List.getElem?_cons_succ] <;> rfl
@[simp] theorem es_put (o i a : IR) : dS fs (.put o i a) env st = thnS (dE fs a env st) fun v st1 => thnS (dE fs o env st1) fun w st2 => thnS (dE fs i env st2) fun k st3 => match putD w k v st3 with | some st' => some (.nx env st') | none => none := by
  show sPut (dE fs o) (dE fs i) (dE fs a) env st = _
  simp only [sPut, sbind_thn]
  all_goals rfl
@[simp] theorem es_for (it tg b : IR) : dS fs (.for it tg b) env st = thnS (dI fs it env st) fun a st1 => forL a.2 (tgD tg) (dB fs b) a.1 env st1 := by simp only [dE, dT, dA, dP, dX, dL, dI, dS, dB, mTup, mLst, mKeep, mDisp, mCall, mRng1, mRng2, mZip, mItN, mEnum, mLc, mBL, mFr, mAt, mTest, mNot, mPart, mB, mPure, sRet, sExpr, sSet, sRaise, sTgt, sPar, sPar3, sFor, bind_thn, sbind_thn, bltV, bltF, bltL, List.getElem?_cons_zero, List.getElem?_cons_succ] <;> rfl
theorem es_forV (e tg b : IR) : dS fs (.forV e tg b) env st = match isDct (dE fs e) env st with
    | true => sLock (locOf (dE fs e)) (sFor (mItK (dE fs e)) (tgD tg) (dB fs b)) env st
    | false => thnS (dI fs (.itV e) env st) fun a st1 => forL a.2 (tgD tg) (dB fs b) a.1 env st1 := by
  show sPick _ _ _ env st = _
  unfold sPick
  cases isDct (dE fs e) env st with
  | true => rfl
  | false =>
    show sFor (mItV (dE fs e)) (tgD tg) (dB fs b) env st = _
    simp only [sFor, sbind_thn]
    rfl
@[simp] theorem es_while (c b : IR) : dS fs (.while c b) env st = whL (dT fs c) (dB fs b) whN env st := rfl
@[simp] theorem es_pass : dS fs .pass env st = some (.nx env st) := rfl
@[simp] theorem es_brk : dS fs .brk env st = some (.bk env st) := rfl
@[simp] theorem es_cnt : dS fs .cnt env st = some (.ct env st) := rfl
@[simp] theorem es_try (b : IR) (hs : List Hn) (t : Exm) : dS fs (.tryS b hs t) env st = match dB fs b env st with | some (.exc x st') => catchS t x st' hs | o => o := rfl
@[simp] theorem eb_nil : dB fs .nil env st = some (.nx env st) := rfl
@[simp] theorem eb_cons (a b : IR) : dB fs (.cons a b) env st = match dS fs a env st with | some (.nx env' st') => dB fs b env' st' | o => o := rfl
/-- a slice of a tuple -/
theorem ev_slT {a lo hi : IR} {ds : List D} {l u : Option Int} {st1 st2 st3 : Sto} (h1 : dE fs a env st = some (.ok (.tup ds) st1)) (h2 : dP fs lo env st1 = some (.ok l st2)) (h3 : dP fs hi env st2 = some (.ok u st3)) : dE fs (.sl a lo hi) env st = some (.ok (.tup (cutD ds l u)) st3) := by
  show mAlt (mSlT (dE fs a) (dP fs lo) (dP fs hi)) (mKeep (mSlL (dE fs a) (dP fs lo) (dP fs hi))) env st = _
  have e : mSlT (dE fs a) (dP fs lo) (dP fs hi) env st = some (.ok (.tup (cutD ds l u)) st3) := by
    simp only [mSlT, bind_thn, h1, thn_ok, h2, h3]
    rfl
  simp only [mAlt, e]
/-- a slice of a list -/
theorem ev_slL {a lo hi : IR} {n : Nat} {ds : List D} {l u : Option Int} {st1 st2 st3 : Sto} (h1 : dE fs a env st = some (.ok (.loc n) st1)) (h2 : dP fs lo env st1 = some (.ok l st2)) (h3 : dP fs hi env st2 = some (.ok u st3)) (h4 : st3[n]? = some (.lst ds)) :
    dE fs (.sl a lo hi) env st = some (.ok (.loc st3.length) (st3 ++ [.lst (cutD ds l u)])) := by
  show mAlt (mSlT (dE fs a) (dP fs lo) (dP fs hi)) (mKeep (mSlL (dE fs a) (dP fs lo) (dP fs hi))) env st = _
  have e1 : mSlT (dE fs a) (dP fs lo) (dP fs hi) env st = none := by
    simp only [mSlT, bind_thn, h1, thn_ok, h2, h3]
  have e2 : mSlL (dE fs a) (dP fs lo) (dP fs hi) env st = some (.ok (cutD ds l u) st3) := by
    simp only [mSlL, bind_thn, h1, thn_ok, h2, h3, h4]
  simp only [mAlt, e1, mKeep, bind_thn, e2, thn_ok]
theorem cut_tail (ds : List D) : cutD ds (some 1) none = ds.tail := by
  unfold cutD HT.sIx
  cases ds with
  | nil => rfl
  | cons d ds =>
    simp
end
end TA
/-! orders, in plain Lean -/
namespace TA
/-- i is ahead of j by the pairs -/
inductive Ahd (ps : List (Nat × Nat)) : Nat → Nat → Prop
  | one {i j : Nat} : (i, j) ∈ ps → Ahd ps i j
  | far {i k j : Nat} : Ahd ps i k → (k, j) ∈ ps → Ahd ps i j
/-- the pairs go upward, below n -/
def Up (n : Nat) (ps : List (Nat × Nat)) : Prop := ∀ p ∈ ps, p.1 < p.2 ∧ p.2 < n
theorem Ahd.trans {ps : List (Nat × Nat)} {i j k : Nat} (a : Ahd ps i j) (b : Ahd ps j k) : Ahd ps i k := by
  induction b with
  | one h => exact .far a h
  | far _ h ih => exact .far ih h
theorem Ahd.lt {n : Nat} {ps : List (Nat × Nat)} (u : Up n ps) {i j : Nat} (a : Ahd ps i j) : i < j ∧ j < n := by
  induction a with
  | one h => exact u _ h
  | far _ h ih => have := u _ h; simp only at this; omega
theorem Ahd.last {ps : List (Nat × Nat)} {i j : Nat} (a : Ahd ps i j) : ∃ k, (k, j) ∈ ps ∧ (i = k ∨ Ahd ps i k) := by
  cases a with
  | one h => exact ⟨i, h, .inl rfl⟩
  | far a h => exact ⟨_, h, .inr a⟩
theorem ahd_iff {ps : List (Nat × Nat)} {i j : Nat} : Ahd ps i j ↔ ∃ k, (k, j) ∈ ps ∧ (i = k ∨ Ahd ps i k) :=
  ⟨Ahd.last, fun ⟨k, h, q⟩ => q.elim (fun e => .one (e ▸ h)) fun a => .far a h⟩
/-- nothing lies between -/
def Bare (P : Nat → Nat → Prop) (i j : Nat) : Prop := P i j ∧ ¬ ∃ k, P i k ∧ P k j
open Classical in
/-- the items below n with a property, ascending -/
noncomputable def selN (n : Nat) (P : Nat → Prop) : List Nat := (List.range n).filter fun i => decide (P i)
open Classical in
/-- the pairs below n with a property, ascending -/
noncomputable def selP (n : Nat) (P : Nat → Nat → Prop) : List (Nat × Nat) := ((List.range n).flatMap fun i => (List.range n).map fun j => (i, j)).filter fun p => decide (P p.1 p.2)
theorem mem_selN {n : Nat} {P : Nat → Prop} {i : Nat} : i ∈ selN n P ↔ i < n ∧ P i := by
  simp [selN]
theorem mem_selP {n : Nat} {P : Nat → Nat → Prop} {i j : Nat} : (i, j) ∈ selP n P ↔ (i < n ∧ j < n) ∧ P i j := by
  simp [selP]
/-- one pair ahead of another one -/
def ltQ (p q : Nat × Nat) : Prop := p.1 < q.1 ∨ (p.1 = q.1 ∧ p.2 < q.2)
theorem selN_asc (n : Nat) (P : Nat → Prop) : (selN n P).Pairwise (· < ·) := by
  unfold selN
  exact List.Pairwise.filter _ List.pairwise_lt_range
theorem selP_asc (n : Nat) (P : Nat → Nat → Prop) : (selP n P).Pairwise ltQ := by
  unfold selP
  refine List.Pairwise.filter _ ?_
  rw [List.flatMap_def, List.pairwise_flatten]
  constructor
  · intro l hl
    obtain ⟨i, _, rfl⟩ := List.mem_map.mp hl
    rw [List.pairwise_map]
    exact List.pairwise_lt_range.imp fun h => .inr ⟨rfl, h⟩
  · rw [List.pairwise_map]
    refine List.pairwise_lt_range.imp fun {a b} h x hx y hy => ?_
    obtain ⟨_, _, rfl⟩ := List.mem_map.mp hx
    obtain ⟨_, _, rfl⟩ := List.mem_map.mp hy
    exact .inl h
theorem asc_nodup {l : List Nat} (h : l.Pairwise (· < ·)) : l.Nodup := h.imp fun h e => by omega
theorem ascQ_nodup {l : List (Nat × Nat)} (h : l.Pairwise ltQ) : l.Nodup := h.imp fun h e => by subst e; unfold ltQ at h; omega
/-- ascending lists with the same items are the same -/
theorem asc_uniq {a b : List Nat} (ha : a.Pairwise (· < ·)) (hb : b.Pairwise (· < ·)) (h : ∀ x, x ∈ a ↔ x ∈ b) : a = b :=
  ((List.perm_ext_iff_of_nodup (asc_nodup ha) (asc_nodup hb)).mpr h).eq_of_pairwise (fun x y _ _ h1 h2 => by omega) ha hb
theorem ascQ_uniq {a b : List (Nat × Nat)} (ha : a.Pairwise ltQ) (hb : b.Pairwise ltQ) (h : ∀ x, x ∈ a ↔ x ∈ b) : a = b :=
  ((List.perm_ext_iff_of_nodup (ascQ_nodup ha) (ascQ_nodup hb)).mpr h).eq_of_pairwise (fun x y _ _ h1 h2 => by
    unfold ltQ at h1 h2
    omega) ha hb
theorem selP_congr {n : Nat} {P Q : Nat → Nat → Prop} (h : ∀ i j, i < n → j < n → (P i j ↔ Q i j)) : selP n P = selP n Q :=
  ascQ_uniq (selP_asc n P) (selP_asc n Q) fun ⟨i, j⟩ => by
    rw [mem_selP, mem_selP]
    exact ⟨fun ⟨a, b⟩ => ⟨a, (h i j a.1 a.2).mp b⟩, fun ⟨a, b⟩ => ⟨a, (h i j a.1 a.2).mpr b⟩⟩
theorem selN_congr {n : Nat} {P Q : Nat → Prop} (h : ∀ i, i < n → (P i ↔ Q i)) : selN n P = selN n Q :=
  asc_uniq (selN_asc n P) (selN_asc n Q) fun i => by
    rw [mem_selN, mem_selN]
    exact ⟨fun ⟨a, b⟩ => ⟨a, (h i a).mp b⟩, fun ⟨a, b⟩ => ⟨a, (h i a).mpr b⟩⟩
/-- what is ahead by the closed form, by the bare one -/
theorem ahd_closed {n : Nat} {ps : List (Nat × Nat)} (u : Up n ps) {i j : Nat} : Ahd (selP n (Ahd ps)) i j ↔ Ahd ps i j := by
  constructor
  · intro a
    induction a with
    | one h => exact (mem_selP.mp h).2
    | far _ h ih => exact ih.trans (mem_selP.mp h).2
  · intro a
    have := a.lt u
    exact .one (mem_selP.mpr ⟨⟨by omega, by omega⟩, a⟩)
theorem ahd_bare {n : Nat} {ps : List (Nat × Nat)} (u : Up n ps) {i j : Nat} : Ahd (selP n (Bare (Ahd ps))) i j ↔ Ahd ps i j := by
  constructor
  · intro a
    induction a with
    | one h => exact (mem_selP.mp h).2.1
    | far _ h ih => exact ih.trans (mem_selP.mp h).2.1
  · suffices ∀ m i j, j - i ≤ m → Ahd ps i j → Ahd (selP n (Bare (Ahd ps))) i j from fun a => this _ i j (Nat.le_refl _) a
    intro m
    induction m with
    | zero => intro i j h a; have := a.lt u; omega
    | succ m ih =>
      intro i j h a
      have hl := a.lt u
      by_cases hk : ∃ k, Ahd ps i k ∧ Ahd ps k j
      · obtain ⟨k, h1, h2⟩ := hk
        have l1 := h1.lt u
        have l2 := h2.lt u
        exact (ih i k (by omega) h1).trans (ih k j (by omega) h2)
      · exact .one (mem_selP.mpr ⟨⟨by omega, by omega⟩, a, hk⟩)
theorem up_sel {n : Nat} {ps : List (Nat × Nat)} (u : Up n ps) (P : Nat → Nat → Prop) (h : ∀ i j, P i j → Ahd ps i j) : Up n (selP n P) := fun p hp => by
  obtain ⟨i, j⟩ := p
  exact (h i j (mem_selP.mp hp).2).lt u
theorem closed_closed {n : Nat} {ps : List (Nat × Nat)} (u : Up n ps) : selP n (Ahd (selP n (Ahd ps))) = selP n (Ahd ps) := selP_congr fun i j _ _ => ahd_closed u
theorem closed_bare {n : Nat} {ps : List (Nat × Nat)} (u : Up n ps) : selP n (Ahd (selP n (Bare (Ahd ps)))) = selP n (Ahd ps) := selP_congr fun i j _ _ => ahd_bare u
theorem bare_closed {n : Nat} {ps : List (Nat × Nat)} (u : Up n ps) : selP n (Bare (Ahd (selP n (Ahd ps)))) = selP n (Bare (Ahd ps)) := selP_congr fun i j _ _ => by
  unfold Bare
  simp only [ahd_closed u]
end TA
/-! tools for the mathematics of plans: loops by invariants, comprehensions, calls, plain data -/
namespace TA
open PySem
/-! ### a def's run -/
@[simp] theorem semOf_eq (n : Nat) (mb : MS) (ds : List D) (st : Sto) : semOf n mb ds st = match mb (startE n ds) st with
  | some (.rt d st') => some (.ok d st')
  | some (.nx _ st') => some (.ok .non st')
  | some (.exc x st') => some (.exc x st')
  | _ => none := rfl
@[simp] theorem startE_eq (n : Nat) (ds : List D) : startE n ds = ds.map some ++ List.replicate (n - ds.length) none := rfl
@[simp] theorem cmpF_eq : cmpF .Eq = fEq := rfl
@[simp] theorem cmpF_ne : cmpF .NotEq = fNe := rfl
@[simp] theorem cmpF_lt : cmpF .Lt = fLt := rfl
@[simp] theorem cmpF_le : cmpF .LtE = fLe := rfl
@[simp] theorem cmpF_gt : cmpF .Gt = fGt := rfl
@[simp] theorem cmpF_ge : cmpF .GtE = fOr fGe fGeT := rfl
@[simp] theorem cmpF_is : cmpF .Is = fIs := rfl
@[simp] theorem cmpF_isnot : cmpF .IsNot = fIsNot := rfl
@[simp] theorem cmpF_in : cmpF .In = fIn := rfl
@[simp] theorem cmpF_notin : cmpF .NotIn = fNotIn := rfl
/-! ### the store -/
theorem get_ext {st : Sto} {n : Nat} {o : O} (h : st[n]? = some o) (e : Sto) : (st ++ e)[n]? = some o := by
  rw [List.getElem?_append_left (List.getElem?_eq_some_iff.mp h).1]; exact h
theorem get_lt {st : Sto} {n : Nat} {o : O} (h : st[n]? = some o) : n < st.length := (List.getElem?_eq_some_iff.mp h).1
theorem get_set {st : Sto} {n : Nat} {o o' : O} (h : st[n]? = some o) : (st.set n o')[n]? = some o' := List.getElem?_set_self (get_lt h)
theorem get_set_ne {st : Sto} {n m : Nat} {o o' : O} (hn : n ≠ m) (h : st[m]? = some o) : (st.set n o')[m]? = some o := by
  rw [List.getElem?_set_ne hn]; exact h
theorem lstIs_self {n : Nat} {ds : List D} {st : Sto} (h : st[n]? = some (.lst ds)) : lstIs n ds st = true := by
  simp only [lstIs, h, D.sames_refl]
/-! ### targets -/
@[simp] theorem tgD_var (i : Nat) : tgD (.var i) = .nm i := by simp only [tgD]
@[simp] theorem tgD_tup (a : IR) : tgD (.tup a) = .tp (tgsD a) := by simp only [tgD]
@[simp] theorem tgsD_nil : tgsD .nil = [] := by simp only [tgsD]
@[simp] theorem tgsD_cons (a b : IR) : tgsD (.cons a b) = tgD a :: tgsD b := by simp only [tgsD]
@[simp] theorem tgSet_nm (i : Nat) (d : D) (env : En) : tgSet (.nm i) d env = some (env.set i (some d)) := by simp only [tgSet]
@[simp] theorem tgSet_tp (ts : List Tg) (ds : List D) (env : En) : tgSet (.tp ts) (.tup ds) env = tgSets ts ds env := by simp only [tgSet]
@[simp] theorem tgSets_nil (env : En) : tgSets [] [] env = some env := by simp only [tgSets]
@[simp] theorem tgSets_cons (t : Tg) (ts : List Tg) (d : D) (ds : List D) (env : En) : tgSets (t :: ts) (d :: ds) env = match tgSet t d env with
    | some e => tgSets ts ds e
    | none => none := by
  rw [tgSets]
  all_goals (cases tgSet t d env <;> rfl)
@[simp] theorem wipeE_nil (env : En) : wipeE env [] = env := rfl
@[simp] theorem wipeE_cons (env : En) (v : Nat) (vs : List Nat) : wipeE env (v :: vs) = (wipeE env vs).set v none := rfl
/-! ### loops -/
theorem for_all {α : Type} {C : Sto → Bool} {tg : Tg} {body : MS} (f : α → D) (I : List α → En → Sto → Prop) (all : List α) (hC : ∀ q env st, I q env st → C st = true)
    (step : ∀ q x r env st, all = q ++ x :: r → I q env st → ∃ env1, tgSet tg (f x) env = some env1 ∧ ∃ env2 st2, (body env1 st = some (.nx env2 st2) ∨ body env1 st = some (.ct env2 st2)) ∧ I (q ++ [x]) env2 st2) :
    ∀ (xs pre : List α) (env : En) (st : Sto), all = pre ++ xs → I pre env st → ∃ env2 st2, forL C tg body (xs.map f) env st = some (.nx env2 st2) ∧ I all env2 st2
  | [], pre, env, st, ha, h => by
    have hc := hC _ _ _ h
    refine ⟨env, st, ?_, ?_⟩
    · simp only [List.map_nil, forL, hc]
    · rw [ha, List.append_nil]; exact h
  | x :: xs, pre, env, st, ha, h => by
    obtain ⟨env1, h1, env2, st2, h2, h3⟩ := step pre x xs env st ha h
    obtain ⟨env3, st3, h4, h5⟩ := for_all f I all hC step xs (pre ++ [x]) env2 st2 (by simp [ha]) h3
    refine ⟨env3, st3, ?_, h5⟩
    have hc := hC _ _ _ h
    rcases h2 with h2 | h2 <;> simp only [List.map_cons, forL, hc, h1, h2, h4]
/-- a loop over a list, by its invariant over what is done -/
theorem for_list {α : Type} {C : Sto → Bool} {tg : Tg} {body : MS} (f : α → D) (I : List α → En → Sto → Prop) (xs : List α) {env : En} {st : Sto} (h0 : I [] env st) (hC : ∀ q env st, I q env st → C st = true)
    (step : ∀ q x r env st, xs = q ++ x :: r → I q env st → ∃ env1, tgSet tg (f x) env = some env1 ∧ ∃ env2 st2, (body env1 st = some (.nx env2 st2) ∨ body env1 st = some (.ct env2 st2)) ∧ I (q ++ [x]) env2 st2) :
    ∃ env2 st2, forL C tg body (xs.map f) env st = some (.nx env2 st2) ∧ I xs env2 st2 := for_all f I xs hC step xs [] env st rfl h0
theorem range_pre {n : Nat} {q r : List Nat} {x : Nat} (h : List.range n = q ++ x :: r) : q = List.range x ∧ x < n := by
  have hx : (List.range n)[q.length]? = some x := by rw [h]; simp
  rw [List.getElem?_range] at hx
  · cases hx
    have hl : q.length < n := by
      have := congrArg List.length h
      simp at this
      omega
    refine ⟨?_, hl⟩
    have e : (List.range n).take q.length = q := by rw [h]; simp
    rw [List.take_range, Nat.min_eq_left (by omega)] at e
    exact e.symm
  · have := congrArg List.length h
    simp at this
    omega
theorem rngD0 (n : Nat) : rngD 0 n = (List.range n).map fun (k : Nat) => D.int (k : Int) := by
  simp [rngD]
/-- a loop over range(n), by its invariant -/
theorem for_range {C : Sto → Bool} {tg : Tg} {body : MS} (I : Nat → En → Sto → Prop) (n : Nat) {env : En} {st : Sto} (h0 : I 0 env st) (hC : ∀ i env st, I i env st → C st = true)
    (step : ∀ i env st, i < n → I i env st → ∃ env1, tgSet tg (.int (i : Int)) env = some env1 ∧ ∃ env2 st2, (body env1 st = some (.nx env2 st2) ∨ body env1 st = some (.ct env2 st2)) ∧ I (i + 1) env2 st2) :
    ∃ env2 st2, forL C tg body (rngD 0 n) env st = some (.nx env2 st2) ∧ I n env2 st2 := by
  rw [rngD0]
  obtain ⟨env2, st2, h1, h2⟩ := for_list (C := C) (tg := tg) (body := body) (fun k : Nat => D.int (k : Int)) (fun q env st => I q.length env st) (List.range n) (env := env) (st := st) h0 (fun q => hC _) (fun q x r env st ha hI => by
    obtain ⟨hq, hx⟩ := range_pre ha
    have hl : q.length = x := by rw [hq]; simp
    rw [hl] at hI
    obtain ⟨env1, a, env2, st2, b, c⟩ := step x env st hx hI
    exact ⟨env1, a, env2, st2, b, by simp only [List.length_append, List.length_singleton, hl]; exact c⟩)
  exact ⟨env2, st2, h1, by simpa using h2⟩
/-! ### comprehensions -/
theorem lc_map {α : Type} {C : Sto → Bool} {tg : Tg} {t : M Bool} {e : M D} {env : En} {st : Sto} (f : α → D) (p : α → Bool) (g : α → D) (hC : C st = true) : ∀ (xs : List α) (acc : List D), acc.length + xs.length ≤ 1000000 →
    (∀ x ∈ xs, ∃ env1, tgSet tg (f x) env = some env1 ∧ t env1 st = some (.ok (p x) st) ∧ (p x = true → e env1 st = some (.ok (g x) st))) → lcL C tg t e env (xs.map f) acc st = some (.ok (acc ++ (xs.filter p).map g) st)
  | [], acc, _, _ => by simp [lcL, hC]
  | d :: ds, acc, hl, h => by
    obtain ⟨env1, h1, h2, h3⟩ := h d List.mem_cons_self
    have ih := fun acc' (hl' : acc'.length + ds.length ≤ 1000000) => lc_map (C := C) (tg := tg) (t := t) (e := e) (env := env) f p g hC ds acc' hl' fun d hd => h d (List.mem_cons_of_mem _ hd)
    simp only [List.map_cons, lcL, hC, h1, h2]
    cases hp : p d with
    | true =>
      have hb : Nat.blt acc.length 1000000 = true := by
        rw [Nat.blt_eq]
        simp only [List.length_cons] at hl
        omega
      simp only [h3 hp, hb]
      rw [ih _ (by simp only [List.length_cons] at hl; simp; omega)]
      simp [List.filter_cons, hp]
    | false =>
      simp only
      rw [ih _ (by simp only [List.length_cons] at hl; omega)]
      simp [List.filter_cons, hp]
/-- no test -/
theorem lc_all {α : Type} {C : Sto → Bool} {tg : Tg} {fs : Nat → Sm} {e : M D} {env : En} {st : Sto} (f : α → D) (g : α → D) (xs : List α) (hC : C st = true) (hl : xs.length ≤ 1000000)
    (h : ∀ x ∈ xs, ∃ env1, tgSet tg (f x) env = some env1 ∧ e env1 st = some (.ok (g x) st)) : lcL C tg (dT fs .tru) e env (xs.map f) [] st = some (.ok (xs.map g) st) := by
  rw [lc_map f (fun _ => true) g hC xs [] (by simpa using hl) fun x hx => by
    obtain ⟨env1, h1, h2⟩ := h x hx
    exact ⟨env1, h1, rfl, fun _ => h2⟩]
  rw [List.filter_eq_self.mpr (fun _ _ => rfl)]
  rfl
section
variable {fs : Nat → Sm} {env : En} {st : Sto}
theorem lcV_tup {e tg ifs elt : IR} {vs : List Nat} {ds : List D} (h : dE fs e env st = some (.ok (.tup ds) st)) : dL fs (.lcV e tg ifs elt vs) env st = lcL yes (tgD tg) (dT fs ifs) (dE fs elt) (wipeE env vs) ds [] st := by
  rw [el_lcV]
  have hd : isDct (dE fs e) env st = false := by simp only [isDct, locOf, h]
  rw [hd, ei_val fs env st h]
  simp only [thn_ok]
theorem lcV_rol {e tg ifs elt : IR} {vs : List Nat} {ds : List D} (h : dE fs e env st = some (.ok (.rol ds) st)) : dL fs (.lcV e tg ifs elt vs) env st = lcL yes (tgD tg) (dT fs ifs) (dE fs elt) (wipeE env vs) ds [] st := by
  rw [el_lcV]
  have hd : isDct (dE fs e) env st = false := by simp only [isDct, locOf, h]
  rw [hd, ei_val fs env st h]
  simp only [thn_ok]
theorem lcV_lst {e tg ifs elt : IR} {vs : List Nat} {n : Nat} {ds : List D} (h : dE fs e env st = some (.ok (.loc n) st)) (hn : st[n]? = some (.lst ds)) : dL fs (.lcV e tg ifs elt vs) env st = lcL (lstIs n ds) (tgD tg) (dT fs ifs) (dE fs elt) (wipeE env vs) ds [] st := by
  rw [el_lcV]
  have hd : isDct (dE fs e) env st = false := by simp only [isDct, locOf, h, hn]
  rw [hd, ei_val fs env st h]
  simp only [hn, thn_ok]
theorem lcV_dlk {e tg ifs elt : IR} {vs : List Nat} {n : Nat} {kvs : List (L2.Key × D)} (h : dE fs e env st = some (.ok (.loc n) st)) (hn : st[n]? = some (.dlk kvs)) : dL fs (.lcV e tg ifs elt vs) env st = lcL yes (tgD tg) (dT fs ifs) (dE fs elt) (wipeE env vs) (kvs.map fun p => kD p.1) [] st := by
  rw [el_lcV]
  have hd : isDct (dE fs e) env st = false := by simp only [isDct, locOf, h, hn]
  rw [hd, ei_val fs env st h]
  simp only [hn, thn_ok]
/-- over a dict: locked meanwhile -/
theorem lcV_dct {e tg ifs elt : IR} {vs : List Nat} {n : Nat} {kvs : List (L2.Key × D)} {ys : List D} (h : dE fs e env st = some (.ok (.loc n) st)) (hn : st[n]? = some (.dct kvs)) (h' : dE fs e env (st.set n (.dlk kvs)) = some (.ok (.loc n) (st.set n (.dlk kvs))))
    (hl : lcL yes (tgD tg) (dT fs ifs) (dE fs elt) (wipeE env vs) (kvs.map fun p => kD p.1) [] (st.set n (.dlk kvs)) = some (.ok ys (st.set n (.dlk kvs)))) : dL fs (.lcV e tg ifs elt vs) env st = some (.ok ys st) := by
  rw [el_lcV]
  have hd : isDct (dE fs e) env st = true := by simp only [isDct, locOf, h, hn]
  rw [hd]
  have h1 : (st.set n (.dlk kvs))[n]? = some (.dlk kvs) := get_set hn
  have h2 : (st.set n (.dlk kvs)).set n (.dct kvs) = st := by
    rw [List.set_set]
    apply List.ext_getElem?
    intro i
    by_cases hi : n = i
    · subst hi; rw [get_set hn, hn]
    · rw [List.getElem?_set_ne hi]
  have hm : mLc (mItK (dE fs e)) (tgD tg) (dT fs ifs) (dE fs elt) vs env (st.set n (.dlk kvs)) = some (.ok ys (st.set n (.dlk kvs))) := by
    simp only [mLc, bind_thn, mItK, h', thn_ok, h1]
    exact hl
  simp only [mLock, locOf, h, lckS, hn, hm, unlk, h1, h2]
theorem forV_tup {e tg b : IR} {ds : List D} (h : dE fs e env st = some (.ok (.tup ds) st)) : dS fs (.forV e tg b) env st = forL yes (tgD tg) (dB fs b) ds env st := by
  rw [es_forV]
  have hd : isDct (dE fs e) env st = false := by simp only [isDct, locOf, h]
  rw [hd, ei_val fs env st h]
  simp only [thnS_ok]
theorem forV_lst {e tg b : IR} {n : Nat} {ds : List D} (h : dE fs e env st = some (.ok (.loc n) st)) (hn : st[n]? = some (.lst ds)) : dS fs (.forV e tg b) env st = forL (lstIs n ds) (tgD tg) (dB fs b) ds env st := by
  rw [es_forV]
  have hd : isDct (dE fs e) env st = false := by simp only [isDct, locOf, h, hn]
  rw [hd, ei_val fs env st h]
  simp only [hn, thnS_ok]
end
@[simp] theorem ble_ok {n : Nat} (h : n ≤ 1000000) : Nat.ble n 1000000 = true := by
  rw [Nat.ble_eq]; exact h
@[simp] theorem blt_ok {n : Nat} (h : n < 1000000) : Nat.blt n 1000000 = true := by
  rw [Nat.blt_eq]; exact h
/-! ### calls -/
theorem call_free {f : Sm} {ds : List D} {st st' : Sto} {d : D} (hf : D.frees ds = true) (hd : D.free d = true) (h : f ds [] = some (.ok d st')) : callS f ds st = some (.ok d st) := by
  unfold callS
  simp only [hf, h, hd]
theorem call_loc {f : Sm} {ds : List D} {st : Sto} (hf : D.frees ds = false) : callS f ds st = f ds st := by
  unfold callS
  simp only [hf]
theorem call_new {f : Sm} {ds : List D} {st st' : Sto} {d : D} (hf : D.frees ds = true) (hd : D.free d = false) (h : f ds [] = some (.ok d st')) : callS f ds st = some (.ok (d.up st.length) (st ++ st'.map (O.up st.length))) := by
  unfold callS
  simp only [hf, h, hd]
theorem call_exc {f : Sm} {ds : List D} {st st' : Sto} {x : Xn} (hf : D.frees ds = true) (hx : frX x = true) (h : f ds [] = some (.exc x st')) : callS f ds st = some (.exc x st) := by
  unfold callS
  simp only [hf, h, hx]
/-- a def that gives a plain value and keeps the store, called -/
theorem call_keep {f : Sm} {ds : List D} {st : Sto} {d : D} (hd : D.free d = true) (h1 : f ds st = some (.ok d st)) (h2 : D.frees ds = true → ∃ st', f ds [] = some (.ok d st')) : callS f ds st = some (.ok d st) := by
  unfold callS
  cases hf : D.frees ds with
  | true =>
    obtain ⟨st', e⟩ := h2 hf
    simp only [e, hd]
  | false => exact h1
/-! ### places -/
theorem ixN_nat {n k : Nat} (h : k < n) : L2.ixN n (k : Int) = some k := by
  unfold L2.ixN
  rw [if_pos (by omega), if_pos (by omega), Int.toNat_natCast]
theorem atI_nat {α : Type} {xs : List α} {k : Nat} {x : α} (h : xs[k]? = some x) : L2.atI xs (k : Int) = some x := by
  unfold L2.atI
  rw [ixN_nat (List.getElem?_eq_some_iff.mp h).1]
  exact h
theorem atI_0 {α : Type} {x : α} {xs : List α} : L2.atI (x :: xs) 0 = some x := atI_nat (k := 0) rfl
theorem atI_1 {α : Type} {x y : α} {xs : List α} : L2.atI (x :: y :: xs) 1 = some y := atI_nat (k := 1) rfl
@[simp] theorem fIx_t0 {x : D} {xs : List D} {st : Sto} : fIx (.tup (x :: xs)) (.int 0) st = some (.ok x st) := by simp [fIx, atI_0]
@[simp] theorem fIx_t1 {x y : D} {xs : List D} {st : Sto} : fIx (.tup (x :: y :: xs)) (.int 1) st = some (.ok y st) := by simp [fIx, atI_1]
theorem fIx_lst {n k : Nat} {st : Sto} {ds : List D} {d : D} (h : st[n]? = some (.lst ds)) (hk : ds[k]? = some d) : fIx (.loc n) (.int (k : Int)) st = some (.ok d st) := by simp [fIx, h, atI_nat hk]
theorem fIx_dct {n : Nat} {st : Sto} {kvs : List (L2.Key × D)} {e : D} {k : L2.Key} {d : D} (h : st[n]? = some (.dct kvs)) (he : keyD e = some k) (hk : getK kvs k = some d) : fIx (.loc n) e st = some (.ok d st) := by simp [fIx, h, he, hk]
end TA
/-! plans, by the numbers of the defs that they call -/
namespace TA
open PySem
def t_is_integer : IR := .cons (.ret (.andV (.bv 1 (.cons (.var 0) (.cons (.ty "int") .nil))) (.notV (.bv 1 (.cons (.var 0) (.cons (.ty "bool") .nil)))))) .nil
def t_is_within (c_is_integer : Nat) : IR := .cons (.ret (.andV (.call c_is_integer 1 (.cons (.var 0) .nil)) (.chain .LtE .LtE (.var 1) (.var 0) (.var 2)))) .nil
def el_is_item_pair_0 (c_is_within : Nat) : IR := .call c_is_within 3 (.cons (.var 2) (.cons (.int 0) (.cons (.op2 .Sub (.var 1) (.int 1)) .nil)))
def t_is_item_pair (c_is_within : Nat) : IR := .cons (.ifS (.orT (.notT (.tst (.bv 1 (.cons (.var 0) (.cons (.ty "tuple") .nil))))) (.orT (.tst (.cmp .NotEq (.bv 0 (.cons (.var 0) .nil)) (.int 2))) (.notT (.tst (.bf 1 (.lcV (.var 0) (.var 2) .tru (el_is_item_pair_0 c_is_within) [2])))))) (.cons (.ret (.bl false)) .nil) .nil) (.cons (.ret (.cmp .Lt (.ix (.var 0) (.int 0)) (.ix (.var 0) (.int 1)))) .nil)
def el_do_ascend_0 : IR := .cmp .Lt (.var 1) (.var 2)
def t_do_ascend : IR := .cons (.ret (.bf 1 (.lc (.zip (.cons (.var 0) (.cons (.sl (.var 0) (.at (.int 1)) .nil) .nil))) (.tup (.cons (.var 1) (.cons (.var 2) .nil))) .tru el_do_ascend_0 [1, 2]))) .nil
def el_order_fault_0 (c_is_item_pair : Nat) : IR := .call c_is_item_pair 2 (.cons (.var 1) (.cons (.ix (.var 0) (.int 0)) .nil))
def t_order_fault (c_is_within c_is_item_pair c_do_ascend : Nat) : IR := .cons (.ifS (.orT (.notT (.tst (.bv 1 (.cons (.var 0) (.cons (.ty "tuple") .nil))))) (.tst (.cmp .NotEq (.bv 0 (.cons (.var 0) .nil)) (.int 2)))) (.cons (.ret (.str { cps := #[102, 111, 114, 109] })) .nil) .nil) (.cons (.ifS (.notT (.tst (.call c_is_within 3 (.cons (.ix (.var 0) (.int 0)) (.cons (.int 0) (.cons (.int 20) .nil)))))) (.cons (.ret (.str { cps := #[109, 97, 110, 121] })) .nil) .nil) (.cons (.ifS (.orT (.notT (.tst (.bv 1 (.cons (.ix (.var 0) (.int 1)) (.cons (.ty "tuple") .nil))))) (.notT (.tst (.bf 1 (.lcV (.ix (.var 0) (.int 1)) (.var 1) .tru (el_order_fault_0 c_is_item_pair) [1]))))) (.cons (.ret (.str { cps := #[112, 97, 105, 114, 115] })) .nil) .nil) (.cons (.ret (.ifE (.tst (.call c_do_ascend 1 (.cons (.ix (.var 0) (.int 1)) .nil))) .non (.str { cps := #[112, 97, 105, 114, 115] }))) .nil)))
def t_need_order (c_order_fault : Nat) : IR := .cons (.set 1 (.call c_order_fault 1 (.cons (.var 0) .nil))) (.cons (.ifS (.tst (.cmp .IsNot (.var 1) .non)) (.cons (.raise { cps := #[66, 97, 100, 79, 114, 100, 101, 114] } { cps := #[112, 97, 114, 116] } (.var 1)) .nil) .nil) (.cons (.ret (.var 0)) .nil))
def t_need_item (c_is_within : Nat) : IR := .cons (.ifS (.notT (.tst (.call c_is_within 3 (.cons (.var 1) (.cons (.int 0) (.cons (.op2 .Sub (.ix (.var 0) (.int 0)) (.int 1)) .nil)))))) (.cons (.raise { cps := #[66, 97, 100, 73, 116, 101, 109] } { cps := #[103, 105, 118, 101, 110] } (.var 1)) .nil) .nil) .nil
def te_ahead_in_1 : IR := .tst (.cmp .Eq (.ix (.var 4) (.int 1)) (.var 2))
def el_ahead_in_2 : IR := .ix (.var 4) (.int 0)
def bd_ahead_in_3 : IR := .cons (.put (.ix (.var 1) (.var 2)) (.var 3) (.bl true)) (.cons (.ex (.mv 2 (.ix (.var 1) (.var 2)) (.cons (.ix (.var 1) (.var 3)) .nil))) .nil)
def bd_ahead_in_0 : IR := .cons (.for (.itN (.lcV (.ix (.var 0) (.int 1)) (.var 4) te_ahead_in_1 el_ahead_in_2 [4])) (.var 3) bd_ahead_in_3) .nil
def t_ahead_in : IR := .cons (.set 1 (.keep (.lc (.rng1 (.cons (.ix (.var 0) (.int 0)) .nil)) (.var 2) .tru .dict0 [2]))) (.cons (.for (.rng1 (.cons (.ix (.var 0) (.int 0)) .nil)) (.var 2) bd_ahead_in_0) (.cons (.ret (.var 1)) .nil))
def t_is_ahead (c_need_order c_need_item c_ahead_in : Nat) : IR := .cons (.ex (.call c_need_order 1 (.cons (.var 0) .nil))) (.cons (.ex (.call c_need_item 2 (.cons (.var 0) (.cons (.var 1) .nil)))) (.cons (.ex (.call c_need_item 2 (.cons (.var 0) (.cons (.var 2) .nil)))) (.cons (.ret (.cmp .In (.var 1) (.ix (.call c_ahead_in 1 (.cons (.var 0) .nil)) (.var 2)))) .nil)))
def t_with_pairs : IR := .cons (.ret (.tup (.cons (.var 0) (.cons (.bf 3 (.bL 1 (.at (.var 1)))) .nil)))) .nil
def el_closed_in_1 : IR := .tup (.cons (.var 4) (.cons (.var 2) .nil))
def bd_closed_in_0 : IR := .cons (.ex (.mf 0 (.var 1) (.lcV (.var 3) (.var 4) .tru el_closed_in_1 [4]))) .nil
def t_closed_in (c_ahead_in c_with_pairs : Nat) : IR := .cons (.set 1 (.keep (.lst .nil))) (.cons (.for (.enum (.at (.call c_ahead_in 1 (.cons (.var 0) .nil)))) (.tup (.cons (.var 2) (.cons (.var 3) .nil))) bd_closed_in_0) (.cons (.ret (.call c_with_pairs 2 (.cons (.ix (.var 0) (.int 0)) (.cons (.var 1) .nil)))) .nil))
def el_bare_in_2 : IR := .cmp .In (.var 5) (.ix (.var 1) (.var 6))
def te_bare_in_1 : IR := .notT (.tst (.bf 2 (.lcV (.var 4) (.var 6) .tru el_bare_in_2 [6])))
def el_bare_in_3 : IR := .tup (.cons (.var 5) (.cons (.var 3) .nil))
def bd_bare_in_0 : IR := .cons (.ex (.mf 0 (.var 2) (.lcV (.var 4) (.var 5) te_bare_in_1 el_bare_in_3 [5]))) .nil
def t_bare_in (c_ahead_in c_with_pairs : Nat) : IR := .cons (.tgt (.tup (.cons (.var 1) (.cons (.var 2) .nil))) (.tup (.cons (.call c_ahead_in 1 (.cons (.var 0) .nil)) (.cons (.keep (.lst .nil)) .nil)))) (.cons (.for (.enum (.at (.var 1))) (.tup (.cons (.var 3) (.cons (.var 4) .nil))) bd_bare_in_0) (.cons (.ret (.call c_with_pairs 2 (.cons (.ix (.var 0) (.int 0)) (.cons (.var 2) .nil)))) .nil))
def t_closed_form (c_need_order c_closed_in : Nat) : IR := .cons (.ret (.call c_closed_in 1 (.cons (.call c_need_order 1 (.cons (.var 0) .nil)) .nil))) .nil
def t_bare_form (c_need_order c_bare_in : Nat) : IR := .cons (.ret (.call c_bare_in 1 (.cons (.call c_need_order 1 (.cons (.var 0) .nil)) .nil))) .nil
def t_are_like (c_need_order c_closed_in : Nat) : IR := .cons (.ex (.call c_need_order 1 (.cons (.var 0) .nil))) (.cons (.ex (.call c_need_order 1 (.cons (.var 1) .nil))) (.cons (.ret (.cmp .Eq (.call c_closed_in 1 (.cons (.var 0) .nil)) (.call c_closed_in 1 (.cons (.var 1) .nil)))) .nil))
def t__law_mixed : IR := .cons (.set 0 (.op2 .Mod (.bv 3 (.cons (.var 0) .nil)) (.int 2147483647))) (.cons (.ret (.op2 .Mod (.op2 .Mult (.op2 .Mod (.op2 .Add (.op2 .Add (.op2 .Mult (.var 0) (.op2 .Add (.int 48271) (.op2 .Mult (.op2 .Mult (.int 2) (.var 1)) (.var 1)))) (.op2 .Mult (.int 69621) (.var 1))) (.int 11)) (.int 2147483647)) (.int 69621)) (.int 2147483629))) .nil)
def el__law_begin_0 : IR := .ifE (.tst (.cmp .GtE (.var 2) (.op2 .Pow (.int 10) (.int 18)))) (.var 2) (.int 0)
def t__law_begin : IR := .cons (.set 1 (.keep (.ifL (.tst (.cmpX true (.at (.var 0)) (.fr (.lst .nil)))) (.bL 0 (.at (.var 0))) (.lst (.cons (.int 0) .nil))))) (.cons (.ret (.disp [Sum.inr { cps := #[99, 101, 108, 108, 115] }, Sum.inr { cps := #[108, 101, 102, 116, 115] }, Sum.inr { cps := #[97, 116] }, Sum.inr { cps := #[114, 111, 111, 109] }] (.cons (.var 1) (.cons (.keep (.lcV (.var 1) (.var 2) .tru el__law_begin_0 [2])) (.cons (.int 0) (.cons (.int 0) .nil)))))) .nil)
def t__law_draw (c__law_mixed : Nat) : IR := .cons (.set 2 (.ix (.var 0) (.str { cps := #[97, 116] }))) (.cons (.put (.var 0) (.str { cps := #[97, 116] }) (.op2 .Add (.var 2) (.int 1))) (.cons (.set 3 (.op2 .Mod (.bv 3 (.cons (.var 2) .nil)) (.bv 0 (.cons (.ix (.var 0) (.str { cps := #[99, 101, 108, 108, 115] })) .nil)))) (.cons (.set 4 (.ix (.ix (.var 0) (.str { cps := #[108, 101, 102, 116, 115] })) (.var 3))) (.cons (.ifS (.tst (.cmp .Gt (.var 4) (.int 0))) (.cons (.put (.ix (.var 0) (.str { cps := #[108, 101, 102, 116, 115] })) (.var 3) (.op2 .FloorDiv (.var 4) (.var 1))) (.cons (.ret (.op2 .Mod (.bv 3 (.cons (.var 4) .nil)) (.var 1))) .nil)) .nil) (.cons (.set 5 (.call c__law_mixed 2 (.cons (.call c__law_mixed 2 (.cons (.ix (.ix (.var 0) (.str { cps := #[99, 101, 108, 108, 115] })) (.var 3)) (.cons (.var 2) .nil))) (.cons (.op2 .Add (.int 40) (.var 2)) .nil)))) (.cons (.ret (.op2 .Mod (.op2 .FloorDiv (.bv 3 (.cons (.op2 .Add (.op2 .Mult (.var 5) (.int 2147483647)) (.call c__law_mixed 2 (.cons (.var 5) (.cons (.op2 .Add (.int 7) (.var 2)) .nil)))) .nil)) (.int 64)) (.var 1))) .nil))))))
def t__law_of (c__law_draw : Nat) : IR := .cons (.ret (.ix (.var 1) (.call c__law_draw 2 (.cons (.var 0) (.cons (.bv 0 (.cons (.var 1) .nil)) .nil))))) .nil
def bd__law_order_1 (c__law_draw : Nat) : IR := .cons (.ifS (.orT (.andT (.tst (.cmp .Eq (.var 4) (.int 0))) (.tst (.cmp .Eq (.op2 .Add (.var 6) (.int 1)) (.var 3)))) (.andT (.tst (.cmp .Gt (.var 4) (.int 1))) (.tst (.cmp .Eq (.call c__law_draw 2 (.cons (.var 0) (.cons (.int 3) .nil))) (.int 0))))) (.cons (.ex (.mv 0 (.var 2) (.cons (.tup (.cons (.var 6) (.cons (.var 3) .nil))) .nil))) .nil) .nil) .nil
def bd__law_order_0 (c__law_draw : Nat) : IR := .cons (.for (.rng1 (.cons (.var 3) .nil)) (.var 6) (bd__law_order_1 c__law_draw)) .nil
def t__law_order (c__law_draw : Nat) : IR := .cons (.par2 4 5 (.cons (.call c__law_draw 2 (.cons (.var 0) (.cons (.int 6) .nil))) (.cons (.call c__law_draw 2 (.cons (.var 0) (.cons (.op2 .Add (.var 1) (.int 1)) .nil))) .nil))) (.cons (.set 2 (.keep (.lst .nil))) (.cons (.for (.rng1 (.cons (.var 5) .nil)) (.var 3) (bd__law_order_0 c__law_draw)) (.cons (.ret (.tup (.cons (.var 5) (.cons (.bf 3 (.bL 1 (.at (.var 2)))) .nil)))) .nil)))
def te__law_aheads_1 : IR := .tst (.cmp .Eq (.ix (.var 7) (.int 1)) (.var 2))
def el__law_aheads_2 : IR := .ix (.var 7) (.int 0)
def bd__law_aheads_4 : IR := .cons (.put (.var 4) (.var 6) (.bl true)) .nil
def bd__law_aheads_3 : IR := .cons (.put (.var 4) (.var 5) (.bl true)) (.cons (.forV (.ix (.var 1) (.var 5)) (.var 6) bd__law_aheads_4) .nil)
def bd__law_aheads_0 : IR := .cons (.set 3 (.keep (.lc (.itV (.ix (.var 0) (.int 1))) (.var 7) te__law_aheads_1 el__law_aheads_2 [7]))) (.cons (.set 4 .dict0) (.cons (.forV (.var 3) (.var 5) bd__law_aheads_3) (.cons (.ex (.mv 0 (.var 1) (.cons (.keep (.bL 1 (.at (.var 4)))) .nil))) .nil)))
def t__law_aheads : IR := .cons (.set 1 (.keep (.lst .nil))) (.cons (.for (.rng1 (.cons (.ix (.var 0) (.int 0)) .nil)) (.var 2) bd__law_aheads_0) (.cons (.ret (.var 1)) .nil))
def te__law_bare_2 : IR := .tst (.cmp .In (.var 4) (.ix (.var 2) (.var 5)))
def el__law_bare_3 : IR := .int 1
def bd__law_bare_1 : IR := .cons (.ifS (.tst (.cmpX false (.fr (.lcV (.ix (.var 2) (.var 1)) (.var 5) te__law_bare_2 el__law_bare_3 [5])) (.fr (.lst .nil)))) (.cons (.ex (.mv 0 (.var 3) (.cons (.tup (.cons (.var 4) (.cons (.var 1) .nil))) .nil))) .nil) .nil) .nil
def bd__law_bare_0 : IR := .cons (.forV (.ix (.var 2) (.var 1)) (.var 4) bd__law_bare_1) .nil
def t__law_bare (c__law_aheads : Nat) : IR := .cons (.tgt (.tup (.cons (.var 2) (.cons (.var 3) .nil))) (.tup (.cons (.call c__law_aheads 1 (.cons (.var 0) .nil)) (.cons (.keep (.lst .nil)) .nil)))) (.cons (.for (.rng1 (.cons (.ix (.var 0) (.int 0)) .nil)) (.var 1) bd__law_bare_0) (.cons (.ret (.tup (.cons (.ix (.var 0) (.int 0)) (.cons (.bf 3 (.bL 1 (.at (.var 3)))) .nil)))) .nil))
def el__law_closed_1 : IR := .tup (.cons (.var 4) (.cons (.var 1) .nil))
def bd__law_closed_0 : IR := .cons (.set 3 (.keep (.cat (.at (.var 3)) (.fr (.lcV (.ix (.var 2) (.var 1)) (.var 4) .tru el__law_closed_1 [4]))))) .nil
def t__law_closed (c__law_aheads : Nat) : IR := .cons (.par2 2 3 (.cons (.call c__law_aheads 1 (.cons (.var 0) .nil)) (.cons (.keep (.lst .nil)) .nil))) (.cons (.for (.rng1 (.cons (.ix (.var 0) (.int 0)) .nil)) (.var 1) bd__law_closed_0) (.cons (.ret (.tup (.cons (.ix (.var 0) (.int 0)) (.cons (.bf 3 (.bL 1 (.at (.var 3)))) .nil)))) .nil))
def t__law_is_number : IR := .cons (.ret (.andV (.bv 1 (.cons (.var 0) (.cons (.ty "int") .nil))) (.andV (.notV (.bv 1 (.cons (.var 0) (.cons (.ty "bool") .nil)))) (.chain .LtE .Lt (.int 0) (.var 0) (.var 1))))) .nil
def bd__law_due_0 (c__law_is_number : Nat) : IR := .cons (.ifS (.orT (.notT (.tst (.bv 1 (.cons (.var 1) (.cons (.ty "tuple") .nil))))) (.orT (.tst (.cmp .NotEq (.bv 0 (.cons (.var 1) .nil)) (.int 2))) (.notT (.tst (.call c__law_is_number 2 (.cons (.ix (.var 1) (.int 1)) (.cons (.var 3) .nil))))))) (.cons (.ret (.str { cps := #[112, 97, 105, 114, 115] })) .nil) .nil) (.cons (.ifS (.notT (.tst (.call c__law_is_number 2 (.cons (.ix (.var 1) (.int 0)) (.cons (.ix (.var 1) (.int 1)) .nil))))) (.cons (.ret (.str { cps := #[112, 97, 105, 114, 115] })) .nil) .nil) .nil)
def te__law_due_1 : IR := .tst (.cmp .GtE (.var 5) (.var 6))
def el__law_due_2 : IR := .int 1
def t__law_due (c__law_is_number : Nat) : IR := .cons (.ifS (.orT (.notT (.tst (.bv 1 (.cons (.var 0) (.cons (.ty "tuple") .nil))))) (.tst (.cmp .NotEq (.bv 0 (.cons (.var 0) .nil)) (.int 2)))) (.cons (.ret (.str { cps := #[102, 111, 114, 109] })) .nil) .nil) (.cons (.tgt (.tup (.cons (.var 3) (.cons (.var 4) .nil))) (.var 0)) (.cons (.ifS (.notT (.tst (.call c__law_is_number 2 (.cons (.var 3) (.cons (.int 21) .nil))))) (.cons (.ret (.str { cps := #[109, 97, 110, 121] })) .nil) .nil) (.cons (.ifS (.notT (.tst (.bv 1 (.cons (.var 4) (.cons (.ty "tuple") .nil))))) (.cons (.ret (.str { cps := #[112, 97, 105, 114, 115] })) .nil) .nil) (.cons (.forV (.var 4) (.var 1) (bd__law_due_0 c__law_is_number)) (.cons (.set 2 (.keep (.lc (.zip (.cons (.var 4) (.cons (.sl (.var 4) (.at (.int 1)) .nil) .nil))) (.tup (.cons (.var 5) (.cons (.var 6) .nil))) te__law_due_1 el__law_due_2 [5, 6]))) (.cons (.ret (.ifE (.tst (.cmpX false (.at (.var 2)) (.fr (.lst .nil)))) (.str { cps := #[] }) (.str { cps := #[112, 97, 105, 114, 115] }))) .nil))))))
def t__law_heard (c_need_order : Nat) : IR := .cons (.tryS (.cons (.ret (.keep (.lst (.cons (.call c_need_order 1 (.cons (.var 0) .nil)) .nil)))) .nil) [{ cls := { cps := #[66, 97, 100, 79, 114, 100, 101, 114] }, as := some 1, res := .one (.fld { cps := #[112, 97, 114, 116] }) }, { cls := { cps := #[84, 117, 114, 110, 69, 114, 114, 111, 114] }, as := none, res := .one (.str { cps := #[111, 116, 104, 101, 114] }) }] [({ cps := #[66, 97, 100, 79, 114, 100, 101, 114] }, { cps := #[84, 117, 114, 110, 69, 114, 114, 111, 114] }, true), ({ cps := #[66, 97, 100, 79, 114, 100, 101, 114] }, { cps := #[66, 97, 100, 79, 114, 100, 101, 114] }, true), ({ cps := #[66, 97, 100, 79, 114, 100, 101, 114] }, { cps := #[66, 97, 100, 73, 116, 101, 109] }, false), ({ cps := #[66, 97, 100, 73, 116, 101, 109] }, { cps := #[84, 117, 114, 110, 69, 114, 114, 111, 114] }, true), ({ cps := #[66, 97, 100, 73, 116, 101, 109] }, { cps := #[66, 97, 100, 79, 114, 100, 101, 114] }, false), ({ cps := #[66, 97, 100, 73, 116, 101, 109] }, { cps := #[66, 97, 100, 73, 116, 101, 109] }, true)]) .nil
def t__law_bent (c__law_draw c__law_of : Nat) : IR := .cons (.tgt (.tup (.cons (.var 2) (.cons (.var 3) .nil))) (.var 1)) (.cons (.par2 4 5 (.cons (.call c__law_draw 2 (.cons (.var 0) (.cons (.int 10) .nil))) (.cons (.call c__law_draw 2 (.cons (.var 0) (.cons (.op2 .Add (.bv 0 (.cons (.var 3) .nil)) (.int 1)) .nil))) .nil))) (.cons (.ifS (.tst (.cmp .Eq (.var 4) (.int 0))) (.cons (.ret (.tup (.cons (.var 2) (.cons (.op2 .Add (.sl (.var 3) .nil (.at (.var 5))) (.sl (.var 3) (.at (.op2 .Add (.var 5) (.int 1))) .nil)) .nil)))) .nil) .nil) (.cons (.ifS (.tst (.cmp .Eq (.var 4) (.int 1))) (.cons (.ret (.tup (.cons (.var 2) (.cons (.op2 .Add (.op2 .Add (.sl (.var 3) .nil (.at (.var 5))) (.tup (.cons (.tup (.cons (.var 5) (.cons (.var 5) .nil))) .nil))) (.sl (.var 3) (.at (.var 5)) .nil)) .nil)))) .nil) .nil) (.cons (.ifS (.tst (.cmp .Eq (.var 4) (.int 2))) (.cons (.ret (.tup (.cons (.var 2) (.cons (.op2 .Add (.op2 .Add (.sl (.var 3) .nil (.at (.var 5))) (.tup (.cons (.tup (.cons (.call c__law_draw 2 (.cons (.var 0) (.cons (.int 8) .nil))) (.cons (.call c__law_draw 2 (.cons (.var 0) (.cons (.int 8) .nil))) .nil))) .nil))) (.sl (.var 3) (.at (.var 5)) .nil)) .nil)))) .nil) .nil) (.cons (.ifS (.tst (.cmp .Eq (.var 4) (.int 3))) (.cons (.ret (.tup (.cons (.op2 .Add (.op2 .Sub (.var 2) (.int 1)) (.op2 .Mult (.int 3) (.call c__law_draw 2 (.cons (.var 0) (.cons (.int 2) .nil))))) (.cons (.var 3) .nil)))) .nil) .nil) (.cons (.ifS (.tst (.cmp .Eq (.var 4) (.int 4))) (.cons (.ret (.tup (.cons (.var 2) (.cons (.rev (.var 3)) .nil)))) .nil) .nil) (.cons (.ifS (.tst (.cmp .Eq (.var 4) (.int 5))) (.cons (.ret (.tup (.cons (.var 2) (.cons (.op2 .Add (.var 3) (.sl (.var 3) (.at (.var 5)) (.at (.op2 .Add (.var 5) (.int 1))))) .nil)))) .nil) .nil) (.cons (.ifS (.tst (.cmp .Eq (.var 4) (.int 6))) (.cons (.ret (.call c__law_of 2 (.cons (.var 0) (.cons (.keep (.lst (.cons (.keep (.bL 0 (.at (.var 1)))) (.cons (.tup (.cons (.var 2) .nil)) (.cons (.tup (.cons (.var 2) (.cons (.var 3) (.cons (.tup .nil) .nil)))) (.cons .non (.cons (.tup (.cons (.var 3) (.cons (.var 2) .nil))) (.cons (.tup (.cons (.bl true) (.cons (.tup .nil) .nil))) (.cons (.var 2) (.cons .dict0 .nil)))))))))) .nil)))) .nil) .nil) (.cons (.ifS (.tst (.cmp .Eq (.var 4) (.int 7))) (.cons (.ret (.tup (.cons (.var 2) (.cons (.keep (.bL 0 (.at (.var 3)))) .nil)))) .nil) .nil) (.cons (.ifS (.tst (.cmp .Eq (.var 4) (.int 8))) (.cons (.ret (.tup (.cons (.call c__law_of 2 (.cons (.var 0) (.cons (.keep (.lst (.cons .non (.cons (.neg (.int 1)) (.cons (.int 21) (.cons (.int 22) (.cons (.bl true) (.cons (.str { cps := #[51] }) (.cons (.var 2) .nil))))))))) .nil))) (.cons (.var 3) .nil)))) .nil) .nil) (.cons (.ret (.tup (.cons (.var 2) (.cons (.op2 .Add (.var 3) (.tup (.cons (.call c__law_of 2 (.cons (.var 0) (.cons (.keep (.lst (.cons .non (.cons (.int 5) (.cons (.tup (.cons (.int 0) .nil)) (.cons (.tup (.cons (.int 0) (.cons (.int 1) (.cons (.int 2) .nil)))) (.cons (.keep (.lst (.cons (.int 0) (.cons (.int 1) .nil)))) (.cons (.tup (.cons (.int 0) (.cons (.bl true) .nil))) (.cons (.tup (.cons (.neg (.int 1)) (.cons (.int 0) .nil))) (.cons (.tup (.cons (.int 0) (.cons (.var 2) .nil))) .nil)))))))))) .nil))) .nil))) .nil)))) .nil)))))))))))
def el__law_good_1 : IR := .cmp .In (.var 11) (.ix (.var 6) (.var 4))
def el__law_good_2 (c_is_ahead : Nat) : IR := .call c_is_ahead 3 (.cons (.var 1) (.cons (.var 11) (.cons (.var 4) .nil)))
def bd__law_good_0 (c_is_ahead : Nat) : IR := .cons (.set 8 (.keep (.lc (.rng1 (.cons (.ix (.var 1) (.int 0)) .nil)) (.var 11) .tru el__law_good_1 [11]))) (.cons (.ifS (.tst (.cmp .NotEq (.bf 4 (.lc (.rng1 (.cons (.ix (.var 1) (.int 0)) .nil)) (.var 11) .tru (el__law_good_2 c_is_ahead) [11])) (.bv 4 (.cons (.var 8) .nil)))) (.cons (.ret (.bl false)) .nil) .nil) .nil)
def bd__law_good_3 (c_are_like c__law_closed c__law_due c__law_heard c__law_bent : Nat) : IR := .cons (.set 9 (.call c__law_bent 2 (.cons (.var 0) (.cons (.var 1) .nil)))) (.cons (.set 10 (.call c__law_due 1 (.cons (.var 9) .nil))) (.cons (.ifS (.tst (.cmp .NotEq (.bv 4 (.cons (.call c__law_heard 1 (.cons (.var 9) .nil)) .nil)) (.bv 4 (.cons (.ifE (.tst (.cmp .NotEq (.var 10) (.str { cps := #[] }))) (.var 10) (.keep (.lst (.cons (.var 9) .nil)))) .nil)))) (.cons (.ret (.bl false)) .nil) .nil) (.cons (.ifS (.andT (.tst (.cmp .Eq (.var 10) (.str { cps := #[] }))) (.tst (.cmp .NotEq (.bv 4 (.cons (.call c_are_like 2 (.cons (.var 1) (.cons (.var 9) .nil))) .nil)) (.bv 4 (.cons (.cmp .Eq (.call c__law_closed 1 (.cons (.var 9) .nil)) (.var 7)) .nil))))) (.cons (.ret (.bl false)) .nil) .nil) .nil)))
def t__law_good (c_need_order c_is_ahead c_closed_form c_bare_form c_are_like c__law_order c__law_aheads c__law_bare c__law_closed c__law_due c__law_heard c__law_bent : Nat) : IR := .cons (.set 1 (.call c__law_order 2 (.cons (.var 0) (.cons (.int 7) .nil)))) (.cons (.tgt (.tup (.cons (.var 6) (.cons (.var 7) .nil))) (.tup (.cons (.call c__law_aheads 1 (.cons (.var 1) .nil)) (.cons (.call c__law_closed 1 (.cons (.var 1) .nil)) .nil)))) (.cons (.set 2 (.call c__law_bare 1 (.cons (.var 1) .nil))) (.cons (.set 3 (.keep (.lst (.cons (.call c_need_order 1 (.cons (.var 1) .nil)) (.cons (.call c_closed_form 1 (.cons (.var 1) .nil)) (.cons (.call c_bare_form 1 (.cons (.var 1) .nil)) (.cons (.call c_closed_form 1 (.cons (.var 1) .nil)) (.cons (.call c_bare_form 1 (.cons (.var 7) .nil)) .nil)))))))) (.cons (.ifS (.tst (.cmp .NotEq (.bv 4 (.cons (.var 3) .nil)) (.bf 4 (.lst (.cons (.var 1) (.cons (.var 7) (.cons (.var 2) (.cons (.var 7) (.cons (.var 2) .nil))))))))) (.cons (.ret (.bl false)) .nil) .nil) (.cons (.for (.rng1 (.cons (.ix (.var 1) (.int 0)) .nil)) (.var 4) (bd__law_good_0 c_is_ahead)) (.cons (.for (.rng1 (.cons (.int 6) .nil)) (.var 5) (bd__law_good_3 c_are_like c__law_closed c__law_due c__law_heard c__law_bent)) (.cons (.ret (.andV (.cmp .Is (.call c_are_like 2 (.cons (.var 1) (.cons (.var 2) .nil))) (.bl true)) (.andV (.cmp .Is (.call c_are_like 2 (.cons (.var 7) (.cons (.var 1) .nil))) (.bl true)) (.notV (.call c_are_like 2 (.cons (.tup (.cons (.int 2) (.cons (.tup .nil) .nil))) (.cons (.tup (.cons (.int 3) (.cons (.tup .nil) .nil))) .nil))))))) .nil)))))))
def bd__law_hand_good_0 (c__law_heard : Nat) : IR := .cons (.ifS (.tst (.cmp .NotEq (.bv 4 (.cons (.call c__law_heard 1 (.cons (.var 2) .nil)) .nil)) (.bv 4 (.cons (.ifE (.tst (.cmp .NotEq (.var 3) (.str { cps := #[] }))) (.var 3) (.keep (.lst (.cons (.var 2) .nil)))) .nil)))) (.cons (.ret (.bl false)) .nil) .nil) .nil
def t__law_hand_good (c_is_ahead c_closed_form c_bare_form c_are_like c__law_heard : Nat) : IR := .cons (.set 0 (.keep (.lst (.cons (.tup (.cons (.tup (.cons (.int 0) (.cons (.tup .nil) .nil))) (.cons (.str { cps := #[] }) .nil))) (.cons (.tup (.cons (.tup (.cons (.int 20) (.cons (.tup (.cons (.tup (.cons (.int 0) (.cons (.int 19) .nil))) .nil)) .nil))) (.cons (.str { cps := #[] }) .nil))) (.cons (.tup (.cons (.tup (.cons (.int 21) (.cons (.tup .nil) .nil))) (.cons (.str { cps := #[109, 97, 110, 121] }) .nil))) (.cons (.tup (.cons (.tup (.cons (.int 2) (.cons (.tup (.cons (.tup (.cons (.int 1) (.cons (.int 0) .nil))) .nil)) .nil))) (.cons (.str { cps := #[112, 97, 105, 114, 115] }) .nil))) (.cons (.tup (.cons (.tup (.cons (.bl true) (.cons (.tup .nil) .nil))) (.cons (.str { cps := #[109, 97, 110, 121] }) .nil))) .nil)))))))) (.cons (.set 0 (.keep (.cat (.at (.var 0)) (.fr (.lst (.cons (.tup (.cons (.tup (.cons (.int 2) (.cons (.tup (.cons (.tup (.cons (.int 0) (.cons (.int 1) .nil))) (.cons (.tup (.cons (.int 0) (.cons (.int 1) .nil))) .nil))) .nil))) (.cons (.str { cps := #[112, 97, 105, 114, 115] }) .nil))) (.cons (.tup (.cons (.tup (.cons (.int 3) (.cons (.tup (.cons (.tup (.cons (.int 0) (.cons (.int 2) .nil))) (.cons (.tup (.cons (.int 0) (.cons (.int 1) .nil))) .nil))) .nil))) (.cons (.str { cps := #[112, 97, 105, 114, 115] }) .nil))) (.cons (.tup (.cons (.keep (.lst (.cons (.int 0) (.cons (.tup .nil) .nil)))) (.cons (.str { cps := #[102, 111, 114, 109] }) .nil))) .nil)))))))) (.cons (.ex (.mv 0 (.var 0) (.cons (.tup (.cons (.tup (.cons (.int 0) .nil)) (.cons (.str { cps := #[102, 111, 114, 109] }) .nil))) .nil))) (.cons (.forV (.var 0) (.tup (.cons (.var 2) (.cons (.var 3) .nil))) (bd__law_hand_good_0 c__law_heard)) (.cons (.set 1 (.tup (.cons (.int 4) (.cons (.tup (.cons (.tup (.cons (.int 0) (.cons (.int 1) .nil))) (.cons (.tup (.cons (.int 0) (.cons (.int 3) .nil))) (.cons (.tup (.cons (.int 1) (.cons (.int 2) .nil))) (.cons (.tup (.cons (.int 2) (.cons (.int 3) .nil))) .nil))))) .nil)))) (.cons (.ifS (.tst (.cmp .NotEq (.call c_closed_form 1 (.cons (.var 1) .nil)) (.tup (.cons (.int 4) (.cons (.tup (.cons (.tup (.cons (.int 0) (.cons (.int 1) .nil))) (.cons (.tup (.cons (.int 0) (.cons (.int 2) .nil))) (.cons (.tup (.cons (.int 0) (.cons (.int 3) .nil))) (.cons (.tup (.cons (.int 1) (.cons (.int 2) .nil))) (.cons (.tup (.cons (.int 1) (.cons (.int 3) .nil))) (.cons (.tup (.cons (.int 2) (.cons (.int 3) .nil))) .nil))))))) .nil))))) (.cons (.ret (.bl false)) .nil) .nil) (.cons (.ifS (.tst (.cmp .IsNot (.call c_are_like 2 (.cons (.var 1) (.cons (.tup (.cons (.int 3) (.cons (.tup .nil) .nil))) .nil))) (.bl false))) (.cons (.ret (.bl false)) .nil) .nil) (.cons (.ifS (.orT (.tst (.cmp .NotEq (.call c_bare_form 1 (.cons (.var 1) .nil)) (.tup (.cons (.int 4) (.cons (.tup (.cons (.tup (.cons (.int 0) (.cons (.int 1) .nil))) (.cons (.tup (.cons (.int 1) (.cons (.int 2) .nil))) (.cons (.tup (.cons (.int 2) (.cons (.int 3) .nil))) .nil)))) .nil))))) (.tst (.cmp .IsNot (.call c_is_ahead 3 (.cons (.var 1) (.cons (.int 0) (.cons (.int 0) .nil)))) (.bl false)))) (.cons (.ret (.bl false)) .nil) .nil) (.cons (.ret (.andV (.cmp .Is (.call c_is_ahead 3 (.cons (.var 1) (.cons (.int 0) (.cons (.int 3) .nil)))) (.bl true)) (.cmp .Is (.call c_is_ahead 3 (.cons (.var 1) (.cons (.int 3) (.cons (.int 0) .nil)))) (.bl false)))) .nil))))))))
def bd_law_0 (c__law_good : Nat) : IR := .cons (.ifS (.notT (.tst (.call c__law_good 1 (.cons (.var 1) .nil)))) (.cons (.ret (.bl false)) .nil) .nil) .nil
def t_law (c__law_begin c__law_good c__law_hand_good : Nat) : IR := .cons (.ifS (.notT (.tst (.call c__law_hand_good 0 .nil))) (.cons (.ret (.bl false)) .nil) .nil) (.cons (.set 1 (.call c__law_begin 1 (.cons (.var 0) .nil))) (.cons (.for (.rng1 (.cons (.op2 .Add (.int 3) (.bv 5 (.cons (.bv 0 (.cons (.var 0) .nil)) (.cons (.int 4) .nil)))) .nil)) (.var 2) (bd_law_0 c__law_good)) (.cons (.ret (.bl true)) .nil)))
end TA
/-! plain data: equality, repr -/
namespace TA
open PySem
mutual
def pyD : D → PyData
  | .non => .none
  | .bl b => .bool b
  | .int i => .int i
  | .str s => .str s
  | .tup ds => .tuple (pyDs ds)
  | _ => .none
def pyDs : List D → List PyData
  | [] => []
  | d :: ds => pyD d :: pyDs ds
end
/-- plain data, at most n deep -/
def plD : Nat → D → Bool
  | _, .non => true
  | _, .bl _ => true
  | _, .int _ => true
  | _, .str s => PyData.strOk s
  | n + 1, .tup ds => ds.all (plD n)
  | _, _ => false
/-- no truth values within -/
def nbD : Nat → D → Bool
  | _, .non => true
  | _, .int _ => true
  | _, .str s => PyData.strOk s
  | n + 1, .tup ds => ds.all (nbD n)
  | _, _ => false
/-- what can be shown -/
def plS : Nat → D → Bool
  | _, .non => true
  | _, .bl _ => true
  | _, .int i => Nat.blt i.natAbs 1000000000000
  | _, .str s => PyData.strOk s && PyData.strOk (reprText s) && Nat.ble s.cps.size 40
  | n + 1, .tup ds => ds.all (plS n)
  | _, _ => false
theorem nb_pl : ∀ {n : Nat} {d : D}, nbD n d = true → plD n d = true
  | 0, d, h => by cases d <;> simp_all [nbD, plD]
  | n + 1, d, h => by
    cases d <;> simp_all [nbD, plD]
    intro x hx
    exact nb_pl (h x hx)
theorem ps_pl : ∀ {n : Nat} {d : D}, plS n d = true → plD n d = true
  | 0, d, h => by cases d <;> simp_all [plS, plD]
  | n + 1, d, h => by
    cases d <;> simp_all [plS, plD]
    intro x hx
    exact ps_pl (h x hx)
theorem allO_pl {st : Sto} {m : Nat} : ∀ {ds : List D}, (∀ d ∈ ds, toPy m st d = some (pyD d)) → allO (toPy m st) ds = some (pyDs ds)
  | [], _ => rfl
  | d :: ds, h => by
    simp only [allO, h d List.mem_cons_self, allO_pl fun d hd => h d (List.mem_cons_of_mem _ hd), pyDs]
theorem toPy_pl {st : Sto} : ∀ {n m : Nat} {d : D}, plD n d = true → n ≤ m → toPy m st d = some (pyD d)
  | 0, m, d, h, _ => by cases d <;> cases m <;> simp_all [plD, toPy, pyD]
  | n + 1, m, d, h, hm => by
    cases d with
    | tup ds =>
      cases m with
      | zero => omega
      | succ m =>
        simp only [plD, List.all_eq_true] at h
        simp only [toPy, pyD, allO_pl fun d hd => toPy_pl (h d hd) (by omega : n ≤ m), Option.map_some]
    | _ => cases m <;> simp_all [plD, toPy, pyD]
theorem canAll : ∀ {ds : List D}, (∀ d ∈ ds, PyData.canLay0 (pyD d) = true) → PyData.canLayAll0 (pyDs ds) = true
  | [], _ => rfl
  | d :: ds, h => by simp only [pyDs, PyData.canLayAll0, h d List.mem_cons_self, canAll fun d hd => h d (List.mem_cons_of_mem _ hd), Bool.and_self]
theorem can_pl : ∀ {n : Nat} {d : D}, plD n d = true → PyData.canLay0 (pyD d) = true
  | 0, d, h => by cases d <;> simp_all [plD, pyD, PyData.canLay0]
  | n + 1, d, h => by
    cases d with
    | tup ds =>
      simp only [plD, List.all_eq_true] at h
      simp only [pyD, PyData.canLay0]
      exact canAll fun d hd => can_pl (h d hd)
    | _ => simp_all [plD, pyD, PyData.canLay0]
theorem depthAll_le {n : Nat} : ∀ {ds : List D}, (∀ d ∈ ds, PyData.depth (pyD d) ≤ n) → PyData.depthAll (pyDs ds) ≤ n
  | [], _ => by simp [pyDs, PyData.depthAll]
  | d :: ds, h => by
    have h1 := h d List.mem_cons_self
    have h2 := depthAll_le fun d hd => h d (List.mem_cons_of_mem _ hd)
    simp only [pyDs, PyData.depthAll]
    omega
theorem depth_pl : ∀ {n : Nat} {d : D}, plD n d = true → PyData.depth (pyD d) ≤ n
  | 0, d, h => by cases d <;> simp_all [plD, pyD, PyData.depth]
  | n + 1, d, h => by
    cases d with
    | tup ds =>
      simp only [plD, List.all_eq_true] at h
      have := depthAll_le fun d hd => depth_pl (h d hd)
      simp only [pyD, PyData.depth]
      omega
    | _ => simp_all [plD, pyD, PyData.depth]
theorem shaped_pl {n : Nat} {d : D} (h : plD n d = true) (hn : n ≤ 64) : SeqAt.shaped (pyD d) = true := by
  have := depth_pl h
  simp only [SeqAt.shaped, can_pl h, Bool.true_and, decide_eq_true_eq]
  omega
theorem same_iff {d e : D} : D.same d e = true ↔ d = e := ⟨D.same_eq, fun h => h ▸ D.same_refl _⟩
theorem eqvAll_nb {n : Nat} : ∀ {ds es : List D}, (∀ d ∈ ds, ∀ e ∈ es, PyData.eqv (pyD d) (pyD e) = D.same d e) → PyData.eqvAll (pyDs ds) (pyDs es) = D.sames ds es
  | [], [], _ => rfl
  | [], _ :: _, _ => rfl
  | _ :: _, [], _ => rfl
  | d :: ds, e :: es, h => by
    simp only [pyDs, PyData.eqvAll, D.sames, h d List.mem_cons_self e List.mem_cons_self, eqvAll_nb (n := n) fun d hd e he => h d (List.mem_cons_of_mem _ hd) e (List.mem_cons_of_mem _ he)]
theorem str_beq (x y : Str) : (x == y) = decide (x = y) := by
  by_cases h : x = y
  · subst h; simp
  · rw [decide_eq_false h]; exact beq_eq_false_iff_ne.mpr h
theorem int_beq (x y : Int) : (x == y) = decide (x = y) := by
  by_cases h : x = y
  · subst h; simp
  · rw [decide_eq_false h]; exact beq_eq_false_iff_ne.mpr h
theorem eqv_nb : ∀ {n m : Nat} {d e : D}, nbD n d = true → nbD m e = true → PyData.eqv (pyD d) (pyD e) = D.same d e
  | 0, m, d, e, h, g => by
    cases d <;> simp only [nbD, Bool.false_eq_true] at h <;> cases e <;> cases m <;> simp_all [nbD, pyD, PyData.eqv, D.same, str_beq, int_beq]
  | n + 1, 0, d, e, h, g => by
    cases e <;> simp only [nbD, Bool.false_eq_true] at g <;> cases d <;> simp_all [nbD, pyD, PyData.eqv, D.same, str_beq, int_beq]
  | n + 1, m + 1, d, e, h, g => by
    cases d with
    | tup ds =>
      cases e with
      | tup es =>
        simp only [nbD, List.all_eq_true] at h g
        simp only [pyD, PyData.eqv, D.same]
        exact eqvAll_nb (n := 0) fun d hd e he => eqv_nb (h d hd) (g e he)
      | _ => simp_all [nbD, pyD, PyData.eqv, D.same]
    | _ => cases e <;> simp_all [nbD, pyD, PyData.eqv, D.same, str_beq, int_beq]
theorem eqD_nb {st : Sto} {d e : D} (h : nbD 30 d = true) (g : nbD 30 e = true) : eqD st d e = some (D.same d e) := by
  have h' := nb_pl h
  have g' := nb_pl g
  simp only [eqD, toPy_pl h' (by omega : 30 ≤ 40), toPy_pl g' (by omega : 30 ≤ 40), shaped_pl h' (by omega), shaped_pl g' (by omega), Bool.and_self, eqv_nb h g]
theorem fEq_nb {st : Sto} {d e : D} (h : nbD 30 d = true) (g : nbD 30 e = true) : fEq d e st = some (.ok (.bl (D.same d e)) st) := by simp only [fEq, eqD_nb h g, okB]
theorem fNe_nb {st : Sto} {d e : D} (h : nbD 30 d = true) (g : nbD 30 e = true) : fNe d e st = some (.ok (.bl (!D.same d e)) st) := by simp only [fNe, eqD_nb h g, okB, Option.map_some]
/-! ### repr -/
mutual
def nodes : D → Nat
  | .tup ds => 1 + nodess ds
  | _ => 1
def nodess : List D → Nat
  | [] => 0
  | d :: ds => nodes d + nodess ds
end
theorem weightAll_le : ∀ {ds : List D}, (∀ d ∈ ds, PyData.weight (pyD d) + 1 ≤ 43 * nodes d) → PyData.weightAll (pyDs ds) ≤ 43 * nodess ds
  | [], _ => by simp [pyDs, PyData.weightAll]
  | d :: ds, h => by
    have h1 := h d List.mem_cons_self
    have h2 := weightAll_le fun d hd => h d (List.mem_cons_of_mem _ hd)
    simp only [pyDs, PyData.weightAll, nodess]
    omega
theorem int_weight {i : Int} (h : Nat.blt i.natAbs 1000000000000 = true) : PyData.weight (.int i) ≤ 41 := by
  rw [Nat.blt_eq] at h
  simp only [PyData.weight]
  split
  · omega
  · rename_i hz
    have hz' : i.natAbs ≠ 0 := fun e => hz (by simpa using e)
    have := (Nat.log2_lt hz' (k := 40)).mpr (Nat.lt_of_lt_of_le h (by decide))
    omega
theorem weight_ps : ∀ {n : Nat} {d : D}, plS n d = true → PyData.weight (pyD d) + 1 ≤ 43 * nodes d
  | 0, d, h => by
    cases d with
    | int i => have := int_weight (by simpa [plS] using h); simp only [pyD, nodes]; omega
    | str s => simp only [plS, Bool.and_eq_true, Nat.ble_eq] at h; simp only [pyD, PyData.weight, nodes]; omega
    | _ => simp_all [plS, pyD, PyData.weight, nodes]
  | n + 1, d, h => by
    cases d with
    | int i => have := int_weight (by simpa [plS] using h); simp only [pyD, nodes]; omega
    | str s => simp only [plS, Bool.and_eq_true, Nat.ble_eq] at h; simp only [pyD, PyData.weight, nodes]; omega
    | tup ds =>
      simp only [plS, List.all_eq_true] at h
      have := weightAll_le fun d hd => weight_ps (h d hd)
      simp only [pyD, PyData.weight, nodes]
      omega
    | _ => simp_all [plS, pyD, PyData.weight, nodes]
theorem intsAll : ∀ {ds : List D}, (∀ d ∈ ds, intsLt (pyD d) = true) → intsLts (pyDs ds) = true
  | [], _ => rfl
  | d :: ds, h => by simp only [pyDs, intsLts, h d List.mem_cons_self, intsAll fun d hd => h d (List.mem_cons_of_mem _ hd), Bool.and_self]
theorem ints_ps : ∀ {n : Nat} {d : D}, plS n d = true → intsLt (pyD d) = true
  | 0, d, h => by cases d <;> simp_all [plS, pyD, intsLt]
  | n + 1, d, h => by
    cases d with
    | tup ds =>
      simp only [plS, List.all_eq_true] at h
      simp only [pyD, intsLt]
      exact intsAll fun d hd => ints_ps (h d hd)
    | _ => simp_all [plS, pyD, intsLt]
theorem showOk_ps {n : Nat} {d : D} (h : plS n d = true) (hn : n ≤ 60) (hs : nodes d ≤ 20000) : showOk (pyD d) = true := by
  have h1 := depth_pl (ps_pl h)
  have h2 := weight_ps h
  have h3 := can_pl (ps_pl h)
  have h4 := ints_ps h
  simp only [showOk, PyData.layable0, h3, h4, Bool.true_and, Bool.and_true, Bool.and_eq_true, decide_eq_true_eq]
  omega
theorem showOk_list {n : Nat} {ds : List D} (h : ∀ d ∈ ds, plS n d = true) (hn : n ≤ 60) (hs : nodess ds ≤ 20000) : showOk (.list (pyDs ds)) = true := by
  have h1 := depthAll_le (n := n) fun d hd => depth_pl (ps_pl (h d hd))
  have h2 := weightAll_le fun d hd => weight_ps (h d hd)
  have h3 : PyData.canLay0 (.list (pyDs ds)) = true := canAll fun d hd => can_pl (ps_pl (h d hd))
  have h4 : intsLt (.list (pyDs ds)) = true := intsAll fun d hd => ints_ps (h d hd)
  have h5 : PyData.depth (.list (pyDs ds)) = PyData.depthAll (pyDs ds) + 1 := by simp only [PyData.depth]
  have h6 : PyData.weight (.list (pyDs ds)) = PyData.weightAll (pyDs ds) := by simp only [PyData.weight]
  simp only [showOk, PyData.layable0, h3, h4, h5, h6, Bool.true_and, Bool.and_true, Bool.and_eq_true, decide_eq_true_eq]
  omega
/-! the signs of what is shown -/
def okSigns (s : Str) : Prop := ∀ c ∈ s.cps.toList, c < 0x110000
theorem okSigns_ok {s : Str} (h : okSigns s) : PyData.strOk s = true := by
  unfold PyData.strOk
  rw [← Array.all_toList, List.all_eq_true]
  intro c hc
  exact decide_eq_true (h c hc)
theorem ok_okSigns {s : Str} (h : PyData.strOk s = true) : okSigns s := by
  unfold PyData.strOk at h
  rw [← Array.all_toList, List.all_eq_true] at h
  exact fun c hc => of_decide_eq_true (h c hc)
open PyProof.Rows in
theorem signs_all {l r : Str} {ts : List Str} (hl : okSigns l) (hr : okSigns r) (h : ∀ t ∈ ts, okSigns t) : okSigns (l ++ Str.join ", " ts ++ r) := by
  intro c hc
  rw [mem_cps_append, mem_cps_append, mem_join] at hc
  rcases hc with (hc | (⟨t, ht, hc⟩ | ⟨_, hc⟩)) | hc
  · exact hl c hc
  · exact h t ht c hc
  · rw [signs_sep] at hc
    simp only [List.mem_cons, List.not_mem_nil, or_false] at hc
    omega
  · exact hr c hc
theorem shownAll_ok : ∀ {ds : List D}, (∀ d ∈ ds, okSigns (PyData.shown (pyD d))) → ∀ t ∈ PyData.shownAll (pyDs ds), okSigns t
  | [], _, t, ht => by simp [pyDs, PyData.shownAll] at ht
  | d :: ds, h, t, ht => by
    simp only [pyDs, PyData.shownAll, List.mem_cons] at ht
    rcases ht with rfl | ht
    · exact h d List.mem_cons_self
    · exact shownAll_ok (fun d hd => h d (List.mem_cons_of_mem _ hd)) t ht
theorem ok_list {ts : List Str} (h : ∀ t ∈ ts, okSigns t) : okSigns ((("[" : String) : Str) ++ Str.join ", " ts ++ "]") :=
  signs_all (ok_okSigns (by decide +kernel)) (ok_okSigns (by decide +kernel)) h
theorem ok_tuple {ts : List Str} {n : Nat} (h : ∀ t ∈ ts, okSigns t) : okSigns ((("(" : String) : Str) ++ Str.join ", " ts ++ ((if n == 1 then ",)" else ")" : String) : Str)) := by
  refine signs_all (ok_okSigns (by decide +kernel)) ?_ h
  split
  · exact ok_okSigns (by decide +kernel)
  · exact ok_okSigns (by decide +kernel)
theorem ok_int (i : Int) : okSigns (PyData.shown (.int i)) := fun c hc => Nat.lt_of_not_le fun hl => PyProof.Rows.shown_int_free' ⟨by omega, .inr (by omega)⟩ i hc
theorem ok_bool (b : Bool) : okSigns (PyData.shown (.bool b)) := by
  rw [PyData.shown_bool]
  cases b
  · exact ok_okSigns (by decide +kernel)
  · exact ok_okSigns (by decide +kernel)
theorem ok_none : okSigns (PyData.shown .none) := by
  rw [PyData.shown_none]
  exact ok_okSigns (by decide +kernel)
theorem ok_shown : ∀ {n : Nat} {d : D}, plS n d = true → okSigns (PyData.shown (pyD d))
  | 0, d, h => by
    cases d with
    | non => exact ok_none
    | bl b => exact ok_bool b
    | int i => exact ok_int i
    | str s =>
      simp only [plS, Bool.and_eq_true] at h
      simp only [pyD, PyData.shown_str]
      exact ok_okSigns h.1.2
    | _ => simp [plS] at h
  | n + 1, d, h => by
    cases d with
    | non => exact ok_none
    | bl b => exact ok_bool b
    | int i => exact ok_int i
    | str s =>
      simp only [plS, Bool.and_eq_true] at h
      simp only [pyD, PyData.shown_str]
      exact ok_okSigns h.1.2
    | tup ds =>
      simp only [plS, List.all_eq_true] at h
      simp only [pyD, PyData.shown_tuple]
      exact ok_tuple (shownAll_ok fun d hd => ok_shown (h d hd))
    | _ => simp [plS] at h
theorem ok_shownL {n : Nat} {ds : List D} (h : ∀ d ∈ ds, plS n d = true) : okSigns (PyData.shown (.list (pyDs ds))) := by
  rw [PyData.shown_list]
  exact ok_list (shownAll_ok fun d hd => ok_shown (h d hd))
/-- repr(d), of plain data -/
theorem repr_ps {n : Nat} {d : D} {st : Sto} (h : plS n d = true) (hn : n ≤ 30) (hs : nodes d ≤ 20000) : bReprV [d] st = some (.ok (.str (PyData.shown (pyD d))) st) := by
  simp only [bReprV, toPy_pl (ps_pl h) (by omega : n ≤ 40), showOk_ps h (by omega) hs]
/-- repr([..]), of plain data -/
theorem repr_list {n : Nat} {ds : List D} {st : Sto} (h : ∀ d ∈ ds, plS n d = true) (hn : n ≤ 30) (hs : nodess ds ≤ 20000) : bReprF ds st = some (.ok (.str (PyData.shown (.list (pyDs ds)))) st) := by
  simp only [bReprF, allO_pl fun d hd => toPy_pl (ps_pl (h d hd)) (by omega : n ≤ 39), showOk_list h (by omega) hs]
/-- repr of a list of the store -/
theorem repr_loc {n m : Nat} {ds : List D} {st : Sto} (hm : st[m]? = some (.lst ds)) (h : ∀ d ∈ ds, plS n d = true) (hn : n ≤ 30) (hs : nodess ds ≤ 20000) : bReprV [.loc m] st = some (.ok (.str (PyData.shown (.list (pyDs ds)))) st) := by
  have e : toPy 40 st (.loc m) = some (.list (pyDs ds)) := by
    simp only [toPy, hm, allO_pl fun d hd => toPy_pl (ps_pl (h d hd)) (by omega : n ≤ 39), Option.map_some]
  simp only [bReprV, e, showOk_list h (by omega) hs]
theorem same_str (s : Str) : D.same (.str s) (.str s) = true := D.same_refl _
/-- two texts that are the same -/
theorem fNe_shown {s : Str} {st : Sto} (h : okSigns s) : fNe (.str s) (.str s) st = some (.ok (.bl false) st) := by
  have hs : nbD 30 (.str s) = true := by simp only [nbD, okSigns_ok h]
  rw [fNe_nb hs hs, D.same_refl]
  rfl
end TA
/-! plain data as they are read from the store: lists too -/
namespace TA
open PySem
/-- what can be shown and compared, at most n deep -/
def psP : Nat → PyData → Bool
  | _, .none => true
  | _, .bool _ => true
  | _, .int i => Nat.blt i.natAbs 1000000000000
  | _, .str s => PyData.strOk s && PyData.strOk (reprText s) && Nat.ble s.cps.size 40
  | n + 1, .tuple ps => ps.all (psP n)
  | n + 1, .list ps => ps.all (psP n)
  | _, _ => false
mutual
def nodP : PyData → Nat
  | .tuple ps => 1 + nodPs ps
  | .list ps => 1 + nodPs ps
  | _ => 1
def nodPs : List PyData → Nat
  | [] => 0
  | p :: ps => nodP p + nodPs ps
end
theorem canAllP : ∀ {ps : List PyData}, (∀ p ∈ ps, PyData.canLay0 p = true) → PyData.canLayAll0 ps = true
  | [], _ => rfl
  | p :: ps, h => by simp only [PyData.canLayAll0, h p List.mem_cons_self, canAllP fun p hp => h p (List.mem_cons_of_mem _ hp), Bool.and_self]
theorem can_P : ∀ {n : Nat} {p : PyData}, psP n p = true → PyData.canLay0 p = true
  | 0, p, h => by cases p <;> simp_all [psP, PyData.canLay0]
  | n + 1, p, h => by
    cases p with
    | tuple ps =>
      simp only [psP, List.all_eq_true] at h
      simp only [PyData.canLay0]
      exact canAllP fun p hp => can_P (h p hp)
    | list ps =>
      simp only [psP, List.all_eq_true] at h
      simp only [PyData.canLay0]
      exact canAllP fun p hp => can_P (h p hp)
    | _ => simp_all [psP, PyData.canLay0]
theorem depthAllP {n : Nat} : ∀ {ps : List PyData}, (∀ p ∈ ps, PyData.depth p ≤ n) → PyData.depthAll ps ≤ n
  | [], _ => by simp [PyData.depthAll]
  | p :: ps, h => by
    have h1 := h p List.mem_cons_self
    have h2 := depthAllP fun p hp => h p (List.mem_cons_of_mem _ hp)
    simp only [PyData.depthAll]
    omega
theorem depth_P : ∀ {n : Nat} {p : PyData}, psP n p = true → PyData.depth p ≤ n
  | 0, p, h => by cases p <;> simp_all [psP, PyData.depth]
  | n + 1, p, h => by
    cases p with
    | tuple ps =>
      simp only [psP, List.all_eq_true] at h
      have := depthAllP fun p hp => depth_P (h p hp)
      simp only [PyData.depth]
      omega
    | list ps =>
      simp only [psP, List.all_eq_true] at h
      have := depthAllP fun p hp => depth_P (h p hp)
      simp only [PyData.depth]
      omega
    | _ => simp_all [psP, PyData.depth]
theorem weightAllP : ∀ {ps : List PyData}, (∀ p ∈ ps, PyData.weight p + 1 ≤ 43 * nodP p) → PyData.weightAll ps ≤ 43 * nodPs ps
  | [], _ => by simp [PyData.weightAll]
  | p :: ps, h => by
    have h1 := h p List.mem_cons_self
    have h2 := weightAllP fun p hp => h p (List.mem_cons_of_mem _ hp)
    simp only [PyData.weightAll, nodPs]
    omega
theorem weight_P : ∀ {n : Nat} {p : PyData}, psP n p = true → PyData.weight p + 1 ≤ 43 * nodP p
  | 0, p, h => by
    cases p with
    | int i => have := int_weight (by simpa [psP] using h); simp only [nodP]; omega
    | str s => simp only [psP, Bool.and_eq_true, Nat.ble_eq] at h; simp only [PyData.weight, nodP]; omega
    | _ => simp_all [psP, PyData.weight, nodP]
  | n + 1, p, h => by
    cases p with
    | int i => have := int_weight (by simpa [psP] using h); simp only [nodP]; omega
    | str s => simp only [psP, Bool.and_eq_true, Nat.ble_eq] at h; simp only [PyData.weight, nodP]; omega
    | tuple ps =>
      simp only [psP, List.all_eq_true] at h
      have := weightAllP fun p hp => weight_P (h p hp)
      simp only [PyData.weight, nodP]
      omega
    | list ps =>
      simp only [psP, List.all_eq_true] at h
      have := weightAllP fun p hp => weight_P (h p hp)
      simp only [PyData.weight, nodP]
      omega
    | _ => simp_all [psP, PyData.weight, nodP]
theorem intsAllP : ∀ {ps : List PyData}, (∀ p ∈ ps, intsLt p = true) → intsLts ps = true
  | [], _ => rfl
  | p :: ps, h => by simp only [intsLts, h p List.mem_cons_self, intsAllP fun p hp => h p (List.mem_cons_of_mem _ hp), Bool.and_self]
theorem ints_P : ∀ {n : Nat} {p : PyData}, psP n p = true → intsLt p = true
  | 0, p, h => by cases p <;> simp_all [psP, intsLt]
  | n + 1, p, h => by
    cases p with
    | tuple ps =>
      simp only [psP, List.all_eq_true] at h
      simp only [intsLt]
      exact intsAllP fun p hp => ints_P (h p hp)
    | list ps =>
      simp only [psP, List.all_eq_true] at h
      simp only [intsLt]
      exact intsAllP fun p hp => ints_P (h p hp)
    | _ => simp_all [psP, intsLt]
theorem showOk_P {n : Nat} {p : PyData} (h : psP n p = true) (hn : n ≤ 60) (hs : nodP p ≤ 20000) : showOk p = true := by
  have h1 := depth_P h
  have h2 := weight_P h
  have h3 := can_P h
  have h4 := ints_P h
  simp only [showOk, PyData.layable0, h3, h4, Bool.true_and, Bool.and_true, Bool.and_eq_true, decide_eq_true_eq]
  omega
theorem shownAllP : ∀ {ps : List PyData}, (∀ p ∈ ps, okSigns (PyData.shown p)) → ∀ t ∈ PyData.shownAll ps, okSigns t
  | [], _, t, ht => by simp [PyData.shownAll] at ht
  | p :: ps, h, t, ht => by
    simp only [PyData.shownAll, List.mem_cons] at ht
    rcases ht with rfl | ht
    · exact h p List.mem_cons_self
    · exact shownAllP (fun p hp => h p (List.mem_cons_of_mem _ hp)) t ht
theorem signs_P : ∀ {n : Nat} {p : PyData}, psP n p = true → okSigns (PyData.shown p)
  | 0, p, h => by
    cases p with
    | none => exact ok_none
    | bool b => exact ok_bool b
    | int i => exact ok_int i
    | str s =>
      simp only [psP, Bool.and_eq_true] at h
      simp only [PyData.shown_str]
      exact ok_okSigns h.1.2
    | _ => simp [psP] at h
  | n + 1, p, h => by
    cases p with
    | none => exact ok_none
    | bool b => exact ok_bool b
    | int i => exact ok_int i
    | str s =>
      simp only [psP, Bool.and_eq_true] at h
      simp only [PyData.shown_str]
      exact ok_okSigns h.1.2
    | tuple ps =>
      simp only [psP, List.all_eq_true] at h
      simp only [PyData.shown_tuple]
      exact ok_tuple (shownAllP fun p hp => signs_P (h p hp))
    | list ps =>
      simp only [psP, List.all_eq_true] at h
      simp only [PyData.shown_list]
      exact ok_list (shownAllP fun p hp => signs_P (h p hp))
    | _ => simp [psP] at h
theorem psAll : ∀ {n : Nat} {ds : List D}, (∀ d ∈ ds, psP n (pyD d) = true) → (pyDs ds).all (psP n) = true
  | _, [], _ => rfl
  | n, d :: ds, h => by simp only [pyDs, List.all_cons, h d List.mem_cons_self, psAll fun d hd => h d (List.mem_cons_of_mem _ hd), Bool.and_self]
theorem ps_psP : ∀ {n : Nat} {d : D}, plS n d = true → psP n (pyD d) = true
  | 0, d, h => by cases d <;> simp_all [plS, pyD, psP]
  | n + 1, d, h => by
    cases d with
    | tup ds =>
      simp only [plS, List.all_eq_true] at h
      simp only [pyD, psP]
      exact psAll fun d hd => ps_psP (h d hd)
    | _ => simp_all [plS, pyD, psP]
theorem psP_mono : ∀ {n m : Nat} {p : PyData}, psP n p = true → n ≤ m → psP m p = true
  | 0, m, p, h, _ => by cases p <;> cases m <;> simp_all [psP]
  | n + 1, 0, p, h, hm => by omega
  | n + 1, m + 1, p, h, hm => by
    cases p with
    | tuple ps =>
      simp only [psP, List.all_eq_true] at h ⊢
      exact fun p hp => psP_mono (h p hp) (by omega)
    | list ps =>
      simp only [psP, List.all_eq_true] at h ⊢
      exact fun p hp => psP_mono (h p hp) (by omega)
    | _ => simp_all [psP]
/-- repr of what is read -/
theorem repr_P {n : Nat} {d : D} {p : PyData} {st : Sto} (h : toPy 40 st d = some p) (hp : psP n p = true) (hn : n ≤ 60) (hs : nodP p ≤ 20000) : bReprV [d] st = some (.ok (.str p.shown) st) := by
  simp only [bReprV, h, showOk_P hp hn hs]
theorem reprF_P {n : Nat} {ds : List D} {ps : List PyData} {st : Sto} (h : allO (toPy 39 st) ds = some ps) (hp : psP n (.list ps) = true) (hn : n ≤ 60) (hs : nodP (.list ps) ≤ 20000) : bReprF ds st = some (.ok (.str (PyData.shown (.list ps))) st) := by
  simp only [bReprF, h, showOk_P hp hn hs]
theorem ne_P {n : Nat} {p : PyData} {st : Sto} (hp : psP n p = true) : fNe (.str p.shown) (.str p.shown) st = some (.ok (.bl false) st) := fNe_shown (signs_P hp)
theorem shaped_P {n : Nat} {p : PyData} (h : psP n p = true) (hn : n ≤ 60) : SeqAt.shaped p = true := by
  have := depth_P h
  simp only [SeqAt.shaped, can_P h, Bool.true_and, decide_eq_true_eq]
  omega
theorem eqvAll_self : ∀ {ps : List PyData}, (∀ p ∈ ps, PyData.eqv p p = true) → PyData.eqvAll ps ps = true
  | [], _ => rfl
  | p :: ps, h => by simp only [PyData.eqvAll, h p List.mem_cons_self, eqvAll_self fun p hp => h p (List.mem_cons_of_mem _ hp), Bool.and_self]
theorem eqv_self : ∀ {n : Nat} {p : PyData}, psP n p = true → PyData.eqv p p = true
  | 0, p, h => by cases p <;> simp_all [psP, PyData.eqv]
  | n + 1, p, h => by
    cases p with
    | tuple ps =>
      simp only [psP, List.all_eq_true] at h
      simp only [PyData.eqv]
      exact eqvAll_self fun p hp => eqv_self (h p hp)
    | list ps =>
      simp only [psP, List.all_eq_true] at h
      simp only [PyData.eqv]
      exact eqvAll_self fun p hp => eqv_self (h p hp)
    | _ => simp_all [psP, PyData.eqv]
/-- two that are read alike -/
theorem eqX_self {n : Nat} {x y : FL} {p : PyData} {st : Sto} (hx : flPy st x = some p) (hy : flPy st y = some p) (hp : psP n p = true) (hn : n ≤ 60) : eqX st x y = some true := by
  simp only [eqX, hx, hy, shaped_P hp hn, Bool.and_self, eqv_self hp]
end TA
/-! orders: what is one -/
namespace TA
open PySem
@[simp] theorem kb1 : L2.kitB "NoneType" "int" = some false := by decide +kernel
@[simp] theorem kb2 : L2.kitB "bool" "int" = some true := by decide +kernel
@[simp] theorem kb3 : L2.kitB "int" "int" = some true := by decide +kernel
@[simp] theorem kb4 : L2.kitB "str" "int" = some false := by decide +kernel
@[simp] theorem kb5 : L2.kitB "tuple" "int" = some false := by decide +kernel
@[simp] theorem kb6 : L2.kitB "list" "int" = some false := by decide +kernel
@[simp] theorem kb7 : L2.kitB "dict" "int" = some false := by decide +kernel
@[simp] theorem kc2 : L2.kitB "bool" "bool" = some true := by decide +kernel
@[simp] theorem kc3 : L2.kitB "int" "bool" = some false := by decide +kernel
@[simp] theorem kd1 : L2.kitB "NoneType" "tuple" = some false := by decide +kernel
@[simp] theorem kd2 : L2.kitB "bool" "tuple" = some false := by decide +kernel
@[simp] theorem kd3 : L2.kitB "int" "tuple" = some false := by decide +kernel
@[simp] theorem kd4 : L2.kitB "str" "tuple" = some false := by decide +kernel
@[simp] theorem kd5 : L2.kitB "tuple" "tuple" = some true := by decide +kernel
@[simp] theorem kd6 : L2.kitB "list" "tuple" = some false := by decide +kernel
@[simp] theorem kd7 : L2.kitB "dict" "tuple" = some false := by decide +kernel
def isI : D → Bool
  | .int _ => true
  | _ => false
/-- a value that may be asked for its type -/
def okV (st : Sto) (d : D) : Prop := ∃ T, tyD st d = some T
theorem ty_cases {st : Sto} {n : Nat} {T : String} (h : tyD st (.loc n) = some T) : T = "list" ∨ T = "dict" := by
  simp only [tyD] at h
  split at h <;> simp_all
theorem bIsi_int {st : Sto} {d : D} {T : String} (h : tyD st d = some T) : bIsi [d, .ty "int"] st = some (.ok (.bl (isI d || match d with | .bl _ => true | _ => false)) st) := by
  cases d with
  | loc n => rcases ty_cases h with rfl | rfl <;> simp [bIsi, h, isI]
  | ty _ => cases h
  | glo _ => cases h
  | _ => simp [bIsi, tyD, isI]
theorem bIsi_tup {st : Sto} {d : D} {T : String} (h : tyD st d = some T) : bIsi [d, .ty "tuple"] st = some (.ok (.bl (match d with | .tup _ => true | _ => false)) st) := by
  cases d with
  | loc n => rcases ty_cases h with rfl | rfl <;> simp [bIsi, h]
  | ty _ => cases h
  | glo _ => cases h
  | _ => simp [bIsi, tyD]
theorem s_is_integer (fs : Nat → Sm) (d : D) (st : Sto) (h : okV st d) : semOf 1 (dB fs t_is_integer) [d] st = some (.ok (.bl (isI d)) st) := by
  obtain ⟨T, h⟩ := h
  have e := bIsi_int h
  cases d with
  | int i => simp [t_is_integer, e, isI, bIsi, tyD]
  | bl b => simp [t_is_integer, e, isI, bIsi, tyD]
  | _ => simp [t_is_integer, e, isI]
theorem okV_free {st : Sto} {d : D} (h : okV st d) (hf : D.free d = true) (st' : Sto) : okV st' d := by
  obtain ⟨T, h⟩ := h
  cases d <;> first | (simp [D.free] at hf; done) | exact ⟨_, rfl⟩ | cases h
/-- a def that gives a plain value and keeps the store, called -/
theorem callS_keep {sem : Sm} {ds : List D} {st : Sto} {d : D} (hd : D.free d = true) (h1 : sem ds st = some (.ok d st)) (h2 : D.frees ds = true → ∃ st', sem ds [] = some (.ok d st')) : callS sem ds st = some (.ok d st) := by
  unfold callS
  cases hf : D.frees ds with
  | true =>
    obtain ⟨st', e⟩ := h2 hf
    simp [e, hd]
  | false => exact h1
theorem c_is_integer {fs : Nat → Sm} {f : Sm} (hf : ∀ d st, okV st d → f [d] st = some (.ok (.bl (isI d)) st)) (d : D) (st : Sto) (h : okV st d) : callS f [d] st = some (.ok (.bl (isI d)) st) :=
  callS_keep rfl (hf d st h) fun hh => ⟨[], hf d [] (okV_free h (by simpa [D.frees] using hh) [])⟩
def within (d : D) (a b : Int) : Bool := match d with
  | .int i => decide (a ≤ i) && decide (i ≤ b)
  | _ => false
theorem s_is_within (fs : Nat → Sm) {k0 : Nat} (h0 : ∀ d st, okV st d → fs k0 [d] st = some (.ok (.bl (isI d)) st)) (d : D) (a b : Int) (st : Sto) (h : okV st d) : semOf 3 (dB fs (t_is_within k0)) [d, .int a, .int b] st = some (.ok (.bl (within d a b)) st) := by
  have c := c_is_integer (fs := fs) h0 d st h
  cases d with
  | int i =>
    by_cases h1 : a ≤ i <;> by_cases h2 : i ≤ b <;> simp [t_is_within, c, isI, within, fLe, fI, h1, h2]
  | _ => simp [t_is_within, c, isI, within]
end TA
namespace TA
open PySem
/-! comprehensions whose parts keep the store -/
theorem lc_keep {C : Sto → Bool} {tg : Tg} {t : M Bool} {e : M D} {env : En} {st : Sto} (hC : C st = true) (p : D → Bool) (f : D → D) : ∀ (ds acc : List D), acc.length + ds.length ≤ 1000000 →
    (∀ d ∈ ds, ∃ env1, tgSet tg d env = some env1 ∧ t env1 st = some (.ok (p d) st) ∧ (p d = true → e env1 st = some (.ok (f d) st))) → lcL C tg t e env ds acc st = some (.ok (acc ++ (ds.filter p).map f) st)
  | [], acc, _, _ => by simp [lcL, hC]
  | d :: ds, acc, hl, h => by
    obtain ⟨env1, h1, h2, h3⟩ := h d List.mem_cons_self
    have ih := fun acc' (hl' : acc'.length + ds.length ≤ 1000000) => lc_keep hC p f ds acc' hl' fun d hd => h d (List.mem_cons_of_mem _ hd)
    unfold lcL
    simp only [hC, h1, h2]
    cases hp : p d with
    | true =>
      have hb : Nat.blt acc.length 1000000 = true := by
        rw [Nat.blt_eq]
        simp only [List.length_cons] at hl
        omega
      simp only [h3 hp, hb]
      rw [ih _ (by simp only [List.length_cons] at hl; simp; omega)]
      simp [List.filter_cons, hp]
    | false =>
      simp only
      rw [ih _ (by simp only [List.length_cons] at hl; omega)]
      simp [List.filter_cons, hp]
theorem bools_map (f : D → Bool) : ∀ ds : List D, bools? (ds.map fun d => .bl (f d)) = some (ds.map f)
  | [] => rfl
  | d :: ds => by simp [bools?, bools_map f ds]
theorem filter_yes (ds : List D) : ds.filter (fun _ => true) = ds := by simp
/-! isdct of a tuple -/
theorem okV_tup {st : Sto} {ds : List D} : okV st (.tup ds) := ⟨_, rfl⟩
def okVs (st : Sto) (ds : List D) : Prop := ∀ d ∈ ds, okV st d
/-- all([is_within(one, a, b) for one in ds]) -/
theorem c_is_within {f : Sm} (hf : ∀ d a b st, okV st d → f [d, .int a, .int b] st = some (.ok (.bl (within d a b)) st)) (d : D) (a b : Int) (st : Sto) (h : okV st d) : callS f [d, .int a, .int b] st = some (.ok (.bl (within d a b)) st) :=
  callS_keep rfl (hf d a b st h) fun hh => ⟨[], hf d a b [] (okV_free h (by
    simp only [D.frees, Bool.and_eq_true] at hh
    exact hh.1) [])⟩
def itemPair (d : D) (many : Int) : Bool := match d with
  | .tup [x, y] => within x 0 (many - 1) && within y 0 (many - 1) && match x, y with
    | .int i, .int j => decide (i < j)
    | _, _ => false
  | _ => false
theorem eq_ints {st : Sto} (i j : Int) : eqD st (.int i) (.int j) = some (i == j) := by
  have h : (SeqAt.shaped (.int i) && SeqAt.shaped (.int j)) = true := rfl
  simp [eqD, toPy, h, PyData.eqv]
theorem s_is_item_pair (fs : Nat → Sm) {k1 : Nat} (h1 : ∀ d a b st, okV st d → fs k1 [d, .int a, .int b] st = some (.ok (.bl (within d a b)) st)) (d : D) (many : Int) (st : Sto) (h : okV st d) (hs : ∀ ds, d = .tup ds → okVs st ds ∧ ds.length ≤ 1000) :
    semOf 3 (dB fs (t_is_item_pair k1)) [d, .int many] st = some (.ok (.bl (itemPair d many)) st) := by
  obtain ⟨T, hT⟩ := id h
  have e := bIsi_tup hT
  cases d with
  | tup ds =>
    obtain ⟨ho, hl⟩ := hs ds rfl
    have hn : fNe (.int ds.length) (.int 2) st = some (.ok (.bl (!((ds.length : Int) == 2))) st) := by simp [fNe, eq_ints, okB]
    by_cases h2 : ds.length = 2
    · obtain ⟨x, y, rfl⟩ : ∃ x y, ds = [x, y] := by
        match ds, h2 with
        | [x, y], _ => exact ⟨x, y, rfl⟩
      have hx := ho x (by simp)
      have hy := ho y (by simp)
      have cx := c_is_within h1 x 0 (many - 1) st hx
      have cy := c_is_within h1 y 0 (many - 1) st hy
      have lc := lc_keep (C := yes) (st := st) (tg := .nm 2) (t := dT fs .tru) (e := dE fs (el_is_item_pair_0 k1)) (env := [some (.tup [x, y]), some (.int many), none]) rfl (fun _ => true) (fun d => .bl (within d 0 (many - 1))) [x, y] [] (by simp)
        (fun d hd => ⟨_, rfl, rfl, fun _ => by
          have c := c_is_within h1 d 0 (many - 1) st (ho d hd)
          simp [el_is_item_pair_0, c, fSub, fI]⟩)
      have lc' : dL fs (.lcV (.var 0) (.var 2) .tru (el_is_item_pair_0 k1) [2]) [some (.tup [x, y]), some (.int many), none] st = some (.ok [.bl (within x 0 (many - 1)), .bl (within y 0 (many - 1))] st) := by
        rw [el_lcV]
        have hd : isDct (dE fs (.var 0)) [some (.tup [x, y]), some (.int many), none] st = false := by simp [isDct, locOf]
        rw [hd, ei_val (d := .tup [x, y]) (st1 := st) fs _ _ (by simp)]
        simp only [thn_ok, tgD]
        simpa [wipeE] using lc
      have hn2 : fNe (.int 2) (.int 2) st = some (.ok (.bl false) st) := by simp [fNe, eq_ints, okB]
      by_cases wx : within x 0 (many - 1) = true <;> by_cases wy : within y 0 (many - 1) = true
      · cases x with
        | int i =>
          cases y with
          | int k =>
            have a0 : L2.atI [D.int i, D.int k] 0 = some (.int i) := rfl
            have a1 : L2.atI [D.int i, D.int k] 1 = some (.int k) := rfl
            simp [t_is_item_pair, e, bLen, hn2, lc', bAllF, bools?, wx, wy, fIx, a0, a1, fLt, fOr, fI, itemPair]
          | _ => simp [within] at wy
        | _ => simp [within] at wx
      · simp [t_is_item_pair, e, bLen, hn2, lc', bAllF, bools?, wx, wy, itemPair]
      · simp [t_is_item_pair, e, bLen, hn2, lc', bAllF, bools?, wx, wy, itemPair]
      · simp [t_is_item_pair, e, bLen, hn2, lc', bAllF, bools?, wx, wy, itemPair]
    · have hf : ((ds.length : Int) == 2) = false := by
        rw [beq_eq_false_iff_ne]
        omega
      have hi : itemPair (.tup ds) many = false := by
        unfold itemPair
        split
        · rename_i heq; cases heq; simp at h2
        · rfl
      simp [t_is_item_pair, e, bLen, hn, hf, hi]
  | _ => simp [t_is_item_pair, e, itemPair]
end TA
namespace TA
open PySem
theorem zipD_mem {x : D} : ∀ {as bs : List D}, x ∈ zipD as bs → ∃ a b, x = .tup [a, b] ∧ (a, b) ∈ as.zip bs
  | [], _, h => by simp [zipD] at h
  | _ :: _, [], h => by simp [zipD] at h
  | a :: as, b :: bs, h => by
    simp only [zipD, List.mem_cons] at h
    rcases h with rfl | h
    · exact ⟨a, b, rfl, by simp⟩
    · obtain ⟨c, d, e, m⟩ := zipD_mem h
      exact ⟨c, d, e, by simp [m]⟩
def prB (lt : D → D → Bool) : D → Bool
  | .tup [a, b] => lt a b
  | _ => false
theorem zipD_all (lt : D → D → Bool) : ∀ as bs : List D, ((zipD as bs).map (prB lt)).all id = (as.zip bs).all fun p => lt p.1 p.2
  | [], _ => by simp [zipD]
  | _ :: _, [] => by simp [zipD]
  | a :: as, b :: bs => by
    have ih := zipD_all lt as bs
    simp only [zipD, List.map_cons, List.all_cons, List.zip_cons_cons, prB, id, ih]
theorem s_do_ascend (fs : Nat → Sm) (ds : List D) (st : Sto) (lt : D → D → Bool) (hl : ds.length ≤ 1000) (h : ∀ a b, (a, b) ∈ ds.zip ds.tail → fLt a b st = some (.ok (.bl (lt a b)) st)) :
    semOf 3 (dB fs t_do_ascend) [.tup ds] st = some (.ok (.bl ((ds.zip ds.tail).all fun p => lt p.1 p.2)) st) := by
  have sl := ev_slT fs [some (.tup ds), none, none] st (a := .var 0) (lo := .at (.int 1)) (hi := .nil) (ds := ds) (l := some 1) (u := none) (st1 := st) (st2 := st) (st3 := st) (by simp) (by simp) (by simp)
  rw [cut_tail] at sl
  have lc := lc_keep (C := yes) (st := st) (tg := .tp [.nm 1, .nm 2]) (t := dT fs .tru) (e := dE fs el_do_ascend_0) (env := [some (.tup ds), none, none]) rfl (fun _ => true) (fun d => .bl (prB lt d)) (zipD ds ds.tail) []
    (by rw [zipD_len]; simp; omega)
    (fun d hd => by
      obtain ⟨a, b, rfl, hm⟩ := zipD_mem hd
      refine ⟨_, rfl, rfl, fun _ => ?_⟩
      simp [el_do_ascend_0, h a b hm, prB])
  have tg : tgD (.tup (.cons (.var 1) (.cons (.var 2) .nil))) = .tp [.nm 1, .nm 2] := by simp [tgD, tgsD]
  have b1 : bools? ((zipD ds ds.tail).map fun d => .bl (prB lt d)) = some ((zipD ds ds.tail).map (prB lt)) := bools_map _ _
  rw [List.nil_append, filter_yes] at lc
  simp [t_do_ascend, sl, tg, wipeE, lc, bAllF, b1, zipD_all]
  have z := zipD_all lt ds ds.tail
  rw [List.all_map] at z
  exact z
end TA
namespace TA
open PySem
/-- what order_fault says of a thing -/
def sForm : Str := { cps := #[102, 111, 114, 109] }
def sMany : Str := { cps := #[109, 97, 110, 121] }
def sPairs : Str := { cps := #[112, 97, 105, 114, 115] }
/-- a value that all these defs may look at: tuples short, everything within has a type -/
inductive Fine (st : Sto) : Nat → D → Prop
  | leaf {n : Nat} {d : D} : okV st d → (∀ ds, d ≠ .tup ds) → Fine st n d
  | tup {n : Nat} {ds : List D} : ds.length ≤ 1000 → (∀ d ∈ ds, Fine st n d) → Fine st (n + 1) (.tup ds)
theorem Fine.ok {st : Sto} {n : Nat} {d : D} (h : Fine st n d) : okV st d := by
  cases h with
  | leaf h _ => exact h
  | tup _ _ => exact okV_tup
def ltP2 (a b : D) : Bool := match a, b with
  | .tup [.int i, .int j], .tup [.int k, .int l] => decide (i < k) || (decide (i = k) && decide (j < l))
  | _, _ => false
theorem flt_pair (p q : Int × Int) (st : Sto) : fLt (prD p) (prD q) st = some (.ok (.bl (ltP2 (prD p) (prD q))) st) := by
  obtain ⟨i, j⟩ := p
  obtain ⟨k, l⟩ := q
  by_cases h1 : i = k
  · subst h1
    by_cases h2 : j = l
    · subst h2
      simp [fLt, fOr, fI, prD, fLtT, ints?, HT.lexLt, ltP2]
    · simp [fLt, fOr, fI, prD, fLtT, ints?, HT.lexLt, ltP2, h2]
  · simp [fLt, fOr, fI, prD, fLtT, ints?, HT.lexLt, ltP2, h1]
end TA
namespace TA
open PySem
theorem free_mem : ∀ {ds : List D}, D.frees ds = true → ∀ d ∈ ds, D.free d = true
  | [], _, d, h => by simp at h
  | x :: xs, hf, d, h => by
    simp only [D.frees, Bool.and_eq_true] at hf
    rcases List.mem_cons.mp h with rfl | h
    · exact hf.1
    · exact free_mem hf.2 d h
/-- what is_item_pair asks of its thing -/
def okP (st : Sto) (d : D) : Prop := okV st d ∧ ∀ ds, d = .tup ds → okVs st ds ∧ ds.length ≤ 1000
theorem okP_free {st : Sto} {d : D} (h : okP st d) (hf : D.free d = true) (st' : Sto) : okP st' d := by
  refine ⟨okV_free h.1 hf st', fun ds e => ?_⟩
  subst e
  obtain ⟨h1, h2⟩ := h.2 ds rfl
  simp only [D.free] at hf
  exact ⟨fun d hd => okV_free (h1 d hd) (free_mem hf d hd) st', h2⟩
theorem c_is_item_pair {f : Sm} (hf : ∀ d many st, okP st d → f [d, .int many] st = some (.ok (.bl (itemPair d many)) st)) (d : D) (many : Int) (st : Sto) (h : okP st d) : callS f [d, .int many] st = some (.ok (.bl (itemPair d many)) st) :=
  callS_keep rfl (hf d many st h) fun hh => ⟨[], hf d many [] (okP_free h (by
    simp only [D.frees, Bool.and_eq_true] at hh
    exact hh.1) [])⟩
theorem itemPair_pr {d : D} {n : Int} (h : itemPair d n = true) : ∃ i j : Int, d = prD (i, j) ∧ 0 ≤ i ∧ i < j ∧ j < n := by
  unfold itemPair at h
  split at h
  · rename_i x y
    simp only [Bool.and_eq_true] at h
    obtain ⟨⟨h1, h2⟩, h3⟩ := h
    cases x with
    | int i =>
      cases y with
      | int j =>
        simp only [within, Bool.and_eq_true, decide_eq_true_eq] at h1 h2 h3
        exact ⟨i, j, rfl, h1.1, h3, by omega⟩
      | _ => cases h3
    | _ => cases h3
  · cases h
theorem allPairs : ∀ {ds : List D} {n : Int}, (ds.all fun d => itemPair d n) = true → ∃ ps : List (Int × Int), ds = ps.map prD ∧ ∀ p ∈ ps, 0 ≤ p.1 ∧ p.1 < p.2 ∧ p.2 < n
  | [], n, _ => ⟨[], rfl, by simp⟩
  | d :: ds, n, h => by
    simp only [List.all_cons, Bool.and_eq_true] at h
    obtain ⟨i, j, rfl, h1, h2, h3⟩ := itemPair_pr h.1
    obtain ⟨ps, rfl, hp⟩ := allPairs h.2
    refine ⟨(i, j) :: ps, rfl, fun p hm => ?_⟩
    rcases List.mem_cons.mp hm with rfl | hm
    · exact ⟨h1, h2, h3⟩
    · exact hp p hm
end TA
namespace TA
open PySem
/-- the pairs ascend -/
def asc (qs : List D) : Bool := (qs.zip qs.tail).all fun p => ltP2 p.1 p.2
def faultOf (d : D) : D := match d with
  | .tup [m, ps] => match within m 0 20, m, ps with
    | true, .int n, .tup qs => match (qs.all fun q => itemPair q n) && asc qs with
      | true => .non
      | false => .str sPairs
    | true, _, _ => .str sPairs
    | false, _, _ => .str sMany
  | _ => .str sForm
/-- what order_fault asks of its thing -/
structure okO (st : Sto) (d : D) : Prop where
  ok : okV st d
  two : ∀ m ps, d = .tup [m, ps] → okV st m ∧ okV st ps ∧ ∀ qs, ps = .tup qs → qs.length ≤ 1000 ∧ ∀ q ∈ qs, okP st q
theorem c_do_ascend {f : Sm} (hf : ∀ (ps : List (Int × Int)) st, ps.length ≤ 1000 → f [.tup (ps.map prD)] st = some (.ok (.bl (asc (ps.map prD))) st)) (ps : List (Int × Int)) (st : Sto) (h : ps.length ≤ 1000) : callS f [.tup (ps.map prD)] st = some (.ok (.bl (asc (ps.map prD))) st) :=
  callS_keep rfl (hf ps st h) fun _ => ⟨[], hf ps [] h⟩
theorem mem_zip_map {p : D × D} {ps : List (Int × Int)} (h : p ∈ (ps.map prD).zip (ps.map prD).tail) : ∃ a b, p = (prD a, prD b) := by
  have h1 := (List.of_mem_zip (a := p.1) (b := p.2) h).1
  have h2 := List.mem_of_mem_tail (List.of_mem_zip (a := p.1) (b := p.2) h).2
  obtain ⟨a, _, e1⟩ := List.mem_map.mp h1
  obtain ⟨b, _, e2⟩ := List.mem_map.mp h2
  exact ⟨a, b, Prod.ext e1.symm e2.symm⟩
theorem s_do_ascendP (fs : Nat → Sm) (ps : List (Int × Int)) (st : Sto) (hl : ps.length ≤ 1000) : semOf 3 (dB fs t_do_ascend) [.tup (ps.map prD)] st = some (.ok (.bl (asc (ps.map prD))) st) :=
  s_do_ascend fs (ps.map prD) st ltP2 (by simpa using hl) fun a b hm => by
    obtain ⟨p, q, e⟩ := mem_zip_map hm
    cases e
    exact flt_pair p q st
end TA
namespace TA
open PySem
theorem s_order_fault (fs : Nat → Sm) {k1 k2 k3 : Nat} (h1 : ∀ d a b st, okV st d → fs k1 [d, .int a, .int b] st = some (.ok (.bl (within d a b)) st)) (h2 : ∀ d many st, okP st d → fs k2 [d, .int many] st = some (.ok (.bl (itemPair d many)) st))
    (h3 : ∀ (ps : List (Int × Int)) st, ps.length ≤ 1000 → fs k3 [.tup (ps.map prD)] st = some (.ok (.bl (asc (ps.map prD))) st)) (d : D) (st : Sto) (h : okO st d) :
    semOf 2 (dB fs (t_order_fault k1 k2 k3)) [d] st = some (.ok (faultOf d) st) := by
  obtain ⟨T, hT⟩ := h.ok
  have e := bIsi_tup hT
  cases d with
  | tup ds =>
    have hn : fNe (.int ds.length) (.int 2) st = some (.ok (.bl (!((ds.length : Int) == 2))) st) := by simp [fNe, eq_ints, okB]
    by_cases hl : ds.length = 2
    · obtain ⟨m, ps, rfl⟩ : ∃ x y, ds = [x, y] := by
        match ds, hl with
        | [x, y], _ => exact ⟨x, y, rfl⟩
      obtain ⟨o1, o2, o3⟩ := h.two m ps rfl
      have hn2 : fNe (.int 2) (.int 2) st = some (.ok (.bl false) st) := by simp [fNe, eq_ints, okB]
      have a0 : L2.atI [m, ps] 0 = some m := rfl
      have a1 : L2.atI [m, ps] 1 = some ps := rfl
      have cm := c_is_within h1 m 0 20 st o1
      obtain ⟨T2, hT2⟩ := id o2
      have e2 := bIsi_tup hT2
      cases hw : within m 0 20 with
      | false =>
        rw [hw] at cm
        simp [t_order_fault, e, bLen, hn2, fIx, a0, cm, faultOf, hw, sMany]
      | true =>
        rw [hw] at cm
        cases m with
        | int n =>
          cases ps with
          | tup qs =>
            obtain ⟨ql, qo⟩ := o3 qs rfl
            have lc := lc_keep (C := yes) (st := st) (tg := .nm 1) (t := dT fs .tru) (e := dE fs (el_order_fault_0 k2)) (env := [some (.tup [.int n, .tup qs]), none]) rfl (fun _ => true) (fun q => .bl (itemPair q n)) qs [] (by simp; omega)
              (fun q hq => ⟨_, rfl, rfl, fun _ => by
                have c := c_is_item_pair h2 q n st (qo q hq)
                simp [el_order_fault_0, fIx, a0, c]⟩)
            rw [List.nil_append, filter_yes] at lc
            have lc' : dL fs (.lcV (.ix (.var 0) (.int 1)) (.var 1) .tru (el_order_fault_0 k2) [1]) [some (.tup [.int n, .tup qs]), none] st = some (.ok (qs.map fun q => .bl (itemPair q n)) st) := by
              have hix : dE fs (.ix (.var 0) (.int 1)) [some (.tup [.int n, .tup qs]), none] st = some (.ok (.tup qs) st) := by simp [fIx, a1]
              rw [el_lcV]
              have hd : isDct (dE fs (.ix (.var 0) (.int 1))) [some (.tup [.int n, .tup qs]), none] st = false := by simp only [isDct, locOf, hix]
              rw [hd, ei_val (d := .tup qs) (st1 := st) fs _ _ hix]
              simp only [thn_ok, tgD]
              simpa [wipeE] using lc
            have b1 : bools? (qs.map fun q => .bl (itemPair q n)) = some (qs.map fun q => itemPair q n) := bools_map _ _
            cases ha : (qs.all fun q => itemPair q n) with
            | false =>
              have ha' : ((qs.map fun q => itemPair q n).all id) = false := by rw [List.all_map]; exact ha
              simp [t_order_fault, e, bLen, hn2, fIx, a0, a1, cm, e2, lc', bAllF, b1, ha', faultOf, hw, ha, sPairs]
            | true =>
              have ha' : ((qs.map fun q => itemPair q n).all id) = true := by rw [List.all_map]; exact ha
              obtain ⟨ps, hq, hp⟩ := allPairs ha
              have ca : callS (fs k3) [.tup qs] st = some (.ok (.bl (asc qs)) st) := by
                rw [hq] at ql ⊢
                exact c_do_ascend h3 ps st (by simpa using ql)
              cases hs : asc qs with
              | true =>
                rw [hs] at ca
                simp [t_order_fault, e, bLen, hn2, fIx, a0, a1, cm, e2, lc', bAllF, b1, ha', faultOf, hw, ha, hs, ca, sPairs]
              | false =>
                rw [hs] at ca
                simp [t_order_fault, e, bLen, hn2, fIx, a0, a1, cm, e2, lc', bAllF, b1, ha', faultOf, hw, ha, hs, ca, sPairs]
          | _ => simp [t_order_fault, e, bLen, hn2, fIx, a0, a1, cm, e2, faultOf, hw, sPairs]
        | _ => simp [within] at hw
    · have hf : ((ds.length : Int) == 2) = false := by
        rw [beq_eq_false_iff_ne]
        omega
      have hi : faultOf (.tup ds) = .str sForm := by
        unfold faultOf
        split
        · rename_i heq; cases heq; simp at hl
        · rfl
      simp [t_order_fault, e, bLen, hn, hf, hi, sForm]
  | _ => simp [t_order_fault, e, faultOf, sForm]
end TA
/-! orders: what is ahead of what -/
namespace TA
open PySem
/-! ### pairs, orders as data -/
def prN (p : Nat × Nat) : D := .tup [.int (p.1 : Int), .int (p.2 : Int)]
def oD (n : Nat) (ps : List (Nat × Nat)) : D := .tup [.int (n : Int), .tup (ps.map prN)]
def itD (k : Nat) : D := .int (k : Int)
def tN (l : List Nat) : D := .tup (l.map itD)
theorem frees_all : ∀ {ds : List D}, (∀ d ∈ ds, D.free d = true) → D.frees ds = true
  | [], _ => rfl
  | d :: ds, h => by simp only [D.frees, h d List.mem_cons_self, frees_all fun d hd => h d (List.mem_cons_of_mem _ hd), Bool.and_self]
theorem free_prN (p : Nat × Nat) : D.free (prN p) = true := rfl
@[simp] theorem free_oD (n : Nat) (ps : List (Nat × Nat)) : D.free (oD n ps) = true := by
  have : D.frees (ps.map prN) = true := frees_all fun d hd => by
    obtain ⟨p, _, rfl⟩ := List.mem_map.mp hd
    rfl
  simp only [oD, D.free, D.frees, this, Bool.and_self]
@[simp] theorem free_tN (l : List Nat) : D.free (tN l) = true := by
  have : D.frees (l.map itD) = true := frees_all fun d hd => by
    obtain ⟨p, _, rfl⟩ := List.mem_map.mp hd
    rfl
  simp only [tN, D.free, this]
theorem frees_oD (n : Nat) (ps : List (Nat × Nat)) : D.frees [oD n ps] = true := by simp [D.frees]
/-! ### dicts of items -/
def keysN (l : List Nat) : List (L2.Key × D) := l.map fun (k : Nat) => (.inl (k : Int), .bl true)
def dctN (l : List Nat) : O := .dct (keysN l)
def addK (l : List Nat) (x : Nat) : List Nat := if x ∈ l then l else l ++ [x]
theorem mem_addK {l : List Nat} {x y : Nat} : y ∈ addK l x ↔ y ∈ l ∨ y = x := by
  unfold addK
  split
  · rename_i h
    exact ⟨.inl, fun q => q.elim id fun e => e ▸ h⟩
  · simp
theorem nodup_addK {l : List Nat} {x : Nat} (h : l.Nodup) : (addK l x).Nodup := by
  unfold addK
  split
  · exact h
  · rename_i hx
    rw [List.nodup_append]
    refine ⟨h, by simp, fun a ha b hb e => ?_⟩
    simp at hb
    subst hb
    subst e
    exact hx ha
theorem len_addK {l : List Nat} {x : Nat} : (addK l x).length ≤ l.length + 1 := by
  unfold addK
  split <;> simp
theorem mem_addKs {y : Nat} : ∀ {m l : List Nat}, y ∈ m.foldl addK l ↔ y ∈ l ∨ y ∈ m
  | [], l => by simp
  | x :: m, l => by
    rw [List.foldl_cons, mem_addKs, mem_addK, List.mem_cons, or_assoc]
theorem nodup_addKs : ∀ {m l : List Nat}, l.Nodup → (m.foldl addK l).Nodup
  | [], _, h => h
  | x :: m, l, h => nodup_addKs (m := m) (nodup_addK h)
theorem hasK_keysN {l : List Nat} {x : Nat} : hasK (keysN l) (.inl (x : Int)) = decide (x ∈ l) := by
  unfold hasK keysN
  rw [List.any_map]
  induction l with
  | nil => rfl
  | cons y l ih =>
    simp only [List.any_cons, Function.comp, ih, List.mem_cons]
    by_cases h : x = y
    · subst h; simp
    · have : ¬ (y : Int) = (x : Int) := by omega
      simp [h, this]
theorem setK_keysN {l : List Nat} {x : Nat} : setK (keysN l) (.inl (x : Int)) (.bl true) = keysN (addK l x) := by
  unfold setK addK
  rw [hasK_keysN]
  by_cases h : x ∈ l
  · simp only [h, decide_true, if_true]
    unfold keysN
    rw [List.map_map]
    apply List.map_congr_left
    intro y _
    simp only [Function.comp]
    by_cases e : (Sum.inl (y : Int) : L2.Key) = Sum.inl (x : Int)
    · simp [e]
    · simp [e]
  · simp only [h, decide_false, if_false]
    simp [keysN]
theorem mergeD_keysN : ∀ {m l : List Nat}, mergeD (keysN l) (keysN m) = keysN (m.foldl addK l)
  | [], l => rfl
  | x :: m, l => by
    show mergeD (setK (keysN l) (.inl (x : Int)) (.bl true)) (keysN m) = _
    rw [setK_keysN, mergeD_keysN, List.foldl_cons]
theorem getK_keysN {l : List Nat} {x : Nat} : (getK (keysN l) (.inl (x : Int))).isSome = decide (x ∈ l) := by
  induction l with
  | nil => rfl
  | cons y l ih =>
    simp only [keysN, List.map_cons, getK]
    by_cases h : y = x
    · subst h; simp
    · have : ¬ (Sum.inl (y : Int) : L2.Key) = Sum.inl (x : Int) := fun e => h (by injection e with e; omega)
      simp only [this, decide_false]
      have ih' : (getK (l.map fun (k : Nat) => ((.inl (k : Int), .bl true) : L2.Key × D)) (.inl (x : Int))).isSome = decide (x ∈ l) := ih
      rw [ih']
      simp [List.mem_cons, Ne.symm h, show ¬ x = y from fun e => h e.symm]
@[simp] theorem len_keysN (l : List Nat) : (keysN l).length = l.length := by simp [keysN]
/-- what stands in the store: a list of dicts, each with items for keys -/
structure DTab (st : Sto) (b n : Nat) (tab : Nat → List Nat) : Prop where
  lst : st[b + n]? = some (.lst ((List.range n).map fun j => .loc (b + j)))
  dct : ∀ j, j < n → st[b + j]? = some (dctN (tab j))
theorem fEq_int {i j : Int} {st : Sto} : fEq (.int i) (.int j) st = some (.ok (.bl (i == j)) st) := by simp [fEq, eq_ints, okB]
theorem fNe_int {i j : Int} {st : Sto} : fNe (.int i) (.int j) st = some (.ok (.bl (!(i == j))) st) := by simp [fNe, eq_ints, okB]
theorem natI_beq {a b : Nat} : ((a : Int) == (b : Int)) = (a == b) := by
  by_cases h : a = b
  · subst h; simp
  · rw [beq_eq_false_iff_ne.mpr h, beq_eq_false_iff_ne]; omega
theorem small_nat {n : Nat} (h : n ≤ 1000000) : small (n : Int) = true := by
  unfold small
  rw [Nat.blt_eq]
  omega
theorem lc_dicts {fs : Nat → Sm} {env : En} {i : Nat} : ∀ (ds acc : List D) (st : Sto), acc.length + ds.length ≤ 1000000 →
    lcL yes (.nm i) (dT fs .tru) (dE fs .dict0) env ds acc st = some (.ok (acc ++ (List.range ds.length).map fun j => .loc (st.length + j)) (st ++ List.replicate ds.length (.dct [])))
  | [], acc, st, _ => by simp [lcL, yes]
  | d :: ds, acc, st, h => by
    have hb : Nat.blt acc.length 1000000 = true := by
      rw [Nat.blt_eq]
      simp only [List.length_cons] at h
      omega
    simp only [lcL, yes, tgSet, et_tru, ev_dict0, hb]
    rw [lc_dicts ds _ _ (by simp only [List.length_cons] at h; simp; omega)]
    simp only [List.length_cons, List.range_succ_eq_map, List.map_cons, List.map_map, List.replicate_succ, List.append_assoc, List.length_append, List.singleton_append, Nat.add_zero]
    congr 4
    simp only [List.length_nil, Nat.zero_add]
    apply List.map_congr_left
    intro j _
    simp only [Function.comp]
    congr 1
    omega
/-- the store of ahead_in, as far as it has got -/
def aSt (n : Nat) (tab : Nat → List Nat) : Sto := (List.range n).map (fun j => dctN (tab j)) ++ [.lst ((List.range n).map fun j => .loc j)]
theorem aSt_len (n : Nat) (tab : Nat → List Nat) : (aSt n tab).length = n + 1 := by simp [aSt]
theorem aSt_lst (n : Nat) (tab : Nat → List Nat) : (aSt n tab)[n]? = some (.lst ((List.range n).map fun j => .loc j)) := by
  simp [aSt]
theorem aSt_dct {n : Nat} {tab : Nat → List Nat} {j : Nat} (h : j < n) : (aSt n tab)[j]? = some (dctN (tab j)) := by
  unfold aSt
  rw [List.getElem?_append_left (by simpa using h)]
  simp [h]
theorem aSt_set {n : Nat} {tab : Nat → List Nat} {j : Nat} (h : j < n) (l : List Nat) : (aSt n tab).set j (dctN l) = aSt n (fun i => if i = j then l else tab i) := by
  apply List.ext_getElem?
  intro i
  by_cases hi : i < n
  · by_cases e : j = i
    · subst e
      rw [List.getElem?_set_self (by rw [aSt_len]; omega), aSt_dct h]
      simp
    · rw [List.getElem?_set_ne e, aSt_dct hi, aSt_dct hi]
      simp [show ¬ i = j from fun z => e z.symm]
  · rw [List.getElem?_set_ne (by omega)]
    by_cases hn : i = n
    · subst hn; rw [aSt_lst, aSt_lst]
    · rw [List.getElem?_eq_none (by rw [aSt_len]; omega), List.getElem?_eq_none (by rw [aSt_len]; omega)]
theorem locs_get {n j : Nat} (h : j < n) : ((List.range n).map fun j => D.loc j)[j]? = some (.loc j) := by simp [h]
def nears (ps : List (Nat × Nat)) (i : Nat) : List Nat := (ps.filter fun p => p.2 == i).map (·.1)
theorem mem_nears {ps : List (Nat × Nat)} {i k : Nat} : k ∈ nears ps i ↔ (k, i) ∈ ps := by
  unfold nears
  simp only [List.mem_map, List.mem_filter, beq_iff_eq]
  constructor
  · rintro ⟨⟨a, b⟩, ⟨h1, h2⟩, h3⟩
    simp only at h2 h3
    subst h2; subst h3
    exact h1
  · exact fun h => ⟨(k, i), ⟨h, rfl⟩, rfl⟩
theorem len_addKs : ∀ {m l : List Nat}, (m.foldl addK l).length ≤ l.length + m.length
  | [], l => by simp
  | x :: m, l => by
    have h1 := len_addKs (m := m) (l := addK l x)
    have h2 := len_addK (l := l) (x := x)
    simp only [List.foldl_cons, List.length_cons]
    omega
theorem sub_len {l : List Nat} {n : Nat} (hl : l.Nodup) (hk : ∀ k ∈ l, k < n) : l.length ≤ n := by
  have := List.Nodup.length_le_of_subset hl (l₂ := List.range n) (fun k h => by simpa using hk k h)
  simpa using this
def ahSet (tab : Nat → List Nat) (i x : Nat) : Nat → List Nat := fun j => if j = i then (tab x).foldl addK (addK (tab i) x) else tab j
theorem blt_mil {n : Nat} (h : n ≤ 999999) : Nat.blt n 1000000 = true := by
  rw [Nat.blt_eq]; omega
theorem ble_mil {n : Nat} (h : n ≤ 1000000) : Nat.ble n 1000000 = true := Nat.ble_eq ▸ h
theorem ah_put {n i x : Nat} {tab : Nat → List Nat} (hi : i < n) (l1 : (tab i).length ≤ 20) : putD (.loc i) (.int (x : Int)) (.bl true) (aSt n tab) = some (aSt n fun j => if j = i then addK (tab i) x else tab j) := by
  have hb : Nat.blt (keysN (tab i)).length 1000000 = true := blt_mil (by rw [len_keysN]; omega)
  rw [← aSt_set hi]
  unfold putD
  simp only [aSt_dct hi, dctN, keyD, hb, setK_keysN]
theorem ah_upd {n i x : Nat} {tab : Nat → List Nat} (hi : i < n) (hx : x < i) (l1 : (tab i).length ≤ 20) (l2 : (tab x).length ≤ 20) : vUpdate (.loc i) [.loc x] (aSt n fun j => if j = i then addK (tab i) x else tab j) = some (.ok .non (aSt n (ahSet tab i x))) := by
  have la := len_addK (l := tab i) (x := x)
  have hne : Nat.beq i x = false := by
    cases q : Nat.beq i x with
    | false => rfl
    | true => have := Nat.eq_of_beq_eq_true q; omega
  have hb : Nat.ble ((keysN (addK (tab i) x)).length + (keysN (tab x)).length) 1000000 = true := ble_mil (by rw [len_keysN, len_keysN]; omega)
  have e1 := aSt_dct (n := n) (tab := fun j => if j = i then addK (tab i) x else tab j) hi
  have e2 := aSt_dct (n := n) (tab := fun j => if j = i then addK (tab i) x else tab j) (show x < n by omega)
  simp only [if_true, if_neg (show ¬ x = i by omega), dctN] at e1 e2
  unfold vUpdate
  simp only [hne, e1, e2, hb, mergeD_keysN]
  rw [show O.dct (keysN ((tab x).foldl addK (addK (tab i) x))) = dctN ((tab x).foldl addK (addK (tab i) x)) from rfl, aSt_set hi]
  have ef : (fun j => if j = i then (tab x).foldl addK (addK (tab i) x) else if j = i then addK (tab i) x else tab j) = ahSet tab i x := by
    funext j
    unfold ahSet
    by_cases hj : j = i <;> simp [hj]
  rw [ef]
end TA
/-! orders: ahead_in -/
namespace TA
open PySem
theorem ah_body {fs : Nat → Sm} {n i x : Nat} {tab : Nat → List Nat} {o : D} {b : Option D} (hi : i < n) (hx : x < i) (l1 : (tab i).length ≤ 20) (l2 : (tab x).length ≤ 20) :
    dB fs bd_ahead_in_3 [some o, some (.loc n), some (.int (i : Int)), some (.int (x : Int)), b] (aSt n tab) = some (.nx [some o, some (.loc n), some (.int (i : Int)), some (.int (x : Int)), b] (aSt n (ahSet tab i x))) := by
  have i2 := fun t => fIx_lst (aSt_lst n t) (locs_get hi)
  have i3 := fun t => fIx_lst (aSt_lst n t) (locs_get (show x < n by omega))
  have p1 := ah_put (x := x) hi l1
  have ud := ah_upd hi hx l1 l2
  have ty : isTy "dict" (.loc i) (aSt n fun j => if j = i then addK (tab i) x else tab j) = true := by
    simp [isTy, tyD, aSt_dct hi, dctN]
  simp [bd_ahead_in_3, i2, i3, p1, ty, ud]
/-- an item is done: what is ahead of it is known -/
def aGood (ps : List (Nat × Nat)) (tab : Nat → List Nat) (j : Nat) : Prop := (tab j).Nodup ∧ ∀ k, k ∈ tab j ↔ Ahd ps k j
theorem aGood.len {n : Nat} {ps : List (Nat × Nat)} {tab : Nat → List Nat} {j : Nat} (u : Up n ps) (h : aGood ps tab j) : (tab j).length ≤ n :=
  sub_len h.1 fun k hk => by have := ((h.2 k).mp hk).lt u; omega
theorem ah_nears {fs : Nat → Sm} {n i : Nat} {ps : List (Nat × Nat)} {b c : Option D} {st : Sto} (hp : ps.length ≤ 1000) :
    dL fs (.lcV (.ix (.var 0) (.int 1)) (.var 4) te_ahead_in_1 el_ahead_in_2 [4]) [some (oD n ps), c, some (.int (i : Int)), b, none] st = some (.ok ((nears ps i).map itD) st) := by
  rw [lcV_tup (ds := ps.map prN) (by simp [oD])]
  rw [lc_map prN (fun p => p.2 == i) (fun p => .int (p.1 : Int)) rfl ps [] (by simp only [List.length_nil]; omega) (fun p _ => ⟨[some (oD n ps), c, some (.int (i : Int)), b, some (prN p)], by simp [tgD, tgSet, wipeE], by simp [te_ahead_in_1, prN, fEq_int, natI_beq], fun _ => by simp [el_ahead_in_2, prN]⟩)]
  simp [nears, itD, Function.comp_def]
theorem ah_inner {fs : Nat → Sm} {n i : Nat} {ps : List (Nat × Nat)} {tab : Nat → List Nat} {b : Option D} (u : Up n ps) (hn : n ≤ 20) (hi : i < n) (h2 : ∀ j, j < i → aGood ps tab j) (h3 : tab i = []) :
    ∃ tab2 b2, forL yes (.nm 3) (dB fs bd_ahead_in_3) ((nears ps i).map itD) [some (oD n ps), some (.loc n), some (.int (i : Int)), b, none] (aSt n tab) = some (.nx [some (oD n ps), some (.loc n), some (.int (i : Int)), b2, none] (aSt n tab2)) ∧ (∀ j, j ≠ i → tab2 j = tab j) ∧ aGood ps tab2 i := by
  obtain ⟨env2, st2, g1, ⟨tab2, b2, rfl, rfl, g2, g3, g4, g5⟩⟩ := for_list (C := yes) (tg := .nm 3) (body := dB fs bd_ahead_in_3) itD
    (fun q env st => ∃ tab2 b2, env = [some (oD n ps), some (.loc n), some (.int (i : Int)), b2, none] ∧ st = aSt n tab2 ∧ (∀ j, j ≠ i → tab2 j = tab j) ∧ (tab2 i).Nodup ∧ (∀ k, k ∈ tab2 i ↔ ∃ m ∈ q, k = m ∨ Ahd ps k m) ∧ (∀ k ∈ tab2 i, k < n)) (nears ps i)
    (env := [some (oD n ps), some (.loc n), some (.int (i : Int)), b, none]) (st := aSt n tab)
    ⟨tab, b, rfl, rfl, fun _ _ => rfl, by rw [h3]; exact List.nodup_nil, fun k => by rw [h3]; simp, fun k hk => by rw [h3] at hk; simp at hk⟩ (fun _ _ _ _ => rfl) (by
      rintro q x r env st ha ⟨tab2, b2, rfl, rfl, g2, g3, g4, g5⟩
      have hx : (x, i) ∈ ps := mem_nears.mp (by rw [ha]; simp)
      have hxi := u _ hx
      simp only at hxi
      have gx := h2 x hxi.1
      have e := g2 x (by omega)
      have lx : (tab2 x).length ≤ n := by rw [e]; exact gx.len u
      have li := sub_len g3 g5
      refine ⟨_, rfl, _, _, .inl (ah_body hi hxi.1 (by omega) (by omega)), ahSet tab2 i x, _, rfl, rfl, fun j hj => ?_, ?_, fun k => ?_, fun k hk => ?_⟩
      · simp only [ahSet, if_neg hj]; exact g2 j hj
      · simp only [ahSet, if_true]; exact nodup_addKs (nodup_addK g3)
      · simp only [ahSet, if_true, mem_addKs, mem_addK, g4, List.mem_append, List.mem_singleton, e, gx.2]
        constructor
        · rintro ((⟨m, hm, h⟩ | h) | h)
          · exact ⟨m, .inl hm, h⟩
          · exact ⟨x, .inr rfl, .inl h⟩
          · exact ⟨x, .inr rfl, .inr h⟩
        · rintro ⟨m, hm | rfl, h⟩
          · exact .inl (.inl ⟨m, hm, h⟩)
          · rcases h with h | h
            · exact .inl (.inr h)
            · exact .inr h
      · simp only [ahSet, if_true, mem_addKs, mem_addK] at hk
        rcases hk with (hk | hk) | hk
        · exact g5 k hk
        · omega
        · rw [e] at hk
          have := ((gx.2 k).mp hk).lt u
          omega)
  refine ⟨tab2, b2, g1, g2, g3, fun k => ?_⟩
  rw [g4, ahd_iff]
  exact ⟨fun ⟨m, hm, h⟩ => ⟨m, mem_nears.mp hm, h⟩, fun ⟨m, hm, h⟩ => ⟨m, mem_nears.mpr hm, h⟩⟩
theorem ah_outer {fs : Nat → Sm} {n : Nat} {ps : List (Nat × Nat)} (u : Up n ps) (hn : n ≤ 20) (hp : ps.length ≤ 1000) :
    ∃ tab env2, forL yes (.nm 2) (dB fs bd_ahead_in_0) (rngD 0 n) [some (oD n ps), some (.loc n), none, none, none] (aSt n fun _ => []) = some (.nx env2 (aSt n tab)) ∧ env2[1]? = some (some (.loc n)) ∧ ∀ j, j < n → aGood ps tab j := by
  obtain ⟨env2, st2, h1, ⟨tab, a, b, rfl, rfl, h2, h3⟩⟩ := for_range (C := yes) (tg := .nm 2) (body := dB fs bd_ahead_in_0)
    (fun i env st => ∃ tab a b, env = [some (oD n ps), some (.loc n), a, b, none] ∧ st = aSt n tab ∧ (∀ j, j < i → aGood ps tab j) ∧ ∀ j, i ≤ j → tab j = []) n
    (env := [some (oD n ps), some (.loc n), none, none, none]) (st := aSt n fun _ => [])
    ⟨fun _ => [], none, none, rfl, rfl, fun j h => by omega, fun _ _ => rfl⟩ (fun _ _ _ _ => rfl) (by
      rintro i env st hi ⟨tab, a, b, rfl, rfl, h2, h3⟩
      obtain ⟨tab2, b2, g1, g2, g3⟩ := ah_inner (fs := fs) (b := b) u hn hi h2 (h3 i (Nat.le_refl _))
      have hv := ah_nears (fs := fs) (n := n) (i := i) (ps := ps) (b := b) (c := some (.loc n)) (st := aSt n tab) hp
      refine ⟨_, rfl, [some (oD n ps), some (.loc n), some (.int (i : Int)), b2, none], aSt n tab2, .inl ?_, tab2, _, _, rfl, rfl, fun j hj => ?_, fun j hj => ?_⟩
      · simp [bd_ahead_in_0, hv, g1, tgD]
      · by_cases e : j = i
        · subst e; exact g3
        · unfold aGood; rw [g2 j e]; exact h2 j (by omega)
      · rw [g2 j (by omega)]; exact h3 j (by omega))
  exact ⟨tab, _, h1, rfl, h2⟩
theorem s_ahead_in (fs : Nat → Sm) (n : Nat) (ps : List (Nat × Nat)) (u : Up n ps) (hn : n ≤ 20) (hp : ps.length ≤ 1000) :
    ∃ tab, (∀ j, j < n → aGood ps tab j) ∧ semOf 5 (dB fs t_ahead_in) [oD n ps] [] = some (.ok (.loc n) (aSt n tab)) := by
  have lc := lc_dicts (fs := fs) (env := [some (oD n ps), none, none, none, none]) (i := 2) (rngD 0 n) [] [] (by simp only [rngD, List.length_map, List.length_range, List.length_nil]; omega)
  have rl : (rngD 0 n).length = n := by simp [rngD]
  have sm : small (n : Int) = true := small_nat (by omega)
  have st0 : (List.replicate n (O.dct []) ++ [.lst ((List.range n).map fun j => .loc j)] : Sto) = aSt n fun _ => [] := by
    have e : List.replicate n (O.dct []) = (List.range n).map fun _ => dctN [] := by
      apply List.ext_getElem?
      intro i
      by_cases hi : i < n
      · rw [List.getElem?_replicate, if_pos hi]; simp [hi, dctN, keysN]
      · rw [List.getElem?_eq_none (by simpa using hi), List.getElem?_eq_none (by simpa using hi)]
    rw [e]
    rfl
  obtain ⟨tab, env2, h1, h2, h3⟩ := ah_outer (fs := fs) u hn hp
  refine ⟨tab, h3, ?_⟩
  rw [rl] at lc
  simp only [List.nil_append, List.length_nil, Nat.zero_add] at lc
  have ix : dE fs (.ix (.var 0) (.int 0)) [some (oD n ps), none, none, none, none] [] = some (.ok (.int (n : Int)) []) := by simp [oD]
  have ix2 : ∀ st, dE fs (.ix (.var 0) (.int 0)) [some (oD n ps), some (.loc n), none, none, none] st = some (.ok (.int (n : Int)) st) := by simp [oD]
  have s1 : dS fs (.set 1 (.keep (.lc (.rng1 (.cons (.ix (.var 0) (.int 0)) .nil)) (.var 2) .tru .dict0 [2]))) [some (oD n ps), none, none, none, none] [] = some (.nx [some (oD n ps), some (.loc n), none, none, none] (aSt n fun _ => [])) := by
    rw [es_set, ev_keep, el_lc, ei_rng1, ea_cons, ix]
    simp only [ea_nil, thn_ok, thnS_ok, sm, Int.toNat_natCast, tgD, wipeE, List.set_cons_succ, List.set_cons_zero, lc, List.length_replicate, st0]
  have s2 : dS fs (.for (.rng1 (.cons (.ix (.var 0) (.int 0)) .nil)) (.var 2) bd_ahead_in_0) [some (oD n ps), some (.loc n), none, none, none] (aSt n fun _ => []) = some (.nx env2 (aSt n tab)) := by
    rw [es_for, ei_rng1, ea_cons, ix2]
    simp only [ea_nil, thn_ok, thnS_ok, sm, Int.toNat_natCast, tgD, h1]
  have se : startE 5 [oD n ps] = [some (oD n ps), none, none, none, none] := rfl
  simp only [semOf, se, t_ahead_in, eb_cons, s1, s2, eb_nil, es_ret, ev_var, h2, thnS_ok]
end TA
/-! orders: sorted pairs; ahead_in called -/
namespace TA
open PySem
/-! ### sorted -/
def castP (p : Nat × Nat) : Int × Int := ((p.1 : Int), (p.2 : Int))
theorem prN_cast (p : Nat × Nat) : prN p = prD (castP p) := rfl
theorem pairs_prN : ∀ L : List (Nat × Nat), pairs? (L.map prN) = some (L.map castP)
  | [] => rfl
  | p :: L => by
    have h : pair? (prN p) = some (castP p) := rfl
    simp only [List.map_cons, pairs?, h, pairs_prN L]
theorem ints_prN {p : Nat × Nat} {L : List (Nat × Nat)} : ints? ((p :: L).map prN) = none := by
  simp [ints?, prN]
/-- pairs that go upward below n are few -/
theorem up_len {n : Nat} (hn : n ≤ 11) {L : List (Nat × Nat)} (nd : L.Nodup) (h : ∀ p ∈ L, p.1 < p.2 ∧ p.2 < n) : L.length ≤ 55 := by
  have := List.Nodup.length_le_of_subset nd (l₂ := (List.range 11).flatMap fun j => (List.range j).map fun i => (i, j)) (fun p hp => by
    obtain ⟨i, j⟩ := p
    have := h _ hp
    simp only at this
    simp only [List.mem_flatMap, List.mem_range, List.mem_map]
    exact ⟨j, by omega, i, by omega, rfl⟩)
  exact Nat.le_trans this (by decide)
theorem sortP_sel {n : Nat} {P : Nat → Nat → Prop} {L : List (Nat × Nat)} (nd : L.Nodup) (hm : ∀ i j, (i, j) ∈ L ↔ (i < n ∧ j < n) ∧ P i j) : sortP (L.map castP) = (selP n P).map castP := by
  have pm : L.Perm (selP n P) := (List.perm_ext_iff_of_nodup nd (ascQ_nodup (selP_asc n P))).mpr fun ⟨i, j⟩ => by rw [hm, mem_selP]
  refine sortP_uniq ((sortP_perm _).trans (pm.map _)) (sortP_pw _) ?_
  rw [List.pairwise_map]
  refine (selP_asc n P).imp fun {a b} h => ?_
  rw [leP_iff]
  unfold ltQ at h
  simp only [castP]
  omega
theorem lSort_of {x : FL} {st : Sto} {ds : List D} (h : lOr lSorted lSortedP x st = some ds) : lSort x st = some ds := by
  simp only [lOr] at h
  simp only [lSort, lOr, h]
/-- what sorted gives of pairs in a list of the store -/
theorem sorted_pairs {n m : Nat} {P : Nat → Nat → Prop} {L : List (Nat × Nat)} {st : Sto} (hn : n ≤ 11) (hs : st[m]? = some (.lst (L.map prN))) (nd : L.Nodup) (hm : ∀ i j, (i, j) ∈ L ↔ (i < n ∧ j < n) ∧ P i j) (hP : ∀ i j, P i j → i < j) :
    lSort (.at (.loc m)) st = some ((selP n P).map prN) := by
  apply lSort_of
  have hl : L.length ≤ 55 := up_len hn nd fun ⟨i, j⟩ hp => by
    have := (hm i j).mp hp
    exact ⟨hP i j this.2, this.1.2⟩
  have e := sortP_sel nd hm
  cases L with
  | nil =>
    have : selP n P = [] := by
      have := congrArg List.length e
      simp [sortP] at this
      exact List.length_eq_zero_iff.mp this.symm
    simp [lOr, lSorted, hs, ints?, sortI, this]
  | cons p L =>
    have h1 : lSorted (.at (.loc m)) st = none := by
      simp only [lSorted, hs, ints_prN]
    have hb : (Nat.blt ((p :: L).map castP).length 64 && ((p :: L).map castP).all inB) = true := by
      rw [Bool.and_eq_true]
      refine ⟨by rw [Nat.blt_eq, List.length_map]; omega, ?_⟩
      rw [List.all_eq_true]
      intro q hq
      obtain ⟨⟨i, j⟩, hp, rfl⟩ := List.mem_map.mp hq
      have := (hm i j).mp hp
      have h1 : Nat.blt (i : Int).natAbs 1048576 = true := by rw [Nat.blt_eq]; omega
      have h2 : Nat.blt (j : Int).natAbs 1048576 = true := by rw [Nat.blt_eq]; omega
      have h3 : (0 : Int) ≤ i := by omega
      have h4 : (0 : Int) ≤ j := by omega
      simp only [inB, castP, h1, h2, h3, h4, decide_true, Bool.and_self]
    have h2 : lSortedP (.at (.loc m)) st = some ((selP n P).map prN) := by
      have e2 : ((selP n P).map castP).map prD = (selP n P).map prN := by
        rw [List.map_map]; rfl
      simp only [lSortedP, flItems, hs, pairs_prN, hb, e, e2]
    simp only [lOr, h1, h2]
/-! ### ahead_in, called -/
def bSt (b n : Nat) (tab : Nat → List Nat) : Sto := (List.range n).map (fun j => dctN (tab j)) ++ [.lst ((List.range n).map fun j => .loc (b + j))]
theorem bSt_len (b n : Nat) (tab : Nat → List Nat) : (bSt b n tab).length = n + 1 := by simp [bSt]
theorem up_dctN (k : Nat) (l : List Nat) : O.up k (dctN l) = dctN l := by
  simp [O.up, dctN, keysN, Function.comp_def, D.up]
theorem ups_locs (k : Nat) : ∀ l : List Nat, D.ups k (l.map fun j => .loc j) = l.map fun j => .loc (k + j)
  | [] => rfl
  | j :: l => by simp only [List.map_cons, D.ups, D.up, ups_locs k l]
theorem aSt_up (k n : Nat) (tab : Nat → List Nat) : (aSt n tab).map (O.up k) = bSt k n tab := by
  unfold aSt bSt
  simp only [List.map_append, List.map_map, List.map_cons, List.map_nil]
  congr 1
  · apply List.map_congr_left
    intro j _
    exact up_dctN k _
  · simp only [O.up, ups_locs]
def C_ahead_in (f : Sm) : Prop := ∀ n ps st, Up n ps → n ≤ 20 → ps.length ≤ 1000 → ∃ tab, (∀ j, j < n → aGood ps tab j) ∧ callS f [oD n ps] st = some (.ok (.loc (st.length + n)) (st ++ bSt st.length n tab))
theorem c_ahead_in (fs : Nat → Sm) : C_ahead_in (semOf 5 (dB fs t_ahead_in)) := by
  intro n ps st u hn hp
  obtain ⟨tab, h1, h2⟩ := s_ahead_in fs n ps u hn hp
  refine ⟨tab, h1, ?_⟩
  rw [call_new (frees_oD n ps) rfl h2, aSt_up]
  rfl
theorem bSt_lst {st : Sto} (n : Nat) (tab : Nat → List Nat) : (st ++ bSt st.length n tab)[st.length + n]? = some (.lst ((List.range n).map fun j => .loc (st.length + j))) := by
  rw [List.getElem?_append_right (by omega), Nat.add_sub_cancel_left]
  simp [bSt]
theorem bSt_dct {st : Sto} {n : Nat} {tab : Nat → List Nat} {j : Nat} (h : j < n) : (st ++ bSt st.length n tab)[st.length + j]? = some (dctN (tab j)) := by
  rw [List.getElem?_append_right (by omega), Nat.add_sub_cancel_left]
  unfold bSt
  rw [List.getElem?_append_left (by simpa using h)]
  simp [h]
theorem DTab.of {st : Sto} (n : Nat) (tab : Nat → List Nat) : DTab (st ++ bSt st.length n tab) st.length n tab := ⟨bSt_lst n tab, fun j h => bSt_dct h⟩
theorem locs_get' {b n j : Nat} (h : j < n) : ((List.range n).map fun j => D.loc (b + j))[j]? = some (.loc (b + j)) := by simp [h]
theorem DTab.ix {st : Sto} {b n : Nat} {tab : Nat → List Nat} (h : DTab st b n tab) {j : Nat} (hj : j < n) : fIx (.loc (b + n)) (.int (j : Int)) st = some (.ok (.loc (b + j)) st) := fIx_lst h.lst (locs_get' hj)
theorem fIn_dctN {st : Sto} {m : Nat} {l : List Nat} {x : Nat} (h : st[m]? = some (dctN l)) : fIn (.int (x : Int)) (.loc m) st = some (.ok (.bl (decide (x ∈ l))) st) := by
  simp only [fIn, inD, h, dctN, keyD, getK_keysN, okB]
end TA
/-! orders: need_order, need_item, is_ahead, with_pairs -/
namespace TA
open PySem
def xOrder (e : D) : Xn := ⟨{ cps := #[66, 97, 100, 79, 114, 100, 101, 114] }, [({ cps := #[112, 97, 114, 116] }, e)]⟩
def xItem (e : D) : Xn := ⟨{ cps := #[66, 97, 100, 73, 116, 101, 109] }, [({ cps := #[103, 105, 118, 101, 110] }, e)]⟩
/-! ### contracts of what stands before -/
def C_is_integer (f : Sm) : Prop := ∀ d st, okV st d → f [d] st = some (.ok (.bl (isI d)) st)
def C_is_within (f : Sm) : Prop := ∀ d a b st, okV st d → f [d, .int a, .int b] st = some (.ok (.bl (within d a b)) st)
def C_is_item_pair (f : Sm) : Prop := ∀ d many st, okP st d → f [d, .int many] st = some (.ok (.bl (itemPair d many)) st)
def C_do_ascend (f : Sm) : Prop := ∀ (ps : List (Int × Int)) st, ps.length ≤ 1000 → f [.tup (ps.map prD)] st = some (.ok (.bl (asc (ps.map prD))) st)
def C_order_fault (f : Sm) : Prop := ∀ d st, okO st d → f [d] st = some (.ok (faultOf d) st)
theorem c_is_integer' (fs : Nat → Sm) : C_is_integer (semOf 1 (dB fs t_is_integer)) := fun d st h => s_is_integer fs d st h
theorem c_is_within' {fs : Nat → Sm} {k0 : Nat} (h0 : C_is_integer (fs k0)) : C_is_within (semOf 3 (dB fs (t_is_within k0))) := fun d a b st h => s_is_within fs h0 d a b st h
theorem c_is_item_pair' {fs : Nat → Sm} {k1 : Nat} (h1 : C_is_within (fs k1)) : C_is_item_pair (semOf 3 (dB fs (t_is_item_pair k1))) := fun d m st h => s_is_item_pair fs h1 d m st h.1 h.2
theorem c_do_ascend' (fs : Nat → Sm) : C_do_ascend (semOf 3 (dB fs t_do_ascend)) := fun ps st h => s_do_ascendP fs ps st h
theorem c_order_fault' {fs : Nat → Sm} {k1 k2 k3 : Nat} (h1 : C_is_within (fs k1)) (h2 : C_is_item_pair (fs k2)) (h3 : C_do_ascend (fs k3)) : C_order_fault (semOf 2 (dB fs (t_order_fault k1 k2 k3))) := fun d st h => s_order_fault fs h1 h2 h3 d st h
/-! ### orders that are well formed -/
structure WfO (n : Nat) (ps : List (Nat × Nat)) : Prop where
  up : Up n ps
  le : n ≤ 20
  asc : ps.Pairwise ltQ
  len : ps.length ≤ 1000
theorem ltP2_prN {p q : Nat × Nat} : ltP2 (prN p) (prN q) = true ↔ ltQ p q := by
  simp only [ltP2, prN, Bool.or_eq_true, Bool.and_eq_true, decide_eq_true_eq, ltQ]
  omega
theorem ltQ_trans {p q r : Nat × Nat} (a : ltQ p q) (b : ltQ q r) : ltQ p r := by
  unfold ltQ at *
  omega
theorem asc_iff : ∀ ps : List (Nat × Nat), asc (ps.map prN) = true ↔ ps.Pairwise ltQ
  | [] => by simp [asc]
  | [p] => by simp [asc]
  | p :: q :: ps => by
    have ih := asc_iff (q :: ps)
    have e : asc ((p :: q :: ps).map prN) = (ltP2 (prN p) (prN q) && asc ((q :: ps).map prN)) := by
      simp [asc]
    rw [e, Bool.and_eq_true, ih, ltP2_prN, List.pairwise_cons (a := p)]
    constructor
    · rintro ⟨h1, h2⟩
      refine ⟨fun a ha => ?_, h2⟩
      rcases List.mem_cons.mp ha with rfl | ha
      · exact h1
      · exact ltQ_trans h1 ((List.pairwise_cons.mp h2).1 a ha)
    · rintro ⟨h1, h2⟩
      exact ⟨h1 q List.mem_cons_self, h2⟩
theorem itemPair_prN {p : Nat × Nat} {n : Nat} : itemPair (prN p) (n : Int) = true ↔ p.1 < p.2 ∧ p.2 < n := by
  simp only [itemPair, prN, within, Bool.and_eq_true, decide_eq_true_eq]
  omega
theorem WfO.fault {n : Nat} {ps : List (Nat × Nat)} (w : WfO n ps) : faultOf (oD n ps) = .non := by
  have h1 : within (.int (n : Int)) 0 20 = true := by
    simp only [within, Bool.and_eq_true, decide_eq_true_eq]
    have := w.le
    omega
  have h2 : ((ps.map prN).all fun q => itemPair q (n : Int)) = true := by
    rw [List.all_eq_true]
    intro d hd
    obtain ⟨p, hp, rfl⟩ := List.mem_map.mp hd
    exact itemPair_prN.mpr (w.up p hp)
  have h3 := (asc_iff ps).mpr w.asc
  simp only [faultOf, oD, h1, h2, h3, Bool.and_self]
theorem okV_int {st : Sto} {i : Int} : okV st (.int i) := ⟨_, rfl⟩
theorem okP_prN {st : Sto} (p : Nat × Nat) : okP st (prN p) := ⟨okV_tup, fun ds e => by
  cases e
  refine ⟨fun d hd => ?_, by simp⟩
  simp only [List.mem_cons, List.not_mem_nil, or_false] at hd
  rcases hd with rfl | rfl <;> exact okV_int⟩
theorem WfO.ok {n : Nat} {ps : List (Nat × Nat)} (w : WfO n ps) (st : Sto) : okO st (oD n ps) := ⟨okV_tup, fun m qs e => by
  cases e
  refine ⟨okV_int, okV_tup, fun qs e => ?_⟩
  cases e
  refine ⟨by simpa using w.len, fun q hq => ?_⟩
  obtain ⟨p, _, rfl⟩ := List.mem_map.mp hq
  exact okP_prN p⟩
theorem fault_wf {st : Sto} {d : D} (h : faultOf d = .non) (o : okO st d) : ∃ n ps, d = oD n ps ∧ WfO n ps := by
  unfold faultOf at h
  split at h
  · rename_i m qs'
    split at h
    · rename_i n qs hw
      split at h
      · rename_i hb
        rw [Bool.and_eq_true] at hb
        obtain ⟨ps, rfl, hp⟩ := allPairs hb.1
        have hn : 0 ≤ n ∧ n ≤ 20 := by simpa [within] using hw
        have e : ps.map prD = (ps.map fun p => (p.1.toNat, p.2.toNat)).map prN := by
          rw [List.map_map]
          apply List.map_congr_left
          intro p hm
          have := hp p hm
          simp only [Function.comp, prN, prD]
          rw [Int.toNat_of_nonneg (by omega), Int.toNat_of_nonneg (by omega)]
        have l := (o.two _ _ rfl).2.2 _ rfl
        refine ⟨n.toNat, ps.map fun p => (p.1.toNat, p.2.toNat), ?_, ⟨fun p hm => ?_, by omega, ?_, by simpa using l.1⟩⟩
        · rw [oD, ← e, Int.toNat_of_nonneg hn.1]
        · obtain ⟨q, hq, rfl⟩ := List.mem_map.mp hm
          have := hp q hq
          simp only
          omega
        · have h2 := hb.2
          rw [e] at h2
          exact (asc_iff _).mp h2
      · cases h
    · cases h
    · cases h
  · cases h
/-! ### need_order, need_item -/
theorem okO_free {st : Sto} {d : D} (h : okO st d) (hf : D.free d = true) (st' : Sto) : okO st' d := by
  refine ⟨okV_free h.ok hf st', fun m ps e => ?_⟩
  subst e
  obtain ⟨h1, h2, h3⟩ := h.two m ps rfl
  simp only [D.free, D.frees, Bool.and_true, Bool.and_eq_true] at hf
  refine ⟨okV_free h1 hf.1 st', okV_free h2 hf.2 st', fun qs e => ?_⟩
  subst e
  obtain ⟨a, b⟩ := h3 qs rfl
  have := hf.2
  simp only [D.free] at this
  exact ⟨a, fun q hq => okP_free (b q hq) (free_mem this q hq) st'⟩
theorem fault_cases (d : D) : faultOf d = .non ∨ faultOf d = .str sForm ∨ faultOf d = .str sMany ∨ faultOf d = .str sPairs := by
  unfold faultOf
  repeat' split
  all_goals simp
theorem free_fault (d : D) : D.free (faultOf d) = true := by
  rcases fault_cases d with h | h | h | h <;> rw [h] <;> rfl
theorem call_order_fault {f : Sm} (hf : C_order_fault f) {d : D} {st : Sto} (h : okO st d) : callS f [d] st = some (.ok (faultOf d) st) :=
  call_keep (free_fault d) (hf d st h) fun hh => ⟨[], hf d [] (okO_free h (by simpa [D.frees] using hh) [])⟩
def needO (d : D) (st : Sto) : Option (Out D) := match isNonD (faultOf d) with
  | true => some (.ok d st)
  | false => some (.exc (xOrder (faultOf d)) st)
def C_need_order (f : Sm) : Prop := ∀ d st, okO st d → callS f [d] st = needO d st
theorem c_need_order {fs : Nat → Sm} {k : Nat} (hf : C_order_fault (fs k)) : C_need_order (semOf 2 (dB fs (t_need_order k))) := by
  have run : ∀ d st, okO st d → semOf 2 (dB fs (t_need_order k)) [d] st = needO d st := fun d st h => by
    have c := call_order_fault hf h
    cases e : isNonD (faultOf d) with
    | true => simp [t_need_order, c, fIsNot, e, needO]
    | false => simp [t_need_order, c, fIsNot, e, needO, xOrder]
  intro d st h
  cases hfr : D.frees [d] with
  | false => rw [call_loc hfr]; exact run d st h
  | true =>
    have hd : D.free d = true := by simpa [D.frees] using hfr
    have r := run d [] (okO_free h hd [])
    unfold needO at r ⊢
    cases e : isNonD (faultOf d) with
    | true => rw [e] at r; exact call_free hfr hd r
    | false => rw [e] at r; exact call_exc hfr (by simp [frX, xOrder, free_fault]) r
theorem need_good {f : Sm} (hf : C_need_order f) {n : Nat} {ps : List (Nat × Nat)} (w : WfO n ps) (st : Sto) : callS f [oD n ps] st = some (.ok (oD n ps) st) := by
  rw [hf _ st (w.ok st), needO, w.fault]
  rfl
/-- need_item of a good item -/
def C_need_item (f : Sm) : Prop := ∀ n ps (i : Nat) st, i < n → callS f [oD n ps, .int (i : Int)] st = some (.ok .non st)
theorem c_need_item {fs : Nat → Sm} {k : Nat} (hf : C_is_within (fs k)) : C_need_item (semOf 2 (dB fs (t_need_item k))) := by
  intro n ps i st hi
  have hw : within (.int (i : Int)) 0 ((n : Int) - 1) = true := by
    simp only [within, Bool.and_eq_true, decide_eq_true_eq]
    omega
  have c := c_is_within hf (.int (i : Int)) 0 ((n : Int) - 1) [] okV_int
  rw [hw] at c
  refine call_free (st' := []) (by simp [D.frees, D.free]) rfl ?_
  simp [t_need_item, oD, fSub, fI, c]
/-! ### is_ahead -/
def C_is_ahead (f : Sm) : Prop := ∀ n ps (i j : Nat) st, WfO n ps → i < n → j < n → ∃ b, callS f [oD n ps, .int (i : Int), .int (j : Int)] st = some (.ok (.bl b) st) ∧ (b = true ↔ Ahd ps i j)
theorem c_is_ahead {fs : Nat → Sm} {k1 k2 k3 : Nat} (h1 : C_need_order (fs k1)) (h2 : C_need_item (fs k2)) (h3 : C_ahead_in (fs k3)) : C_is_ahead (semOf 3 (dB fs (t_is_ahead k1 k2 k3))) := by
  intro n ps i j st w hi hj
  obtain ⟨tab, g, c⟩ := h3 n ps [] w.up w.le w.len
  have t := DTab.of (st := []) n tab
  have ix := t.ix hj
  simp only [List.length_nil, Nat.zero_add, List.nil_append] at c t ix
  have inn := fIn_dctN (x := i) (by simpa using t.dct j hj)
  refine ⟨decide (i ∈ tab j), call_free (st' := bSt 0 n tab) (by simp [D.frees, D.free]) rfl ?_, by rw [decide_eq_true_eq, (g j hj).2]⟩
  simp [t_is_ahead, need_good h1 w, h2 n ps i _ hi, h2 n ps j _ hj, c, ix, inn]
/-! ### with_pairs -/
def C_with_pairs (f : Sm) : Prop := ∀ (n m : Nat) (P : Nat → Nat → Prop) (L : List (Nat × Nat)) (st : Sto), n ≤ 11 → st[m]? = some (.lst (L.map prN)) → L.Nodup → (∀ i j, (i, j) ∈ L ↔ (i < n ∧ j < n) ∧ P i j) → (∀ i j, P i j → i < j) →
    callS f [.int (n : Int), .loc m] st = some (.ok (oD n (selP n P)) st)
theorem c_with_pairs (fs : Nat → Sm) : C_with_pairs (semOf 2 (dB fs t_with_pairs)) := by
  intro n m P L st hn hs nd hm hP
  rw [call_loc (by simp [D.frees, D.free])]
  have s := sorted_pairs hn hs nd hm hP
  simp [t_with_pairs, s, bTupF, oD]
end TA
/-! orders: closed and bare forms -/
namespace TA
open PySem
theorem enumD_from : ∀ (l : List D) (k : Nat), enumD k l = (List.range l.length).map fun j => .tup [.int ((k + j : Nat) : Int), l.getD j .non]
  | [], k => rfl
  | d :: l, k => by
    rw [enumD, enumD_from l (k + 1)]
    simp only [List.length_cons, List.range_succ_eq_map, List.map_cons, List.map_map, Nat.add_zero, List.getD_cons_zero]
    congr 1
    apply List.map_congr_left
    intro j _
    simp only [Function.comp, List.getD_cons_succ]
    rw [show k + 1 + j = k + j.succ by omega]
theorem enumD_range (n : Nat) (f : Nat → D) : enumD 0 ((List.range n).map f) = (List.range n).map fun j => .tup [.int (j : Int), f j] := by
  rw [enumD_from]
  simp only [List.length_map, List.length_range, Nat.zero_add]
  apply List.map_congr_left
  intro j hj
  have hj : j < n := by simpa using hj
  simp [hj]
theorem keysN_kD (l : List Nat) : ((keysN l).map fun p => kD p.1) = l.map itD := by
  simp [keysN, kD, itD, Function.comp_def]
theorem lock_back {st : Sto} {n : Nat} {o : O} : True := trivial
/-! ### closed_in -/
theorem cl_row {fs : Nat → Sm} {env : En} {st : Sto} {m j : Nat} {l : List Nat} (h0 : env[3]? = some (some (.loc m))) (h1 : env[2]? = some (some (.int (j : Int)))) (hl : l.length ≤ 20) (hs : st[m]? = some (dctN l)) (he : env.length = 5) :
    dL fs (.lcV (.var 3) (.var 4) .tru el_closed_in_1 [4]) env st = some (.ok (l.map fun k => prN (k, j)) st) := by
  match env, he with
  | [a, b, c, d, e], _ =>
    simp only [List.getElem?_cons_succ, List.getElem?_cons_zero, Option.some.injEq] at h0 h1
    subst h0; subst h1
    refine lcV_dct (n := m) (kvs := keysN l) (by simp) hs (by simp) ?_
    rw [keysN_kD]
    refine lc_all itD (fun k => prN (k, j)) l rfl (by omega) fun k _ => ⟨_, rfl, ?_⟩
    simp [el_closed_in_1, wipeE, itD, prN]
theorem mem_pairs_step {P : Nat → Nat → Prop} {L : List (Nat × Nat)} {l : List Nat} {j : Nat} (h : ∀ a b, (a, b) ∈ L ↔ b < j ∧ P a b) (hl : ∀ a, a ∈ l ↔ P a j) : ∀ a b, (a, b) ∈ L ++ l.map (fun k => (k, j)) ↔ b < j + 1 ∧ P a b := fun a b => by
  simp only [List.mem_append, h, List.mem_map, Prod.mk.injEq]
  constructor
  · rintro (⟨h1, h2⟩ | ⟨k, hk, rfl, rfl⟩)
    · exact ⟨by omega, h2⟩
    · exact ⟨by omega, (hl _).mp hk⟩
  · rintro ⟨h1, h2⟩
    by_cases e : b = j
    · subst e; exact .inr ⟨a, (hl a).mpr h2, rfl, rfl⟩
    · exact .inl ⟨by omega, h2⟩
theorem nodup_pairs_step {P : Nat → Nat → Prop} {L : List (Nat × Nat)} {l : List Nat} {j : Nat} (h : ∀ a b, (a, b) ∈ L ↔ b < j ∧ P a b) (nd : L.Nodup) (ndl : l.Nodup) : (L ++ l.map (fun k => (k, j))).Nodup := by
  rw [List.nodup_append]
  refine ⟨nd, ?_, fun p hp q hq e => ?_⟩
  · unfold List.Nodup
    rw [List.pairwise_map]
    exact ndl.imp fun h e => h (by simpa using e)
  · subst e
    obtain ⟨k, _, rfl⟩ := List.mem_map.mp hq
    have := (h _ _).mp hp
    omega
theorem cl_len {P : Nat → Nat → Prop} {L : List (Nat × Nat)} {j n : Nat} (hn : n ≤ 11) (hj : j ≤ n) (h : ∀ a b, (a, b) ∈ L ↔ b < j ∧ P a b) (hP : ∀ a b, P a b → a < b) (nd : L.Nodup) : L.length ≤ 55 :=
  up_len hn nd fun ⟨a, b⟩ hp => by
    have := (h a b).mp hp
    exact ⟨hP a b this.2, by simp only; omega⟩
def C_form (f : Sm) (F : List (Nat × Nat) → Nat → Nat → Prop) : Prop := ∀ n ps st, WfO n ps → n ≤ 11 → callS f [oD n ps] st = some (.ok (oD n (selP n (F ps))) st)
theorem c_closed_in {fs : Nat → Sm} {k1 k2 : Nat} (h1 : C_ahead_in (fs k1)) (h2 : C_with_pairs (fs k2)) : C_form (semOf 5 (dB fs (t_closed_in k1 k2))) Ahd := by
  intro n ps st w hn
  obtain ⟨tab, g, c⟩ := h1 n ps [.lst []] w.up w.le w.len
  simp only [List.length_singleton] at c
  have loop := for_list (C := lstIs (1 + n) ((List.range n).map fun j => .loc (1 + j))) (tg := .tp [.nm 2, .nm 3]) (body := dB fs bd_closed_in_0) (fun j : Nat => .tup [.int (j : Int), .loc (1 + j)])
    (fun q env st => ∃ L x y z, env = [some (oD n ps), some (.loc 0), x, y, z] ∧ st = .lst (L.map prN) :: bSt 1 n tab ∧ L.Nodup ∧ ∀ a b, (a, b) ∈ L ↔ b < q.length ∧ Ahd ps a b) (List.range n)
    (env := [some (oD n ps), some (.loc 0), none, none, none]) (st := .lst [] :: bSt 1 n tab)
    ⟨[], none, none, none, rfl, rfl, List.nodup_nil, fun a b => by simp⟩
    (by
      rintro q env st ⟨L, x, y, z, rfl, rfl, _, _⟩
      exact lstIs_self (DTab.of (st := [.lst (L.map prN)]) n tab).lst)
    (by
      rintro q j r env st ha ⟨L, x, y, z, rfl, rfl, nd, hm⟩
      obtain ⟨hq, hj⟩ := range_pre ha
      have hl : q.length = j := by rw [hq]; simp
      rw [hl] at hm
      have t := DTab.of (st := [.lst (L.map prN)]) n tab
      have gj := g j hj
      have lj := gj.len w.up
      have row := cl_row (fs := fs) (env := [some (oD n ps), some (.loc 0), some (.int (j : Int)), some (.loc (1 + j)), z]) (st := .lst (L.map prN) :: bSt 1 n tab) (m := 1 + j) (j := j) (l := tab j) rfl rfl (by omega) (t.dct j hj) rfl
      have hL := cl_len hn (show j ≤ n by omega) hm (fun a b h => (h.lt w.up).1) nd
      refine ⟨_, rfl, [some (oD n ps), some (.loc 0), some (.int (j : Int)), some (.loc (1 + j)), z], .lst ((L ++ (tab j).map fun k => (k, j)).map prN) :: bSt 1 n tab, .inl ?_, ⟨_, _, _, _, rfl, rfl, nodup_pairs_step hm nd gj.1, ?_⟩⟩
      · have ty : isTy "list" (.loc 0) (.lst (L.map prN) :: bSt 1 n tab) = true := by simp [isTy, tyD]
        have ex : vExtendF (.loc 0) ((tab j).map fun k => prN (k, j)) (.lst (L.map prN) :: bSt 1 n tab) = some (.ok .non (.lst ((L ++ (tab j).map fun k => (k, j)).map prN) :: bSt 1 n tab)) := by
          have hb : Nat.ble ((L.map prN).length + ((tab j).map fun k => prN (k, j)).length) 1000000 = true := ble_mil (by simp only [List.length_map]; omega)
          simp only [vExtendF, List.getElem?_cons_zero, hb, List.set_cons_zero, List.map_append, List.map_map, Function.comp_def]
        simp [bd_closed_in_0, ty, row, ex]
      · simp only [List.length_append, List.length_singleton, hl]
        exact mem_pairs_step hm gj.2)
  obtain ⟨env2, st2, r1, ⟨L, x, y, z, rfl, rfl, nd, hm⟩⟩ := loop
  have hm' : ∀ i j, (i, j) ∈ L ↔ (i < n ∧ j < n) ∧ Ahd ps i j := fun i j => by
    rw [hm, List.length_range]
    constructor
    · rintro ⟨a, b⟩
      have := b.lt w.up
      exact ⟨⟨by omega, a⟩, b⟩
    · rintro ⟨⟨_, a⟩, b⟩
      exact ⟨a, b⟩
  have wp := h2 n 0 (Ahd ps) L (.lst (L.map prN) :: bSt 1 n tab) hn rfl nd hm' (fun i j h => (h.lt w.up).1)
  refine call_free (st' := .lst (L.map prN) :: bSt 1 n tab) (frees_oD n ps) (free_oD _ _) ?_
  have lst := (DTab.of (st := [O.lst []]) n tab).lst
  simp only [List.length_singleton, List.singleton_append] at lst c
  have se : startE 5 [oD n ps] = [some (oD n ps), none, none, none, none] := rfl
  have en := enumD_range n fun j => .loc (1 + j)
  have s0 : dS fs (.set 1 (.keep (.lst .nil))) [some (oD n ps), none, none, none, none] [] = some (.nx [some (oD n ps), some (.loc 0), none, none, none] [.lst []]) := by simp
  have s1 : dS fs (.for (.enum (.at (.call k1 1 (.cons (.var 0) .nil)))) (.tup (.cons (.var 2) (.cons (.var 3) .nil))) bd_closed_in_0) [some (oD n ps), some (.loc 0), none, none, none] [.lst []] = some (.nx [some (oD n ps), some (.loc 0), x, y, z] (.lst (L.map prN) :: bSt 1 n tab)) := by
    simp [c, lst, en, tgD, tgsD, r1]
  have s2 : dS fs (.ret (.call k2 2 (.cons (.ix (.var 0) (.int 0)) (.cons (.var 1) .nil)))) [some (oD n ps), some (.loc 0), x, y, z] (.lst (L.map prN) :: bSt 1 n tab) = some (.rt (oD n (selP n (Ahd ps))) (.lst (L.map prN) :: bSt 1 n tab)) := by
    have ix : dE fs (.ix (.var 0) (.int 0)) [some (oD n ps), some (.loc 0), x, y, z] (.lst (L.map prN) :: bSt 1 n tab) = some (.ok (.int (n : Int)) (.lst (L.map prN) :: bSt 1 n tab)) := by simp [oD]
    rw [es_ret, ev_call, ea_cons, ix]
    simp [wp]
  simp only [semOf, se, t_closed_in, eb_cons, s0, s1, s2]
end TA
/-! orders: the bare form; equal data; are_like -/
namespace TA
open PySem
/-! ### bare_in -/
/-- the store of bare_in -/
def rSt (n : Nat) (tab : Nat → List Nat) (L : List (Nat × Nat)) : Sto := bSt 0 n tab ++ [.lst (L.map prN)]
theorem rSt_tab (n : Nat) (tab : Nat → List Nat) (L : List (Nat × Nat)) : DTab (rSt n tab L) 0 n tab := by
  have t := DTab.of (st := []) n tab
  simp only [List.nil_append, List.length_nil] at t
  exact ⟨get_ext t.lst _, fun j h => get_ext (t.dct j h) _⟩
theorem rSt_lst (n : Nat) (tab : Nat → List Nat) (L : List (Nat × Nat)) : (rSt n tab L)[n + 1]? = some (.lst (L.map prN)) := by
  unfold rSt
  rw [List.getElem?_append_right (by rw [bSt_len]; omega), bSt_len, Nat.sub_self]
  rfl
theorem rSt_set (n : Nat) (tab : Nat → List Nat) (L M : List (Nat × Nat)) : (rSt n tab L).set (n + 1) (.lst (M.map prN)) = rSt n tab M := by
  unfold rSt
  rw [List.set_append_right (n + 1) _ (by rw [bSt_len]; omega), bSt_len, Nat.sub_self]
  rfl
open Classical in
theorem ba_row {fs : Nat → Sm} {o : D} {x : Option D} {n j : Nat} {ps : List (Nat × Nat)} {tab : Nat → List Nat} {L : List (Nat × Nat)} (u : Up n ps) (hn : n ≤ 11) (hj : j < n) (g : ∀ j, j < n → aGood ps tab j) :
    dL fs (.lcV (.var 4) (.var 5) te_bare_in_1 el_bare_in_3 [5]) [some o, some (.loc n), some (.loc (n + 1)), some (.int (j : Int)), some (.loc j), x, none] (rSt n tab L) = some (.ok (((tab j).filter fun k => decide (Bare (Ahd ps) k j)).map fun k => prN (k, j)) (rSt n tab L)) := by
  have t := rSt_tab n tab L
  have gj := g j hj
  have lj := gj.len u
  have hd : (rSt n tab L)[j]? = some (.dct (keysN (tab j))) := by
    have := t.dct j hj
    rw [Nat.zero_add] at this
    exact this
  refine lcV_dct (n := j) (kvs := keysN (tab j)) (by simp) hd (by simp) ?_
  rw [keysN_kD]
  rw [lc_map itD (fun k => decide (Bare (Ahd ps) k j)) (fun k => prN (k, j)) rfl (tab j) [] (by simp only [List.length_nil]; omega) (fun k hk => ?_)]
  · rfl
  · refine ⟨[some o, some (.loc n), some (.loc (n + 1)), some (.int (j : Int)), some (.loc j), some (.int (k : Int)), none], by simp [tgD, tgSet, wipeE, itD], ?_, fun _ => by simp [el_bare_in_3, prN]⟩
    have hlk : ((rSt n tab L).set j (.dlk (keysN (tab j))))[j]? = some (.dlk (keysN (tab j))) := get_set hd
    have inner : dL fs (.lcV (.var 4) (.var 6) .tru el_bare_in_2 [6]) [some o, some (.loc n), some (.loc (n + 1)), some (.int (j : Int)), some (.loc j), some (.int (k : Int)), none] ((rSt n tab L).set j (.dlk (keysN (tab j)))) = some (.ok ((tab j).map fun m => .bl (decide (Ahd ps k m))) ((rSt n tab L).set j (.dlk (keysN (tab j))))) := by
      rw [lcV_dlk (n := j) (kvs := keysN (tab j)) (by simp) hlk, keysN_kD]
      refine lc_all itD (fun m => .bl (decide (Ahd ps k m))) (tab j) rfl (by omega) fun m hm => ⟨_, rfl, ?_⟩
      have hmj := ((gj.2 m).mp hm).lt u
      have l1 : ((rSt n tab L).set j (.dlk (keysN (tab j))))[n]? = some (.lst ((List.range n).map fun j => .loc (0 + j))) := get_set_ne (by omega) (by simpa using t.lst)
      have l2 : ((rSt n tab L).set j (.dlk (keysN (tab j))))[m]? = some (dctN (tab m)) := get_set_ne (by omega) (by simpa using t.dct m (by omega))
      have ix := fIx_lst l1 (locs_get' (b := 0) (show m < n by omega))
      simp only [Nat.zero_add] at ix
      have inn := fIn_dctN (x := k) l2
      have e : decide (k ∈ tab m) = decide (Ahd ps k m) := by
        rw [decide_eq_decide]; exact (g m (by omega)).2 k
      simp [el_bare_in_2, wipeE, itD, ix, inn, e]
    have b1 : bools? ((tab j).map fun m => D.bl (decide (Ahd ps k m))) = some ((tab j).map fun m => decide (Ahd ps k m)) := by
      generalize tab j = l
      induction l with
      | nil => rfl
      | cons m l ih => simp [bools?, ih]
    have e2 : (!((tab j).map fun m => decide (Ahd ps k m)).any id) = decide (Bare (Ahd ps) k j) := by
      rw [List.any_map]
      have ha : Ahd ps k j := (gj.2 k).mp hk
      by_cases hb : Bare (Ahd ps) k j
      · have : ((tab j).any (id ∘ fun m => decide (Ahd ps k m))) = false := by
          rw [List.any_eq_false]
          intro m hm hk2
          simp only [Function.comp, id, decide_eq_true_eq] at hk2
          exact hb.2 ⟨m, hk2, (gj.2 m).mp hm⟩
        rw [this, decide_eq_true hb]; rfl
      · have : ((tab j).any (id ∘ fun m => decide (Ahd ps k m))) = true := by
          rw [List.any_eq_true]
          by_cases hex : ∃ m, Ahd ps k m ∧ Ahd ps m j
          · obtain ⟨m, m1, m2⟩ := hex
            exact ⟨m, (gj.2 m).mpr m2, by simpa using m1⟩
          · exact absurd ⟨ha, hex⟩ hb
        rw [this, decide_eq_false hb]; rfl
    simp only [te_bare_in_1, et_not, et_tst, ev_anyF, inner, thn_ok, bAnyF, b1, e2]
open Classical in
theorem c_bare_in {fs : Nat → Sm} {k1 k2 : Nat} (h1 : C_ahead_in (fs k1)) (h2 : C_with_pairs (fs k2)) : C_form (semOf 7 (dB fs (t_bare_in k1 k2))) fun ps => Bare (Ahd ps) := by
  intro n ps st w hn
  obtain ⟨tab, g, c⟩ := h1 n ps [] w.up w.le w.len
  simp only [List.length_nil, Nat.zero_add, List.nil_append] at c
  have loop := for_list (C := lstIs n ((List.range n).map fun j => .loc j)) (tg := .tp [.nm 3, .nm 4]) (body := dB fs bd_bare_in_0) (fun j : Nat => .tup [.int (j : Int), .loc j])
    (fun q env st => ∃ L x y z, env = [some (oD n ps), some (.loc n), some (.loc (n + 1)), x, y, z, none] ∧ st = rSt n tab L ∧ L.Nodup ∧ ∀ a b, (a, b) ∈ L ↔ b < q.length ∧ Bare (Ahd ps) a b) (List.range n)
    (env := [some (oD n ps), some (.loc n), some (.loc (n + 1)), none, none, none, none]) (st := rSt n tab [])
    ⟨[], none, none, none, rfl, rfl, List.nodup_nil, fun a b => by simp⟩
    (by
      rintro q env st ⟨L, x, y, z, rfl, rfl, _, _⟩
      have := (rSt_tab n tab L).lst
      simp only [Nat.zero_add] at this
      exact lstIs_self this)
    (by
      rintro q j r env st ha ⟨L, x, y, z, rfl, rfl, nd, hm⟩
      obtain ⟨hq, hj⟩ := range_pre ha
      have hl : q.length = j := by rw [hq]; simp
      rw [hl] at hm
      have gj := g j hj
      have lj := gj.len w.up
      have row := ba_row (fs := fs) (o := oD n ps) (x := z) (L := L) w.up hn hj g
      have hL := cl_len hn (show j ≤ n by omega) hm (fun a b h => (h.1.lt w.up).1) nd
      have hmem : ∀ a, a ∈ (tab j).filter (fun k => decide (Bare (Ahd ps) k j)) ↔ Bare (Ahd ps) a j := fun a => by
        rw [List.mem_filter, decide_eq_true_eq, gj.2]
        exact ⟨fun h => h.2, fun h => ⟨h.1, h⟩⟩
      refine ⟨_, rfl, [some (oD n ps), some (.loc n), some (.loc (n + 1)), some (.int (j : Int)), some (.loc j), z, none], rSt n tab (L ++ ((tab j).filter fun k => decide (Bare (Ahd ps) k j)).map fun k => (k, j)), .inl ?_, ⟨_, _, _, _, rfl, rfl, nodup_pairs_step hm nd (gj.1.filter _), ?_⟩⟩
      · have ty : isTy "list" (.loc (n + 1)) (rSt n tab L) = true := by simp [isTy, tyD, rSt_lst]
        have lf := List.length_filter_le (fun k => decide (Bare (Ahd ps) k j)) (tab j)
        have ex : vExtendF (.loc (n + 1)) (((tab j).filter fun k => decide (Bare (Ahd ps) k j)).map fun k => prN (k, j)) (rSt n tab L) = some (.ok .non (rSt n tab (L ++ ((tab j).filter fun k => decide (Bare (Ahd ps) k j)).map fun k => (k, j)))) := by
          have hb : Nat.ble ((L.map prN).length + (((tab j).filter fun k => decide (Bare (Ahd ps) k j)).map fun k => prN (k, j)).length) 1000000 = true := ble_mil (by simp only [List.length_map]; omega)
          simp only [vExtendF, rSt_lst, hb]
          rw [← rSt_set n tab L (L ++ _)]
          simp only [List.map_append, List.map_map, Function.comp_def]
        simp [bd_bare_in_0, ty, row, ex]
      · simp only [List.length_append, List.length_singleton, hl]
        exact mem_pairs_step hm hmem)
  obtain ⟨env2, st2, r1, ⟨L, x, y, z, rfl, rfl, nd, hm⟩⟩ := loop
  have hm' : ∀ i j, (i, j) ∈ L ↔ (i < n ∧ j < n) ∧ Bare (Ahd ps) i j := fun i j => by
    rw [hm, List.length_range]
    constructor
    · rintro ⟨a, b⟩
      have := b.1.lt w.up
      exact ⟨⟨by omega, a⟩, b⟩
    · rintro ⟨⟨_, a⟩, b⟩
      exact ⟨a, b⟩
  have wp := h2 n (n + 1) (Bare (Ahd ps)) L (rSt n tab L) hn (rSt_lst n tab L) nd hm' (fun i j h => (h.1.lt w.up).1)
  refine call_free (st' := rSt n tab L) (frees_oD n ps) (free_oD _ _) ?_
  have lst := (rSt_tab n tab []).lst
  simp only [Nat.zero_add] at lst
  have se : startE 7 [oD n ps] = [some (oD n ps), none, none, none, none, none, none] := rfl
  have en := enumD_range n fun j => .loc j
  have bl : (bSt 0 n tab).length = n + 1 := bSt_len 0 n tab
  have r0 : bSt 0 n tab ++ [O.lst []] = rSt n tab [] := rfl
  have s0 : dS fs (.tgt (.tup (.cons (.var 1) (.cons (.var 2) .nil))) (.tup (.cons (.call k1 1 (.cons (.var 0) .nil)) (.cons (.keep (.lst .nil)) .nil)))) [some (oD n ps), none, none, none, none, none, none] [] = some (.nx [some (oD n ps), some (.loc n), some (.loc (n + 1)), none, none, none, none] (rSt n tab [])) := by
    simp [c, bl, r0]
  have s1 : dS fs (.for (.enum (.at (.var 1))) (.tup (.cons (.var 3) (.cons (.var 4) .nil))) bd_bare_in_0) [some (oD n ps), some (.loc n), some (.loc (n + 1)), none, none, none, none] (rSt n tab []) = some (.nx [some (oD n ps), some (.loc n), some (.loc (n + 1)), x, y, z, none] (rSt n tab L)) := by
    simp [lst, en, r1]
  have s2 : dS fs (.ret (.call k2 2 (.cons (.ix (.var 0) (.int 0)) (.cons (.var 2) .nil)))) [some (oD n ps), some (.loc n), some (.loc (n + 1)), x, y, z, none] (rSt n tab L) = some (.rt (oD n (selP n (Bare (Ahd ps)))) (rSt n tab L)) := by
    have ix : dE fs (.ix (.var 0) (.int 0)) [some (oD n ps), some (.loc n), some (.loc (n + 1)), x, y, z, none] (rSt n tab L) = some (.ok (.int (n : Int)) (rSt n tab L)) := by simp [oD]
    rw [es_ret, ev_call, ea_cons, ix]
    simp [wp]
  simp only [semOf, se, t_bare_in, eb_cons, s0, s1, s2]
/-! ### closed_form, bare_form -/
theorem c_closed_form {fs : Nat → Sm} {k1 k2 : Nat} {F : List (Nat × Nat) → Nat → Nat → Prop} (h1 : C_need_order (fs k1)) (h2 : C_form (fs k2) F) : C_form (semOf 1 (dB fs (t_closed_form k1 k2))) F := by
  intro n ps st w hn
  refine call_free (st' := []) (frees_oD n ps) (free_oD _ _) ?_
  simp [t_closed_form, need_good h1 w, h2 n ps [] w hn]
theorem c_bare_form {fs : Nat → Sm} {k1 k2 : Nat} {F : List (Nat × Nat) → Nat → Nat → Prop} (h1 : C_need_order (fs k1)) (h2 : C_form (fs k2) F) : C_form (semOf 1 (dB fs (t_bare_form k1 k2))) F := by
  intro n ps st w hn
  refine call_free (st' := []) (frees_oD n ps) (free_oD _ _) ?_
  simp [t_bare_form, need_good h1 w, h2 n ps [] w hn]
end TA
/-! orders: are_like; orders as plain data -/
namespace TA
open PySem
theorem nb_oD (n : Nat) (ps : List (Nat × Nat)) : nbD 30 (oD n ps) = true := by
  simp only [oD, nbD, List.all_cons, List.all_nil, Bool.and_true, Bool.true_and, List.all_map, Function.comp_def, prN, List.all_eq_true]
  exact fun _ _ => trivial
theorem nb_tN (l : List Nat) : nbD 30 (tN l) = true := by
  simp only [tN, nbD, List.all_map, Function.comp_def, itD, List.all_eq_true]
  exact fun _ _ => trivial
theorem same_oD {n m : Nat} {ps qs : List (Nat × Nat)} : D.same (oD n ps) (oD m qs) = true ↔ n = m ∧ ps = qs := by
  rw [same_iff]
  constructor
  · intro h
    simp only [oD, D.tup.injEq, List.cons.injEq, D.int.injEq, and_true] at h
    refine ⟨by omega, ?_⟩
    exact (List.map_inj_right (fun p q e => by
      simp only [prN, D.tup.injEq, List.cons.injEq, D.int.injEq, and_true] at e
      exact Prod.ext (by omega) (by omega))).mp h.2
  · rintro ⟨rfl, rfl⟩; rfl
theorem nodess_prN : ∀ ps : List (Nat × Nat), nodess (ps.map prN) = 3 * ps.length
  | [] => rfl
  | p :: ps => by simp only [List.map_cons, nodess, nodess_prN ps, List.length_cons, prN, nodes]; omega
theorem nodes_oD (n : Nat) (ps : List (Nat × Nat)) : nodes (oD n ps) = 3 + 3 * ps.length := by
  simp only [oD, nodes, nodess, nodess_prN]
  omega
theorem ps_nat {k n : Nat} (h : k ≤ 1000000) : plS n (.int (k : Int)) = true := by
  cases n <;> (simp only [plS, Nat.blt_eq]; omega)
theorem ps_oD {n : Nat} {ps : List (Nat × Nat)} (u : Up n ps) (hn : n ≤ 1000) : plS 5 (oD n ps) = true := by
  have h1 : ∀ k : Nat, k ≤ 1000 → Nat.blt (k : Int).natAbs 1000000000000 = true := fun k h => by rw [Nat.blt_eq]; omega
  simp only [oD, plS, List.all_cons, List.all_nil, Bool.and_true, h1 n hn, Bool.true_and, List.all_map, Function.comp_def, prN, List.all_eq_true]
  intro p hp
  have := u p hp
  rw [h1 _ (by omega), h1 _ (by omega)]
  rfl
def C_are_like (f : Sm) : Prop := ∀ n ps m qs st, WfO n ps → n ≤ 11 → WfO m qs → m ≤ 11 → callS f [oD n ps, oD m qs] st = some (.ok (.bl (D.same (oD n (selP n (Ahd ps))) (oD m (selP m (Ahd qs))))) st)
theorem c_are_like {fs : Nat → Sm} {k1 k2 : Nat} (h1 : C_need_order (fs k1)) (h2 : C_form (fs k2) Ahd) : C_are_like (semOf 2 (dB fs (t_are_like k1 k2))) := by
  intro n ps m qs st w hn v hm
  refine call_free (st' := []) (by simp [D.frees]) rfl ?_
  have e := fEq_nb (st := []) (nb_oD n (selP n (Ahd ps))) (nb_oD m (selP m (Ahd qs)))
  simp [t_are_like, need_good h1 w, need_good h1 v, h2 n ps [] w hn, h2 m qs [] v hm, e]
theorem wf_closed {n : Nat} {ps : List (Nat × Nat)} (w : WfO n ps) (hn : n ≤ 11) : WfO n (selP n (Ahd ps)) :=
  ⟨up_sel w.up _ fun _ _ h => h, w.le, selP_asc _ _, by
    have := up_len hn (ascQ_nodup (selP_asc n (Ahd ps))) (up_sel w.up _ fun _ _ h => h)
    omega⟩
theorem wf_bare {n : Nat} {ps : List (Nat × Nat)} (w : WfO n ps) (hn : n ≤ 11) : WfO n (selP n (Bare (Ahd ps))) :=
  ⟨up_sel w.up _ fun _ _ h => h.1, w.le, selP_asc _ _, by
    have := up_len hn (ascQ_nodup (selP_asc n (Bare (Ahd ps)))) (up_sel w.up _ fun _ _ h => h.1)
    omega⟩
end TA
/-! the laws' own draws -/
namespace TA
open PySem
@[simp] theorem fAddS {i j : Int} {st : Sto} : fOr fAdd fCatL (.int i) (.int j) st = some (.ok (.int (i + j)) st) := rfl
@[simp] theorem fSubS {i j : Int} {st : Sto} : fSub (.int i) (.int j) st = some (.ok (.int (i - j)) st) := rfl
theorem fMulS {i j : Int} {st : Sto} (h : i.natAbs < 18446744073709551616 ∨ j.natAbs < 18446744073709551616) : fOr fMul fRepT (.int i) (.int j) st = some (.ok (.int (i * j)) st) := by
  have e : cMul i j = true := by
    unfold cMul
    rw [Bool.or_eq_true, Nat.blt_eq, Nat.blt_eq]
    exact h
  simp only [fOr, fMul, fIc, e]
theorem fModS {i j : Int} {st : Sto} (h : 0 < j) : fMod (.int i) (.int j) st = some (.ok (.int (i % j)) st) := by
  simp only [fMod, fIc, decide_eq_true h]
theorem fDivS {i j : Int} {st : Sto} (h : 0 < j) (h2 : j < 1073741824) : fDiv (.int i) (.int j) st = some (.ok (.int (i / j)) st) := by
  have e : Nat.blt j.natAbs 1073741824 = true := by rw [Nat.blt_eq]; omega
  simp only [fDiv, fIc, decide_eq_true h, e, Bool.and_self]
def C_mixed (f : Sm) : Prop := ∀ (c k : Int) st, 0 ≤ k → k ≤ 1000000000 → ∃ r : Nat, r < 2147483629 ∧ callS f [.int c, .int k] st = some (.ok (.int (r : Int)) st)
theorem c_mixed (fs : Nat → Sm) : C_mixed (semOf 2 (dB fs t__law_mixed)) := by
  intro c k st h0 h1
  generalize hx : ((c % 2147483647 * (48271 + 2 * k * k) + 69621 * k + 11) % 2147483647 * 69621) = x
  have hp : 0 ≤ x % 2147483629 ∧ x % 2147483629 < 2147483629 := by omega
  refine ⟨(x % 2147483629).toNat, by omega, ?_⟩
  rw [Int.toNat_of_nonneg hp.1]
  refine call_free (st' := []) rfl rfl ?_
  have e1 : fMod (.int c) (.int 2147483647) [] = some (.ok (.int (c % 2147483647)) []) := fModS (by omega)
  have e2 : fOr fMul fRepT (.int 2) (.int k) [] = some (.ok (.int (2 * k)) []) := fMulS (.inl (by decide))
  have e3 : fOr fMul fRepT (.int (2 * k)) (.int k) [] = some (.ok (.int (2 * k * k)) []) := fMulS (.inr (by omega))
  have e4 : fOr fMul fRepT (.int (c % 2147483647)) (.int (48271 + 2 * k * k)) [] = some (.ok (.int (c % 2147483647 * (48271 + 2 * k * k))) []) := fMulS (.inl (by omega))
  have e5 : fOr fMul fRepT (.int 69621) (.int k) [] = some (.ok (.int (69621 * k)) []) := fMulS (.inl (by decide))
  have e6 : fMod (.int (c % 2147483647 * (48271 + 2 * k * k) + 69621 * k + 11)) (.int 2147483647) [] = some (.ok (.int ((c % 2147483647 * (48271 + 2 * k * k) + 69621 * k + 11) % 2147483647)) []) := fModS (by omega)
  have e7 : fOr fMul fRepT (.int ((c % 2147483647 * (48271 + 2 * k * k) + 69621 * k + 11) % 2147483647)) (.int 69621) [] = some (.ok (.int x) []) := by
    rw [← hx]; exact fMulS (.inr (by decide))
  have e8 : fMod (.int x) (.int 2147483629) [] = some (.ok (.int (x % 2147483629)) []) := fModS (by omega)
  simp [t__law_mixed, bInt, e1, e2, e3, e4, e5, e6, e7, e8]
/-! ### the state -/
def kCells : L2.Key := .inr { cps := #[99, 101, 108, 108, 115] }
def kLefts : L2.Key := .inr { cps := #[108, 101, 102, 116, 115] }
def kAt : L2.Key := .inr { cps := #[97, 116] }
def kRoom : L2.Key := .inr { cps := #[114, 111, 111, 109] }
def stD (b : Nat) (a : Nat) : O := .dct [(kCells, .loc b), (kLefts, .loc (b + 1)), (kAt, .int (a : Int)), (kRoom, .int 0)]
/-- a state of draws, from place b on in the store, a draws made -/
structure DrS (st : Sto) (b a : Nat) : Prop where
  ex : ∃ cs ls : List Int, st[b]? = some (.lst (cs.map D.int)) ∧ st[b + 1]? = some (.lst (ls.map D.int)) ∧ cs.length = ls.length ∧ 0 < cs.length ∧ cs.length ≤ 1000
  d : st[b + 2]? = some (stD b a)
/-- but for the state at b the store stands -/
structure Kps (b : Nat) (st st' : Sto) : Prop where
  len : st.length ≤ st'.length
  get : ∀ n o, (n < b ∨ b + 2 < n) → st[n]? = some o → st'[n]? = some o
theorem Kps.refl {b : Nat} {st : Sto} : Kps b st st := ⟨Nat.le_refl _, fun _ _ _ h => h⟩
theorem Kps.trans {b : Nat} {st st' st'' : Sto} (a : Kps b st st') (c : Kps b st' st'') : Kps b st st'' := ⟨Nat.le_trans a.len c.len, fun n o h g => c.get n o h (a.get n o h g)⟩
theorem Kps.app {b : Nat} {st : Sto} (e : Sto) : Kps b st (st ++ e) := ⟨by simp, fun n o _ h => get_ext h e⟩
theorem DrS.app {b a : Nat} {st : Sto} (h : DrS st b a) (e : Sto) : DrS (st ++ e) b a := by
  obtain ⟨cs, ls, h1, h2, h3⟩ := h.ex
  exact ⟨⟨cs, ls, get_ext h1 e, get_ext h2 e, h3⟩, get_ext h.d e⟩
theorem DrS.lt {b a : Nat} {st : Sto} (h : DrS st b a) : b + 2 < st.length := get_lt h.d
theorem DrS.set {b a n : Nat} {st : Sto} {o : O} (h : DrS st b a) (hn : n < b ∨ b + 2 < n) : DrS (st.set n o) b a := by
  obtain ⟨cs, ls, h1, h2, h3⟩ := h.ex
  exact ⟨⟨cs, ls, get_set_ne (by omega) h1, get_set_ne (by omega) h2, h3⟩, get_set_ne (by omega) h.d⟩
def C_draw (f : Sm) : Prop := ∀ (b a many : Nat) st, DrS st b a → a ≤ 900000000 → 0 < many → many ≤ 1000000 → ∃ (r : Nat) (st' : Sto), callS f [.loc (b + 2), .int (many : Int)] st = some (.ok (.int (r : Int)) st') ∧ r < many ∧ DrS st' b (a + 1) ∧ Kps b st st' ∧ st'.length = st.length
theorem c_draw {fs : Nat → Sm} {k : Nat} (hf : C_mixed (fs k)) : C_draw (semOf 6 (dB fs (t__law_draw k))) := by
  intro b a many st h ha hm hm2
  obtain ⟨cs, ls, hc, hl, hlen, hpos, hlim⟩ := h.ex
  have hd := h.d
  rw [call_loc (by simp [D.frees, D.free])]
  -- the store with one draw more
  have g0 : fIx (.loc (b + 2)) (.str { cps := #[97, 116] }) st = some (.ok (.int (a : Int)) st) := fIx_dct hd rfl rfl
  have p0 : putD (.loc (b + 2)) (.str { cps := #[97, 116] }) (.int ((a : Int) + 1)) st = some (st.set (b + 2) (stD b (a + 1))) := by
    simp only [putD, hd, stD, keyD]
    rfl
  obtain ⟨st1, hst1⟩ : ∃ st1, st1 = st.set (b + 2) (stD b (a + 1)) := ⟨_, rfl⟩
  rw [← hst1] at p0
  have hd1 : st1[b + 2]? = some (stD b (a + 1)) := by rw [hst1]; exact get_set hd
  have hc1 : st1[b]? = some (.lst (cs.map D.int)) := by rw [hst1]; exact get_set_ne (by omega) hc
  have hl1 : st1[b + 1]? = some (.lst (ls.map D.int)) := by rw [hst1]; exact get_set_ne (by omega) hl
  have k1 : Kps b st st1 := ⟨by rw [hst1]; simp, fun n o hn hg => by rw [hst1]; exact get_set_ne (by omega) hg⟩
  have len1 : st1.length = st.length := by rw [hst1]; simp
  have g1 : fIx (.loc (b + 2)) (.str { cps := #[99, 101, 108, 108, 115] }) st1 = some (.ok (.loc b) st1) := fIx_dct hd1 rfl rfl
  have g2 : fIx (.loc (b + 2)) (.str { cps := #[108, 101, 102, 116, 115] }) st1 = some (.ok (.loc (b + 1)) st1) := fIx_dct hd1 rfl rfl
  have l1 : bLen [.loc b] st1 = some (.ok (.int (cs.length : Int)) st1) := by simp [bLen, hc1]
  obtain ⟨q, hq⟩ : ∃ q, q = a % cs.length := ⟨_, rfl⟩
  have hqc : q < cs.length := by rw [hq]; exact Nat.mod_lt _ hpos
  have m1 : fMod (.int (a : Int)) (.int (cs.length : Int)) st1 = some (.ok (.int (q : Int)) st1) := by
    rw [fModS (by omega), hq]
    rfl
  have x1 : fIx (.loc (b + 1)) (.int (q : Int)) st1 = some (.ok (.int ls[q]) st1) := fIx_lst hl1 (by rw [List.getElem?_map, List.getElem?_eq_getElem (by omega)]; rfl)
  have x2 : fIx (.loc b) (.int (q : Int)) st1 = some (.ok (.int cs[q]) st1) := fIx_lst hc1 (by rw [List.getElem?_map, List.getElem?_eq_getElem hqc]; rfl)
  have se : startE 6 [.loc (b + 2), .int (many : Int)] = [some (.loc (b + 2)), some (.int (many : Int)), none, none, none, none] := rfl
  by_cases hz : 0 < ls[q]
  · have v1 : fDiv (.int ls[q]) (.int (many : Int)) st1 = some (.ok (.int (ls[q] / many)) st1) := fDivS (by omega) (by omega)
    have p1 : putD (.loc (b + 1)) (.int (q : Int)) (.int (ls[q] / many)) st1 = some (st1.set (b + 1) (.lst ((ls.set q (ls[q] / many)).map D.int))) := by
      simp only [putD, hl1, List.length_map, ixN_nat (show q < ls.length by omega), List.map_set]
    have m2 : ∀ st, fMod (.int ls[q]) (.int (many : Int)) st = some (.ok (.int (ls[q] % many)) st) := fun st => fModS (by omega)
    have hr : 0 ≤ ls[q] % many ∧ ls[q] % many < many := ⟨Int.emod_nonneg _ (by omega), Int.emod_lt_of_pos _ (by omega)⟩
    refine ⟨(ls[q] % many).toNat, st1.set (b + 1) (.lst ((ls.set q (ls[q] / many)).map D.int)), ?_, by omega, ⟨⟨cs, ls.set q (ls[q] / many), get_set_ne (by omega) hc1, get_set hl1, by simpa using hlen, hpos, hlim⟩, get_set_ne (by omega) hd1⟩, ⟨by simp [len1], fun n o hn hg => get_set_ne (by omega) (k1.get n o hn hg)⟩, by simp [len1]⟩
    rw [Int.toNat_of_nonneg hr.1]
    simp [t__law_draw, g0, p0, g1, g2, l1, bInt, m1, x1, fGt, fI, hz, v1, p1, m2]
  · obtain ⟨r1, hr1, c1⟩ := hf cs[q] (a : Int) st1 (by omega) (by omega)
    obtain ⟨r2, hr2, c2⟩ := hf (r1 : Int) (40 + (a : Int)) st1 (by omega) (by omega)
    obtain ⟨r3, hr3, c3⟩ := hf (r2 : Int) (7 + (a : Int)) st1 (by omega) (by omega)
    have u1 : fOr fMul fRepT (.int (r2 : Int)) (.int 2147483647) st1 = some (.ok (.int ((r2 : Int) * 2147483647)) st1) := fMulS (.inr (by decide))
    have v1 : fDiv (.int ((r2 : Int) * 2147483647 + r3)) (.int 64) st1 = some (.ok (.int (((r2 : Int) * 2147483647 + r3) / 64)) st1) := fDivS (by omega) (by omega)
    have w1 : fMod (.int (((r2 : Int) * 2147483647 + r3) / 64)) (.int (many : Int)) st1 = some (.ok (.int (((r2 : Int) * 2147483647 + r3) / 64 % many)) st1) := fModS (by omega)
    obtain ⟨y, hy⟩ : ∃ y, y = ((r2 : Int) * 2147483647 + r3) / 64 := ⟨_, rfl⟩
    rw [← hy] at v1 w1
    have hr : 0 ≤ y % many ∧ y % many < many := ⟨Int.emod_nonneg _ (by omega), Int.emod_lt_of_pos _ (by omega)⟩
    refine ⟨(y % many).toNat, st1, ?_, by omega, ⟨⟨cs, ls, hc1, hl1, hlen, hpos, hlim⟩, hd1⟩, k1, len1⟩
    rw [Int.toNat_of_nonneg hr.1]
    simp [t__law_draw, g0, p0, g1, g2, l1, bInt, m1, x1, x2, fGt, fI, hz, c1, c2, c3, u1, v1, w1]
end TA
/-! the laws' own begin, of, order -/
namespace TA
open PySem
theorem Kps.set {b m : Nat} {st0 st : Sto} {o : O} (h : Kps b st0 st) (hm : st0.length ≤ m) : Kps b st0 (st.set m o) :=
  ⟨by simpa using h.len, fun n o' hn hg => get_set_ne (by have := get_lt hg; omega) (h.get n o' hn hg)⟩
/-! ### begin -/
theorem eqX_rol {ns : List Int} {st : Sto} : eqX st (.at (.rol (ns.map D.int))) (.fr []) = some ns.isEmpty := by
  have h1 : ∀ l : List Int, allO (toPy 39 st) (l.map D.int) = some (l.map PyData.int) := fun l => by
    induction l with
    | nil => rfl
    | cons i l ih => simp only [List.map_cons, allO, ih, toPy]
  have h2 : ∀ l : List Int, PyData.canLayAll0 (l.map PyData.int) = true := fun l => by
    induction l with
    | nil => rfl
    | cons i l ih => simp only [List.map_cons, PyData.canLayAll0, ih, PyData.canLay0, Bool.and_self]
  have h3 : ∀ l : List Int, PyData.depthAll (l.map PyData.int) = 0 := fun l => by
    induction l with
    | nil => rfl
    | cons i l ih => simp only [List.map_cons, PyData.depthAll, ih, PyData.depth, Nat.max_self]
  have e1 : flPy st (.at (.rol (ns.map D.int))) = some (.list (ns.map PyData.int)) := by simp only [flPy, toPy, h1, Option.map_some]
  have e2 : flPy st (.fr []) = some (.list []) := rfl
  have s1 : SeqAt.shaped (.list (ns.map PyData.int)) = true := by
    simp only [SeqAt.shaped, PyData.canLay0, h2, PyData.depth, h3, Bool.true_and, decide_eq_true_eq]
    omega
  have s2 : SeqAt.shaped (.list []) = true := rfl
  simp only [eqX, e1, e2, s1, s2, Bool.and_self]
  cases ns <;> rfl
def leftOf (c : Int) : Int := if 1000000000000000000 ≤ c then c else 0
theorem up_ints (k : Nat) : ∀ l : List Int, D.ups k (l.map D.int) = l.map D.int
  | [] => rfl
  | i :: l => by simp only [List.map_cons, D.ups, D.up, up_ints k l]
def C_begin (f : Sm) : Prop := ∀ (ns : List Int) st, ns.length ≤ 63 → ∃ ext, callS f [.rol (ns.map D.int)] st = some (.ok (.loc (st.length + 2)) (st ++ ext)) ∧ DrS (st ++ ext) st.length 0
theorem c_begin (fs : Nat → Sm) : C_begin (semOf 3 (dB fs t__law_begin)) := by
  intro ns st hn
  have run : ∃ cs : List Int, 0 < cs.length ∧ cs.length ≤ 63 ∧ semOf 3 (dB fs t__law_begin) [.rol (ns.map D.int)] [] = some (.ok (.loc 2) [.lst (cs.map D.int), .lst ((cs.map leftOf).map D.int), stD 0 0]) := by
    obtain ⟨cs, hcs⟩ : ∃ cs : List Int, cs = if ns.isEmpty then [0] else ns := ⟨_, rfl⟩
    refine ⟨cs, ?_, ?_, ?_⟩
    · rw [hcs]; cases ns <;> simp
    · rw [hcs]; cases ns <;> simp_all
    have s1 : dS fs (.set 1 (.keep (.ifL (.tst (.cmpX true (.at (.var 0)) (.fr (.lst .nil)))) (.bL 0 (.at (.var 0))) (.lst (.cons (.int 0) .nil))))) [some (.rol (ns.map D.int)), none, none] [] = some (.nx [some (.rol (ns.map D.int)), some (.loc 0), none] [.lst (cs.map D.int)]) := by
      cases hb : ns.isEmpty with
      | true =>
        rw [hb] at hcs
        subst hcs
        simp [eqX_rol, hb, pickN]
      | false =>
        rw [hb] at hcs
        subst hcs
        simp [eqX_rol, hb, pickN, lList]
    have e18 : fPow (.int 10) (.int 18) = fun st => some (.ok (.int 1000000000000000000) st) := by
      funext st; rfl
    have lc : dL fs (.lcV (.var 1) (.var 2) .tru el__law_begin_0 [2]) [some (.rol (ns.map D.int)), some (.loc 0), none] [.lst (cs.map D.int)] = some (.ok ((cs.map leftOf).map D.int) [.lst (cs.map D.int)]) := by
      rw [lcV_lst (n := 0) (ds := cs.map D.int) (by simp) rfl, lc_all D.int (fun c => .int (leftOf c)) cs (lstIs_self rfl) (by
        rw [hcs]; cases ns <;> simp_all <;> omega) (fun c _ => ⟨[some (.rol (ns.map D.int)), some (.loc 0), some (.int c)], by simp, ?_⟩)]
      · simp [Function.comp_def]
      · by_cases h : 1000000000000000000 ≤ c
        · simp [el__law_begin_0, e18, fOr, fGe, fI, h, leftOf]
        · simp [el__law_begin_0, e18, fOr, fGe, fI, h, leftOf]
    have se : startE 3 [.rol (ns.map D.int)] = [some (.rol (ns.map D.int)), none, none] := rfl
    simp only [semOf, se, t__law_begin, eb_cons, s1]
    simp [lc]
    rfl
  obtain ⟨cs, h1, h2, h3⟩ := run
  refine ⟨[.lst (cs.map D.int), .lst ((cs.map leftOf).map D.int), stD st.length 0], ?_, ⟨⟨cs, cs.map leftOf, ?_, ?_, by simp, h1, by omega⟩, ?_⟩⟩
  · have hf : D.frees [.rol (ns.map D.int)] = true := by
      have : D.frees (ns.map D.int) = true := frees_all fun d hd => by
        obtain ⟨i, _, rfl⟩ := List.mem_map.mp hd
        rfl
      simp only [D.frees, D.free, this, Bool.and_self]
    rw [call_new hf rfl h3]
    simp only [List.map_cons, List.map_nil, O.up, up_ints, stD, D.up]
    rfl
  · rw [List.getElem?_append_right (Nat.le_refl _), Nat.sub_self]; rfl
  · rw [List.getElem?_append_right (by omega), Nat.add_sub_cancel_left]; rfl
  · rw [List.getElem?_append_right (by omega), Nat.add_sub_cancel_left]; rfl
/-! ### of -/
def C_of (f : Sm) : Prop := ∀ (b a m : Nat) (ds : List D) st, DrS st b a → a ≤ 900000000 → (m < b ∨ b + 2 < m) → st[m]? = some (.lst ds) → 0 < ds.length → ds.length ≤ 1000000 →
    ∃ d st', d ∈ ds ∧ callS f [.loc (b + 2), .loc m] st = some (.ok d st') ∧ DrS st' b (a + 1) ∧ Kps b st st' ∧ st'.length = st.length
theorem c_of {fs : Nat → Sm} {k : Nat} (hf : C_draw (fs k)) : C_of (semOf 2 (dB fs (t__law_of k))) := by
  intro b a m ds st h ha hm hs h0 h1
  obtain ⟨r, st', c, hr, h2, h3, h4⟩ := hf b a ds.length st h ha h0 h1
  have hs' := h3.get m _ hm hs
  refine ⟨ds[r], st', List.getElem_mem hr, ?_, h2, h3, h4⟩
  rw [call_loc (by simp [D.frees, D.free])]
  have l1 : bLen [.loc m] st = some (.ok (.int (ds.length : Int)) st) := by simp [bLen, hs]
  have x1 := fIx_lst hs' (List.getElem?_eq_getElem hr)
  simp [t__law_of, l1, c, x1]
end TA
/-! the laws' own order -/
namespace TA
open PySem
theorem rng1_n {fs : Nat → Sm} {env : En} {a : IR} {n : Nat} {st st1 : Sto} (hn : n ≤ 1000000) (h : dE fs a env st = some (.ok (.int (n : Int)) st1)) : dI fs (.rng1 (.cons a .nil)) env st = some (.ok (rngD 0 n, yes) st1) := by
  have sm : small (n : Int) = true := small_nat hn
  rw [ei_rng1, ea_cons, h]
  simp only [ea_nil, thn_ok, sm, Int.toNat_natCast]
theorem append_at {m : Nat} {st : Sto} {ds : List D} {d : D} (h : st[m]? = some (.lst ds)) (hl : ds.length < 1000000) : vAppend (.loc m) [d] st = some (.ok .non (st.set m (.lst (ds ++ [d])))) := by
  have hb : Nat.blt ds.length 1000000 = true := blt_ok hl
  simp only [vAppend, h, hb]
/-- what stands while an order is drawn -/
structure OrS (b a0 m : Nat) (st0 : Sto) (L : List (Nat × Nat)) (a : Nat) (st : Sto) : Prop where
  dr : DrS st b a
  le : a ≤ a0
  kp : Kps b st0 st
  get : st[m]? = some (.lst (L.map prN))
  nd : L.Nodup
theorem or_body {fs : Nat → Sm} {k b a0 m a way num i j most : Nat} {st0 st : Sto} {L : List (Nat × Nat)} (hf : C_draw (fs k)) (h : OrS b a0 m st0 L a st) (hm : st0.length ≤ m) (hb : b + 2 < st0.length) (ha : a0 ≤ 800000000) (hL : L.length ≤ 1000) (hnew : (j, i) ∉ L) :
    ∃ L' a' st', dB fs (bd__law_order_1 k) [some (.loc (b + 2)), some (.int (most : Int)), some (.loc m), some (.int (i : Int)), some (.int (way : Int)), some (.int (num : Int)), some (.int (j : Int))] st = some (.nx [some (.loc (b + 2)), some (.int (most : Int)), some (.loc m), some (.int (i : Int)), some (.int (way : Int)), some (.int (num : Int)), some (.int (j : Int))] st') ∧ (L' = L ∨ L' = L ++ [(j, i)]) ∧ OrS b (a0 + 1) m st0 L' a' st' := by
  have put : ∀ {a1 st1}, OrS b (a0 + 1) m st0 L a1 st1 → OrS b (a0 + 1) m st0 (L ++ [(j, i)]) a1 (st1.set m (.lst (L.map prN ++ [prN (j, i)]))) := fun h1 =>
    ⟨h1.dr.set (by omega), h1.le, h1.kp.set hm, by rw [get_set h1.get]; simp, by
      rw [List.nodup_append]
      refine ⟨h1.nd, by simp, fun p hp q hq e => ?_⟩
      simp at hq
      subst hq; subst e
      exact hnew hp⟩
  have ty : ∀ {a1 st1}, OrS b (a0 + 1) m st0 L a1 st1 → isTy "list" (.loc m) st1 = true := fun h1 => by simp [isTy, tyD, h1.get]
  have ap : ∀ {a1 st1}, OrS b (a0 + 1) m st0 L a1 st1 → vAppend (.loc m) [.tup [.int (j : Int), .int (i : Int)]] st1 = some (.ok .non (st1.set m (.lst (L.map prN ++ [prN (j, i)])))) := fun h1 => append_at h1.get (by simp; omega)
  have h' : OrS b (a0 + 1) m st0 L a st := ⟨h.dr, by have := h.le; omega, h.kp, h.get, h.nd⟩
  by_cases c1 : way = 0
  · subst c1
    by_cases c2 : j + 1 = i
    · refine ⟨_, _, _, ?_, .inr rfl, put h'⟩
      have e2 : ((j : Int) + 1 == (i : Int)) = true := by rw [beq_iff_eq]; omega
      simp [bd__law_order_1, fEq_int, e2, ty h', ap h']
    · refine ⟨L, a, st, ?_, .inl rfl, h'⟩
      have e2 : ((j : Int) + 1 == (i : Int)) = false := by rw [beq_eq_false_iff_ne]; omega
      simp [bd__law_order_1, fEq_int, e2, fGt, fI]
  · have e1 : ((way : Int) == 0) = false := by rw [beq_eq_false_iff_ne]; omega
    by_cases c3 : 1 < way
    · obtain ⟨r, st1, q1, q2, q3, q4, q5⟩ := hf b a 3 st h.dr (by have := h.le; omega) (by omega) (by omega)
      have h1 : OrS b (a0 + 1) m st0 L (a + 1) st1 := ⟨q3, by have := h.le; omega, h.kp.trans q4, q4.get m _ (.inr (by omega)) h.get, h.nd⟩
      have e3 : (1 : Int) < (way : Int) := by omega
      by_cases c4 : r = 0
      · subst c4
        refine ⟨_, _, _, ?_, .inr rfl, put h1⟩
        simp at q1
        simp [bd__law_order_1, fEq_int, e1, fGt, fI, e3, q1, ty h1, ap h1]
      · refine ⟨L, _, st1, ?_, .inl rfl, h1⟩
        have e4 : ((r : Int) == 0) = false := by rw [beq_eq_false_iff_ne]; omega
        simp at q1
        simp [bd__law_order_1, fEq_int, e1, fGt, fI, e3, q1, e4]
    · refine ⟨L, a, st, ?_, .inl rfl, h'⟩
      have e3 : ¬ (1 : Int) < (way : Int) := by omega
      simp [bd__law_order_1, fEq_int, e1, fGt, fI, e3]
def C_order (f : Sm) : Prop := ∀ (b a most : Nat) st, DrS st b a → a ≤ 700000000 → most ≤ 11 → ∃ n ps a' st', callS f [.loc (b + 2), .int (most : Int)] st = some (.ok (oD n ps) st') ∧ WfO n ps ∧ n ≤ most ∧ ps.length ≤ 55 ∧ DrS st' b a' ∧ a' ≤ a + 200 ∧ Kps b st st'
theorem c_order {fs : Nat → Sm} {k : Nat} (hf : C_draw (fs k)) : C_order (semOf 7 (dB fs (t__law_order k))) := by
  intro b a most st h ha hmost
  rw [call_loc (by simp [D.frees, D.free])]
  obtain ⟨way, st1, c1, hw, d1, k1, l1⟩ := hf b a 6 st h (by omega) (by omega) (by omega)
  obtain ⟨num, st2, c2, hn, d2, k2, l2⟩ := hf b (a + 1) (most + 1) st1 d1 (by omega) (by omega) (by omega)
  have hb := h.lt
  obtain ⟨m, hm⟩ : ∃ m, m = st2.length := ⟨_, rfl⟩
  have hm' : st.length ≤ m := by rw [hm, l2, l1]; exact Nat.le_refl _
  have loop := for_range (C := yes) (tg := .nm 3) (body := dB fs (bd__law_order_0 k))
    (fun i env st' => ∃ L a' x3 x6, env = [some (.loc (b + 2)), some (.int (most : Int)), some (.loc m), x3, some (.int (way : Int)), some (.int (num : Int)), x6] ∧ OrS b (a + 2 + 11 * i) m st L a' st' ∧ ∀ p ∈ L, p.1 < p.2 ∧ p.2 < i) num
    (env := [some (.loc (b + 2)), some (.int (most : Int)), some (.loc m), none, some (.int (way : Int)), some (.int (num : Int)), none]) (st := st2 ++ [.lst []])
    ⟨[], a + 2, none, none, rfl, ⟨d2.app _, by omega, (k1.trans k2).trans (Kps.app _), by rw [hm]; simp, List.nodup_nil⟩, by simp⟩ (fun _ _ _ _ => rfl) (by
      rintro i env st' hi ⟨L, a', x3, x6, rfl, hO, hL⟩
      refine ⟨_, rfl, ?_⟩
      have inner := for_range (C := yes) (tg := .nm 6) (body := dB fs (bd__law_order_1 k))
        (fun j env st'' => ∃ L a' x6, env = [some (.loc (b + 2)), some (.int (most : Int)), some (.loc m), some (.int (i : Int)), some (.int (way : Int)), some (.int (num : Int)), x6] ∧ OrS b (a + 2 + 11 * i + j) m st L a' st'' ∧ ∀ p ∈ L, p.1 < p.2 ∧ (p.2 < i ∨ (p.2 = i ∧ p.1 < j))) i
        (env := [some (.loc (b + 2)), some (.int (most : Int)), some (.loc m), some (.int (i : Int)), some (.int (way : Int)), some (.int (num : Int)), x6]) (st := st')
        ⟨L, a', x6, rfl, hO, fun p hp => by have := hL p hp; omega⟩ (fun _ _ _ _ => rfl) (by
          rintro j env st'' hj ⟨L, a', x6, rfl, hO, hL⟩
          have hl : L.length ≤ 55 := up_len (n := 11) (by omega) hO.nd fun p hp => by have := hL p hp; omega
          obtain ⟨L', a'', st3, q1, q2, q3⟩ := or_body (way := way) (num := num) (i := i) (j := j) (most := most) hf hO hm' hb (by omega) (by omega) (fun hp => by have := hL _ hp; simp only at this; omega)
          refine ⟨_, rfl, _, st3, .inl q1, L', a'', _, rfl, q3, fun p hp => ?_⟩
          rcases q2 with rfl | rfl
          · have := hL p hp; omega
          · rcases List.mem_append.mp hp with hp | hp
            · have := hL p hp; omega
            · simp only [List.mem_singleton] at hp; subst hp; exact ⟨hj, .inr ⟨rfl, Nat.lt_succ_self _⟩⟩)
      obtain ⟨env2, st3, r1, ⟨L, a', y6, rfl, hO, hL⟩⟩ := inner
      refine ⟨[some (.loc (b + 2)), some (.int (most : Int)), some (.loc m), some (.int (i : Int)), some (.int (way : Int)), some (.int (num : Int)), y6], st3, .inl ?_, L, a', _, _, rfl, ⟨hO.dr, by have := hO.le; omega, hO.kp, hO.get, hO.nd⟩, fun p hp => by have := hL p hp; omega⟩
      have rg := rng1_n (fs := fs) (env := [some (.loc (b + 2)), some (.int (most : Int)), some (.loc m), some (.int (i : Int)), some (.int (way : Int)), some (.int (num : Int)), x6]) (a := .var 3) (n := i) (st := st') (st1 := st') (by omega) (by simp)
      simp only [bd__law_order_0, eb_cons, es_for, List.set_cons_succ, List.set_cons_zero, rg, thnS_ok, tgD_var, r1, eb_nil])
  obtain ⟨env2, st3, r1, ⟨L, a', x3, x6, rfl, hO, hL⟩⟩ := loop
  have hmem : ∀ i j, (i, j) ∈ L ↔ (i < num ∧ j < num) ∧ (i, j) ∈ L := fun i j => ⟨fun hp => ⟨by have := hL _ hp; simp only at this; omega, hp⟩, fun hp => hp.2⟩
  have up : Up num (selP num fun i j => (i, j) ∈ L) := fun ⟨i, j⟩ hp => by
    have := (mem_selP.mp hp).2
    exact hL _ this
  have so := sorted_pairs (n := num) (P := fun i j => (i, j) ∈ L) (by omega) hO.get hO.nd hmem (fun i j hp => (hL _ hp).1)
  have len := up_len (n := num) (by omega) (ascQ_nodup (selP_asc num fun i j => (i, j) ∈ L)) up
  refine ⟨num, selP num fun i j => (i, j) ∈ L, a', st3, ?_, ⟨up, by omega, selP_asc _ _, by omega⟩, by omega, len, hO.dr, by have := hO.le; omega, hO.kp⟩
  have rg := rng1_n (fs := fs) (env := [some (.loc (b + 2)), some (.int (most : Int)), some (.loc m), none, some (.int (way : Int)), some (.int (num : Int)), none]) (a := .var 5) (n := num) (st := st2 ++ [.lst []]) (st1 := st2 ++ [.lst []]) (by omega) (by simp)
  have se : startE 7 [.loc (b + 2), .int (most : Int)] = [some (.loc (b + 2)), some (.int (most : Int)), none, none, none, none, none] := rfl
  have c1' : callS (fs k) [.loc (b + 2), .int 6] st = some (.ok (.int (way : Int)) st1) := c1
  have c2' : callS (fs k) [.loc (b + 2), .int ((most : Int) + 1)] st1 = some (.ok (.int (num : Int)) st2) := c2
  have s1 : dS fs (.par2 4 5 (.cons (.call k 2 (.cons (.var 0) (.cons (.int 6) .nil))) (.cons (.call k 2 (.cons (.var 0) (.cons (.op2 .Add (.var 1) (.int 1)) .nil))) .nil))) [some (.loc (b + 2)), some (.int (most : Int)), none, none, none, none, none] st = some (.nx [some (.loc (b + 2)), some (.int (most : Int)), none, none, some (.int (way : Int)), some (.int (num : Int)), none] st2) := by
    simp [c1', c2']
  have s2 : dS fs (.set 2 (.keep (.lst .nil))) [some (.loc (b + 2)), some (.int (most : Int)), none, none, some (.int (way : Int)), some (.int (num : Int)), none] st2 = some (.nx [some (.loc (b + 2)), some (.int (most : Int)), some (.loc m), none, some (.int (way : Int)), some (.int (num : Int)), none] (st2 ++ [.lst []])) := by
    simp [hm]
  have s3 : dS fs (.for (.rng1 (.cons (.var 5) .nil)) (.var 3) (bd__law_order_0 k)) [some (.loc (b + 2)), some (.int (most : Int)), some (.loc m), none, some (.int (way : Int)), some (.int (num : Int)), none] (st2 ++ [.lst []]) = some (.nx [some (.loc (b + 2)), some (.int (most : Int)), some (.loc m), x3, some (.int (way : Int)), some (.int (num : Int)), x6] st3) := by
    simp only [es_for, rg, thnS_ok, tgD_var, r1]
  simp only [semOf, se, t__law_order, eb_cons, s1, s2, s3]
  simp [so, bTupF, oD]
end TA
/-! the laws' own aheads -/
namespace TA
open PySem
theorem keyInts_keysN : ∀ l : List Nat, keyInts (keysN l) = some (l.map fun (k : Nat) => (k : Int))
  | [] => rfl
  | k :: l => by
    have := keyInts_keysN l
    simp only [keysN, List.map_cons, keyInts] at this ⊢
    rw [this]
theorem sortI_sel {n : Nat} {P : Nat → Prop} {l : List Nat} (nd : l.Nodup) (hm : ∀ i, i ∈ l ↔ i < n ∧ P i) : sortI (l.map fun (k : Nat) => (k : Int)) = (selN n P).map fun (k : Nat) => (k : Int) := by
  have pm : l.Perm (selN n P) := (List.perm_ext_iff_of_nodup nd (asc_nodup (selN_asc n P))).mpr fun i => by rw [hm, mem_selN]
  refine sorted_eq ((sortI_perm _).trans (pm.map _)) (sortI_pw _) ?_
  rw [List.pairwise_map]
  exact (selN_asc n P).imp fun {a b} h => by omega
theorem selN_len (n : Nat) (P : Nat → Prop) : (selN n P).length ≤ n := sub_len (asc_nodup (selN_asc n P)) fun k hk => (mem_selN.mp hk).1
/-- sorted(a dict of items) -/
theorem sorted_keys {n m : Nat} {P : Nat → Prop} {l : List Nat} {st : Sto} (hn : n ≤ 60) (hs : st[m]? = some (dctN l)) (nd : l.Nodup) (hm : ∀ i, i ∈ l ↔ i < n ∧ P i) : lSort (.at (.loc m)) st = some ((selN n P).map itD) := by
  apply lSort_of
  have hl : l.length ≤ n := sub_len nd fun k hk => ((hm k).mp hk).1
  have hb : Nat.blt (l.map fun (k : Nat) => (k : Int)).length 64 = true := by rw [Nat.blt_eq, List.length_map]; omega
  have e : lSorted (.at (.loc m)) st = some ((selN n P).map itD) := by
    simp only [lSorted, hs, dctN, keyInts_keysN, hb, sortI_sel nd hm, List.map_map]
    rfl
  simp only [lOr, e]
theorem put_key {d x : Nat} {l : List Nat} {st : Sto} (hd : d < st.length) (hl : l.length ≤ 900) : putD (.loc d) (.int (x : Int)) (.bl true) (st.set d (dctN l)) = some (st.set d (dctN (addK l x))) := by
  have hb : Nat.blt (keysN l).length 1000000 = true := blt_mil (by rw [len_keysN]; omega)
  have hg : (st.set d (dctN l))[d]? = some (dctN l) := List.getElem?_set_self hd
  simp only [dctN] at hg ⊢
  simp only [putD, hg, keyD, hb, setK_keysN, List.set_set]
/-- a table of ascending lists in the store -/
structure LTab (st : Sto) (b n : Nat) (tab : Nat → List Nat) : Prop where
  lst : st[b]? = some (.lst ((List.range n).map fun j => .loc (b + (3 * j + 3))))
  row : ∀ j, j < n → st[b + (3 * j + 3)]? = some (.lst ((tab j).map itD))
noncomputable def ahT (ps : List (Nat × Nat)) (n j : Nat) : List Nat := selN n fun k => Ahd ps k j
/-- the innermost loop: all of a row -/
theorem al_far {fs : Nat → Sm} {d r : Nat} {e0 e1 e2 e3 e5 e6 e7 : Option D} {st : Sto} {row l : List Nat} (hd : d < st.length) (hr : st[r]? = some (.lst (row.map itD))) (hne : d ≠ r) (hl : l.length ≤ 100) (hrow : row.length ≤ 100) :
    ∃ e6', forL (lstIs r (row.map itD)) (.nm 6) (dB fs bd__law_aheads_4) (row.map itD) [e0, e1, e2, e3, some (.loc d), e5, e6, e7] (st.set d (dctN l)) = some (.nx [e0, e1, e2, e3, some (.loc d), e5, e6', e7] (st.set d (dctN (row.foldl addK l)))) := by
  obtain ⟨env2, st2, h1, ⟨e6', rfl, rfl⟩⟩ := for_list (C := lstIs r (row.map itD)) (tg := .nm 6) (body := dB fs bd__law_aheads_4) itD
    (fun q env s => ∃ e6', env = [e0, e1, e2, e3, some (.loc d), e5, e6', e7] ∧ s = st.set d (dctN (q.foldl addK l))) row (env := [e0, e1, e2, e3, some (.loc d), e5, e6, e7]) (st := st.set d (dctN l)) ⟨e6, rfl, rfl⟩
    (by rintro q env s ⟨_, rfl, rfl⟩; exact lstIs_self (get_set_ne hne hr))
    (by
      rintro q x t env s ha ⟨e6', rfl, rfl⟩
      have hq : q.length ≤ row.length := by rw [ha]; simp
      have := len_addKs (m := q) (l := l)
      have p := put_key (x := x) (l := q.foldl addK l) hd (by omega)
      refine ⟨_, rfl, [e0, e1, e2, e3, some (.loc d), e5, some (.int (x : Int)), e7], st.set d (dctN (addK (q.foldl addK l) x)), .inl ?_, _, rfl, by rw [List.foldl_append]; rfl⟩
      simp [bd__law_aheads_4, itD, p])
  exact ⟨e6', h1⟩
theorem al_inner {fs : Nat → Sm} {n i d p : Nat} {e3 e5 e6 : Option D} {ps : List (Nat × Nat)} {st : Sto} (u : Up n ps) (hn : n ≤ 20) (hi : i < n) (hd : d < st.length) (hp : p ≠ d) (hnear : st[p]? = some (.lst ((nears ps i).map itD)))
    (h0 : st[0]? = some (.lst ((List.range i).map fun j => .loc (3 * j + 3)))) (h0d : d ≠ 0) (hrow : ∀ j, j < i → 3 * j + 3 ≠ d ∧ st[3 * j + 3]? = some (.lst ((ahT ps n j).map itD))) :
    ∃ l e5' e6', forL (lstIs p ((nears ps i).map itD)) (.nm 5) (dB fs bd__law_aheads_3) ((nears ps i).map itD) [some (oD n ps), some (.loc 0), some (.int (i : Int)), e3, some (.loc d), e5, e6, none] (st.set d (dctN [])) =
      some (.nx [some (oD n ps), some (.loc 0), some (.int (i : Int)), e3, some (.loc d), e5', e6', none] (st.set d (dctN l))) ∧ l.Nodup ∧ ∀ k, k ∈ l ↔ Ahd ps k i := by
  obtain ⟨env2, st2, h1, ⟨l, e5', e6', rfl, rfl, nd, hm⟩⟩ := for_list (C := lstIs p ((nears ps i).map itD)) (tg := .nm 5) (body := dB fs bd__law_aheads_3) itD
    (fun q env s => ∃ l e5' e6', env = [some (oD n ps), some (.loc 0), some (.int (i : Int)), e3, some (.loc d), e5', e6', none] ∧ s = st.set d (dctN l) ∧ l.Nodup ∧ ∀ k, k ∈ l ↔ ∃ m ∈ q, k = m ∨ Ahd ps k m) (nears ps i)
    (env := [some (oD n ps), some (.loc 0), some (.int (i : Int)), e3, some (.loc d), e5, e6, none]) (st := st.set d (dctN [])) ⟨[], e5, e6, rfl, rfl, List.nodup_nil, by simp⟩
    (by rintro q env s ⟨_, _, _, rfl, rfl, _, _⟩; exact lstIs_self (get_set_ne (Ne.symm hp) hnear))
    (by
      rintro q x r env s ha ⟨l, e5', e6', rfl, rfl, nd, hm⟩
      have hx : (x, i) ∈ ps := mem_nears.mp (by rw [ha]; simp)
      have hxi := u _ hx
      simp only at hxi
      have hl : l.length ≤ n := sub_len nd fun k hk => by
        obtain ⟨m, hq, h⟩ := (hm k).mp hk
        have hmi := u _ (mem_nears.mp (by rw [ha]; exact List.mem_append.mpr (.inl hq)))
        simp only at hmi
        rcases h with rfl | h
        · omega
        · have := h.lt u; omega
      have p1 := put_key (x := x) (l := l) hd (by omega)
      obtain ⟨r1, r2⟩ := hrow x hxi.1
      have la := len_addK (l := l) (x := x)
      have lr := selN_len n fun k => Ahd ps k x
      obtain ⟨e6'', f1⟩ := al_far (fs := fs) (e0 := some (oD n ps)) (e1 := some (.loc 0)) (e2 := some (.int (i : Int))) (e3 := e3) (e5 := some (.int (x : Int))) (e6 := e6') (e7 := none) (l := addK l x) hd r2 (Ne.symm r1) (by omega) (by unfold ahT; omega)
      refine ⟨_, rfl, [some (oD n ps), some (.loc 0), some (.int (i : Int)), e3, some (.loc d), some (.int (x : Int)), e6'', none], st.set d (dctN ((ahT ps n x).foldl addK (addK l x))), .inl ?_, (ahT ps n x).foldl addK (addK l x), _, _, rfl, rfl, nodup_addKs (nodup_addK nd), fun k => ?_⟩
      · have g0 : (st.set d (dctN (addK l x)))[0]? = some (.lst ((List.range i).map fun j => .loc (3 * j + 3))) := get_set_ne h0d h0
        have ix : fIx (.loc 0) (.int (x : Int)) (st.set d (dctN (addK l x))) = some (.ok (.loc (3 * x + 3)) (st.set d (dctN (addK l x)))) := fIx_lst g0 (by simp [hxi.1])
        have fv := forV_lst (fs := fs) (env := [some (oD n ps), some (.loc 0), some (.int (i : Int)), e3, some (.loc d), some (.int (x : Int)), e6', none]) (st := st.set d (dctN (addK l x))) (e := .ix (.var 1) (.var 5)) (tg := .var 6) (b := bd__law_aheads_4) (n := 3 * x + 3) (ds := (ahT ps n x).map itD) (by simp [ix]) (get_set_ne (Ne.symm r1) r2)
        rw [tgD_var, f1] at fv
        simp [bd__law_aheads_3, itD, p1, fv]
      · rw [mem_addKs, mem_addK, hm]
        simp only [ahT, mem_selN, List.mem_append, List.mem_singleton]
        constructor
        · rintro ((⟨m, hm, h⟩ | h) | ⟨_, h⟩)
          · exact ⟨m, .inl hm, h⟩
          · exact ⟨x, .inr rfl, .inl h⟩
          · exact ⟨x, .inr rfl, .inr h⟩
        · rintro ⟨m, hm | rfl, h⟩
          · exact .inl (.inl ⟨m, hm, h⟩)
          · rcases h with h | h
            · exact .inl (.inr h)
            · exact .inr ⟨by have := h.lt u; omega, h⟩)
  refine ⟨l, e5', e6', h1, nd, fun k => ?_⟩
  rw [hm, ahd_iff]
  exact ⟨fun ⟨m, hm, h⟩ => ⟨m, mem_nears.mp hm, h⟩, fun ⟨m, hm, h⟩ => ⟨m, mem_nears.mpr hm, h⟩⟩
theorem itV_tup {fs : Nat → Sm} {env : En} {st : Sto} {e : IR} {ds : List D} (h : dE fs e env st = some (.ok (.tup ds) st)) : dI fs (.itV e) env st = some (.ok (ds, yes) st) := ei_val fs env st h
theorem al_nears {fs : Nat → Sm} {n i : Nat} {ps : List (Nat × Nat)} {x1 x3 x4 x5 x6 : Option D} {st : Sto} (hp : ps.length ≤ 1000) :
    dL fs (.lc (.itV (.ix (.var 0) (.int 1))) (.var 7) te__law_aheads_1 el__law_aheads_2 [7]) [some (oD n ps), x1, some (.int (i : Int)), x3, x4, x5, x6, none] st = some (.ok ((nears ps i).map itD) st) := by
  rw [el_lc, itV_tup (ds := ps.map prN) (by simp [oD]), thn_ok]
  rw [lc_map prN (fun p => p.2 == i) (fun p => .int (p.1 : Int)) rfl ps [] (by simp only [List.length_nil]; omega) (fun p _ => ⟨[some (oD n ps), x1, some (.int (i : Int)), x3, x4, x5, x6, some (prN p)], by simp, by simp [te__law_aheads_1, prN, fEq_int, natI_beq], fun _ => by simp [el__law_aheads_2, prN]⟩)]
  simp [nears, itD, Function.comp_def]
/-- what stands behind i items -/
structure AlS (n : Nat) (ps : List (Nat × Nat)) (i : Nat) (st : Sto) : Prop where
  len : st.length = 3 * i + 1
  lst : st[0]? = some (.lst ((List.range i).map fun j => .loc (3 * j + 3)))
  row : ∀ j, j < i → st[3 * j + 3]? = some (.lst ((ahT ps n j).map itD))
theorem al_outer {fs : Nat → Sm} {n : Nat} {ps : List (Nat × Nat)} (u : Up n ps) (hn : n ≤ 20) (hp : ps.length ≤ 1000) :
    ∃ env2 st2, forL yes (.nm 2) (dB fs bd__law_aheads_0) (rngD 0 n) [some (oD n ps), some (.loc 0), none, none, none, none, none, none] [.lst []] = some (.nx env2 st2) ∧ env2[1]? = some (some (.loc 0)) ∧ AlS n ps n st2 := by
  obtain ⟨env2, st2, h1, ⟨x2, x3, x4, x5, x6, rfl, hS⟩⟩ := for_range (C := yes) (tg := .nm 2) (body := dB fs bd__law_aheads_0)
    (fun i env st => ∃ x2 x3 x4 x5 x6, env = [some (oD n ps), some (.loc 0), x2, x3, x4, x5, x6, none] ∧ AlS n ps i st) n
    (env := [some (oD n ps), some (.loc 0), none, none, none, none, none, none]) (st := [.lst []]) ⟨none, none, none, none, none, rfl, ⟨rfl, rfl, fun j h => by omega⟩⟩ (fun _ _ _ _ => rfl) (by
      rintro i env st hi ⟨x2, x3, x4, x5, x6, rfl, hS⟩
      have hnr := al_nears (fs := fs) (n := n) (i := i) (ps := ps) (x1 := some (.loc 0)) (x3 := x3) (x4 := x4) (x5 := x5) (x6 := x6) (st := st) hp
      have len := hS.len
      have pos : 0 < st.length := by omega
      obtain ⟨st1, hst1⟩ : ∃ st1 : Sto, st1 = st ++ [.lst ((nears ps i).map itD)] ++ [.dct []] := ⟨_, rfl⟩
      have len1 : st1.length = 3 * i + 3 := by rw [hst1]; simp [len]
      have set1 : st1.set (3 * i + 2) (dctN []) = st1 := by
        rw [hst1, List.set_append_right _ _ (by simp [len])]
        simp [len, dctN, keysN]
      have near1 : st1[3 * i + 1]? = some (.lst ((nears ps i).map itD)) := by
        rw [hst1, List.getElem?_append_left (by simp [len]), List.getElem?_append_right (by omega), len, Nat.sub_self]; rfl
      have get1 : ∀ {m o}, st[m]? = some o → st1[m]? = some o := fun h => by rw [hst1]; exact get_ext (get_ext h _) _
      obtain ⟨l, y5, y6, f1, nd, hm⟩ := al_inner (fs := fs) (d := 3 * i + 2) (p := 3 * i + 1) (e3 := some (.loc (3 * i + 1))) (e5 := x5) (e6 := x6) u hn hi (by omega) (by omega) near1 (get1 hS.lst) (by omega) (fun j hj => ⟨by omega, get1 (hS.row j hj)⟩)
      rw [set1] at f1
      have so := sorted_keys (n := n) (m := 3 * i + 2) (P := fun k => Ahd ps k i) (st := st1.set (3 * i + 2) (dctN l)) (by omega) (List.getElem?_set_self (by omega)) nd (fun k => by rw [hm]; exact ⟨fun h => ⟨by have := h.lt u; omega, h⟩, fun h => h.2⟩)
      obtain ⟨st2, hst2⟩ : ∃ st2 : Sto, st2 = st1.set (3 * i + 2) (dctN l) := ⟨_, rfl⟩
      rw [← hst2] at f1 so
      have len2 : st2.length = 3 * i + 3 := by rw [hst2]; simp [len1]
      have get2 : ∀ {m o}, m ≠ 3 * i + 2 → st[m]? = some o → (st2 ++ [O.lst ((ahT ps n i).map itD)])[m]? = some o := fun hne h => get_ext (by rw [hst2]; exact get_set_ne (Ne.symm hne) (get1 h)) _
      have g0 := get2 (by omega) hS.lst
      have ty : isTy "list" (.loc 0) st2 = true := by
        have : st2[0]? = some (.lst ((List.range i).map fun j => .loc (3 * j + 3))) := by rw [hst2]; exact get_set_ne (by omega) (get1 hS.lst)
        simp [isTy, tyD, this]
      have ap := append_at (d := .loc (3 * i + 3)) g0 (by simp; omega)
      refine ⟨_, rfl, [some (oD n ps), some (.loc 0), some (.int (i : Int)), some (.loc (3 * i + 1)), some (.loc (3 * i + 2)), y5, y6, none], (st2 ++ [O.lst ((ahT ps n i).map itD)]).set 0 (.lst ((List.range i).map (fun j => .loc (3 * j + 3)) ++ [.loc (3 * i + 3)])), .inl ?_, _, _, _, _, _, rfl, ⟨by simp [len2]; omega, ?_, fun j hj => ?_⟩⟩
      · have s1 : dS fs (.set 3 (.keep (.lc (.itV (.ix (.var 0) (.int 1))) (.var 7) te__law_aheads_1 el__law_aheads_2 [7]))) [some (oD n ps), some (.loc 0), some (.int (i : Int)), x3, x4, x5, x6, none] st = some (.nx [some (oD n ps), some (.loc 0), some (.int (i : Int)), some (.loc (3 * i + 1)), x4, x5, x6, none] (st ++ [.lst ((nears ps i).map itD)])) := by
          rw [es_set, ev_keep, hnr]
          simp [len]
        have s2 : dS fs (.set 4 .dict0) [some (oD n ps), some (.loc 0), some (.int (i : Int)), some (.loc (3 * i + 1)), x4, x5, x6, none] (st ++ [.lst ((nears ps i).map itD)]) = some (.nx [some (oD n ps), some (.loc 0), some (.int (i : Int)), some (.loc (3 * i + 1)), some (.loc (3 * i + 2)), x5, x6, none] st1) := by
          rw [es_set, ev_dict0, hst1]
          simp [len]
        have s3 : dS fs (.forV (.var 3) (.var 5) bd__law_aheads_3) [some (oD n ps), some (.loc 0), some (.int (i : Int)), some (.loc (3 * i + 1)), some (.loc (3 * i + 2)), x5, x6, none] st1 = some (.nx [some (oD n ps), some (.loc 0), some (.int (i : Int)), some (.loc (3 * i + 1)), some (.loc (3 * i + 2)), y5, y6, none] st2) := by
          rw [forV_lst (n := 3 * i + 1) (ds := (nears ps i).map itD) (by simp) near1, tgD_var, f1]
        have s4 : dS fs (.ex (.mv 0 (.var 1) (.cons (.keep (.bL 1 (.at (.var 4)))) .nil))) [some (oD n ps), some (.loc 0), some (.int (i : Int)), some (.loc (3 * i + 1)), some (.loc (3 * i + 2)), y5, y6, none] st2 = some (.nx [some (oD n ps), some (.loc 0), some (.int (i : Int)), some (.loc (3 * i + 1)), some (.loc (3 * i + 2)), y5, y6, none] ((st2 ++ [O.lst ((ahT ps n i).map itD)]).set 0 (.lst ((List.range i).map (fun j => .loc (3 * j + 3)) ++ [.loc (3 * i + 3)])))) := by
          have so' : lSort (.at (.loc (3 * i + 2))) st2 = some ((ahT ps n i).map itD) := so
          rw [es_ex, ev_append]
          simp only [ev_var, List.getElem?_cons_succ, List.getElem?_cons_zero, thn_ok, ty, ea_cons, ev_keep, el_sorted, ex_at, so', ea_nil, len2, ap, thnS_ok]
        simp only [bd__law_aheads_0, eb_cons, List.set_cons_succ, List.set_cons_zero, s1, s2, s3, s4, eb_nil]
      · rw [List.getElem?_set_self (by simp), List.range_succ, List.map_append]; rfl
      · rw [List.getElem?_set_ne (by omega)]
        by_cases e : j = i
        · subst e
          rw [List.getElem?_append_right (by omega), len2, Nat.sub_self]; rfl
        · exact get2 (by omega) (hS.row j (by omega)))
  exact ⟨_, st2, h1, rfl, hS⟩
def C_aheads (f : Sm) : Prop := ∀ n ps st, Up n ps → n ≤ 20 → ps.length ≤ 1000 → ∃ ext, callS f [oD n ps] st = some (.ok (.loc st.length) (st ++ ext)) ∧ LTab (st ++ ext) st.length n (ahT ps n)
theorem ups_itD (k : Nat) : ∀ l : List Nat, D.ups k (l.map itD) = l.map itD
  | [] => rfl
  | i :: l => by simp only [List.map_cons, D.ups, itD, D.up, ups_itD k l]
theorem c_aheads (fs : Nat → Sm) : C_aheads (semOf 8 (dB fs t__law_aheads)) := by
  intro n ps st u hn hp
  obtain ⟨env2, st2, h1, h2, hS⟩ := al_outer (fs := fs) u hn hp
  have run : semOf 8 (dB fs t__law_aheads) [oD n ps] [] = some (.ok (.loc 0) st2) := by
    have se : startE 8 [oD n ps] = [some (oD n ps), none, none, none, none, none, none, none] := rfl
    have s1 : dS fs (.set 1 (.keep (.lst .nil))) [some (oD n ps), none, none, none, none, none, none, none] [] = some (.nx [some (oD n ps), some (.loc 0), none, none, none, none, none, none] [.lst []]) := by simp
    have rg := rng1_n (fs := fs) (env := [some (oD n ps), some (.loc 0), none, none, none, none, none, none]) (a := .ix (.var 0) (.int 0)) (n := n) (st := [.lst []]) (st1 := [.lst []]) (by omega) (by simp [oD])
    have s2 : dS fs (.for (.rng1 (.cons (.ix (.var 0) (.int 0)) .nil)) (.var 2) bd__law_aheads_0) [some (oD n ps), some (.loc 0), none, none, none, none, none, none] [.lst []] = some (.nx env2 st2) := by
      simp only [es_for, rg, thnS_ok, tgD_var, h1]
    simp only [semOf, se, t__law_aheads, eb_cons, s1, s2, es_ret, ev_var, h2, thnS_ok]
  refine ⟨st2.map (O.up st.length), by rw [call_new (frees_oD n ps) rfl run]; rfl, ⟨?_, fun j hj => ?_⟩⟩
  · rw [List.getElem?_append_right (Nat.le_refl _), Nat.sub_self, List.getElem?_map, hS.lst]
    have := ups_locs st.length ((List.range n).map fun j => 3 * j + 3)
    simp only [List.map_map, Function.comp_def] at this
    simp only [Option.map_some, O.up, this]
  · rw [List.getElem?_append_right (by omega), Nat.add_sub_cancel_left, List.getElem?_map, hS.row j hj]
    simp only [Option.map_some, O.up, ups_itD]
end TA
/-! the laws' own closed and bare forms -/
namespace TA
open PySem
/-! ### is a list empty; is an item in a list -/
theorem flPy_fr {ds : List D} {st : Sto} (h : ∀ d ∈ ds, plD 30 d = true) : flPy st (.fr ds) = some (.list (pyDs ds)) := by
  simp only [flPy, allO_pl fun d hd => toPy_pl (h d hd) (by omega : 30 ≤ 39), Option.map_some]
theorem flPy_at {m : Nat} {ds : List D} {st : Sto} (hm : st[m]? = some (.lst ds)) (h : ∀ d ∈ ds, plD 30 d = true) : flPy st (.at (.loc m)) = some (.list (pyDs ds)) := by
  simp only [flPy, toPy, hm, allO_pl fun d hd => toPy_pl (h d hd) (by omega : 30 ≤ 39), Option.map_some]
theorem shaped_list {ds : List D} (h : ∀ d ∈ ds, plD 30 d = true) : SeqAt.shaped (.list (pyDs ds)) = true := by
  have h1 := depthAll_le (n := 30) fun d hd => depth_pl (h d hd)
  have h2 : PyData.canLay0 (.list (pyDs ds)) = true := canAll fun d hd => can_pl (h d hd)
  have h3 : PyData.depth (.list (pyDs ds)) = PyData.depthAll (pyDs ds) + 1 := by simp only [PyData.depth]
  simp only [SeqAt.shaped, h2, h3, Bool.true_and, decide_eq_true_eq]
  omega
theorem eqX_nil {ds : List D} {x : FL} {st : Sto} (hx : flPy st x = some (.list (pyDs ds))) (h : ∀ d ∈ ds, plD 30 d = true) : eqX st x (.fr []) = some ds.isEmpty := by
  have e2 : flPy st (.fr []) = some (.list []) := rfl
  have s2 : SeqAt.shaped (.list []) = true := rfl
  simp only [eqX, hx, e2, shaped_list h, s2, Bool.and_self]
  cases ds <;> rfl
theorem fIn_seq {l : List Nat} {c : D} {st : Sto} {k : Nat} (hc : toPy 40 st c = some (.list (pyDs (l.map itD))) ∨ toPy 40 st c = some (.tuple (pyDs (l.map itD)))) : inSeq st (.int (k : Int)) c = some (decide (k ∈ l)) := by
  have hp : ∀ d ∈ l.map itD, plD 30 d = true := fun d hd => by
    obtain ⟨i, _, rfl⟩ := List.mem_map.mp hd
    rfl
  have s1 : SeqAt.shaped (.int (k : Int)) = true := rfl
  have s2 := shaped_list hp
  have s3 : SeqAt.shaped (.tuple (pyDs (l.map itD))) = true := by
    have : SeqAt.shaped (.tuple (pyDs (l.map itD))) = SeqAt.shaped (.list (pyDs (l.map itD))) := by
      simp only [SeqAt.shaped, PyData.canLay0, PyData.depth]
      rfl
    rw [this]; exact s2
  have any : ((pyDs (l.map itD)).any fun z => PyData.eqv z (.int (k : Int))) = decide (k ∈ l) := by
    clear hc hp s2 s3
    induction l with
    | nil => rfl
    | cons i l ih =>
      simp only [List.map_cons, pyDs, List.any_cons, ih, itD, pyD, PyData.eqv, natI_beq, List.mem_cons]
      by_cases e : i = k
      · subst e; simp
      · rw [beq_eq_false_iff_ne.mpr e]
        simp [show ¬ k = i from fun z => e z.symm]
  have t1 : toPy 40 st (.int (k : Int)) = some (.int (k : Int)) := rfl
  rcases hc with hc | hc
  · simp only [inSeq, t1, hc, inPy, s1, s2, Bool.and_self, any]
  · simp only [inSeq, t1, hc, inPy, s1, s3, Bool.and_self, any]
theorem fIn_lstN {st : Sto} {m : Nat} {l : List Nat} {k : Nat} (h : st[m]? = some (.lst (l.map itD))) : fIn (.int (k : Int)) (.loc m) st = some (.ok (.bl (decide (k ∈ l))) st) := by
  have hp : ∀ d ∈ l.map itD, plD 30 d = true := fun d hd => by
    obtain ⟨i, _, rfl⟩ := List.mem_map.mp hd
    rfl
  have hc := flPy_at h hp
  simp only [flPy] at hc
  simp only [fIn, inD, h, fIn_seq (k := k) (.inl hc), okB]
theorem fIn_tN {st : Sto} {l : List Nat} {k : Nat} : fIn (.int (k : Int)) (tN l) st = some (.ok (.bl (decide (k ∈ l))) st) := by
  have hc : toPy 40 st (tN l) = some (.tuple (pyDs (l.map itD))) := toPy_pl (nb_pl (nb_tN l)) (by omega)
  have e : inD st (.int (k : Int)) (tN l) = inSeq st (.int (k : Int)) (tN l) := rfl
  simp only [fIn, e, fIn_seq (k := k) (.inr hc), okB]
/-! ### closed -/
theorem LTab.app {st : Sto} {b n : Nat} {tab : Nat → List Nat} (h : LTab st b n tab) (e : Sto) : LTab (st ++ e) b n tab := ⟨get_ext h.lst e, fun j hj => get_ext (h.row j hj) e⟩
theorem LTab.set {st : Sto} {b n m : Nat} {tab : Nat → List Nat} {o : O} (h : LTab st b n tab) (hm : b + (3 * n + 3) ≤ m) : LTab (st.set m o) b n tab := ⟨get_set_ne (by omega) h.lst, fun j hj => get_set_ne (by omega) (h.row j hj)⟩
theorem LTab.ix {st : Sto} {b n : Nat} {tab : Nat → List Nat} (h : LTab st b n tab) {j : Nat} (hj : j < n) : fIx (.loc b) (.int (j : Int)) st = some (.ok (.loc (b + (3 * j + 3))) st) := fIx_lst h.lst (by simp [hj])
theorem mem_ahT {ps : List (Nat × Nat)} {n i j : Nat} (u : Up n ps) : i ∈ ahT ps n j ↔ Ahd ps i j := by
  unfold ahT
  rw [mem_selN]
  exact ⟨fun h => h.2, fun h => ⟨by have := h.lt u; omega, h⟩⟩
theorem mem_all {n : Nat} {ps : List (Nat × Nat)} {P : Nat → Nat → Prop} {L : List (Nat × Nat)} (u : Up n ps) (hP : ∀ a b, P a b → Ahd ps a b) (h : ∀ a b, (a, b) ∈ L ↔ b < n ∧ P a b) : ∀ i j, (i, j) ∈ L ↔ (i < n ∧ j < n) ∧ P i j := fun i j => by
  rw [h]
  constructor
  · rintro ⟨a, b⟩
    have := (hP _ _ b).lt u
    exact ⟨⟨by omega, a⟩, b⟩
  · rintro ⟨⟨_, a⟩, b⟩
    exact ⟨a, b⟩
theorem c_law_closed {fs : Nat → Sm} {k : Nat} (hf : C_aheads (fs k)) : C_form (semOf 5 (dB fs (t__law_closed k))) Ahd := by
  intro n ps st w hn
  obtain ⟨ext, c, t⟩ := hf n ps [] w.up w.le w.len
  simp only [List.length_nil, List.nil_append] at c t
  have loop := for_range (C := yes) (tg := .nm 1) (body := dB fs bd__law_closed_0)
    (fun i env st => ∃ L m x1, env = [some (oD n ps), x1, some (.loc 0), some (.loc m), none] ∧ LTab st 0 n (ahT ps n) ∧ st[m]? = some (.lst (L.map prN)) ∧ L.Nodup ∧ ∀ a b, (a, b) ∈ L ↔ b < i ∧ Ahd ps a b) n
    (env := [some (oD n ps), none, some (.loc 0), some (.loc ext.length), none]) (st := ext ++ [.lst []])
    ⟨[], ext.length, none, rfl, t.app _, by simp, List.nodup_nil, by simp⟩ (fun _ _ _ _ => rfl) (by
      rintro i env st hi ⟨L, m, x1, rfl, t, hm, nd, hL⟩
      have lr := selN_len n fun k => Ahd ps k i
      have hl := cl_len hn (show i ≤ n by omega) hL (fun a b h => (h.lt w.up).1) nd
      have row := t.row i hi
      have ix := t.ix hi
      have lc : dL fs (.lcV (.ix (.var 2) (.var 1)) (.var 4) .tru el__law_closed_1 [4]) [some (oD n ps), some (.int (i : Int)), some (.loc 0), some (.loc m), none] st = some (.ok ((ahT ps n i).map fun k => prN (k, i)) st) := by
        rw [lcV_lst (n := 0 + (3 * i + 3)) (ds := (ahT ps n i).map itD) (by simp [ix]) row]
        refine lc_all itD (fun k => prN (k, i)) (ahT ps n i) (lstIs_self row) (by unfold ahT; omega) fun k _ => ⟨_, rfl, ?_⟩
        simp [el__law_closed_1, itD, prN]
      refine ⟨_, rfl, [some (oD n ps), some (.int (i : Int)), some (.loc 0), some (.loc st.length), none], st ++ [.lst ((L ++ (ahT ps n i).map fun k => (k, i)).map prN)], .inl ?_, _, _, _, rfl, t.app _, ?_, nodup_pairs_step hL nd (asc_nodup (selN_asc _ _)), mem_pairs_step hL fun a => mem_ahT w.up⟩
      · have e : L.map prN ++ (ahT ps n i).map (fun k => prN (k, i)) = (L ++ (ahT ps n i).map fun k => (k, i)).map prN := by simp [Function.comp_def]
        have hb : Nat.ble ((L.map prN).length + ((ahT ps n i).map fun k => prN (k, i)).length) 1000000 = true := ble_mil (by simp only [List.length_map]; unfold ahT; omega)
        have ct : dL fs (.cat (.at (.var 3)) (.fr (.lcV (.ix (.var 2) (.var 1)) (.var 4) .tru el__law_closed_1 [4]))) [some (oD n ps), some (.int (i : Int)), some (.loc 0), some (.loc m), none] st = some (.ok ((L ++ (ahT ps n i).map fun k => (k, i)).map prN) st) := by
          rw [el_cat]
          simp only [ex_at, ex_fr, ev_var, List.getElem?_cons_succ, List.getElem?_cons_zero, thn_ok, lc, flItems, hm, hb, e]
        simp only [bd__law_closed_0, eb_cons, es_set, ev_keep, List.set_cons_succ, List.set_cons_zero, ct, thn_ok, thnS_ok, eb_nil]
      · simp [ahT])
  obtain ⟨env2, st2, r1, ⟨L, m, x1, rfl, t2, hm, nd, hL⟩⟩ := loop
  have so := sorted_pairs hn hm nd (mem_all w.up (fun _ _ h => h) hL) (fun i j h => (h.lt w.up).1)
  refine call_free (st' := st2) (frees_oD n ps) (free_oD _ _) ?_
  have se : startE 5 [oD n ps] = [some (oD n ps), none, none, none, none] := rfl
  have s0 : dS fs (.par2 2 3 (.cons (.call k 1 (.cons (.var 0) .nil)) (.cons (.keep (.lst .nil)) .nil))) [some (oD n ps), none, none, none, none] [] = some (.nx [some (oD n ps), none, some (.loc 0), some (.loc ext.length), none] (ext ++ [.lst []])) := by
    simp [c]
  have rg := rng1_n (fs := fs) (env := [some (oD n ps), none, some (.loc 0), some (.loc ext.length), none]) (a := .ix (.var 0) (.int 0)) (n := n) (st := ext ++ [.lst []]) (st1 := ext ++ [.lst []]) (by omega) (by simp [oD])
  have s1 : dS fs (.for (.rng1 (.cons (.ix (.var 0) (.int 0)) .nil)) (.var 1) bd__law_closed_0) [some (oD n ps), none, some (.loc 0), some (.loc ext.length), none] (ext ++ [.lst []]) = some (.nx [some (oD n ps), x1, some (.loc 0), some (.loc m), none] st2) := by
    simp only [es_for, rg, thnS_ok, tgD_var, r1]
  have ix : dE fs (.ix (.var 0) (.int 0)) [some (oD n ps), x1, some (.loc 0), some (.loc m), none] st2 = some (.ok (.int (n : Int)) st2) := by simp [oD]
  simp only [semOf, se, t__law_closed, eb_cons, s0, s1]
  simp [-ev_ix, ix, so, bTupF]
  rfl
/-! ### bare -/
open Classical in
theorem lb_ones {fs : Nat → Sm} {n i k : Nat} {ps : List (Nat × Nat)} {e0 e3 : Option D} {st : Sto} (u : Up n ps) (hn : n ≤ 20) (hi : i < n) (t : LTab st 0 n (ahT ps n)) :
    dL fs (.lcV (.ix (.var 2) (.var 1)) (.var 5) te__law_bare_2 el__law_bare_3 [5]) [e0, some (.int (i : Int)), some (.loc 0), e3, some (.int (k : Int)), none] st = some (.ok (((ahT ps n i).filter fun m => decide (Ahd ps k m)).map fun _ => .int 1) st) := by
  have lr := selN_len n fun k => Ahd ps k i
  have row := t.row i hi
  have ix := t.ix hi
  rw [lcV_lst (n := 0 + (3 * i + 3)) (ds := (ahT ps n i).map itD) (by simp [ix]) row]
  rw [lc_map itD (fun m => decide (Ahd ps k m)) (fun _ => .int 1) (lstIs_self row) (ahT ps n i) [] (by simp only [List.length_nil]; unfold ahT; omega) (fun m hm => ⟨[e0, some (.int (i : Int)), some (.loc 0), e3, some (.int (k : Int)), some (.int (m : Int))], by simp [itD], ?_, fun _ => by simp [el__law_bare_3]⟩)]
  · rfl
  · have hmi := ((mem_ahT u).mp hm).lt u
    have ix2 := t.ix (show m < n by omega)
    have inn := fIn_lstN (k := k) (t.row m (by omega))
    have e : decide (k ∈ ahT ps n m) = decide (Ahd ps k m) := by rw [decide_eq_decide]; exact mem_ahT u
    rw [e] at inn
    simp only [Nat.zero_add] at ix2 inn
    simp [te__law_bare_2, ix2, inn]
theorem ones_empty {ps : List (Nat × Nat)} {n i k : Nat} (u : Up n ps) (p : Nat → Bool) (hp : ∀ m, p m = true ↔ Ahd ps k m) : (((ahT ps n i).filter p).map fun _ => D.int 1).isEmpty = true ↔ ¬ ∃ m, Ahd ps k m ∧ Ahd ps m i := by
  rw [List.isEmpty_iff, List.map_eq_nil_iff, List.filter_eq_nil_iff]
  constructor
  · rintro h ⟨m, h1, h2⟩
    exact h m ((mem_ahT u).mpr h2) ((hp m).mpr h1)
  · intro h m hm hk
    exact h ⟨m, (hp m).mp hk, (mem_ahT u).mp hm⟩
theorem bare_step {ps : List (Nat × Nat)} {P : Nat → Nat → Prop} {L : List (Nat × Nat)} {i k : Nat} {q : List Nat} (h : ∀ a b, (a, b) ∈ L ↔ (b < i ∧ P a b) ∨ (b = i ∧ a ∈ q ∧ P a b)) (hk : P k i) : ∀ a b, (a, b) ∈ L ++ [(k, i)] ↔ (b < i ∧ P a b) ∨ (b = i ∧ a ∈ q ++ [k] ∧ P a b) := fun a b => by
  simp only [List.mem_append, h, List.mem_singleton, Prod.mk.injEq]
  constructor
  · rintro ((h1 | ⟨h1, h2, h3⟩) | ⟨rfl, rfl⟩)
    · exact .inl h1
    · exact .inr ⟨h1, .inl h2, h3⟩
    · exact .inr ⟨rfl, .inr rfl, hk⟩
  · rintro (h1 | ⟨h1, h2 | h2, h3⟩)
    · exact .inl (.inl h1)
    · exact .inl (.inr ⟨h1, h2, h3⟩)
    · exact .inr ⟨h2, h1⟩
open Classical in
theorem c_law_bare {fs : Nat → Sm} {k : Nat} (hf : C_aheads (fs k)) : C_form (semOf 6 (dB fs (t__law_bare k))) fun ps => Bare (Ahd ps) := by
  intro n ps st w hn
  obtain ⟨ext, c, t⟩ := hf n ps [] w.up w.le w.len
  simp only [List.length_nil, List.nil_append] at c t
  obtain ⟨f, hfl⟩ : ∃ f, f = ext.length := ⟨_, rfl⟩
  have hx : ∀ {s : Sto} {o : O}, LTab s 0 n (ahT ps n) → (∀ j, j < n → 0 + (3 * j + 3) < f) ∧ 0 < f → LTab (s.set f o) 0 n (ahT ps n) := fun t h => ⟨get_set_ne (by omega) t.lst, fun j hj => get_set_ne (by have := h.1 j hj; omega) (t.row j hj)⟩
  have hf2 : (∀ j, j < n → 0 + (3 * j + 3) < f) ∧ 0 < f := ⟨fun j hj => by rw [hfl]; exact get_lt (t.row j hj), by rw [hfl]; exact get_lt t.lst⟩
  have loop := for_range (C := yes) (tg := .nm 1) (body := dB fs bd__law_bare_0)
    (fun i env st => ∃ L x1 x4, env = [some (oD n ps), x1, some (.loc 0), some (.loc f), x4, none] ∧ LTab st 0 n (ahT ps n) ∧ st[f]? = some (.lst (L.map prN)) ∧ L.Nodup ∧ ∀ a b, (a, b) ∈ L ↔ b < i ∧ Bare (Ahd ps) a b) n
    (env := [some (oD n ps), none, some (.loc 0), some (.loc f), none, none]) (st := ext ++ [.lst []])
    ⟨[], none, none, rfl, t.app _, by simp [hfl], List.nodup_nil, by simp⟩ (fun _ _ _ _ => rfl) (by
      rintro i env st hi ⟨L, x1, x4, rfl, t, hm, nd, hL⟩
      have row := t.row i hi
      have ix := t.ix hi
      obtain ⟨env2, st2, r1, ⟨L2, y4, rfl, t2, hm2, nd2, hL2⟩⟩ := for_list (C := lstIs (0 + (3 * i + 3)) ((ahT ps n i).map itD)) (tg := .nm 4) (body := dB fs bd__law_bare_1) itD
        (fun q env st => ∃ L y4, env = [some (oD n ps), some (.int (i : Int)), some (.loc 0), some (.loc f), y4, none] ∧ LTab st 0 n (ahT ps n) ∧ st[f]? = some (.lst (L.map prN)) ∧ L.Nodup ∧ ∀ a b, (a, b) ∈ L ↔ (b < i ∧ Bare (Ahd ps) a b) ∨ (b = i ∧ a ∈ q ∧ Bare (Ahd ps) a b)) (ahT ps n i)
        (env := [some (oD n ps), some (.int (i : Int)), some (.loc 0), some (.loc f), x4, none]) (st := st)
        ⟨L, x4, rfl, t, hm, nd, fun a b => by rw [hL]; simp⟩ (by rintro q env st ⟨_, _, _, t, _⟩; exact lstIs_self (t.row i hi))
        (by
          rintro q x r env st ha ⟨L, y4, rfl, t, hm, nd, hL⟩
          have hxi : Ahd ps x i := (mem_ahT w.up).mp (by rw [ha]; simp)
          have hxl := hxi.lt w.up
          have hl : L.length ≤ 55 := up_len hn nd fun ⟨a, b⟩ hp => by
            have := (hL a b).mp hp
            rcases this with ⟨h1, h2⟩ | ⟨h1, _, h2⟩
            · have := h2.1.lt w.up; simp only; omega
            · have := h2.1.lt w.up; simp only; omega
          have ones := lb_ones (fs := fs) (k := x) (e0 := some (oD n ps)) (e3 := some (.loc f)) w.up w.le hi t
          have emp := ones_empty (n := n) (i := i) (k := x) w.up (fun m => decide (Ahd ps x m)) (fun m => decide_eq_true_iff)
          have eq := eqX_nil (st := st) (flPy_fr (ds := ((ahT ps n i).filter fun m => decide (Ahd ps x m)).map fun _ => D.int 1) (st := st) (fun d hd => by
            obtain ⟨_, _, rfl⟩ := List.mem_map.mp hd
            rfl)) (fun d hd => by
            obtain ⟨_, _, rfl⟩ := List.mem_map.mp hd
            rfl)
          have ty : isTy "list" (.loc f) st = true := by simp [isTy, tyD, hm]
          have ap := append_at (d := .tup [.int (x : Int), .int (i : Int)]) hm (by simp; omega)
          by_cases hb : Bare (Ahd ps) x i
          · refine ⟨_, rfl, [some (oD n ps), some (.int (i : Int)), some (.loc 0), some (.loc f), some (.int (x : Int)), none], st.set f (.lst (L.map prN ++ [prN (x, i)])), .inl ?_, L ++ [(x, i)], _, rfl, hx t hf2, by rw [get_set hm]; simp, ?_, bare_step (ps := ps) hL hb⟩
            · rw [emp.mpr hb.2] at eq
              simp [bd__law_bare_1, itD, ones, eq, pickN, ty, ap]
              rfl
            · rw [List.nodup_append]
              refine ⟨nd, by simp, fun p hp p2 hp2 e => ?_⟩
              simp at hp2
              subst hp2; subst e
              rcases (hL x i).mp hp with ⟨h1, _⟩ | ⟨_, h2, _⟩
              · omega
              · have := asc_nodup (selN_asc n fun k => Ahd ps k i)
                have e2 : selN n (fun k => Ahd ps k i) = q ++ x :: r := ha
                rw [e2, List.nodup_append] at this
                exact this.2.2 x h2 x List.mem_cons_self rfl
          · refine ⟨_, rfl, [some (oD n ps), some (.int (i : Int)), some (.loc 0), some (.loc f), some (.int (x : Int)), none], st, .inl ?_, L, _, rfl, t, hm, nd, fun a b => ?_⟩
            · have : (((ahT ps n i).filter fun m => decide (Ahd ps x m)).map fun _ => D.int 1).isEmpty = false := by
                cases h : (((ahT ps n i).filter fun m => decide (Ahd ps x m)).map fun _ => D.int 1).isEmpty with
                | false => rfl
                | true => exact absurd ⟨hxi, emp.mp h⟩ hb
              rw [this] at eq
              simp [bd__law_bare_1, itD, ones, eq, pickN]
            · rw [hL]
              constructor
              · rintro (h | ⟨h1, h2, h3⟩)
                · exact .inl h
                · exact .inr ⟨h1, List.mem_append.mpr (.inl h2), h3⟩
              · rintro (h | ⟨h1, h2, h3⟩)
                · exact .inl h
                · rcases List.mem_append.mp h2 with h2 | h2
                  · exact .inr ⟨h1, h2, h3⟩
                  · simp at h2
                    subst h1; subst h2
                    exact absurd h3 hb)
      refine ⟨_, rfl, [some (oD n ps), some (.int (i : Int)), some (.loc 0), some (.loc f), y4, none], st2, .inl ?_, L2, _, _, rfl, t2, hm2, nd2, fun a b => ?_⟩
      · have fv := forV_lst (fs := fs) (env := [some (oD n ps), some (.int (i : Int)), some (.loc 0), some (.loc f), x4, none]) (st := st) (e := .ix (.var 2) (.var 1)) (tg := .var 4) (b := bd__law_bare_1) (n := 0 + (3 * i + 3)) (ds := (ahT ps n i).map itD) (by simp [ix]) row
        rw [tgD_var, r1] at fv
        simp only [bd__law_bare_0, eb_cons, List.set_cons_succ, List.set_cons_zero, fv, eb_nil]
      · rw [hL2]
        constructor
        · rintro (⟨h1, h2⟩ | ⟨h1, _, h3⟩)
          · exact ⟨by omega, h2⟩
          · exact ⟨by omega, h3⟩
        · rintro ⟨h1, h2⟩
          by_cases e : b = i
          · subst e; exact .inr ⟨rfl, (mem_ahT w.up).mpr h2.1, h2⟩
          · exact .inl ⟨by omega, h2⟩)
  obtain ⟨env2, st2, r1, ⟨L, x1, x4, rfl, t2, hm, nd, hL⟩⟩ := loop
  have so := sorted_pairs hn hm nd (mem_all w.up (fun _ _ h => h.1) hL) (fun i j h => (h.1.lt w.up).1)
  refine call_free (st' := st2) (frees_oD n ps) (free_oD _ _) ?_
  have se : startE 6 [oD n ps] = [some (oD n ps), none, none, none, none, none] := rfl
  have s0 : dS fs (.tgt (.tup (.cons (.var 2) (.cons (.var 3) .nil))) (.tup (.cons (.call k 1 (.cons (.var 0) .nil)) (.cons (.keep (.lst .nil)) .nil)))) [some (oD n ps), none, none, none, none, none] [] = some (.nx [some (oD n ps), none, some (.loc 0), some (.loc f), none, none] (ext ++ [.lst []])) := by
    simp [c, hfl]
  have rg := rng1_n (fs := fs) (env := [some (oD n ps), none, some (.loc 0), some (.loc f), none, none]) (a := .ix (.var 0) (.int 0)) (n := n) (st := ext ++ [.lst []]) (st1 := ext ++ [.lst []]) (by omega) (by simp [oD])
  have s1 : dS fs (.for (.rng1 (.cons (.ix (.var 0) (.int 0)) .nil)) (.var 1) bd__law_bare_0) [some (oD n ps), none, some (.loc 0), some (.loc f), none, none] (ext ++ [.lst []]) = some (.nx [some (oD n ps), x1, some (.loc 0), some (.loc f), x4, none] st2) := by
    simp only [es_for, rg, thnS_ok, tgD_var, r1]
  have ix : dE fs (.ix (.var 0) (.int 0)) [some (oD n ps), x1, some (.loc 0), some (.loc f), x4, none] st2 = some (.ok (.int (n : Int)) st2) := by simp [oD]
  simp only [semOf, se, t__law_bare, eb_cons, s0, s1]
  simp [-ev_ix, ix, so, bTupF]
  rfl
end TA
/-! plans, by the numbers of the defs that they call -/
namespace TA
open PySem
def el_is_lot_of_0 (c_is_within : Nat) : IR := .call c_is_within 3 (.cons (.var 2) (.cons (.int 0) (.cons (.op2 .Sub (.ix (.var 0) (.int 0)) (.int 1)) .nil)))
def t_is_lot_of (c_is_within c_do_ascend : Nat) : IR := .cons (.ifS (.orT (.notT (.tst (.bv 1 (.cons (.var 1) (.cons (.ty "tuple") .nil))))) (.notT (.tst (.bf 1 (.lcV (.var 1) (.var 2) .tru (el_is_lot_of_0 c_is_within) [2]))))) (.cons (.ret (.bl false)) .nil) .nil) (.cons (.ret (.call c_do_ascend 1 (.cons (.var 1) .nil))) .nil)
def te_behind_in_1 : IR := .tst (.cmp .In (.var 2) (.ix (.var 1) (.var 3)))
def el_behind_in_2 : IR := .var 3
def el_behind_in_0 : IR := .keep (.lc (.rng1 (.cons (.ix (.var 0) (.int 0)) .nil)) (.var 3) te_behind_in_1 el_behind_in_2 [3])
def t_behind_in (c_ahead_in : Nat) : IR := .cons (.set 1 (.call c_ahead_in 1 (.cons (.var 0) .nil))) (.cons (.ret (.keep (.lc (.rng1 (.cons (.ix (.var 0) (.int 0)) .nil)) (.var 2) .tru el_behind_in_0 [2]))) .nil)
def bd_is_lower_in_0 : IR := .cons (.ex (.mv 2 (.var 4) (.cons (.ix (.var 3) (.var 2)) .nil))) .nil
def el_is_lower_in_1 : IR := .cmp .In (.var 5) (.var 1)
def t_is_lower_in (c_is_lot_of c_ahead_in : Nat) : IR := .cons (.ifS (.notT (.tst (.call c_is_lot_of 2 (.cons (.var 0) (.cons (.var 1) .nil))))) (.cons (.ret (.bl false)) .nil) .nil) (.cons (.par2 3 4 (.cons (.call c_ahead_in 1 (.cons (.var 0) .nil)) (.cons .dict0 .nil))) (.cons (.forV (.var 1) (.var 2) bd_is_lower_in_0) (.cons (.ret (.bf 1 (.lcV (.var 4) (.var 5) .tru el_is_lower_in_1 [5]))) .nil)))
def t_need_lower (c_is_lower_in : Nat) : IR := .cons (.ifS (.notT (.tst (.call c_is_lower_in 2 (.cons (.var 0) (.cons (.var 1) .nil))))) (.cons (.raise { cps := #[66, 97, 100, 76, 111, 119, 101, 114] } { cps := #[103, 105, 118, 101, 110] } (.var 1)) .nil) .nil) .nil
def bd_ground_in_0 : IR := .cons (.put (.var 4) (.var 2) (.bl true)) (.cons (.ex (.mv 2 (.var 4) (.cons (.ix (.var 3) (.var 2)) .nil))) .nil)
def t_ground_in (c_ahead_in : Nat) : IR := .cons (.par2 3 4 (.cons (.call c_ahead_in 1 (.cons (.var 0) .nil)) (.cons .dict0 .nil))) (.cons (.forV (.var 1) (.var 2) bd_ground_in_0) (.cons (.ret (.bf 3 (.bL 1 (.at (.var 4))))) .nil))
def el_is_pins_0 (c_is_lot_of : Nat) : IR := .call c_is_lot_of 2 (.cons (.var 0) (.cons (.var 2) .nil))
def t_is_pins (c_is_lot_of : Nat) : IR := .cons (.ret (.andV (.bv 1 (.cons (.var 1) (.cons (.ty "tuple") .nil))) (.andV (.cmp .Eq (.bv 0 (.cons (.var 1) .nil)) (.int 2)) (.bf 1 (.lcV (.var 1) (.var 2) .tru (el_is_pins_0 c_is_lot_of) [2]))))) .nil
def el_sure_out_in_1 : IR := .tup (.cons (.var 5) (.cons (.bl true) .nil))
def bd_sure_out_in_0 : IR := .cons (.put (.var 4) (.var 2) (.bl true)) (.cons (.ex (.mf 1 (.var 4) (.lcV (.ix (.var 3) (.var 2)) (.var 5) .tru el_sure_out_in_1 [5]))) .nil)
def t_sure_out_in (c_behind_in : Nat) : IR := .cons (.par2 3 4 (.cons (.call c_behind_in 1 (.cons (.var 0) .nil)) (.cons .dict0 .nil))) (.cons (.forV (.var 1) (.var 2) bd_sure_out_in_0) (.cons (.ret (.bf 3 (.bL 1 (.at (.var 4))))) .nil))
def el_clash_in_0 : IR := .cmp .In (.var 3) (.var 2)
def t_clash_in (c_ground_in c_sure_out_in : Nat) : IR := .cons (.set 2 (.call c_sure_out_in 2 (.cons (.var 0) (.cons (.ix (.var 1) (.int 1)) .nil)))) (.cons (.ret (.bf 2 (.lcV (.call c_ground_in 2 (.cons (.var 0) (.cons (.ix (.var 1) (.int 0)) .nil))) (.var 3) .tru el_clash_in_0 [3]))) .nil)
def t_need_pins (c_is_pins c_clash_in : Nat) : IR := .cons (.ifS (.orT (.notT (.tst (.call c_is_pins 2 (.cons (.var 0) (.cons (.var 1) .nil))))) (.tst (.call c_clash_in 2 (.cons (.var 0) (.cons (.var 1) .nil))))) (.cons (.raise { cps := #[66, 97, 100, 80, 105, 110, 115] } { cps := #[103, 105, 118, 101, 110] } (.var 1)) .nil) .nil) .nil
def te_open_in_0 : IR := .tst (.cmp .NotIn (.var 3) (.var 2))
def el_open_in_1 : IR := .var 3
def t_open_in (c_ground_in c_sure_out_in : Nat) : IR := .cons (.set 2 (.op2 .Add (.call c_ground_in 2 (.cons (.var 0) (.cons (.ix (.var 1) (.int 0)) .nil))) (.call c_sure_out_in 2 (.cons (.var 0) (.cons (.ix (.var 1) (.int 1)) .nil))))) (.cons (.ret (.bf 3 (.lc (.rng1 (.cons (.ix (.var 0) (.int 0)) .nil)) (.var 3) te_open_in_0 el_open_in_1 [3]))) .nil)
def te_nearest_in_0 : IR := .andT (.orT (.tst (.cmp .In (.var 5) (.var 3))) (.tst (.cmp .In (.var 5) (.var 2)))) (.tst (.cmp .NotIn (.var 5) (.var 4)))
def el_nearest_in_1 : IR := .var 5
def t_nearest_in (c_ground_in c_sure_out_in : Nat) : IR := .cons (.tgt (.tup (.cons (.var 3) (.cons (.var 4) .nil))) (.tup (.cons (.call c_ground_in 2 (.cons (.var 0) (.cons (.ix (.var 1) (.int 0)) .nil))) (.cons (.call c_sure_out_in 2 (.cons (.var 0) (.cons (.ix (.var 1) (.int 1)) .nil))) .nil)))) (.cons (.ret (.bf 3 (.lc (.rng1 (.cons (.ix (.var 0) (.int 0)) .nil)) (.var 5) te_nearest_in_0 el_nearest_in_1 [5]))) .nil)
def t_do_clash (c_need_order c_is_pins c_clash_in : Nat) : IR := .cons (.ifS (.notT (.tst (.call c_is_pins 2 (.cons (.call c_need_order 1 (.cons (.var 0) .nil)) (.cons (.var 1) .nil))))) (.cons (.raise { cps := #[66, 97, 100, 80, 105, 110, 115] } { cps := #[103, 105, 118, 101, 110] } (.var 1)) .nil) .nil) (.cons (.ret (.call c_clash_in 2 (.cons (.var 0) (.cons (.var 1) .nil)))) .nil)
def el_does_fit_0 : IR := .cmp .In (.var 3) (.var 2)
def el_does_fit_1 : IR := .cmp .In (.var 3) (.var 2)
def t_does_fit (c_need_order c_need_lower c_need_pins : Nat) : IR := .cons (.ex (.call c_need_pins 2 (.cons (.call c_need_order 1 (.cons (.var 0) .nil)) (.cons (.var 1) .nil)))) (.cons (.ex (.call c_need_lower 2 (.cons (.var 0) (.cons (.var 2) .nil)))) (.cons (.ret (.andV (.bf 1 (.lcV (.ix (.var 1) (.int 0)) (.var 3) .tru el_does_fit_0 [3])) (.notV (.bf 2 (.lcV (.ix (.var 1) (.int 1)) (.var 3) .tru el_does_fit_1 [3]))))) .nil))
def t_sure_in (c_need_order c_ground_in c_need_pins : Nat) : IR := .cons (.ex (.call c_need_pins 2 (.cons (.call c_need_order 1 (.cons (.var 0) .nil)) (.cons (.var 1) .nil)))) (.cons (.ret (.call c_ground_in 2 (.cons (.var 0) (.cons (.ix (.var 1) (.int 0)) .nil)))) .nil)
def t_sure_out (c_need_order c_sure_out_in c_need_pins : Nat) : IR := .cons (.ex (.call c_need_pins 2 (.cons (.call c_need_order 1 (.cons (.var 0) .nil)) (.cons (.var 1) .nil)))) (.cons (.ret (.call c_sure_out_in 2 (.cons (.var 0) (.cons (.ix (.var 1) (.int 1)) .nil)))) .nil)
def t_open_items (c_need_order c_need_pins c_open_in : Nat) : IR := .cons (.ex (.call c_need_pins 2 (.cons (.call c_need_order 1 (.cons (.var 0) .nil)) (.cons (.var 1) .nil)))) (.cons (.ret (.call c_open_in 2 (.cons (.var 0) (.cons (.var 1) .nil)))) .nil)
def t_nearest (c_need_order c_need_lower c_need_pins c_nearest_in : Nat) : IR := .cons (.ex (.call c_need_pins 2 (.cons (.call c_need_order 1 (.cons (.var 0) .nil)) (.cons (.var 1) .nil)))) (.cons (.ex (.call c_need_lower 2 (.cons (.var 0) (.cons (.var 2) .nil)))) (.cons (.ret (.call c_nearest_in 3 (.cons (.var 0) (.cons (.var 1) (.cons (.var 2) .nil))))) .nil))
def te__law_lowers_2 : IR := .tst (.cmp .NotIn (.var 6) (.var 5))
def el__law_lowers_3 : IR := .int 1
def bd__law_lowers_1 : IR := .cons (.ifS (.tst (.cmpX false (.fr (.lcV (.ix (.var 2) (.var 1)) (.var 6) te__law_lowers_2 el__law_lowers_3 [6])) (.fr (.lst .nil)))) (.cons (.ex (.mv 0 (.var 4) (.cons (.op2 .Add (.var 5) (.tup (.cons (.var 1) .nil))) .nil))) .nil) .nil) .nil
def bd__law_lowers_0 : IR := .cons (.set 4 (.keep (.lst .nil))) (.cons (.forV (.var 3) (.var 5) bd__law_lowers_1) (.cons (.set 3 (.op2 .Add (.var 3) (.var 4))) .nil))
def t__law_lowers (c__law_aheads : Nat) : IR := .cons (.par2 2 3 (.cons (.call c__law_aheads 1 (.cons (.var 0) .nil)) (.cons (.keep (.lst (.cons (.tup .nil) .nil))) .nil))) (.cons (.for (.rng1 (.cons (.ix (.var 0) (.int 0)) .nil)) (.var 1) bd__law_lowers_0) (.cons (.ret (.keep (.bL 1 (.at (.var 3))))) .nil))
def bd__law_pins_0 (c__law_draw : Nat) : IR := .cons (.set 4 (.call c__law_draw 2 (.cons (.var 0) (.cons (.int 6) .nil)))) (.cons (.ifS (.tst (.cmp .Lt (.var 4) (.int 2))) (.cons (.ex (.mv 0 (.ix (.var 2) (.var 4)) (.cons (.var 3) .nil))) .nil) .nil) .nil)
def el__law_pins_1 : IR := .tup (.cons (.var 3) (.cons (.int 1) .nil))
def t__law_pins (c__law_draw : Nat) : IR := .cons (.set 2 (.keep (.lst (.cons (.keep (.lst .nil)) (.cons (.keep (.lst .nil)) .nil))))) (.cons (.for (.rng1 (.cons (.var 1) .nil)) (.var 3) (bd__law_pins_0 c__law_draw)) (.cons (.ifS (.andT (.tst (.cmp .Eq (.call c__law_draw 2 (.cons (.var 0) (.cons (.int 12) .nil))) (.int 0))) (.tst (.cmpX true (.at (.ix (.var 2) (.int 0))) (.fr (.lst .nil))))) (.cons (.put (.var 2) (.int 1) (.keep (.bL 1 (.at (.bf 8 (.lcV (.op2 .Add (.ix (.var 2) (.int 1)) (.sl (.ix (.var 2) (.int 0)) .nil (.at (.int 1)))) (.var 3) .tru el__law_pins_1 [3])))))) .nil) .nil) (.cons (.ret (.tup (.cons (.bv 2 (.cons (.ix (.var 2) (.int 0)) .nil)) (.cons (.bv 2 (.cons (.ix (.var 2) (.int 1)) .nil)) .nil)))) .nil)))
def te__law_fitting_1 : IR := .tst (.cmp .NotIn (.var 5) (.var 3))
def el__law_fitting_2 : IR := .var 5
def te__law_fitting_3 : IR := .tst (.cmp .In (.var 5) (.var 3))
def el__law_fitting_4 : IR := .var 5
def bd__law_fitting_0 : IR := .cons (.set 4 (.keep (.lc (.itV (.ix (.var 1) (.int 0))) (.var 5) te__law_fitting_1 el__law_fitting_2 [5]))) (.cons (.ifS (.tst (.cmpX false (.fr (.cat (.at (.var 4)) (.fr (.lcV (.ix (.var 1) (.int 1)) (.var 5) te__law_fitting_3 el__law_fitting_4 [5])))) (.fr (.lst .nil)))) (.cons (.ex (.mv 0 (.var 2) (.cons (.var 3) .nil))) .nil) .nil) .nil)
def t__law_fitting : IR := .cons (.set 2 (.keep (.lst .nil))) (.cons (.forV (.var 0) (.var 3) bd__law_fitting_0) (.cons (.ret (.var 2)) .nil))
def te__law_shares_1 : IR := .tst (.cmp .In (.var 2) (.var 8))
def el__law_shares_2 : IR := .int 1
def bd__law_shares_0 : IR := .cons (.set 6 (.bf 0 (.lcV (.var 0) (.var 8) te__law_shares_1 el__law_shares_2 [8]))) (.cons (.set 7 (.ifE (.tst (.cmp .Eq (.var 6) (.bv 0 (.cons (.var 0) .nil)))) (.var 3) (.ifE (.tst (.cmp .Eq (.var 6) (.int 0))) (.var 4) (.var 5)))) (.cons (.ex (.mv 0 (.var 7) (.cons (.var 2) .nil))) .nil))
def t__law_shares : IR := .cons (.par3 3 4 5 (.cons (.keep (.lst .nil)) (.cons (.keep (.lst .nil)) (.cons (.keep (.lst .nil)) .nil)))) (.cons (.for (.rng1 (.cons (.var 1) .nil)) (.var 2) bd__law_shares_0) (.cons (.ret (.tup (.cons (.bv 2 (.cons (.var 3) .nil)) (.cons (.bv 2 (.cons (.var 4) .nil)) (.cons (.bv 2 (.cons (.var 5) .nil)) .nil))))) .nil))
def te__law_far_0 : IR := .tst (.cmp .NotIn (.var 2) (.var 1))
def el__law_far_1 : IR := .var 2
def te__law_far_2 : IR := .tst (.cmp .NotIn (.var 2) (.var 0))
def el__law_far_3 : IR := .var 2
def t__law_far : IR := .cons (.ret (.op2 .Add (.bf 0 (.lcV (.var 0) (.var 2) te__law_far_0 el__law_far_1 [2])) (.bf 0 (.lcV (.var 1) (.var 2) te__law_far_2 el__law_far_3 [2])))) .nil
def bd__law_pins_right_0 (c_does_fit : Nat) : IR := .cons (.ifS (.tst (.cmp .NotEq (.bv 4 (.cons (.call c_does_fit 3 (.cons (.var 0) (.cons (.var 1) (.cons (.var 5) .nil)))) .nil)) (.bv 4 (.cons (.cmp .In (.var 5) (.var 3)) .nil)))) (.cons (.ret (.bl false)) .nil) .nil) .nil
def el__law_pins_right_2 (c__law_far : Nat) : IR := .call c__law_far 2 (.cons (.var 5) (.cons (.var 8) .nil))
def te__law_pins_right_3 (c__law_far : Nat) : IR := .tst (.cmp .Eq (.call c__law_far 2 (.cons (.var 5) (.cons (.var 8) .nil))) (.var 6))
def el__law_pins_right_4 : IR := .var 8
def bd__law_pins_right_1 (c_nearest c__law_far : Nat) : IR := .cons (.set 6 (.bf 5 (.lcV (.var 3) (.var 8) .tru (el__law_pins_right_2 c__law_far) [8]))) (.cons (.set 7 (.keep (.lc (.itV (.var 3)) (.var 8) (te__law_pins_right_3 c__law_far) el__law_pins_right_4 [8]))) (.cons (.ifS (.orT (.tst (.cmp .NotEq (.bv 0 (.cons (.var 7) .nil)) (.int 1))) (.tst (.cmp .NotEq (.call c_nearest 3 (.cons (.var 0) (.cons (.var 1) (.cons (.var 5) .nil)))) (.ix (.var 7) (.int 0))))) (.cons (.ret (.bl false)) .nil) .nil) .nil))
def t__law_pins_right (c_do_clash c_does_fit c_sure_in c_sure_out c_open_items c_nearest c__law_lowers c__law_fitting c__law_shares c__law_far : Nat) : IR := .cons (.set 2 (.call c__law_lowers 1 (.cons (.var 0) .nil))) (.cons (.set 3 (.call c__law_fitting 2 (.cons (.var 2) (.cons (.var 1) .nil)))) (.cons (.ifS (.tst (.cmp .NotEq (.bf 4 (.lst (.cons (.call c_do_clash 2 (.cons (.var 0) (.cons (.var 1) .nil))) (.cons (.call c_do_clash 2 (.cons (.var 0) (.cons (.var 1) .nil))) .nil)))) (.bf 4 (.rep (.fr (.lst (.cons (.cmpX false (.at (.var 3)) (.fr (.lst .nil))) .nil))) (.int 2))))) (.cons (.ret (.bl false)) .nil) .nil) (.cons (.ifS (.tst (.cmpX false (.at (.var 3)) (.fr (.lst .nil)))) (.cons (.ret (.bl true)) .nil) .nil) (.cons (.set 4 (.tup (.cons (.call c_sure_in 2 (.cons (.var 0) (.cons (.var 1) .nil))) (.cons (.call c_sure_out 2 (.cons (.var 0) (.cons (.var 1) .nil))) (.cons (.call c_open_items 2 (.cons (.var 0) (.cons (.var 1) .nil))) .nil))))) (.cons (.ifS (.tst (.cmp .NotEq (.bv 4 (.cons (.var 4) .nil)) (.bv 4 (.cons (.call c__law_shares 2 (.cons (.var 3) (.cons (.ix (.var 0) (.int 0)) .nil))) .nil)))) (.cons (.ret (.bl false)) .nil) .nil) (.cons (.forV (.var 2) (.var 5) (bd__law_pins_right_0 c_does_fit)) (.cons (.forV (.op2 .Add (.sl (.var 2) .nil (.at (.int 6))) (.sl (.var 2) (.at (.neg (.int 4))) .nil)) (.var 5) (bd__law_pins_right_1 c_nearest c__law_far)) (.cons (.ret (.bl true)) .nil))))))))
def bd__law_more_right_1 (c_nearest : Nat) : IR := .cons (.set 8 (.keep (.lst (.cons (.op2 .Add (.ix (.var 4) (.int 0)) (.ifE (.tst (.cmp .Eq (.var 5) (.int 0))) (.tup (.cons (.var 7) .nil)) (.tup .nil))) (.cons (.op2 .Add (.ix (.var 4) (.int 1)) (.ifE (.tst (.cmp .Eq (.var 5) (.int 1))) (.tup (.cons (.var 7) .nil)) (.tup .nil))) .nil))))) (.cons (.set 4 (.tup (.cons (.bf 3 (.bL 1 (.at (.ix (.var 8) (.int 0))))) (.cons (.bf 3 (.bL 1 (.at (.ix (.var 8) (.int 1))))) .nil)))) (.cons (.set 3 (.call c_nearest 3 (.cons (.var 0) (.cons (.var 4) (.cons (.var 3) .nil))))) .nil))
def bd__law_more_right_0 (c_nearest : Nat) : IR := .cons (.forV (.var 6) (.var 7) (bd__law_more_right_1 c_nearest)) .nil
def t__law_more_right (c_nearest : Nat) : IR := .cons (.par2 3 4 (.cons (.var 2) (.cons (.tup (.cons (.tup .nil) (.cons (.tup .nil) .nil))) .nil))) (.cons (.for (.enum (.at (.var 1))) (.tup (.cons (.var 5) (.cons (.var 6) .nil))) (bd__law_more_right_0 c_nearest)) (.cons (.ret (.cmp .Eq (.var 3) (.call c_nearest 3 (.cons (.var 0) (.cons (.var 1) (.cons (.var 2) .nil)))))) .nil))
def bd_law_k46_0 (c__law_of c__law_order c__law_lowers c__law_pins c__law_fitting c__law_pins_right c__law_more_right : Nat) : IR := .cons (.set 4 (.call c__law_order 2 (.cons (.var 2) (.cons (.int 6) .nil)))) (.cons (.par2 5 6 (.cons (.call c__law_pins 2 (.cons (.var 2) (.cons (.ix (.var 4) (.int 0)) .nil))) (.cons (.bv 4 (.cons (.var 4) .nil)) .nil))) (.cons (.ifS (.orT (.notT (.tst (.call c__law_pins_right 2 (.cons (.var 4) (.cons (.var 5) .nil))))) (.orT (.notT (.tst (.call c__law_pins_right 2 (.cons (.var 4) (.cons (.tup (.cons (.tup .nil) (.cons (.tup .nil) .nil))) .nil))))) (.tst (.cmp .NotEq (.bv 4 (.cons (.var 4) .nil)) (.var 6))))) (.cons (.ret (.bl false)) .nil) .nil) (.cons (.par2 7 8 (.cons (.call c__law_fitting 2 (.cons (.call c__law_lowers 1 (.cons (.var 4) .nil)) (.cons (.var 5) .nil))) (.cons (.call c__law_of 2 (.cons (.var 2) (.cons (.call c__law_lowers 1 (.cons (.var 4) .nil)) .nil))) .nil))) (.cons (.ifS (.andT (.tst (.cmpX true (.at (.var 7)) (.fr (.lst .nil)))) (.notT (.tst (.call c__law_more_right 3 (.cons (.var 4) (.cons (.var 5) (.cons (.var 8) .nil))))))) (.cons (.ret (.bl false)) .nil) .nil) .nil))))
def t_law_k46 (c_do_clash c_does_fit c_open_items c_nearest c__law_begin c__law_of c__law_order c__law_lowers c__law_pins c__law_fitting c__law_pins_right c__law_more_right : Nat) : IR := .cons (.set 1 (.tup (.cons (.int 3) (.cons (.tup (.cons (.tup (.cons (.int 0) (.cons (.int 1) .nil))) (.cons (.tup (.cons (.int 1) (.cons (.int 2) .nil))) .nil))) .nil)))) (.cons (.ifS (.orT (.notT (.tst (.call c_do_clash 2 (.cons (.var 1) (.cons (.tup (.cons (.tup (.cons (.int 2) .nil)) (.cons (.tup (.cons (.int 0) .nil)) .nil))) .nil))))) (.tst (.cmp .NotEq (.call c_open_items 2 (.cons (.var 1) (.cons (.tup (.cons (.tup (.cons (.int 1) .nil)) (.cons (.tup .nil) .nil))) .nil))) (.tup (.cons (.int 2) .nil))))) (.cons (.ret (.bl false)) .nil) .nil) (.cons (.ifS (.orT (.tst (.cmp .NotEq (.call c_nearest 3 (.cons (.var 1) (.cons (.tup (.cons (.tup .nil) (.cons (.tup (.cons (.int 1) .nil)) .nil))) (.cons (.tup (.cons (.int 0) (.cons (.int 1) (.cons (.int 2) .nil)))) .nil)))) (.tup (.cons (.int 0) .nil)))) (.notT (.tst (.call c_do_clash 2 (.cons (.var 1) (.cons (.tup (.cons (.tup (.cons (.int 1) .nil)) (.cons (.tup (.cons (.int 1) .nil)) .nil))) .nil)))))) (.cons (.ret (.bl false)) .nil) .nil) (.cons (.ifS (.orT (.tst (.cmp .IsNot (.call c_does_fit 3 (.cons (.var 1) (.cons (.tup (.cons (.tup .nil) (.cons (.tup (.cons (.int 1) .nil)) .nil))) (.cons (.tup (.cons (.int 0) (.cons (.int 1) .nil))) .nil)))) (.bl false))) (.tst (.cmp .IsNot (.call c_does_fit 3 (.cons (.var 1) (.cons (.tup (.cons (.tup (.cons (.int 0) .nil)) (.cons (.tup (.cons (.int 1) .nil)) .nil))) (.cons (.tup (.cons (.int 0) .nil)) .nil)))) (.bl true)))) (.cons (.ret (.bl false)) .nil) .nil) (.cons (.set 2 (.call c__law_begin 1 (.cons (.var 0) .nil))) (.cons (.for (.rng1 (.cons (.op2 .Add (.int 3) (.bv 5 (.cons (.bv 0 (.cons (.var 0) .nil)) (.cons (.int 2) .nil)))) .nil)) (.var 3) (bd_law_k46_0 c__law_of c__law_order c__law_lowers c__law_pins c__law_fitting c__law_pins_right c__law_more_right)) (.cons (.ret (.bl true)) .nil))))))
end TA
/-! lots, grounds, lower sets: the program's own defs, of good arguments -/
namespace TA
open PySem
/-- a comprehension by its invariant -/
theorem lc_all_inv {α : Type} {C : Sto → Bool} {tg : Tg} {t : M Bool} {e : M D} {env : En} (f : α → D) (I : List α → List D → Sto → Prop) (all : List α) (hC : ∀ q acc st, I q acc st → C st = true)
    (step : ∀ q x r acc st, all = q ++ x :: r → I q acc st → acc.length < 1000000 ∧ ∃ env1, tgSet tg (f x) env = some env1 ∧ ∃ b st1, t env1 st = some (.ok b st1) ∧ (b = false → I (q ++ [x]) acc st1) ∧ (b = true → ∃ y st2, e env1 st1 = some (.ok y st2) ∧ I (q ++ [x]) (acc ++ [y]) st2)) :
    ∀ (xs pre : List α) (acc : List D) (st : Sto), all = pre ++ xs → I pre acc st → ∃ ys st', lcL C tg t e env (xs.map f) acc st = some (.ok ys st') ∧ I all ys st'
  | [], pre, acc, st, ha, h => by
    have hc := hC _ _ _ h
    exact ⟨acc, st, by simp only [List.map_nil, lcL, hc], by rw [ha, List.append_nil]; exact h⟩
  | x :: xs, pre, acc, st, ha, h => by
    obtain ⟨hl, env1, h1, b, st1, h2, h3, h4⟩ := step pre x xs acc st ha h
    have hc := hC _ _ _ h
    cases b with
    | false =>
      obtain ⟨ys, st', q1, q2⟩ := lc_all_inv f I all hC step xs (pre ++ [x]) acc st1 (by simp [ha]) (h3 rfl)
      exact ⟨ys, st', by simp only [List.map_cons, lcL, hc, h1, h2, q1], q2⟩
    | true =>
      obtain ⟨y, st2, h5, h6⟩ := h4 rfl
      have hb : Nat.blt acc.length 1000000 = true := blt_ok hl
      obtain ⟨ys, st', q1, q2⟩ := lc_all_inv f I all hC step xs (pre ++ [x]) (acc ++ [y]) st2 (by simp [ha]) h6
      exact ⟨ys, st', by simp only [List.map_cons, lcL, hc, h1, h2, h5, hb, q1], q2⟩
/-! ### lots -/
structure Lot (n : Nat) (l : List Nat) : Prop where
  asc : l.Pairwise (· < ·)
  lt : ∀ x ∈ l, x < n
theorem Lot.len {n : Nat} {l : List Nat} (h : Lot n l) : l.length ≤ n := sub_len (asc_nodup h.asc) h.lt
theorem lot_sel (n : Nat) (P : Nat → Prop) : Lot n (selN n P) := ⟨selN_asc n P, fun x hx => (mem_selN.mp hx).1⟩
theorem lot_eq {n : Nat} {l : List Nat} (h : Lot n l) : selN n (fun i => i ∈ l) = l := asc_uniq (selN_asc _ _) h.asc fun x => by
  rw [mem_selN]
  exact ⟨fun z => z.2, fun z => ⟨h.lt x z, z⟩⟩
theorem okV_it {st : Sto} (k : Nat) : okV st (itD k) := okV_int
def C_asc (f : Sm) : Prop := ∀ l st, l.Pairwise (· < ·) → l.length ≤ 1000 → callS f [tN l] st = some (.ok (.bl true) st)
def ltI2 (a b : D) : Bool := match a, b with
  | .int i, .int j => decide (i < j)
  | _, _ => false
theorem zip_asc : ∀ l : List Nat, l.Pairwise (· < ·) → ((l.map itD).zip (l.map itD).tail).all (fun p => ltI2 p.1 p.2) = true
  | [], _ => rfl
  | [a], _ => rfl
  | a :: b :: l, h => by
    rw [List.pairwise_cons] at h
    have ih := zip_asc (b :: l) h.2
    have hab := h.1 b List.mem_cons_self
    simp only [List.map_cons, List.tail_cons, List.zip_cons_cons, List.all_cons] at ih ⊢
    rw [ih, Bool.and_true]
    simp only [ltI2, itD, decide_eq_true_eq]
    omega
theorem c_asc (fs : Nat → Sm) : C_asc (semOf 3 (dB fs t_do_ascend)) := by
  intro l st h hl
  have run : ∀ st, semOf 3 (dB fs t_do_ascend) [tN l] st = some (.ok (.bl true) st) := fun st => by
    have q := s_do_ascend fs (l.map itD) st ltI2 (by simpa using hl) (fun a b hm => by
      have h1 := (List.of_mem_zip hm).1
      have h2 := List.mem_of_mem_tail (List.of_mem_zip hm).2
      obtain ⟨i, _, rfl⟩ := List.mem_map.mp h1
      obtain ⟨j, _, rfl⟩ := List.mem_map.mp h2
      rfl)
    rw [zip_asc l h] at q
    exact q
  exact call_keep rfl (run st) fun _ => ⟨[], run []⟩
def C_is_lot_of (f : Sm) : Prop := ∀ n ps l st, Lot n l → n ≤ 20 → callS f [oD n ps, tN l] st = some (.ok (.bl true) st)
theorem frees_ot (n : Nat) (ps : List (Nat × Nat)) (l : List Nat) : D.frees [oD n ps, tN l] = true := by simp [D.frees]
theorem c_is_lot_of {fs : Nat → Sm} {k1 k2 : Nat} (h1 : C_is_within (fs k1)) (h2 : C_asc (fs k2)) : C_is_lot_of (semOf 3 (dB fs (t_is_lot_of k1 k2))) := by
  intro n ps l st hl hn
  have ll := hl.len
  refine call_free (st' := []) (frees_ot n ps l) rfl ?_
  have e : bIsi [tN l, .ty "tuple"] [] = some (.ok (.bl true) []) := bIsi_tup (d := tN l) (st := []) (T := "tuple") rfl
  have lc : dL fs (.lcV (.var 1) (.var 2) .tru (el_is_lot_of_0 k1) [2]) [some (oD n ps), some (tN l), none] [] = some (.ok (l.map fun _ => .bl true) []) := by
    rw [lcV_tup (ds := l.map itD) (by simp [tN])]
    refine lc_all itD (fun _ => .bl true) l rfl (by omega) fun x hx => ⟨_, rfl, ?_⟩
    have hw : within (itD x) 0 ((n : Int) - 1) = true := by
      have := hl.lt x hx
      simp only [within, itD, Bool.and_eq_true, decide_eq_true_eq]
      omega
    have c := c_is_within h1 (itD x) 0 ((n : Int) - 1) [] (okV_it x)
    rw [hw] at c
    simp [el_is_lot_of_0, oD, c]
  have b1 : bAllF (l.map fun _ => D.bl true) [] = some (.ok (.bl true) []) := by
    have : ∀ l : List Nat, bools? (l.map fun _ => D.bl true) = some (l.map fun _ => true) := fun l => by
      induction l with
      | nil => rfl
      | cons a l ih => simp [bools?, ih]
    have a : ∀ l : List Nat, (l.map fun _ => true).all id = true := fun l => by
      induction l with
      | nil => rfl
      | cons a l ih => simp
    simp only [bAllF, this, a]
  have c2 := h2 l [] hl.asc (by omega)
  simp [t_is_lot_of, e, lc, b1, c2]
/-! ### ground -/
def gSt (n : Nat) (tab : Nat → List Nat) (l : List Nat) : Sto := bSt 0 n tab ++ [dctN l]
theorem gSt_tab (n : Nat) (tab : Nat → List Nat) (l : List Nat) : DTab (gSt n tab l) 0 n tab := by
  have t := DTab.of (st := []) n tab
  simp only [List.nil_append, List.length_nil] at t
  exact ⟨get_ext t.lst _, fun j h => get_ext (t.dct j h) _⟩
theorem gSt_dct (n : Nat) (tab : Nat → List Nat) (l : List Nat) : (gSt n tab l)[n + 1]? = some (dctN l) := by
  unfold gSt
  rw [List.getElem?_append_right (by rw [bSt_len]; omega), bSt_len, Nat.sub_self]
  rfl
theorem gSt_set (n : Nat) (tab : Nat → List Nat) (l m : List Nat) : (gSt n tab l).set (n + 1) (dctN m) = gSt n tab m := by
  unfold gSt
  rw [List.set_append_right (n + 1) _ (by rw [bSt_len]; omega), bSt_len, Nat.sub_self]
  rfl
theorem g_put {n x : Nat} {tab : Nat → List Nat} {l : List Nat} (hl : l.length ≤ 900) : putD (.loc (n + 1)) (.int (x : Int)) (.bl true) (gSt n tab l) = some (gSt n tab (addK l x)) := by
  have hb : Nat.blt (keysN l).length 1000000 = true := blt_mil (by rw [len_keysN]; omega)
  have hg := gSt_dct n tab l
  rw [← gSt_set n tab l (addK l x)]
  simp only [dctN] at hg ⊢
  simp only [putD, hg, keyD, hb, setK_keysN]
theorem g_upd {n x : Nat} {tab : Nat → List Nat} {l : List Nat} (hx : x < n) (hl : l.length ≤ 900) (hm : (tab x).length ≤ 900) : vUpdate (.loc (n + 1)) [.loc x] (gSt n tab l) = some (.ok .non (gSt n tab ((tab x).foldl addK l))) := by
  have hne : Nat.beq (n + 1) x = false := by
    cases q : Nat.beq (n + 1) x with
    | false => rfl
    | true => have := Nat.eq_of_beq_eq_true q; omega
  have hb : Nat.ble ((keysN l).length + (keysN (tab x)).length) 1000000 = true := ble_mil (by rw [len_keysN, len_keysN]; omega)
  have e1 := gSt_dct n tab l
  have e2 : (gSt n tab l)[x]? = some (dctN (tab x)) := by simpa using (gSt_tab n tab l).dct x hx
  rw [← gSt_set n tab l ((tab x).foldl addK l)]
  simp only [dctN] at e1 e2 ⊢
  unfold vUpdate
  simp only [hne, e1, e2, hb, mergeD_keysN]
theorem g_ty (n : Nat) (tab : Nat → List Nat) (l : List Nat) : isTy "dict" (.loc (n + 1)) (gSt n tab l) = true := by
  have := gSt_dct n tab l
  simp [isTy, tyD, this, dctN]
theorem g_ix {n x : Nat} {tab : Nat → List Nat} {l : List Nat} (hx : x < n) : fIx (.loc n) (.int (x : Int)) (gSt n tab l) = some (.ok (.loc x) (gSt n tab l)) := by
  have := (gSt_tab n tab l).ix hx
  simpa using this
/-- the ground of a lot -/
def Grd (ps : List (Nat × Nat)) (l : List Nat) (i : Nat) : Prop := ∃ x ∈ l, i = x ∨ Ahd ps i x
/-- the items behind any of a lot, and these -/
def Ups (ps : List (Nat × Nat)) (l : List Nat) (i : Nat) : Prop := ∃ x ∈ l, i = x ∨ Ahd ps x i
def C_ground_in (f : Sm) : Prop := ∀ n ps l st, WfO n ps → Lot n l → callS f [oD n ps, tN l] st = some (.ok (tN (selN n (Grd ps l))) st)
theorem c_ground_in {fs : Nat → Sm} {k : Nat} (h1 : C_ahead_in (fs k)) : C_ground_in (semOf 5 (dB fs (t_ground_in k))) := by
  intro n ps l st w hl
  have hn := w.le
  obtain ⟨tab, g, c⟩ := h1 n ps [] w.up w.le w.len
  simp only [List.length_nil, Nat.zero_add, List.nil_append] at c
  obtain ⟨env2, st2, r1, ⟨m, x2, rfl, rfl, nd, hm⟩⟩ := for_list (C := yes) (tg := .nm 2) (body := dB fs bd_ground_in_0) itD
    (fun q env s => ∃ m x2, env = [some (oD n ps), some (tN l), x2, some (.loc n), some (.loc (n + 1))] ∧ s = gSt n tab m ∧ m.Nodup ∧ ∀ i, i ∈ m ↔ Grd ps q i) l
    (env := [some (oD n ps), some (tN l), none, some (.loc n), some (.loc (n + 1))]) (st := gSt n tab []) ⟨[], none, rfl, rfl, List.nodup_nil, by simp [Grd]⟩ (fun _ _ _ _ => rfl) (by
      rintro q x r env s ha ⟨m, x2, rfl, rfl, nd, hm⟩
      have hx : x < n := hl.lt x (by rw [ha]; simp)
      have lm : m.length ≤ n := sub_len nd fun i hi => by
        obtain ⟨y, hy, z⟩ := (hm i).mp hi
        have hyn := hl.lt y (by rw [ha]; exact List.mem_append.mpr (.inl hy))
        rcases z with rfl | z
        · exact hyn
        · have := z.lt w.up; omega
      have lx := (g x hx).len w.up
      have la := len_addK (l := m) (x := x)
      have p1 := g_put (n := n) (tab := tab) (x := x) (l := m) (by omega)
      have u1 := g_upd (tab := tab) (l := addK m x) hx (by omega) (by omega)
      refine ⟨_, rfl, [some (oD n ps), some (tN l), some (.int (x : Int)), some (.loc n), some (.loc (n + 1))], gSt n tab ((tab x).foldl addK (addK m x)), .inl ?_, _, _, rfl, rfl, nodup_addKs (nodup_addK nd), fun i => ?_⟩
      · simp [bd_ground_in_0, itD, p1, g_ty, g_ix hx, u1]
      · rw [mem_addKs, mem_addK, hm, (g x hx).2]
        unfold Grd
        simp only [List.mem_append, List.mem_singleton]
        constructor
        · rintro ((⟨y, hy, z⟩ | z) | z)
          · exact ⟨y, .inl hy, z⟩
          · exact ⟨x, .inr rfl, .inl z⟩
          · exact ⟨x, .inr rfl, .inr z⟩
        · rintro ⟨y, hy | rfl, z⟩
          · exact .inl (.inl ⟨y, hy, z⟩)
          · rcases z with z | z
            · exact .inl (.inr z)
            · exact .inr z)
  have so := sorted_keys (n := n) (m := n + 1) (P := Grd ps l) (st := gSt n tab m) (by omega) (gSt_dct n tab m) nd (fun i => by
    rw [hm]
    refine ⟨fun h => ⟨?_, h⟩, fun h => h.2⟩
    obtain ⟨y, hy, z⟩ := h
    have hyn := hl.lt y hy
    rcases z with rfl | z
    · exact hyn
    · have := z.lt w.up; omega)
  refine call_free (st' := gSt n tab m) (frees_ot n ps l) (free_tN _) ?_
  have bl : (bSt 0 n tab).length = n + 1 := bSt_len 0 n tab
  have r0 : bSt 0 n tab ++ [O.dct []] = gSt n tab [] := rfl
  have fv := forV_tup (fs := fs) (env := [some (oD n ps), some (tN l), none, some (.loc n), some (.loc (n + 1))]) (st := gSt n tab []) (e := .var 1) (tg := .var 2) (b := bd_ground_in_0) (ds := l.map itD) (by simp [tN])
  rw [tgD_var, r1] at fv
  simp [t_ground_in, c, bl, r0, fv, so, bTupF]
  rfl
/-! ### lower sets -/
structure Lw (n : Nat) (ps : List (Nat × Nat)) (l : List Nat) : Prop where
  lot : Lot n l
  dn : ∀ x ∈ l, ∀ y, Ahd ps y x → y ∈ l
def C_is_lower_in (f : Sm) : Prop := ∀ n ps l st, WfO n ps → Lw n ps l → callS f [oD n ps, tN l] st = some (.ok (.bl true) st)
theorem c_is_lower_in {fs : Nat → Sm} {k1 k2 : Nat} (h0 : C_is_lot_of (fs k1)) (h1 : C_ahead_in (fs k2)) : C_is_lower_in (semOf 6 (dB fs (t_is_lower_in k1 k2))) := by
  intro n ps l st w hl
  have hn := w.le
  have c0 := h0 n ps l [] hl.lot hn
  obtain ⟨tab, g, c⟩ := h1 n ps [] w.up w.le w.len
  simp only [List.length_nil, Nat.zero_add, List.nil_append] at c
  obtain ⟨env2, st2, r1, ⟨m, x2, rfl, rfl, nd, hm⟩⟩ := for_list (C := yes) (tg := .nm 2) (body := dB fs bd_is_lower_in_0) itD
    (fun q env s => ∃ m x2, env = [some (oD n ps), some (tN l), x2, some (.loc n), some (.loc (n + 1)), none] ∧ s = gSt n tab m ∧ m.Nodup ∧ ∀ i ∈ m, i ∈ l) l
    (env := [some (oD n ps), some (tN l), none, some (.loc n), some (.loc (n + 1)), none]) (st := gSt n tab []) ⟨[], none, rfl, rfl, List.nodup_nil, by simp⟩ (fun _ _ _ _ => rfl) (by
      rintro q x r env s ha ⟨m, x2, rfl, rfl, nd, hm⟩
      have hxl : x ∈ l := by rw [ha]; simp
      have hx : x < n := hl.lot.lt x hxl
      have lm : m.length ≤ n := sub_len nd fun i hi => hl.lot.lt i (hm i hi)
      have lx := (g x hx).len w.up
      have u1 := g_upd (tab := tab) (l := m) hx (by omega) (by omega)
      refine ⟨_, rfl, [some (oD n ps), some (tN l), some (.int (x : Int)), some (.loc n), some (.loc (n + 1)), none], gSt n tab ((tab x).foldl addK m), .inl ?_, _, _, rfl, rfl, nodup_addKs nd, fun i hi => ?_⟩
      · simp [bd_is_lower_in_0, itD, g_ty, g_ix hx, u1]
      · rcases mem_addKs.mp hi with z | z
        · exact hm i z
        · exact hl.dn x hxl i (((g x hx).2 i).mp z))
  refine call_free (st' := gSt n tab m) (frees_ot n ps l) rfl ?_
  have bl : (bSt 0 n tab).length = n + 1 := bSt_len 0 n tab
  have r0 : bSt 0 n tab ++ [O.dct []] = gSt n tab [] := rfl
  have fv := forV_tup (fs := fs) (env := [some (oD n ps), some (tN l), none, some (.loc n), some (.loc (n + 1)), none]) (st := gSt n tab []) (e := .var 1) (tg := .var 2) (b := bd_is_lower_in_0) (ds := l.map itD) (by simp [tN])
  rw [tgD_var, r1] at fv
  have lm : m.length ≤ n := sub_len nd fun i hi => hl.lot.lt i (hm i hi)
  have lc : dL fs (.lcV (.var 4) (.var 5) .tru el_is_lower_in_1 [5]) [some (oD n ps), some (tN l), x2, some (.loc n), some (.loc (n + 1)), none] (gSt n tab m) = some (.ok (m.map fun _ => .bl true) (gSt n tab m)) := by
    refine lcV_dct (n := n + 1) (kvs := keysN m) (by simp) (gSt_dct n tab m) (by simp) ?_
    rw [keysN_kD]
    refine lc_all itD (fun _ => .bl true) m rfl (by omega) fun i hi => ⟨_, rfl, ?_⟩
    have : decide (i ∈ l) = true := decide_eq_true (hm i hi)
    simp [el_is_lower_in_1, itD, fIn_tN, hm i hi]
  have b1 : ∀ s, bAllF (m.map fun _ => D.bl true) s = some (.ok (.bl true) s) := fun s => by
    have : ∀ l : List Nat, bools? (l.map fun _ => D.bl true) = some (l.map fun _ => true) := fun l => by
      induction l with
      | nil => rfl
      | cons a l ih => simp [bools?, ih]
    have a : ∀ l : List Nat, (l.map fun _ => true).all id = true := fun l => by
      induction l with
      | nil => rfl
      | cons a l ih => simp
    simp only [bAllF, this, a]
  simp [t_is_lower_in, c0, c, bl, r0, fv, lc, b1]
def C_need_lower (f : Sm) : Prop := ∀ n ps l st, WfO n ps → Lw n ps l → callS f [oD n ps, tN l] st = some (.ok .non st)
theorem c_need_lower {fs : Nat → Sm} {k : Nat} (h : C_is_lower_in (fs k)) : C_need_lower (semOf 2 (dB fs (t_need_lower k))) := by
  intro n ps l st w hl
  refine call_free (st' := []) (frees_ot n ps l) rfl ?_
  simp [t_need_lower, h n ps l [] w hl]
end TA
/-! pins: the program's own defs, of good arguments -/
namespace TA
open PySem
/-! ### behind_in -/
noncomputable def bhT (ps : List (Nat × Nat)) (n j : Nat) : List Nat := selN n fun k => Ahd ps j k
structure BTab (st : Sto) (b n : Nat) (tab : Nat → List Nat) : Prop where
  lst : st[b + (2 * n + 1)]? = some (.lst ((List.range n).map fun j => .loc (b + (n + 1 + j))))
  row : ∀ j, j < n → st[b + (n + 1 + j)]? = some (.lst ((tab j).map itD))
noncomputable def hSt (n : Nat) (tab : Nat → List Nat) (ps : List (Nat × Nat)) (i : Nat) : Sto := bSt 0 n tab ++ (List.range i).map fun j => .lst ((bhT ps n j).map itD)
theorem hSt_len (n : Nat) (tab : Nat → List Nat) (ps : List (Nat × Nat)) (i : Nat) : (hSt n tab ps i).length = n + 1 + i := by simp [hSt, bSt_len]
theorem hSt_succ (n : Nat) (tab : Nat → List Nat) (ps : List (Nat × Nat)) (i : Nat) : hSt n tab ps (i + 1) = hSt n tab ps i ++ [.lst ((bhT ps n i).map itD)] := by
  unfold hSt
  rw [List.range_succ, List.map_append, ← List.append_assoc]
  rfl
theorem hSt_tab (n : Nat) (tab : Nat → List Nat) (ps : List (Nat × Nat)) (i : Nat) : DTab (hSt n tab ps i) 0 n tab := by
  have t := DTab.of (st := []) n tab
  simp only [List.nil_append, List.length_nil] at t
  exact ⟨get_ext t.lst _, fun j h => get_ext (t.dct j h) _⟩
def C_behind_in (f : Sm) : Prop := ∀ n ps, Up n ps → n ≤ 20 → ps.length ≤ 1000 → ∃ ext, callS f [oD n ps] [] = some (.ok (.loc (2 * n + 1)) ext) ∧ BTab ext 0 n (bhT ps n) ∧ ext.length = 2 * n + 2
theorem bh_row {fs : Nat → Sm} {n j i : Nat} {ps : List (Nat × Nat)} {tab : Nat → List Nat} (u : Up n ps) (hn : n ≤ 20) (g : ∀ j, j < n → aGood ps tab j) :
    dL fs (.lc (.rng1 (.cons (.ix (.var 0) (.int 0)) .nil)) (.var 3) te_behind_in_1 el_behind_in_2 [3]) [some (oD n ps), some (.loc n), some (.int (j : Int)), none] (hSt n tab ps i) = some (.ok ((bhT ps n j).map itD) (hSt n tab ps i)) := by
  have rg := rng1_n (fs := fs) (env := [some (oD n ps), some (.loc n), some (.int (j : Int)), none]) (a := .ix (.var 0) (.int 0)) (n := n) (st := hSt n tab ps i) (st1 := hSt n tab ps i) (by omega) (by simp [oD])
  have t := hSt_tab n tab ps i
  rw [el_lc, rg, thn_ok, rngD0]
  rw [lc_map (fun k : Nat => D.int (k : Int)) (fun k => decide (j ∈ tab k)) (fun k => itD k) rfl (List.range n) [] (by simp; omega) (fun k hk => ?_)]
  · have e : (List.range n).filter (fun k => decide (j ∈ tab k)) = bhT ps n j := by
      refine asc_uniq (List.Pairwise.filter _ List.pairwise_lt_range) (selN_asc _ _) fun k => ?_
      unfold bhT
      rw [mem_selN, List.mem_filter, List.mem_range, decide_eq_true_eq]
      exact ⟨fun ⟨a, b⟩ => ⟨a, ((g k a).2 j).mp b⟩, fun ⟨a, b⟩ => ⟨a, ((g k a).2 j).mpr b⟩⟩
    rw [e]
    rfl
  · have hk : k < n := by simpa using hk
    have ix := t.ix hk
    have inn := fIn_dctN (x := j) (t.dct k hk)
    simp only [Nat.zero_add] at ix inn
    exact ⟨[some (oD n ps), some (.loc n), some (.int (j : Int)), some (.int (k : Int))], by simp, by simp [te_behind_in_1, ix, inn], fun _ => by simp [el_behind_in_2, itD]⟩
theorem c_behind_in {fs : Nat → Sm} {k : Nat} (h1 : C_ahead_in (fs k)) : C_behind_in (semOf 4 (dB fs (t_behind_in k))) := by
  intro n ps u hn hp
  obtain ⟨tab, g, c⟩ := h1 n ps [] u hn hp
  simp only [List.length_nil, Nat.zero_add, List.nil_append] at c
  have rg := rng1_n (fs := fs) (env := [some (oD n ps), some (.loc n), none, none]) (a := .ix (.var 0) (.int 0)) (n := n) (st := bSt 0 n tab) (st1 := bSt 0 n tab) (by omega) (by simp [oD])
  obtain ⟨ys, st', q1, q2, q3⟩ := lc_all_inv (C := yes) (tg := .nm 2) (t := dT fs .tru) (e := dE fs el_behind_in_0) (env := [some (oD n ps), some (.loc n), none, none]) (fun k : Nat => D.int (k : Int))
    (fun q acc st => acc = (List.range q.length).map (fun j => .loc (n + 1 + j)) ∧ st = hSt n tab ps q.length) (List.range n) (fun _ _ _ _ => rfl)
    (by
      rintro q j r acc st ha ⟨rfl, rfl⟩
      obtain ⟨hq, hj⟩ := range_pre ha
      have hl : q.length = j := by rw [hq]; simp
      refine ⟨by simp [hl]; omega, [some (oD n ps), some (.loc n), some (.int (j : Int)), none], by simp, true, _, rfl, fun z => (by cases z), fun _ => ⟨.loc (n + 1 + j), hSt n tab ps (j + 1), ?_, ?_, ?_⟩⟩
      · have row := bh_row (fs := fs) (j := j) (i := q.length) u hn g
        rw [hl] at row
        rw [hSt_succ, hl]
        simp only [el_behind_in_0, ev_keep, row, thn_ok, hSt_len]
      · simp [hl, List.range_succ]
      · simp [hl]) (List.range n) [] [] (bSt 0 n tab) rfl ⟨rfl, by simp [hSt]⟩
  simp only [List.length_range] at q2 q3
  subst q2; subst q3
  have run : semOf 4 (dB fs (t_behind_in k)) [oD n ps] [] = some (.ok (.loc (2 * n + 1)) (hSt n tab ps n ++ [.lst ((List.range n).map fun j => .loc (n + 1 + j))])) := by
    have se : startE 4 [oD n ps] = [some (oD n ps), none, none, none] := rfl
    have s1 : dS fs (.set 1 (.call k 1 (.cons (.var 0) .nil))) [some (oD n ps), none, none, none] [] = some (.nx [some (oD n ps), some (.loc n), none, none] (bSt 0 n tab)) := by simp [c]
    have s2 : dS fs (.ret (.keep (.lc (.rng1 (.cons (.ix (.var 0) (.int 0)) .nil)) (.var 2) .tru el_behind_in_0 [2]))) [some (oD n ps), some (.loc n), none, none] (bSt 0 n tab) = some (.rt (.loc (2 * n + 1)) (hSt n tab ps n ++ [.lst ((List.range n).map fun j => .loc (n + 1 + j))])) := by
      rw [es_ret, ev_keep, el_lc, rg, thn_ok, rngD0]
      have w : wipeE [some (oD n ps), some (.loc n), none, none] [2] = [some (oD n ps), some (.loc n), none, none] := rfl
      simp only [w, tgD_var, q1, thn_ok, thnS_ok, hSt_len]
      have e : n + 1 + n = 2 * n + 1 := by omega
      rw [e]
    simp only [semOf, se, t_behind_in, eb_cons, s1, s2]
  refine ⟨hSt n tab ps n ++ [.lst ((List.range n).map fun j => .loc (n + 1 + j))], ?_, ⟨?_, fun j hj => ?_⟩, ?_⟩
  · rw [call_new (frees_oD n ps) rfl run]
    have e : ∀ o ∈ hSt n tab ps n ++ [.lst ((List.range n).map fun j => .loc (n + 1 + j))], O.up 0 o = o := fun o ho => by
      have up0 : ∀ l : List Nat, D.ups 0 (l.map fun j => .loc (n + 1 + j)) = l.map fun j => .loc (n + 1 + j) := fun l => by
        induction l with
        | nil => rfl
        | cons a l ih => simp only [List.map_cons, D.ups, D.up, ih, Nat.zero_add]
      have up1 : ∀ l : List Nat, D.ups 0 (l.map fun j => .loc (0 + j)) = l.map fun j => .loc (0 + j) := fun l => by
        induction l with
        | nil => rfl
        | cons a l ih => rw [List.map_cons, D.ups, ih, D.up, Nat.zero_add (0 + a)]
      simp only [hSt, bSt, List.mem_append, List.mem_map, List.mem_singleton] at ho
      rcases ho with ((⟨j, _, rfl⟩ | rfl) | ⟨j, _, rfl⟩) | rfl
      · exact up_dctN 0 _
      · simp only [O.up, up1]
      · simp only [O.up, ups_itD]
      · simp only [O.up, up0]
    rw [List.length_nil, List.nil_append, List.map_congr_left e, List.map_id']
    simp only [D.up, Nat.zero_add]
  · rw [Nat.zero_add, List.getElem?_append_right (by rw [hSt_len]; omega), hSt_len]
    have e : 2 * n + 1 - (n + 1 + n) = 0 := by omega
    rw [e]
    simp
  · rw [Nat.zero_add]
    refine get_ext ?_ _
    unfold hSt
    rw [List.getElem?_append_right (by rw [bSt_len]; omega), bSt_len, Nat.add_sub_cancel_left]
    simp [hj]
  · simp [hSt_len]; omega
/-! ### sure_out_in -/
def eSt (ext : Sto) (l : List Nat) : Sto := ext ++ [dctN l]
theorem eSt_dct (ext : Sto) (l : List Nat) : (eSt ext l)[ext.length]? = some (dctN l) := by simp [eSt]
theorem eSt_set (ext : Sto) (l m : List Nat) : (eSt ext l).set ext.length (dctN m) = eSt ext m := by
  unfold eSt
  rw [List.set_append_right _ _ (Nat.le_refl _), Nat.sub_self]
  rfl
theorem e_put {ext : Sto} {x : Nat} {l : List Nat} (hl : l.length ≤ 900) : putD (.loc ext.length) (.int (x : Int)) (.bl true) (eSt ext l) = some (eSt ext (addK l x)) := by
  have hb : Nat.blt (keysN l).length 1000000 = true := blt_mil (by rw [len_keysN]; omega)
  have hg := eSt_dct ext l
  rw [← eSt_set ext l (addK l x)]
  simp only [dctN] at hg ⊢
  simp only [putD, hg, keyD, hb, setK_keysN]
theorem kvs_keysN : ∀ l : List Nat, kvs? (l.map fun (k : Nat) => D.tup [.int (k : Int), .bl true]) = some (keysN l)
  | [] => rfl
  | k :: l => by
    simp only [List.map_cons, kvs?, keyD, kvs_keysN l]
    rfl
theorem e_upd {ext : Sto} {l m : List Nat} (hl : l.length ≤ 900) (hm : m.length ≤ 900) : vUpdateF (.loc ext.length) (m.map fun (k : Nat) => D.tup [.int (k : Int), .bl true]) (eSt ext l) = some (.ok .non (eSt ext (m.foldl addK l))) := by
  have hb : Nat.ble ((keysN l).length + (keysN m).length) 1000000 = true := ble_mil (by rw [len_keysN, len_keysN]; omega)
  have e1 := eSt_dct ext l
  rw [← eSt_set ext l (m.foldl addK l)]
  simp only [dctN] at e1 ⊢
  simp only [vUpdateF, e1, kvs_keysN, hb, mergeD_keysN]
def C_sure_out_in (f : Sm) : Prop := ∀ n ps l st, WfO n ps → Lot n l → callS f [oD n ps, tN l] st = some (.ok (tN (selN n (Ups ps l))) st)
theorem c_sure_out_in {fs : Nat → Sm} {k : Nat} (h1 : C_behind_in (fs k)) : C_sure_out_in (semOf 6 (dB fs (t_sure_out_in k))) := by
  intro n ps l st w hl
  have hn := w.le
  obtain ⟨ext, c, t, le⟩ := h1 n ps w.up w.le w.len
  obtain ⟨env2, st2, r1, ⟨m, x2, rfl, rfl, nd, hm⟩⟩ := for_list (C := yes) (tg := .nm 2) (body := dB fs bd_sure_out_in_0) itD
    (fun q env s => ∃ m x2, env = [some (oD n ps), some (tN l), x2, some (.loc (2 * n + 1)), some (.loc ext.length), none] ∧ s = eSt ext m ∧ m.Nodup ∧ ∀ i, i ∈ m ↔ Ups ps q i) l
    (env := [some (oD n ps), some (tN l), none, some (.loc (2 * n + 1)), some (.loc ext.length), none]) (st := eSt ext []) ⟨[], none, rfl, rfl, List.nodup_nil, by simp [Ups]⟩ (fun _ _ _ _ => rfl) (by
      rintro q x r env s ha ⟨m, x2, rfl, rfl, nd, hm⟩
      have hx : x < n := hl.lt x (by rw [ha]; simp)
      have lm : m.length ≤ n := sub_len nd fun i hi => by
        obtain ⟨y, hy, z⟩ := (hm i).mp hi
        have hyn := hl.lt y (by rw [ha]; exact List.mem_append.mpr (.inl hy))
        rcases z with rfl | z
        · exact hyn
        · have := z.lt w.up; omega
      have lx := selN_len n fun k => Ahd ps x k
      have la := len_addK (l := m) (x := x)
      have p1 := e_put (ext := ext) (x := x) (l := m) (by omega)
      have u1 := e_upd (ext := ext) (l := addK m x) (m := bhT ps n x) (by omega) (by unfold bhT; omega)
      have rl : (eSt ext (addK m x))[2 * n + 1]? = some (.lst ((List.range n).map fun j => .loc (n + 1 + j))) := by
        have := get_ext t.lst [dctN (addK m x)]
        simpa [eSt] using this
      have rr : (eSt ext (addK m x))[n + 1 + x]? = some (.lst ((bhT ps n x).map itD)) := by
        have := get_ext (t.row x hx) [dctN (addK m x)]
        simpa [eSt] using this
      have ix : fIx (.loc (2 * n + 1)) (.int (x : Int)) (eSt ext (addK m x)) = some (.ok (.loc (n + 1 + x)) (eSt ext (addK m x))) := fIx_lst rl (by simp [hx])
      have lc : dL fs (.lcV (.ix (.var 3) (.var 2)) (.var 5) .tru el_sure_out_in_1 [5]) [some (oD n ps), some (tN l), some (.int (x : Int)), some (.loc (2 * n + 1)), some (.loc ext.length), none] (eSt ext (addK m x)) = some (.ok ((bhT ps n x).map fun (k : Nat) => D.tup [.int (k : Int), .bl true]) (eSt ext (addK m x))) := by
        rw [lcV_lst (n := n + 1 + x) (ds := (bhT ps n x).map itD) (by simp [ix]) rr]
        refine lc_all itD (fun (k : Nat) => D.tup [.int (k : Int), .bl true]) (bhT ps n x) (lstIs_self rr) (by unfold bhT; omega) fun i _ => ⟨_, rfl, ?_⟩
        simp [el_sure_out_in_1, itD]
      have ty : isTy "dict" (.loc ext.length) (eSt ext (addK m x)) = true := by
        have := eSt_dct ext (addK m x)
        simp [isTy, tyD, this, dctN]
      refine ⟨_, rfl, [some (oD n ps), some (tN l), some (.int (x : Int)), some (.loc (2 * n + 1)), some (.loc ext.length), none], eSt ext ((bhT ps n x).foldl addK (addK m x)), .inl ?_, _, _, rfl, rfl, nodup_addKs (nodup_addK nd), fun i => ?_⟩
      · simp [bd_sure_out_in_0, itD, p1, ty, lc, u1]
      · rw [mem_addKs, mem_addK, hm]
        unfold Ups bhT
        simp only [List.mem_append, List.mem_singleton, mem_selN]
        constructor
        · rintro ((⟨y, hy, z⟩ | z) | ⟨_, z⟩)
          · exact ⟨y, .inl hy, z⟩
          · exact ⟨x, .inr rfl, .inl z⟩
          · exact ⟨x, .inr rfl, .inr z⟩
        · rintro ⟨y, hy | rfl, z⟩
          · exact .inl (.inl ⟨y, hy, z⟩)
          · rcases z with z | z
            · exact .inl (.inr z)
            · exact .inr ⟨(z.lt w.up).2, z⟩)
  have so := sorted_keys (n := n) (m := ext.length) (P := Ups ps l) (st := eSt ext m) (by omega) (eSt_dct ext m) nd (fun i => by
    rw [hm]
    refine ⟨fun h => ⟨?_, h⟩, fun h => h.2⟩
    obtain ⟨y, hy, z⟩ := h
    have hyn := hl.lt y hy
    rcases z with rfl | z
    · exact hyn
    · have := z.lt w.up; omega)
  refine call_free (st' := eSt ext m) (frees_ot n ps l) (free_tN _) ?_
  have r0 : ext ++ [O.dct []] = eSt ext [] := rfl
  have fv := forV_tup (fs := fs) (env := [some (oD n ps), some (tN l), none, some (.loc (2 * n + 1)), some (.loc ext.length), none]) (st := eSt ext []) (e := .var 1) (tg := .var 2) (b := bd_sure_out_in_0) (ds := l.map itD) (by simp [tN])
  rw [tgD_var, r1] at fv
  simp [t_sure_out_in, c, r0, fv, so, bTupF]
  rfl
end TA
/-! pins: what fits, what is sure, what is nearest -/
namespace TA
open PySem
def pnD (a b : List Nat) : D := .tup [tN a, tN b]
@[simp] theorem free_pnD (a b : List Nat) : D.free (pnD a b) = true := by simp only [pnD, D.free, D.frees, free_tN, Bool.and_self]
theorem frees_op (n : Nat) (ps : List (Nat × Nat)) (a b : List Nat) : D.frees [oD n ps, pnD a b] = true := by simp [D.frees]
theorem frees_opl (n : Nat) (ps : List (Nat × Nat)) (a b l : List Nat) : D.frees [oD n ps, pnD a b, tN l] = true := by simp [D.frees]
theorem pn_0 {a b : List Nat} {st : Sto} : fIx (pnD a b) (.int 0) st = some (.ok (tN a) st) := by simp [pnD]
theorem pn_1 {a b : List Nat} {st : Sto} : fIx (pnD a b) (.int 1) st = some (.ok (tN b) st) := by simp [pnD]
theorem fNotIn_tN {st : Sto} {l : List Nat} {k : Nat} : fNotIn (.int (k : Int)) (tN l) st = some (.ok (.bl (!decide (k ∈ l))) st) := by
  have h := fIn_tN (st := st) (l := l) (k := k)
  simp only [fIn, okB] at h
  cases e : inD st (.int (k : Int)) (tN l) with
  | none => rw [e] at h; cases h
  | some b =>
    rw [e] at h
    simp only [Option.some.injEq, Out.ok.injEq, D.bl.injEq, and_true] at h
    subst h
    simp only [fNotIn, e, Option.map_some, okB]
theorem filter_sel {n : Nat} {P : Nat → Prop} {p : Nat → Bool} (h : ∀ k, k < n → (p k = true ↔ P k)) : (List.range n).filter p = selN n P :=
  asc_uniq (List.Pairwise.filter _ List.pairwise_lt_range) (selN_asc _ _) fun k => by
    rw [mem_selN, List.mem_filter, List.mem_range]
    exact ⟨fun ⟨a, b⟩ => ⟨a, (h k a).mp b⟩, fun ⟨a, b⟩ => ⟨a, (h k a).mpr b⟩⟩
theorem bools_mapN (f : Nat → Bool) : ∀ l : List Nat, bools? (l.map fun k => D.bl (f k)) = some (l.map f)
  | [] => rfl
  | a :: l => by simp only [List.map_cons, bools?, bools_mapN f l]
theorem allF_map {l : List Nat} {f : Nat → Bool} {st : Sto} : bAllF (l.map fun k => D.bl (f k)) st = some (.ok (.bl (l.all f)) st) := by
  simp only [bAllF, bools_mapN, List.all_map]
  rfl
theorem anyF_map {l : List Nat} {f : Nat → Bool} {st : Sto} : bAnyF (l.map fun k => D.bl (f k)) st = some (.ok (.bl (l.any f)) st) := by
  simp only [bAnyF, bools_mapN, List.any_map]
  rfl
def C_is_pins (f : Sm) : Prop := ∀ n ps a b st, Lot n a → Lot n b → n ≤ 20 → callS f [oD n ps, pnD a b] st = some (.ok (.bl true) st)
theorem c_is_pins {fs : Nat → Sm} {k : Nat} (h1 : C_is_lot_of (fs k)) : C_is_pins (semOf 3 (dB fs (t_is_pins k))) := by
  intro n ps a b st ha hb hn
  refine call_free (st' := []) (frees_op n ps a b) rfl ?_
  have e : bIsi [pnD a b, .ty "tuple"] [] = some (.ok (.bl true) []) := bIsi_tup (d := pnD a b) (st := []) (T := "tuple") rfl
  have ln : bLen [pnD a b] [] = some (.ok (.int 2) []) := rfl
  have lc : dL fs (.lcV (.var 1) (.var 2) .tru (el_is_pins_0 k) [2]) [some (oD n ps), some (pnD a b), none] [] = some (.ok [.bl true, .bl true] []) := by
    rw [lcV_tup (ds := [a, b].map tN) (by simp [pnD])]
    rw [lc_all tN (fun _ => .bl true) [a, b] rfl (by simp) fun l hl => ⟨[some (oD n ps), some (pnD a b), some (tN l)], by simp, ?_⟩]
    · rfl
    · have c := h1 n ps l [] (by
        simp only [List.mem_cons, List.not_mem_nil, or_false] at hl
        rcases hl with rfl | rfl
        · exact ha
        · exact hb) hn
      simp [el_is_pins_0, c]
  have al : bAllF [.bl true, .bl true] [] = some (.ok (.bl true) []) := rfl
  simp [t_is_pins, e, ln, fEq_int, lc, al]
/-- pins clash -/
def Clash (ps : List (Nat × Nat)) (a b : List Nat) : Prop := ∃ i, Grd ps a i ∧ Ups ps b i
theorem grd_lt {n : Nat} {ps : List (Nat × Nat)} {a : List Nat} {i : Nat} (u : Up n ps) (ha : Lot n a) (h : Grd ps a i) : i < n := by
  obtain ⟨y, hy, z⟩ := h
  have hyn := ha.lt y hy
  rcases z with rfl | z
  · exact hyn
  · have := z.lt u; omega
theorem ups_lt {n : Nat} {ps : List (Nat × Nat)} {a : List Nat} {i : Nat} (u : Up n ps) (ha : Lot n a) (h : Ups ps a i) : i < n := by
  obtain ⟨y, hy, z⟩ := h
  have hyn := ha.lt y hy
  rcases z with rfl | z
  · exact hyn
  · have := z.lt u; omega
def C_clash_in (f : Sm) : Prop := ∀ n ps a b st, WfO n ps → Lot n a → Lot n b → ∃ c, callS f [oD n ps, pnD a b] st = some (.ok (.bl c) st) ∧ (c = true ↔ Clash ps a b)
theorem c_clash_in {fs : Nat → Sm} {k1 k2 : Nat} (h1 : C_ground_in (fs k1)) (h2 : C_sure_out_in (fs k2)) : C_clash_in (semOf 4 (dB fs (t_clash_in k1 k2))) := by
  intro n ps a b st w ha hb
  have c1 := h1 n ps a [] w ha
  have c2 := h2 n ps b [] w hb
  have hn := w.le
  have lg := selN_len n (Grd ps a)
  refine ⟨(selN n (Grd ps a)).any fun i => decide (i ∈ selN n (Ups ps b)), call_free (st' := []) (frees_op n ps a b) rfl ?_, ?_⟩
  · have lc : dL fs (.lcV (.call k1 2 (.cons (.var 0) (.cons (.ix (.var 1) (.int 0)) .nil))) (.var 3) .tru el_clash_in_0 [3]) [some (oD n ps), some (pnD a b), some (tN (selN n (Ups ps b))), none] [] = some (.ok ((selN n (Grd ps a)).map fun i => .bl (decide (i ∈ selN n (Ups ps b)))) []) := by
      rw [lcV_tup (ds := (selN n (Grd ps a)).map itD) (by simp [pn_0, c1]; rfl)]
      refine lc_all itD (fun i => .bl (decide (i ∈ selN n (Ups ps b)))) _ rfl (by omega) fun i _ => ⟨_, rfl, ?_⟩
      simp [el_clash_in_0, itD, fIn_tN]
    simp [t_clash_in, pn_1, c2, lc, anyF_map]
  · rw [List.any_eq_true]
    unfold Clash
    constructor
    · rintro ⟨i, h, g⟩
      exact ⟨i, (mem_selN.mp h).2, (mem_selN.mp (of_decide_eq_true g)).2⟩
    · rintro ⟨i, h, g⟩
      have := grd_lt w.up ha h
      exact ⟨i, mem_selN.mpr ⟨this, h⟩, decide_eq_true (mem_selN.mpr ⟨this, g⟩)⟩
def C_need_pins (f : Sm) : Prop := ∀ n ps a b st, WfO n ps → Lot n a → Lot n b → ¬ Clash ps a b → callS f [oD n ps, pnD a b] st = some (.ok .non st)
theorem c_need_pins {fs : Nat → Sm} {k1 k2 : Nat} (h1 : C_is_pins (fs k1)) (h2 : C_clash_in (fs k2)) : C_need_pins (semOf 2 (dB fs (t_need_pins k1 k2))) := by
  intro n ps a b st w ha hb hc
  obtain ⟨c, c2, c3⟩ := h2 n ps a b [] w ha hb
  have : c = false := by cases c with | false => rfl | true => exact absurd (c3.mp rfl) hc
  subst this
  refine call_free (st' := []) (frees_op n ps a b) rfl ?_
  simp [t_need_pins, h1 n ps a b [] ha hb w.le, c2]
def C_open_in (f : Sm) : Prop := ∀ n ps a b st, WfO n ps → Lot n a → Lot n b → callS f [oD n ps, pnD a b] st = some (.ok (tN (selN n fun i => ¬ Grd ps a i ∧ ¬ Ups ps b i)) st)
theorem fCatN {a b : List D} {st : Sto} (h : a.length + b.length ≤ 1000000) : fOr fAdd fCatL (.tup a) (.tup b) st = some (.ok (.tup (a ++ b)) st) := by
  have e : fAdd (.tup a) (.tup b) st = some (.ok (.tup (a ++ b)) st) := by
    simp only [fAdd, fOr, fI, fCatT, ble_ok h]
  simp only [fOr, e]
theorem tN_app (a b : List Nat) : D.tup (a.map itD ++ b.map itD) = tN (a ++ b) := by simp [tN]
theorem c_open_in {fs : Nat → Sm} {k1 k2 : Nat} (h1 : C_ground_in (fs k1)) (h2 : C_sure_out_in (fs k2)) : C_open_in (semOf 4 (dB fs (t_open_in k1 k2))) := by
  intro n ps a b st w ha hb
  have c1 := h1 n ps a [] w ha
  have c2 := h2 n ps b [] w hb
  have hn := w.le
  have lg := selN_len n (Grd ps a)
  have lu := selN_len n (Ups ps b)
  refine call_free (st' := []) (frees_op n ps a b) (free_tN _) ?_
  have ct : fOr fAdd fCatL (tN (selN n (Grd ps a))) (tN (selN n (Ups ps b))) [] = some (.ok (tN (selN n (Grd ps a) ++ selN n (Ups ps b))) []) := by
    rw [← tN_app]
    exact fCatN (by simp; omega)
  have rg := rng1_n (fs := fs) (env := [some (oD n ps), some (pnD a b), some (tN (selN n (Grd ps a) ++ selN n (Ups ps b))), none]) (a := .ix (.var 0) (.int 0)) (n := n) (st := []) (st1 := []) (by omega) (by simp [oD])
  have lc : dL fs (.lc (.rng1 (.cons (.ix (.var 0) (.int 0)) .nil)) (.var 3) te_open_in_0 el_open_in_1 [3]) [some (oD n ps), some (pnD a b), some (tN (selN n (Grd ps a) ++ selN n (Ups ps b))), none] [] = some (.ok ((selN n fun i => ¬ Grd ps a i ∧ ¬ Ups ps b i).map itD) []) := by
    rw [el_lc, rg, thn_ok, rngD0]
    rw [lc_map (fun k : Nat => D.int (k : Int)) (fun k => !decide (k ∈ selN n (Grd ps a) ++ selN n (Ups ps b))) (fun k => itD k) rfl (List.range n) [] (by simp; omega) (fun k hk => ⟨[some (oD n ps), some (pnD a b), some (tN (selN n (Grd ps a) ++ selN n (Ups ps b))), some (.int (k : Int))], by simp, by simp [te_open_in_0, fNotIn_tN], fun _ => by simp [el_open_in_1, itD]⟩)]
    rw [filter_sel (P := fun i => ¬ Grd ps a i ∧ ¬ Ups ps b i) (fun k hk => by
      simp only [Bool.not_eq_true', decide_eq_false_iff_not, List.mem_append, mem_selN, hk, true_and, not_or])]
    rfl
  simp [t_open_in, pn_0, pn_1, c1, c2, ct, lc, bTupF]
  rfl
def C_nearest_in (f : Sm) : Prop := ∀ n ps a b l st, WfO n ps → Lot n a → Lot n b → Lot n l → callS f [oD n ps, pnD a b, tN l] st = some (.ok (tN (selN n fun i => (Grd ps a i ∨ i ∈ l) ∧ ¬ Ups ps b i)) st)
theorem c_nearest_in {fs : Nat → Sm} {k1 k2 : Nat} (h1 : C_ground_in (fs k1)) (h2 : C_sure_out_in (fs k2)) : C_nearest_in (semOf 6 (dB fs (t_nearest_in k1 k2))) := by
  intro n ps a b l st w ha hb hl
  have c1 := h1 n ps a [] w ha
  have c2 := h2 n ps b [] w hb
  have hn := w.le
  refine call_free (st' := []) (frees_opl n ps a b l) (free_tN _) ?_
  have rg := rng1_n (fs := fs) (env := [some (oD n ps), some (pnD a b), some (tN l), some (tN (selN n (Grd ps a))), some (tN (selN n (Ups ps b))), none]) (a := .ix (.var 0) (.int 0)) (n := n) (st := []) (st1 := []) (by omega) (by simp [oD])
  have lc : dL fs (.lc (.rng1 (.cons (.ix (.var 0) (.int 0)) .nil)) (.var 5) te_nearest_in_0 el_nearest_in_1 [5]) [some (oD n ps), some (pnD a b), some (tN l), some (tN (selN n (Grd ps a))), some (tN (selN n (Ups ps b))), none] [] = some (.ok ((selN n fun i => (Grd ps a i ∨ i ∈ l) ∧ ¬ Ups ps b i).map itD) []) := by
    rw [el_lc, rg, thn_ok, rngD0]
    rw [lc_map (fun k : Nat => D.int (k : Int)) (fun k => (decide (k ∈ selN n (Grd ps a)) || decide (k ∈ l)) && !decide (k ∈ selN n (Ups ps b))) (fun k => itD k) rfl (List.range n) [] (by simp; omega) (fun k hk => ⟨[some (oD n ps), some (pnD a b), some (tN l), some (tN (selN n (Grd ps a))), some (tN (selN n (Ups ps b))), some (.int (k : Int))], by simp, ?_, fun _ => by simp [el_nearest_in_1, itD]⟩)]
    · rw [filter_sel (P := fun i => (Grd ps a i ∨ i ∈ l) ∧ ¬ Ups ps b i) (fun k hk => by
        simp only [Bool.and_eq_true, Bool.or_eq_true, decide_eq_true_eq, Bool.not_eq_true', decide_eq_false_iff_not, mem_selN, hk, true_and])]
      rfl
    · by_cases e1 : k ∈ selN n (Grd ps a) <;> by_cases e2 : k ∈ l <;> simp [te_nearest_in_0, fIn_tN, fNotIn_tN, e1, e2]
  simp [t_nearest_in, pn_0, pn_1, c1, c2, lc, bTupF]
  rfl
/-! ### what is asked for -/
theorem c_do_clash {fs : Nat → Sm} {k1 k2 k3 : Nat} (h1 : C_need_order (fs k1)) (h2 : C_is_pins (fs k2)) (h3 : C_clash_in (fs k3)) : C_clash_in (semOf 2 (dB fs (t_do_clash k1 k2 k3))) := by
  intro n ps a b st w ha hb
  obtain ⟨c, c2, c3⟩ := h3 n ps a b [] w ha hb
  refine ⟨c, call_free (st' := []) (frees_op n ps a b) rfl ?_, c3⟩
  simp [t_do_clash, need_good h1 w, h2 n ps a b [] ha hb w.le, c2]
/-- it fits pins -/
def Fit (a b l : List Nat) : Prop := (∀ x ∈ a, x ∈ l) ∧ ∀ x ∈ b, x ∉ l
def C_does_fit (f : Sm) : Prop := ∀ n ps a b l st, WfO n ps → Lot n a → Lot n b → ¬ Clash ps a b → Lw n ps l → ∃ c, callS f [oD n ps, pnD a b, tN l] st = some (.ok (.bl c) st) ∧ (c = true ↔ Fit a b l)
theorem c_does_fit {fs : Nat → Sm} {k1 k2 k3 : Nat} (h1 : C_need_order (fs k1)) (h2 : C_need_lower (fs k2)) (h3 : C_need_pins (fs k3)) : C_does_fit (semOf 4 (dB fs (t_does_fit k1 k2 k3))) := by
  intro n ps a b l st w ha hb hc hl
  have c1 := need_good h1 w []
  have c2 := h2 n ps l [] w hl
  have c3 := h3 n ps a b [] w ha hb hc
  have hn := w.le
  have la := ha.len
  have lb := hb.len
  have lc1 : dL fs (.lcV (.ix (.var 1) (.int 0)) (.var 3) .tru el_does_fit_0 [3]) [some (oD n ps), some (pnD a b), some (tN l), none] [] = some (.ok (a.map fun i => .bl (decide (i ∈ l))) []) := by
    rw [lcV_tup (ds := a.map itD) (by simp [pn_0]; rfl)]
    refine lc_all itD (fun i => .bl (decide (i ∈ l))) a rfl (by omega) fun i _ => ⟨_, rfl, ?_⟩
    simp [el_does_fit_0, itD, fIn_tN]
  have lc2 : dL fs (.lcV (.ix (.var 1) (.int 1)) (.var 3) .tru el_does_fit_1 [3]) [some (oD n ps), some (pnD a b), some (tN l), none] [] = some (.ok (b.map fun i => .bl (decide (i ∈ l))) []) := by
    rw [lcV_tup (ds := b.map itD) (by simp [pn_1]; rfl)]
    refine lc_all itD (fun i => .bl (decide (i ∈ l))) b rfl (by omega) fun i _ => ⟨_, rfl, ?_⟩
    simp [el_does_fit_1, itD, fIn_tN]
  refine ⟨(a.all fun i => decide (i ∈ l)) && !(b.any fun i => decide (i ∈ l)), call_free (st' := []) (frees_opl n ps a b l) rfl ?_, ?_⟩
  · cases e : (a.all fun i => decide (i ∈ l)) <;> simp [t_does_fit, c1, c2, c3, lc1, lc2, allF_map, anyF_map, e]
  · rw [Bool.and_eq_true, List.all_eq_true, Bool.not_eq_true', List.any_eq_false]
    unfold Fit
    simp only [decide_eq_true_eq]
def C_sure (f : Sm) (F : List (Nat × Nat) → List Nat → List Nat → Nat → Prop) : Prop := ∀ n ps a b st, WfO n ps → Lot n a → Lot n b → ¬ Clash ps a b → callS f [oD n ps, pnD a b] st = some (.ok (tN (selN n (F ps a b))) st)
theorem c_sure_in {fs : Nat → Sm} {k1 k2 k3 : Nat} (h1 : C_need_order (fs k1)) (h2 : C_ground_in (fs k2)) (h3 : C_need_pins (fs k3)) : C_sure (semOf 2 (dB fs (t_sure_in k1 k2 k3))) fun ps a _ => Grd ps a := by
  intro n ps a b st w ha hb hc
  refine call_free (st' := []) (frees_op n ps a b) (free_tN _) ?_
  simp [t_sure_in, need_good h1 w, h3 n ps a b [] w ha hb hc, pn_0, h2 n ps a [] w ha]
theorem c_sure_out {fs : Nat → Sm} {k1 k2 k3 : Nat} (h1 : C_need_order (fs k1)) (h2 : C_sure_out_in (fs k2)) (h3 : C_need_pins (fs k3)) : C_sure (semOf 2 (dB fs (t_sure_out k1 k2 k3))) fun ps _ b => Ups ps b := by
  intro n ps a b st w ha hb hc
  refine call_free (st' := []) (frees_op n ps a b) (free_tN _) ?_
  simp [t_sure_out, need_good h1 w, h3 n ps a b [] w ha hb hc, pn_1, h2 n ps b [] w hb]
theorem c_open_items {fs : Nat → Sm} {k1 k2 k3 : Nat} (h1 : C_need_order (fs k1)) (h2 : C_need_pins (fs k2)) (h3 : C_open_in (fs k3)) : C_sure (semOf 2 (dB fs (t_open_items k1 k2 k3))) fun ps a b i => ¬ Grd ps a i ∧ ¬ Ups ps b i := by
  intro n ps a b st w ha hb hc
  refine call_free (st' := []) (frees_op n ps a b) (free_tN _) ?_
  simp [t_open_items, need_good h1 w, h2 n ps a b [] w ha hb hc, h3 n ps a b [] w ha hb]
/-- the nearest one that fits -/
noncomputable def nrs (n : Nat) (ps : List (Nat × Nat)) (a b l : List Nat) : List Nat := selN n fun i => (Grd ps a i ∨ i ∈ l) ∧ ¬ Ups ps b i
def C_nearest (f : Sm) : Prop := ∀ n ps a b l st, WfO n ps → Lot n a → Lot n b → ¬ Clash ps a b → Lw n ps l → callS f [oD n ps, pnD a b, tN l] st = some (.ok (tN (nrs n ps a b l)) st)
theorem c_nearest {fs : Nat → Sm} {k1 k2 k3 k4 : Nat} (h1 : C_need_order (fs k1)) (h2 : C_need_lower (fs k2)) (h3 : C_need_pins (fs k3)) (h4 : C_nearest_in (fs k4)) : C_nearest (semOf 3 (dB fs (t_nearest k1 k2 k3 k4))) := by
  intro n ps a b l st w ha hb hc hl
  refine call_free (st' := []) (frees_opl n ps a b l) (free_tN _) ?_
  simp [t_nearest, need_good h1 w, h2 n ps l [] w hl, h3 n ps a b [] w ha hb hc, h4 n ps a b l [] w ha hb hl.lot, nrs]
end TA
/-! pins in plain Lean: what fits, what is sure, what is nearest -/
namespace TA
open PySem
theorem grd_down {ps : List (Nat × Nat)} {a : List Nat} {i j : Nat} (h : Grd ps a i) (g : Ahd ps j i) : Grd ps a j := by
  obtain ⟨x, hx, z⟩ := h
  rcases z with rfl | z
  · exact ⟨i, hx, .inr g⟩
  · exact ⟨x, hx, .inr (g.trans z)⟩
theorem ups_up {ps : List (Nat × Nat)} {b : List Nat} {i j : Nat} (h : Ups ps b i) (g : Ahd ps i j) : Ups ps b j := by
  obtain ⟨x, hx, z⟩ := h
  rcases z with rfl | z
  · exact ⟨i, hx, .inr g⟩
  · exact ⟨x, hx, .inr (z.trans g)⟩
theorem lw_grd {n : Nat} {ps : List (Nat × Nat)} {a : List Nat} (u : Up n ps) : Lw n ps (selN n (Grd ps a)) := ⟨lot_sel _ _, fun x hx y hy => by
  have h := mem_selN.mp hx
  have := hy.lt u
  exact mem_selN.mpr ⟨by omega, grd_down h.2 hy⟩⟩
theorem fit_grd {n : Nat} {ps : List (Nat × Nat)} {a b c : List Nat} (hc : ∀ x ∈ c, x < n) (ha : ∀ x ∈ a, x ∈ c) (h : ¬ Clash ps c b) : Fit a b (selN n (Grd ps c)) := ⟨fun x hx => mem_selN.mpr ⟨hc x (ha x hx), x, ha x hx, .inl rfl⟩, fun x hx hg => h ⟨x, (mem_selN.mp hg).2, x, hx, .inl rfl⟩⟩
theorem fit_in {n : Nat} {ps : List (Nat × Nat)} {a b F : List Nat} (w : Lw n ps F) (f : Fit a b F) {i : Nat} (h : Grd ps a i) : i ∈ F := by
  obtain ⟨x, hx, z⟩ := h
  rcases z with rfl | z
  · exact f.1 _ hx
  · exact w.dn x (f.1 x hx) i z
theorem fit_out {n : Nat} {ps : List (Nat × Nat)} {a b F : List Nat} (w : Lw n ps F) (f : Fit a b F) {i : Nat} (h : Ups ps b i) : i ∉ F := by
  obtain ⟨x, hx, z⟩ := h
  rcases z with rfl | z
  · exact f.2 _ hx
  · exact fun hi => f.2 x hx (w.dn i hi x z)
theorem clash_fit {n : Nat} {ps : List (Nat × Nat)} {a b : List Nat} (u : Up n ps) (ha : Lot n a) : Clash ps a b ↔ ¬ ∃ F, Lw n ps F ∧ Fit a b F := by
  constructor
  · rintro ⟨i, h, g⟩ ⟨F, w, f⟩
    exact fit_out w f g (fit_in w f h)
  · intro h
    by_cases c : Clash ps a b
    · exact c
    · exact absurd ⟨_, lw_grd u, fit_grd ha.lt (fun _ h => h) c⟩ h
theorem sure_in_iff {n : Nat} {ps : List (Nat × Nat)} {a b : List Nat} {i : Nat} (u : Up n ps) (ha : Lot n a) (hc : ¬ Clash ps a b) : (∀ F, Lw n ps F → Fit a b F → i ∈ F) ↔ Grd ps a i := by
  constructor
  · intro h
    exact (mem_selN.mp (h _ (lw_grd u) (fit_grd ha.lt (fun _ h => h) hc))).2
  · intro h F w f
    exact fit_in w f h
theorem sure_out_iff {n : Nat} {ps : List (Nat × Nat)} {a b : List Nat} {i : Nat} (u : Up n ps) (hi : i < n) (ha : Lot n a) (hc : ¬ Clash ps a b) : (∀ F, Lw n ps F → Fit a b F → i ∉ F) ↔ Ups ps b i := by
  constructor
  · intro h
    by_cases g : Ups ps b i
    · exact g
    · have nc : ¬ Clash ps (i :: a) b := by
        rintro ⟨j, ⟨x, hx, z⟩, q⟩
        rcases List.mem_cons.mp hx with rfl | hx
        · rcases z with rfl | z
          · exact g q
          · exact g (ups_up q z)
        · exact hc ⟨j, ⟨x, hx, z⟩, q⟩
      have l : ∀ x ∈ i :: a, x < n := fun x hx => by
        rcases List.mem_cons.mp hx with rfl | hx
        · exact hi
        · exact ha.lt x hx
      exact absurd (mem_selN.mpr ⟨hi, i, List.mem_cons_self, .inl rfl⟩) (h _ (lw_grd u) (fit_grd l (fun x hx => List.mem_cons_of_mem _ hx) nc))
  · intro h F w f
    exact fit_out w f h
theorem mem_nrs {n : Nat} {ps : List (Nat × Nat)} {a b l : List Nat} {i : Nat} : i ∈ nrs n ps a b l ↔ i < n ∧ (Grd ps a i ∨ i ∈ l) ∧ ¬ Ups ps b i := mem_selN
theorem lw_nrs {n : Nat} {ps : List (Nat × Nat)} {a b l : List Nat} (u : Up n ps) (hl : Lw n ps l) : Lw n ps (nrs n ps a b l) := ⟨lot_sel _ _, fun x hx y hy => by
  obtain ⟨h1, h2, h3⟩ := mem_nrs.mp hx
  have := hy.lt u
  refine mem_nrs.mpr ⟨by omega, ?_, fun q => h3 (ups_up q hy)⟩
  rcases h2 with h2 | h2
  · exact .inl (grd_down h2 hy)
  · exact .inr (hl.dn x h2 y hy)⟩
theorem fit_nrs {n : Nat} {ps : List (Nat × Nat)} {a b l : List Nat} (ha : Lot n a) (hc : ¬ Clash ps a b) : Fit a b (nrs n ps a b l) := ⟨fun x hx => mem_nrs.mpr ⟨ha.lt x hx, .inl ⟨x, hx, .inl rfl⟩, fun q => hc ⟨x, ⟨x, hx, .inl rfl⟩, q⟩⟩, fun x hx h => (mem_nrs.mp h).2.2 ⟨x, hx, .inl rfl⟩⟩
/-- how far apart -/
noncomputable def farN (n : Nat) (a b : List Nat) : Nat := (selN n fun i => i ∈ a ∧ i ∉ b).length + (selN n fun i => i ∈ b ∧ i ∉ a).length
open Classical in
theorem selN_sub {n : Nat} {P Q : Nat → Prop} (h : ∀ i, i < n → P i → Q i) : (selN n P).Sublist (selN n Q) := by
  have e : selN n P = (selN n Q).filter fun i => decide (P i) := by
    unfold selN
    rw [List.filter_filter]
    refine List.filter_congr fun i hi => ?_
    have hi' := List.mem_range.mp hi
    by_cases p : P i
    · simp [p, h i hi' p]
    · simp [p]
  rw [e]
  exact List.filter_sublist
theorem far_le {n : Nat} {ps : List (Nat × Nat)} {a b l F : List Nat} (w : Lw n ps F) (f : Fit a b F) (hc : ¬ Clash ps a b) : farN n l (nrs n ps a b l) ≤ farN n l F ∧ (farN n l (nrs n ps a b l) = farN n l F → F = nrs n ps a b l) := by
  have s1 : (selN n fun i => i ∈ l ∧ i ∉ nrs n ps a b l).Sublist (selN n fun i => i ∈ l ∧ i ∉ F) := selN_sub fun i hi ⟨h1, h2⟩ => ⟨h1, by
    by_cases q : Ups ps b i
    · exact fit_out w f q
    · exact absurd (mem_nrs.mpr ⟨hi, .inr h1, q⟩) h2⟩
  have s2 : (selN n fun i => i ∈ nrs n ps a b l ∧ i ∉ l).Sublist (selN n fun i => i ∈ F ∧ i ∉ l) := selN_sub fun i hi ⟨h1, h2⟩ => ⟨by
    rcases (mem_nrs.mp h1).2.1 with q | q
    · exact fit_in w f q
    · exact absurd q h2, h2⟩
  have l1 := s1.length_le
  have l2 := s2.length_le
  unfold farN
  refine ⟨by omega, fun e => ?_⟩
  have e1 := s1.eq_of_length (by omega)
  have e2 := s2.eq_of_length (by omega)
  refine asc_uniq w.lot.asc (selN_asc _ _) fun x => ?_
  show x ∈ F ↔ x ∈ nrs n ps a b l
  have m1 : x ∈ (selN n fun i => i ∈ l ∧ i ∉ nrs n ps a b l) ↔ x ∈ (selN n fun i => i ∈ l ∧ i ∉ F) := by rw [e1]
  have m2 : x ∈ (selN n fun i => i ∈ nrs n ps a b l ∧ i ∉ l) ↔ x ∈ (selN n fun i => i ∈ F ∧ i ∉ l) := by rw [e2]
  rw [mem_selN, mem_selN] at m1 m2
  by_cases hn : x < n
  · simp only [hn, true_and] at m1 m2
    by_cases hl : x ∈ l
    · simp only [hl, true_and] at m1
      exact ⟨fun h => Decidable.byContradiction fun g => (m1.mp g) h, fun h => Decidable.byContradiction fun g => (m1.mpr g) h⟩
    · simp only [hl, not_false_eq_true, and_true] at m2
      exact m2.symm
  · exact ⟨fun h => absurd (w.lot.lt x h) hn, fun h => absurd (mem_nrs.mp h).1 hn⟩
theorem grd_mono {ps : List (Nat × Nat)} {a a' : List Nat} (h : ∀ x ∈ a, x ∈ a') {i : Nat} (g : Grd ps a i) : Grd ps a' i := by
  obtain ⟨x, hx, z⟩ := g
  exact ⟨x, h x hx, z⟩
theorem ups_mono {ps : List (Nat × Nat)} {a a' : List Nat} (h : ∀ x ∈ a, x ∈ a') {i : Nat} (g : Ups ps a i) : Ups ps a' i := by
  obtain ⟨x, hx, z⟩ := g
  exact ⟨x, h x hx, z⟩
theorem clash_mono {ps : List (Nat × Nat)} {a a' b b' : List Nat} (h : ∀ x ∈ a, x ∈ a') (g : ∀ x ∈ b, x ∈ b') (hc : ¬ Clash ps a' b') : ¬ Clash ps a b := fun ⟨i, h1, h2⟩ => hc ⟨i, grd_mono h h1, ups_mono g h2⟩
theorem nrs_nrs {n : Nat} {ps : List (Nat × Nat)} {a a' b b' l : List Nat} (h : ∀ x ∈ a, x ∈ a') (g : ∀ x ∈ b, x ∈ b') : nrs n ps a' b' (nrs n ps a b l) = nrs n ps a' b' l := by
  unfold nrs
  refine selN_congr fun i hi => ?_
  rw [mem_selN]
  constructor
  · rintro ⟨h1, h2⟩
    refine ⟨?_, h2⟩
    rcases h1 with h1 | ⟨_, h1, _⟩
    · exact .inl h1
    · exact h1.elim (fun z => .inl (grd_mono h z)) .inr
  · rintro ⟨h1, h2⟩
    refine ⟨?_, h2⟩
    rcases h1 with h1 | h1
    · exact .inl h1
    · exact .inr ⟨hi, .inr h1, fun q => h2 (ups_mono g q)⟩
theorem nrs_nil {n : Nat} {ps : List (Nat × Nat)} {l : List Nat} (hl : Lot n l) : nrs n ps [] [] l = l := by
  rw [← lot_eq hl]
  unfold nrs
  refine selN_congr fun i hi => ?_
  rw [lot_eq hl]
  simp [Grd, Ups]
end TA
/-! the laws' own lower sets -/
namespace TA
open PySem
/-- what stands when the items below i are done -/
structure Lws (n : Nat) (ps : List (Nat × Nat)) (i : Nat) (L : List (List Nat)) : Prop where
  nd : L.Nodup
  mem : ∀ l, l ∈ L ↔ Lw n ps l ∧ ∀ x ∈ l, x < i
  len : L.length ≤ 2 ^ i
  hd : ∃ r, L = [] :: r
theorem lw_nil (n : Nat) (ps : List (Nat × Nat)) : Lw n ps [] := ⟨⟨.nil, by simp⟩, by simp⟩
theorem lws_zero (n : Nat) (ps : List (Nat × Nat)) : Lws n ps 0 [[]] := ⟨by simp, fun l => by
  simp only [List.mem_singleton]
  constructor
  · rintro rfl
    exact ⟨lw_nil n ps, by simp⟩
  · rintro ⟨_, h⟩
    cases l with
    | nil => rfl
    | cons x l => exact absurd (h x List.mem_cons_self) (by omega), by simp, [], rfl⟩
noncomputable def okL (ps : List (Nat × Nat)) (n i : Nat) (l : List Nat) : Bool := ((ahT ps n i).filter fun x => !decide (x ∈ l)).isEmpty
theorem okL_iff {ps : List (Nat × Nat)} {n i : Nat} {l : List Nat} (u : Up n ps) : okL ps n i l = true ↔ ∀ x, Ahd ps x i → x ∈ l := by
  unfold okL
  rw [List.isEmpty_iff, List.filter_eq_nil_iff]
  constructor
  · intro h x hx
    have := h x ((mem_ahT u).mpr hx)
    simpa using this
  · intro h x hx
    have := h x ((mem_ahT u).mp hx)
    simpa using this
noncomputable def moreL (ps : List (Nat × Nat)) (n i : Nat) (L : List (List Nat)) : List (List Nat) := (L.filter (okL ps n i)).map fun l => l ++ [i]
theorem asc_app {l : List Nat} {i : Nat} (h : l.Pairwise (· < ·)) (g : ∀ x ∈ l, x < i) : (l ++ [i]).Pairwise (· < ·) := by
  rw [List.pairwise_append]
  exact ⟨h, by simp, fun x hx y hy => by simp at hy; subst hy; exact g x hx⟩
theorem lws_step {n i : Nat} {ps : List (Nat × Nat)} {L : List (List Nat)} (u : Up n ps) (hi : i < n) (h : Lws n ps i L) : Lws n ps (i + 1) (L ++ moreL ps n i L) := by
  refine ⟨?_, fun l => ?_, ?_, ?_⟩
  · rw [List.nodup_append]
    refine ⟨h.nd, ?_, fun l hl l' hl' e => ?_⟩
    · unfold moreL List.Nodup
      rw [List.pairwise_map]
      refine (List.Pairwise.filter _ h.nd).imp fun {a b} ne e => ne ?_
      exact List.append_cancel_right e
    · subst e
      obtain ⟨l0, _, e⟩ := List.mem_map.mp hl'
      have := ((h.mem l).mp hl).2 i (by rw [← e]; simp)
      omega
  · rw [List.mem_append, h.mem]
    constructor
    · rintro (⟨a, b⟩ | h2)
      · exact ⟨a, fun x hx => by have := b x hx; omega⟩
      · obtain ⟨l0, hl0, rfl⟩ := List.mem_map.mp h2
        obtain ⟨m0, ok⟩ := List.mem_filter.mp hl0
        obtain ⟨w, lt⟩ := (h.mem l0).mp m0
        rw [okL_iff u] at ok
        refine ⟨⟨⟨asc_app w.lot.asc lt, fun x hx => ?_⟩, fun x hx y hy => ?_⟩, fun x hx => ?_⟩
        · rcases List.mem_append.mp hx with hx | hx
          · exact w.lot.lt x hx
          · simp at hx; omega
        · rcases List.mem_append.mp hx with hx | hx
          · exact List.mem_append.mpr (.inl (w.dn x hx y hy))
          · simp at hx; subst hx; exact List.mem_append.mpr (.inl (ok y hy))
        · rcases List.mem_append.mp hx with hx | hx
          · have := lt x hx; omega
          · simp at hx; omega
    · rintro ⟨w, lt⟩
      by_cases c : i ∈ l
      · refine .inr (List.mem_map.mpr ⟨l.filter fun x => decide (x < i), List.mem_filter.mpr ⟨(h.mem _).mpr ⟨⟨⟨List.Pairwise.filter _ w.lot.asc, fun x hx => w.lot.lt x (List.mem_filter.mp hx).1⟩, fun x hx y hy => ?_⟩, fun x hx => of_decide_eq_true (List.mem_filter.mp hx).2⟩, ?_⟩, ?_⟩)
        · obtain ⟨h1, h2⟩ := List.mem_filter.mp hx
          have := hy.lt u
          have := of_decide_eq_true h2
          exact List.mem_filter.mpr ⟨w.dn x h1 y hy, decide_eq_true (by omega)⟩
        · rw [okL_iff u]
          intro x hx
          have := hx.lt u
          exact List.mem_filter.mpr ⟨w.dn i c x hx, decide_eq_true (by omega)⟩
        · refine asc_uniq (asc_app (List.Pairwise.filter _ w.lot.asc) fun x hx => of_decide_eq_true (List.mem_filter.mp hx).2) w.lot.asc fun x => ?_
          simp only [List.mem_append, List.mem_filter, List.mem_singleton, decide_eq_true_eq]
          constructor
          · rintro (h1 | rfl)
            · exact h1.1
            · exact c
          · intro hx
            have := lt x hx
            by_cases e : x = i
            · exact .inr e
            · exact .inl ⟨hx, by omega⟩
      · refine .inl ⟨w, fun x hx => ?_⟩
        have := lt x hx
        have : x ≠ i := fun e => c (e ▸ hx)
        omega
  · have := h.len
    have h2 : (moreL ps n i L).length ≤ L.length := by
      unfold moreL
      rw [List.length_map]
      exact List.length_filter_le _ _
    rw [List.length_append, Nat.pow_succ]
    omega
  · obtain ⟨r, e⟩ := h.hd
    exact ⟨r ++ moreL ps n i L, by rw [e]; rfl⟩
theorem mem_lws {n : Nat} {ps : List (Nat × Nat)} {L : List (List Nat)} (h : Lws n ps n L) (l : List Nat) : l ∈ L ↔ Lw n ps l := by
  rw [h.mem]
  exact ⟨fun h => h.1, fun h => ⟨h, h.lot.lt⟩⟩
/-! ### sorted -/
theorem ints_it : ∀ l : List Nat, ints? (l.map itD) = some (l.map fun (k : Nat) => (k : Int))
  | [] => rfl
  | a :: l => by simp only [List.map_cons, itD, ints?, ints_it l]
theorem tups_tN : ∀ L : List (List Nat), tups? (L.map tN) = some (L.map fun l => l.map fun (k : Nat) => (k : Int))
  | [] => rfl
  | a :: l => by simp only [List.map_cons, tN, tups?, ints_it, tups_tN l]
theorem perm_map_back {α β : Type} (f : α → β) {l : List α} {m : List β} (h : m.Perm (l.map f)) : ∃ l' : List α, l'.Perm l ∧ m = l'.map f := by
  generalize e : l.map f = k at h
  induction h generalizing l with
  | nil =>
    have : l = [] := List.map_eq_nil_iff.mp e
    subst this
    exact ⟨[], .refl _, rfl⟩
  | cons x h ih =>
    rename_i l1 l2
    cases l with
    | nil => cases e
    | cons a l =>
      simp only [List.map_cons, List.cons.injEq] at e
      obtain ⟨l', p, q⟩ := ih e.2
      exact ⟨a :: l', p.cons a, by rw [q, List.map_cons, e.1]⟩
  | swap x y l2 =>
    match l, e with
    | a :: b :: l, e =>
      simp only [List.map_cons, List.cons.injEq] at e
      exact ⟨b :: a :: l, .swap a b l, by simp [e.1, e.2.1, e.2.2]⟩
  | trans h1 h2 ih1 ih2 =>
    obtain ⟨l', p, q⟩ := ih2 e
    obtain ⟨l'', p', q'⟩ := ih1 q.symm
    exact ⟨l'', p'.trans p, q'⟩
theorem sorted_lots {m : Nat} {L : List (List Nat)} {st : Sto} (hs : st[m]? = some (.lst (L.map tN))) (hd : ∃ r, L = [] :: r) : ∃ L' : List (List Nat), L'.Perm L ∧ lSort (.at (.loc m)) st = some (L'.map tN) := by
  obtain ⟨L', p, e⟩ := perm_map_back (fun l : List Nat => l.map fun (k : Nat) => (k : Int)) (sortT_perm (L.map fun l => l.map fun (k : Nat) => (k : Int)))
  refine ⟨L', p, ?_⟩
  have e0 : flItems st (.at (.loc m)) = some (L.map tN) := by simp only [flItems, hs]
  have e1 : lSorted (.at (.loc m)) st = none := by
    obtain ⟨r, rfl⟩ := hd
    simp only [lSorted, hs]
    rfl
  have e2 : lSortedP (.at (.loc m)) st = none := by
    obtain ⟨r, rfl⟩ := hd
    simp only [lSortedP, e0]
    rfl
  have e3 : okH (L.map fun l => l.map fun (k : Nat) => (k : Int)) = true := by
    obtain ⟨r, rfl⟩ := hd
    rfl
  have e4 : lSortedT (.at (.loc m)) st = some (L'.map tN) := by
    simp only [lSortedT, e0, tups_tN, e3, e, List.map_map]
    congr 1
    refine List.map_congr_left fun l _ => ?_
    simp only [Function.comp_apply, tiD, tN, List.map_map]
    rfl
  simp only [lSort, lOr, e1, e2, e4]
/-! ### the def -/
theorem set_end {st : Sto} {o o' : O} : (st ++ [o]).set st.length o' = st ++ [o'] := by
  rw [List.set_append_right st.length _ (Nat.le_refl _), Nat.sub_self]
  rfl
theorem get_end {st : Sto} {o : O} : (st ++ [o])[st.length]? = some o := by simp
theorem ll_inner {fs : Nat → Sm} {n i m : Nat} {ps : List (Nat × Nat)} {L : List (List Nat)} {st : Sto} {e0 e5 : Option D} (u : Up n ps) (hn : n ≤ 20) (hi : i < n) (t : LTab st 0 n (ahT ps n)) (hm : st[m]? = some (.lst (L.map tN))) (hL : L.length ≤ 1000) (hl : ∀ l ∈ L, l.length ≤ 20) :
    ∃ e5', forL (lstIs m (L.map tN)) (.nm 5) (dB fs bd__law_lowers_1) (L.map tN) [e0, some (.int (i : Int)), some (.loc 0), some (.loc m), some (.loc st.length), e5, none] (st ++ [.lst []]) = some (.nx [e0, some (.int (i : Int)), some (.loc 0), some (.loc m), some (.loc st.length), e5', none] (st ++ [.lst ((moreL ps n i L).map tN)])) := by
  obtain ⟨env2, st2, r, ⟨e5', rfl, rfl⟩⟩ := for_list (C := lstIs m (L.map tN)) (tg := .nm 5) (body := dB fs bd__law_lowers_1) tN
    (fun q env s => ∃ e5, env = [e0, some (.int (i : Int)), some (.loc 0), some (.loc m), some (.loc st.length), e5, none] ∧ s = st ++ [.lst ((moreL ps n i q).map tN)]) L (env := [e0, some (.int (i : Int)), some (.loc 0), some (.loc m), some (.loc st.length), e5, none]) (st := st ++ [.lst []]) ⟨e5, rfl, rfl⟩
    (by rintro q env s ⟨_, rfl, rfl⟩; exact lstIs_self (get_ext hm _))
    (by
      rintro q l r env s ha ⟨e5, rfl, rfl⟩
      have hll : l.length ≤ 20 := hl l (by rw [ha]; simp)
      have hq : q.length ≤ 1000 := by have := congrArg List.length ha; simp at this; omega
      have hmq : (moreL ps n i q).length ≤ q.length := by unfold moreL; rw [List.length_map]; exact List.length_filter_le _ _
      have t' := t.app [.lst ((moreL ps n i q).map tN)]
      have lr := selN_len n fun k => Ahd ps k i
      have row := t'.row i hi
      have ix := t'.ix hi
      simp only [Nat.zero_add] at ix row
      have lc : dL fs (.lcV (.ix (.var 2) (.var 1)) (.var 6) te__law_lowers_2 el__law_lowers_3 [6]) [e0, some (.int (i : Int)), some (.loc 0), some (.loc m), some (.loc st.length), some (tN l), none] (st ++ [.lst ((moreL ps n i q).map tN)]) = some (.ok (((ahT ps n i).filter fun x => !decide (x ∈ l)).map fun _ => .int 1) (st ++ [.lst ((moreL ps n i q).map tN)])) := by
        rw [lcV_lst (n := 3 * i + 3) (ds := (ahT ps n i).map itD) (by simp [ix]) row]
        rw [lc_map itD (fun x => !decide (x ∈ l)) (fun _ => .int 1) (lstIs_self row) (ahT ps n i) [] (by simp only [List.length_nil]; unfold ahT; omega) (fun x hx => ⟨[e0, some (.int (i : Int)), some (.loc 0), some (.loc m), some (.loc st.length), some (tN l), some (.int (x : Int))], by simp [itD], by simp [te__law_lowers_2, fNotIn_tN], fun _ => by simp [el__law_lowers_3]⟩)]
        rfl
      have eq := eqX_nil (st := st ++ [.lst ((moreL ps n i q).map tN)]) (flPy_fr (ds := ((ahT ps n i).filter fun x => !decide (x ∈ l)).map fun _ => D.int 1) (st := st ++ [.lst ((moreL ps n i q).map tN)]) (fun d hd => by
        obtain ⟨_, _, rfl⟩ := List.mem_map.mp hd
        rfl)) (fun d hd => by
        obtain ⟨_, _, rfl⟩ := List.mem_map.mp hd
        rfl)
      rw [List.isEmpty_map] at eq
      change _ = some (okL ps n i l) at eq
      have ty : isTy "list" (.loc st.length) (st ++ [.lst ((moreL ps n i q).map tN)]) = true := by simp [isTy, tyD]
      have ap := append_at (d := tN (l ++ [i])) (get_end (st := st) (o := .lst ((moreL ps n i q).map tN))) (by simp; omega)
      rw [set_end] at ap
      have ct : fOr fAdd fCatL (tN l) (.tup [.int (i : Int)]) (st ++ [.lst ((moreL ps n i q).map tN)]) = some (.ok (tN (l ++ [i])) (st ++ [.lst ((moreL ps n i q).map tN)])) := by
        rw [← tN_app]
        exact fCatN (by simp; omega)
      have em : moreL ps n i (q ++ [l]) = moreL ps n i q ++ (if okL ps n i l = true then [l ++ [i]] else []) := by
        unfold moreL
        rw [List.filter_append, List.map_append]
        cases e : okL ps n i l <;> simp [e]
      cases ok : okL ps n i l with
      | true =>
        rw [ok] at eq em
        refine ⟨_, rfl, [e0, some (.int (i : Int)), some (.loc 0), some (.loc m), some (.loc st.length), some (tN l), none], _, .inl ?_, some (tN l), rfl, rfl⟩
        rw [em, if_pos rfl, List.map_append]
        simp [bd__law_lowers_1, lc, eq, pickN, ty, ct, ap]
      | false =>
        rw [ok] at eq em
        refine ⟨_, rfl, [e0, some (.int (i : Int)), some (.loc 0), some (.loc m), some (.loc st.length), some (tN l), none], _, .inl ?_, some (tN l), rfl, rfl⟩
        rw [em, if_neg (by simp), List.append_nil]
        simp [bd__law_lowers_1, lc, eq, pickN])
  exact ⟨e5', r⟩
theorem ups_tN (k : Nat) : ∀ L : List (List Nat), D.ups k (L.map tN) = L.map tN
  | [] => rfl
  | l :: L => by simp only [List.map_cons, D.ups, tN, D.up, ups_itD, ups_tN k L]
def C_lowers (f : Sm) : Prop := ∀ n ps st, WfO n ps → n ≤ 6 → ∃ (L : List (List Nat)) (m : Nat) (ext : Sto), callS f [oD n ps] st = some (.ok (.loc m) (st ++ ext)) ∧ (st ++ ext)[m]? = some (.lst (L.map tN)) ∧ st.length ≤ m ∧ L.Nodup ∧ (∀ l, l ∈ L ↔ Lw n ps l) ∧ L.length ≤ 64
theorem c_lowers {fs : Nat → Sm} {k : Nat} (hf : C_aheads (fs k)) : C_lowers (semOf 7 (dB fs (t__law_lowers k))) := by
  intro n ps st w hn
  obtain ⟨ext, c, t⟩ := hf n ps [] w.up w.le w.len
  simp only [List.length_nil, List.nil_append] at c t
  have pw : ∀ i, i ≤ n → 2 ^ i ≤ 64 := fun i hi => by
    have : 2 ^ i ≤ 2 ^ 6 := Nat.pow_le_pow_right (by omega) (by omega)
    simpa using this
  have loop := for_range (C := yes) (tg := .nm 1) (body := dB fs bd__law_lowers_0)
    (fun i env s => ∃ L m x1 x4 x5, env = [some (oD n ps), x1, some (.loc 0), some (.loc m), x4, x5, none] ∧ LTab s 0 n (ahT ps n) ∧ s[m]? = some (.lst (L.map tN)) ∧ Lws n ps i L) n
    (env := [some (oD n ps), none, some (.loc 0), some (.loc ext.length), none, none, none]) (st := ext ++ [.lst [tN []]])
    ⟨[[]], ext.length, none, none, none, rfl, t.app _, by simp, lws_zero n ps⟩ (fun _ _ _ _ => rfl) (by
      rintro i env s hi ⟨L, m, x1, x4, x5, rfl, t, hm, hL⟩
      have hp := pw i (by omega)
      have hl := hL.len
      obtain ⟨e5', r⟩ := ll_inner (fs := fs) (e0 := some (oD n ps)) (e5 := x5) w.up w.le hi t hm (by omega) (fun l h => by
        have := ((hL.mem l).mp h).1.lot.len
        omega)
      have hml : (moreL ps n i L).length ≤ L.length := by unfold moreL; rw [List.length_map]; exact List.length_filter_le _ _
      have hm' := get_ext hm [.lst ((moreL ps n i L).map tN)]
      have ct : fOr fAdd fCatL (.loc m) (.loc s.length) (s ++ [.lst ((moreL ps n i L).map tN)]) = some (.ok (.loc (s.length + 1)) ((s ++ [.lst ((moreL ps n i L).map tN)]) ++ [.lst ((L ++ moreL ps n i L).map tN)])) := by
        have e : fAdd (.loc m) (.loc s.length) (s ++ [.lst ((moreL ps n i L).map tN)]) = none := rfl
        have hb : Nat.ble ((L.map tN).length + ((moreL ps n i L).map tN).length) 1000000 = true := ble_mil (by simp only [List.length_map]; omega)
        simp only [fOr, e, fCatL, lstAt, hm', get_end, hb]
        simp
      refine ⟨_, rfl, [some (oD n ps), some (.int (i : Int)), some (.loc 0), some (.loc (s.length + 1)), some (.loc s.length), e5', none], (s ++ [.lst ((moreL ps n i L).map tN)]) ++ [.lst ((L ++ moreL ps n i L).map tN)], .inl ?_, L ++ moreL ps n i L, s.length + 1, _, _, _, rfl, (t.app _).app _, ?_, lws_step w.up hi hL⟩
      · have fv := forV_lst (fs := fs) (env := [some (oD n ps), some (.int (i : Int)), some (.loc 0), some (.loc m), some (.loc s.length), x5, none]) (st := s ++ [.lst []]) (e := .var 3) (tg := .var 5) (b := bd__law_lowers_1) (n := m) (ds := L.map tN) (by simp) (get_ext hm _)
        rw [tgD_var, r] at fv
        simp only [bd__law_lowers_0, eb_cons, es_set, ev_keep, el_lst, ea_nil, thn_ok, thnS_ok, List.set_cons_succ, List.set_cons_zero, List.length_nil, Nat.ble, fv, ev_add, ev_var, List.getElem?_cons_succ, List.getElem?_cons_zero, ct, eb_nil]
      · have : s.length + 1 = (s ++ [O.lst ((moreL ps n i L).map tN)]).length := by simp
        rw [this]
        exact get_end)
  obtain ⟨env2, st2, r1, ⟨L, m, x1, x4, x5, rfl, t2, hm, hL⟩⟩ := loop
  obtain ⟨L', pm, so⟩ := sorted_lots hm hL.hd
  have se : startE 7 [oD n ps] = [some (oD n ps), none, none, none, none, none, none] := rfl
  have s0 : dS fs (.par2 2 3 (.cons (.call k 1 (.cons (.var 0) .nil)) (.cons (.keep (.lst (.cons (.tup .nil) .nil))) .nil))) [some (oD n ps), none, none, none, none, none, none] [] = some (.nx [some (oD n ps), none, some (.loc 0), some (.loc ext.length), none, none, none] (ext ++ [.lst [tN []]])) := by
    simp [c, tN]
  have rg := rng1_n (fs := fs) (env := [some (oD n ps), none, some (.loc 0), some (.loc ext.length), none, none, none]) (a := .ix (.var 0) (.int 0)) (n := n) (st := ext ++ [.lst [tN []]]) (st1 := ext ++ [.lst [tN []]]) (by omega) (by simp [oD])
  have s1 : dS fs (.for (.rng1 (.cons (.ix (.var 0) (.int 0)) .nil)) (.var 1) bd__law_lowers_0) [some (oD n ps), none, some (.loc 0), some (.loc ext.length), none, none, none] (ext ++ [.lst [tN []]]) = some (.nx [some (oD n ps), x1, some (.loc 0), some (.loc m), x4, x5, none] st2) := by
    simp only [es_for, rg, thnS_ok, tgD_var, r1]
  have run : semOf 7 (dB fs (t__law_lowers k)) [oD n ps] [] = some (.ok (.loc st2.length) (st2 ++ [.lst (L'.map tN)])) := by
    simp only [semOf, se, t__law_lowers, eb_cons, s0, s1]
    simp [so]
  refine ⟨L', st2.length + st.length, (st2 ++ [O.lst (L'.map tN)]).map (O.up st.length), ?_, ?_, by omega, pm.nodup_iff.mpr hL.nd, fun l => by rw [pm.mem_iff, mem_lws hL], by rw [pm.length_eq]; have := hL.len; have := pw n (Nat.le_refl _); omega⟩
  · rw [call_new (frees_oD n ps) rfl run]
    simp [D.up, Nat.add_comm]
  · rw [List.getElem?_append_right (by omega), Nat.add_sub_cancel, List.getElem?_map, get_end]
    simp only [Option.map_some, O.up, ups_tN]
end TA
/-! the laws' own fitting ones, shares, how far -/
namespace TA
open PySem
theorem set_mid {st ext : Sto} {o o' : O} : (st ++ o :: ext).set st.length o' = st ++ o' :: ext := by
  rw [List.set_append_right st.length _ (Nat.le_refl _), Nat.sub_self]
  rfl
theorem get_mid {st ext : Sto} {o : O} : (st ++ o :: ext)[st.length]? = some o := by simp
def fitB (a b l : List Nat) : Bool := ((a.filter fun x => !decide (x ∈ l)) ++ b.filter fun x => decide (x ∈ l)).isEmpty
theorem fitB_iff {a b l : List Nat} : fitB a b l = true ↔ Fit a b l := by
  unfold fitB Fit
  rw [List.isEmpty_iff, List.append_eq_nil_iff, List.filter_eq_nil_iff, List.filter_eq_nil_iff]
  simp
def C_fitting (f : Sm) : Prop := ∀ (m : Nat) (L : List (List Nat)) (a b : List Nat) st, st[m]? = some (.lst (L.map tN)) → L.length ≤ 64 → a.length ≤ 20 → b.length ≤ 20 → ∃ (r : Nat) (ext : Sto), callS f [.loc m, pnD a b] st = some (.ok (.loc r) (st ++ ext)) ∧ (st ++ ext)[r]? = some (.lst ((L.filter (fitB a b)).map tN)) ∧ st.length ≤ r
theorem c_fitting (fs : Nat → Sm) : C_fitting (semOf 6 (dB fs t__law_fitting)) := by
  intro m L a b st hm hL ha hb
  rw [call_loc (by simp [D.frees, D.free])]
  obtain ⟨env2, st2, r1, ⟨x3, x4, ext, rfl, rfl⟩⟩ := for_list (C := lstIs m (L.map tN)) (tg := .nm 3) (body := dB fs bd__law_fitting_0) tN
    (fun q env s => ∃ x3 x4 ext, env = [some (.loc m), some (pnD a b), some (.loc st.length), x3, x4, none] ∧ s = st ++ .lst ((q.filter (fitB a b)).map tN) :: ext) L
    (env := [some (.loc m), some (pnD a b), some (.loc st.length), none, none, none]) (st := st ++ [.lst []]) ⟨none, none, [], rfl, rfl⟩
    (by rintro q env s ⟨_, _, _, rfl, rfl⟩; exact lstIs_self (get_ext hm _))
    (by
      rintro q l r env s hq ⟨x3, x4, ext, rfl, rfl⟩
      obtain ⟨s, hs⟩ : ∃ s, s = st ++ .lst ((q.filter (fitB a b)).map tN) :: ext := ⟨_, rfl⟩
      rw [← hs]
      have lq : (q.filter (fitB a b)).length ≤ 64 := by
        have h1 := List.length_filter_le (fitB a b) q
        have := congrArg List.length hq
        simp at this
        omega
      have lc1 : dL fs (.lc (.itV (.ix (.var 1) (.int 0))) (.var 5) te__law_fitting_1 el__law_fitting_2 [5]) [some (.loc m), some (pnD a b), some (.loc st.length), some (tN l), x4, none] s = some (.ok ((a.filter fun x => !decide (x ∈ l)).map itD) s) := by
        rw [el_lc, ei_val (d := tN a) (st1 := s) fs _ _ (by simp [pn_0])]
        simp only [tN, thn_ok]
        have q1 := lc_map (C := yes) (tg := tgD (.var 5)) (t := dT fs te__law_fitting_1) (e := dE fs el__law_fitting_2) (env := wipeE [some (.loc m), some (pnD a b), some (.loc st.length), some (tN l), x4, none] [5]) (st := s) itD (fun x => !decide (x ∈ l)) itD rfl a [] (by simp; omega) (fun x hx => ⟨[some (.loc m), some (pnD a b), some (.loc st.length), some (tN l), x4, some (.int (x : Int))], by simp [itD], by simp [te__law_fitting_1, fNotIn_tN], fun _ => by simp [el__law_fitting_2, itD]⟩)
        exact q1
      obtain ⟨s', hs'⟩ : ∃ s', s' = s ++ [.lst ((a.filter fun x => !decide (x ∈ l)).map itD)] := ⟨_, rfl⟩
      have lc2 : dL fs (.lcV (.ix (.var 1) (.int 1)) (.var 5) te__law_fitting_3 el__law_fitting_4 [5]) [some (.loc m), some (pnD a b), some (.loc st.length), some (tN l), some (.loc s.length), none] s' = some (.ok ((b.filter fun x => decide (x ∈ l)).map itD) s') := by
        rw [lcV_tup (ds := b.map itD) (by simp [pn_1]; rfl)]
        rw [lc_map itD (fun x => decide (x ∈ l)) itD rfl b [] (by simp; omega) (fun x hx => ⟨[some (.loc m), some (pnD a b), some (.loc st.length), some (tN l), some (.loc s.length), some (.int (x : Int))], by simp [itD], by simp [te__law_fitting_3, fIn_tN], fun _ => by simp [el__law_fitting_4, itD]⟩)]
        rfl
      have g4 : s'[s.length]? = some (.lst ((a.filter fun x => !decide (x ∈ l)).map itD)) := by rw [hs']; exact get_end
      have l1 := List.length_filter_le (fun x => !decide (x ∈ l)) a
      have l2 := List.length_filter_le (fun x => decide (x ∈ l)) b
      have ct : dL fs (.cat (.at (.var 4)) (.fr (.lcV (.ix (.var 1) (.int 1)) (.var 5) te__law_fitting_3 el__law_fitting_4 [5]))) [some (.loc m), some (pnD a b), some (.loc st.length), some (tN l), some (.loc s.length), none] s' = some (.ok (((a.filter fun x => !decide (x ∈ l)) ++ b.filter fun x => decide (x ∈ l)).map itD) s') := by
        have hb : Nat.ble (((a.filter fun x => !decide (x ∈ l)).map itD).length + ((b.filter fun x => decide (x ∈ l)).map itD).length) 1000000 = true := ble_mil (by simp only [List.length_map]; omega)
        rw [el_cat]
        simp only [ex_at, ex_fr, ev_var, List.getElem?_cons_succ, List.getElem?_cons_zero, thn_ok, lc2, flItems, g4, hb, List.map_append]
      have hp : ∀ d ∈ (((a.filter fun x => !decide (x ∈ l)) ++ b.filter fun x => decide (x ∈ l)).map itD), plD 30 d = true := fun d hd => by
        obtain ⟨_, _, rfl⟩ := List.mem_map.mp hd
        rfl
      have eq := eqX_nil (st := s') (flPy_fr hp) hp
      rw [List.isEmpty_map] at eq
      change _ = some (fitB a b l) at eq
      have gm : s'[st.length]? = some (.lst ((q.filter (fitB a b)).map tN)) := by rw [hs']; exact get_ext (by rw [hs]; exact get_mid) _
      have ty : isTy "list" (.loc st.length) s' = true := by simp [isTy, tyD, gm]
      have ap := append_at (d := tN l) gm (by simp; omega)
      have sq : s'.set st.length (.lst ((q.filter (fitB a b)).map tN ++ [tN l])) = st ++ .lst ((q.filter (fitB a b)).map tN ++ [tN l]) :: (ext ++ [.lst ((a.filter fun x => !decide (x ∈ l)).map itD)]) := by
        rw [hs', hs, List.append_assoc, List.cons_append, set_mid]
      rw [sq] at ap
      have s1 : dS fs (.set 4 (.keep (.lc (.itV (.ix (.var 1) (.int 0))) (.var 5) te__law_fitting_1 el__law_fitting_2 [5]))) [some (.loc m), some (pnD a b), some (.loc st.length), some (tN l), x4, none] s = some (.nx [some (.loc m), some (pnD a b), some (.loc st.length), some (tN l), some (.loc s.length), none] s') := by
        rw [es_set, ev_keep, lc1, hs']
        simp only [thn_ok, thnS_ok, List.set_cons_succ, List.set_cons_zero]
      have ef : (q ++ [l]).filter (fitB a b) = q.filter (fitB a b) ++ (if fitB a b l = true then [l] else []) := by
        rw [List.filter_append]
        cases e : fitB a b l <;> simp [e]
      cases ok : fitB a b l with
      | true =>
        rw [ok] at eq ef
        refine ⟨_, rfl, [some (.loc m), some (pnD a b), some (.loc st.length), some (tN l), some (.loc s.length), none], st ++ .lst ((q.filter (fitB a b)).map tN ++ [tN l]) :: (ext ++ [.lst ((a.filter fun x => !decide (x ∈ l)).map itD)]), .inl ?_, _, _, _, rfl, by rw [ef, if_pos rfl, List.map_append]; rfl⟩
        generalize st ++ .lst ((q.filter (fitB a b)).map tN ++ [tN l]) :: (ext ++ [.lst ((a.filter fun x => !decide (x ∈ l)).map itD)]) = S at ap ⊢
        generalize ((a.filter fun x => !decide (x ∈ l)) ++ b.filter fun x => decide (x ∈ l)).map itD = K at ct eq
        simp only [bd__law_fitting_0, eb_cons, List.set_cons_succ, List.set_cons_zero, s1]
        simp [-el_cat, ct, eq, pickN, ty, ap]
      | false =>
        rw [ok] at eq ef
        refine ⟨_, rfl, [some (.loc m), some (pnD a b), some (.loc st.length), some (tN l), some (.loc s.length), none], s', .inl ?_, _, _, ext ++ [.lst ((a.filter fun x => !decide (x ∈ l)).map itD)], rfl, by rw [ef, if_neg (by simp), List.append_nil, hs', hs, List.append_assoc]; rfl⟩
        generalize ((a.filter fun x => !decide (x ∈ l)) ++ b.filter fun x => decide (x ∈ l)).map itD = K at ct eq
        simp only [bd__law_fitting_0, eb_cons, List.set_cons_succ, List.set_cons_zero, s1]
        simp [-el_cat, ct, eq, pickN])
  have fv := forV_lst (fs := fs) (env := [some (.loc m), some (pnD a b), some (.loc st.length), none, none, none]) (st := st ++ [.lst []]) (e := .var 0) (tg := .var 3) (b := bd__law_fitting_0) (n := m) (ds := L.map tN) (by simp) (get_ext hm _)
  rw [tgD_var, r1] at fv
  refine ⟨st.length, _ :: ext, ?_, get_mid, Nat.le_refl _⟩
  simp [t__law_fitting, fv]
/-! ### shares -/
open Classical in
theorem selN_succ (n : Nat) (P : Nat → Prop) : selN (n + 1) P = selN n P ++ (if P n then [n] else []) := by
  unfold selN
  rw [List.range_succ, List.filter_append]
  by_cases h : P n <;> simp [h]
def inAll (F : List (List Nat)) (i : Nat) : Prop := ∀ l ∈ F, i ∈ l
def inNone (F : List (List Nat)) (i : Nat) : Prop := ∀ l ∈ F, i ∉ l
def inSome (F : List (List Nat)) (i : Nat) : Prop := ¬ inAll F i ∧ ¬ inNone F i
noncomputable def shSt (st : Sto) (F : List (List Nat)) (i : Nat) : Sto := st ++ [.lst ((selN i (inAll F)).map itD), .lst ((selN i (inNone F)).map itD), .lst ((selN i (inSome F)).map itD)]
def C_shares (f : Sm) : Prop := ∀ (m n : Nat) (F : List (List Nat)) st, st[m]? = some (.lst (F.map tN)) → F ≠ [] → F.length ≤ 64 → n ≤ 20 → ∃ ext : Sto, callS f [.loc m, .int (n : Int)] st = some (.ok (.tup [tN (selN n (inAll F)), tN (selN n (inNone F)), tN (selN n (inSome F))]) (st ++ ext))
theorem sh_body {fs : Nat → Sm} {m i : Nat} {F : List (List Nat)} {st : Sto} {e1 e6 e7 : Option D} (hm : st[m]? = some (.lst (F.map tN))) (hF : F ≠ []) (hl : F.length ≤ 64) (hi : i ≤ 20) :
    ∃ e6' e7', dB fs bd__law_shares_0 [some (.loc m), e1, some (.int (i : Int)), some (.loc st.length), some (.loc (st.length + 1)), some (.loc (st.length + 2)), e6, e7, none] (shSt st F i) = some (.nx [some (.loc m), e1, some (.int (i : Int)), some (.loc st.length), some (.loc (st.length + 1)), some (.loc (st.length + 2)), e6', e7', none] (shSt st F (i + 1))) := by
  have gm : (shSt st F i)[m]? = some (.lst (F.map tN)) := get_ext hm _
  obtain ⟨c, hc⟩ : ∃ c, c = (F.filter fun l => decide (i ∈ l)).length := ⟨_, rfl⟩
  have lc : dL fs (.lcV (.var 0) (.var 8) te__law_shares_1 el__law_shares_2 [8]) [some (.loc m), e1, some (.int (i : Int)), some (.loc st.length), some (.loc (st.length + 1)), some (.loc (st.length + 2)), e6, e7, none] (shSt st F i) = some (.ok ((F.filter fun l => decide (i ∈ l)).map fun _ => .int 1) (shSt st F i)) := by
    rw [lcV_lst (n := m) (ds := F.map tN) (by simp) gm]
    rw [lc_map tN (fun l => decide (i ∈ l)) (fun _ => .int 1) (lstIs_self gm) F [] (by simp; omega) (fun l hx => ⟨[some (.loc m), e1, some (.int (i : Int)), some (.loc st.length), some (.loc (st.length + 1)), some (.loc (st.length + 2)), e6, e7, some (tN l)], by simp, by simp [te__law_shares_1, fIn_tN], fun _ => by simp [el__law_shares_2]⟩)]
    rfl
  have ln : bLenF ((F.filter fun l => decide (i ∈ l)).map fun _ => .int 1) (shSt st F i) = some (.ok (.int (c : Int)) (shSt st F i)) := by
    simp only [bLenF, List.length_map, hc]
  have l2 : bLen [.loc m] (shSt st F i) = some (.ok (.int (F.length : Int)) (shSt st F i)) := by
    simp [bLen, gm]
  have q1 : c = F.length ↔ inAll F i := by
    rw [hc, List.length_filter_eq_length_iff]
    simp [inAll]
  have q2 : c = 0 ↔ inNone F i := by
    rw [hc, List.length_eq_zero_iff, List.filter_eq_nil_iff]
    simp [inNone]
  have fpos : F.length ≠ 0 := fun h => hF (List.length_eq_zero_iff.mp h)
  have s1 := selN_len i (inAll F)
  have s2 := selN_len i (inNone F)
  have s3 := selN_len i (inSome F)
  have g0 : (shSt st F i)[st.length]? = some (.lst ((selN i (inAll F)).map itD)) := by simp [shSt]
  have g1 : (shSt st F i)[st.length + 1]? = some (.lst ((selN i (inNone F)).map itD)) := by simp [shSt]
  have g2 : (shSt st F i)[st.length + 2]? = some (.lst ((selN i (inSome F)).map itD)) := by simp [shSt]
  have t0 : isTy "list" (.loc st.length) (shSt st F i) = true := by simp [isTy, tyD, g0]
  have t1 : isTy "list" (.loc (st.length + 1)) (shSt st F i) = true := by simp [isTy, tyD, g1]
  have t2 : isTy "list" (.loc (st.length + 2)) (shSt st F i) = true := by simp [isTy, tyD, g2]
  have a0 := append_at (d := itD i) g0 (by simp; omega)
  have a1 := append_at (d := itD i) g1 (by simp; omega)
  have a2 := append_at (d := itD i) g2 (by simp; omega)
  by_cases c1 : inAll F i
  · have n2 : ¬ inNone F i := fun h => fpos ((q1.mpr c1).symm.trans (q2.mpr h))
    have n3 : ¬ inSome F i := fun h => h.1 c1
    have e : (shSt st F i).set st.length (.lst ((selN i (inAll F)).map itD ++ [itD i])) = shSt st F (i + 1) := by
      simp [shSt, selN_succ, c1, n2, n3]
    rw [e] at a0
    have b1 : ((c : Int) == (F.length : Int)) = true := by rw [beq_iff_eq]; have := q1.mpr c1; omega
    refine ⟨some (.int (c : Int)), some (.loc st.length), ?_⟩
    simp only [itD] at a0
    simp [bd__law_shares_0, lc, ln, l2, fEq_int, b1, t0, a0]
  · have b1 : ((c : Int) == (F.length : Int)) = false := by
      rw [beq_eq_false_iff_ne]
      intro h
      exact c1 (q1.mp (by omega))
    by_cases c2 : inNone F i
    · have n3 : ¬ inSome F i := fun h => h.2 c2
      have e : (shSt st F i).set (st.length + 1) (.lst ((selN i (inNone F)).map itD ++ [itD i])) = shSt st F (i + 1) := by
        simp [shSt, selN_succ, c1, c2, n3]
      rw [e] at a1
      have b2 : ((c : Int) == 0) = true := by rw [beq_iff_eq]; have := q2.mpr c2; omega
      refine ⟨some (.int (c : Int)), some (.loc (st.length + 1)), ?_⟩
      simp only [itD] at a1
      simp [bd__law_shares_0, lc, ln, l2, fEq_int, b1, b2, t1, a1]
    · have n3 : inSome F i := ⟨c1, c2⟩
      have e : (shSt st F i).set (st.length + 2) (.lst ((selN i (inSome F)).map itD ++ [itD i])) = shSt st F (i + 1) := by
        simp [shSt, selN_succ, c1, c2, n3]
      rw [e] at a2
      have b2 : ((c : Int) == 0) = false := by
        rw [beq_eq_false_iff_ne]
        intro h
        exact c2 (q2.mp (by omega))
      refine ⟨some (.int (c : Int)), some (.loc (st.length + 2)), ?_⟩
      simp only [itD] at a2
      simp [bd__law_shares_0, lc, ln, l2, fEq_int, b1, b2, t2, a2]
theorem c_shares (fs : Nat → Sm) : C_shares (semOf 9 (dB fs t__law_shares)) := by
  intro m n F st hm hF hl hn
  rw [call_loc (by simp [D.frees, D.free])]
  obtain ⟨env2, st2, r1, ⟨x2, x6, x7, rfl, rfl⟩⟩ := for_range (C := yes) (tg := .nm 2) (body := dB fs bd__law_shares_0)
    (fun i env s => ∃ x2 x6 x7, env = [some (.loc m), some (.int (n : Int)), x2, some (.loc st.length), some (.loc (st.length + 1)), some (.loc (st.length + 2)), x6, x7, none] ∧ s = shSt st F i) n
    (env := [some (.loc m), some (.int (n : Int)), none, some (.loc st.length), some (.loc (st.length + 1)), some (.loc (st.length + 2)), none, none, none]) (st := shSt st F 0) ⟨none, none, none, rfl, rfl⟩ (fun _ _ _ _ => rfl) (by
      rintro i env s hi ⟨x2, x6, x7, rfl, rfl⟩
      obtain ⟨e6', e7', q⟩ := sh_body (fs := fs) (e1 := some (.int (n : Int))) (e6 := x6) (e7 := x7) hm hF hl (show i ≤ 20 by omega)
      exact ⟨_, rfl, _, _, .inl q, _, _, _, rfl, rfl⟩)
  have z : shSt st F 0 = st ++ [.lst [], .lst [], .lst []] := rfl
  have g0 : (shSt st F n)[st.length]? = some (.lst ((selN n (inAll F)).map itD)) := by simp [shSt]
  have g1 : (shSt st F n)[st.length + 1]? = some (.lst ((selN n (inNone F)).map itD)) := by simp [shSt]
  have g2 : (shSt st F n)[st.length + 2]? = some (.lst ((selN n (inSome F)).map itD)) := by simp [shSt]
  have rg := rng1_n (fs := fs) (env := [some (.loc m), some (.int (n : Int)), none, some (.loc st.length), some (.loc (st.length + 1)), some (.loc (st.length + 2)), none, none, none]) (a := .var 1) (n := n) (st := shSt st F 0) (st1 := shSt st F 0) (by omega) (by simp)
  have s0 : dS fs (.par3 3 4 5 (.cons (.keep (.lst .nil)) (.cons (.keep (.lst .nil)) (.cons (.keep (.lst .nil)) .nil)))) [some (.loc m), some (.int (n : Int)), none, none, none, none, none, none, none] st = some (.nx [some (.loc m), some (.int (n : Int)), none, some (.loc st.length), some (.loc (st.length + 1)), some (.loc (st.length + 2)), none, none, none] (shSt st F 0)) := by
    rw [z]
    simp
  have s1 : dS fs (.for (.rng1 (.cons (.var 1) .nil)) (.var 2) bd__law_shares_0) [some (.loc m), some (.int (n : Int)), none, some (.loc st.length), some (.loc (st.length + 1)), some (.loc (st.length + 2)), none, none, none] (shSt st F 0) = some (.nx [some (.loc m), some (.int (n : Int)), x2, some (.loc st.length), some (.loc (st.length + 1)), some (.loc (st.length + 2)), x6, x7, none] (shSt st F n)) := by
    simp only [es_for, rg, thnS_ok, tgD_var, r1]
  have se : startE 9 [.loc m, .int (n : Int)] = [some (.loc m), some (.int (n : Int)), none, none, none, none, none, none, none] := rfl
  refine ⟨[.lst ((selN n (inAll F)).map itD), .lst ((selN n (inNone F)).map itD), .lst ((selN n (inSome F)).map itD)], ?_⟩
  show semOf 9 (dB fs t__law_shares) [.loc m, .int (n : Int)] st = some (.ok _ (shSt st F n))
  simp only [semOf, se, t__law_shares, eb_cons, s0, s1]
  simp [bTup, g0, g1, g2, tN]
/-! ### how far -/
def C_far (f : Sm) : Prop := ∀ (n : Nat) (a b : List Nat) st, Lot n a → Lot n b → n ≤ 20 → callS f [tN a, tN b] st = some (.ok (.int (farN n a b : Int)) st)
theorem filt_len {n : Nat} {a b : List Nat} (ha : Lot n a) : (a.filter fun x => !decide (x ∈ b)).length = (selN n fun i => i ∈ a ∧ i ∉ b).length := by
  rw [asc_uniq (List.Pairwise.filter _ ha.asc) (selN_asc n fun i => i ∈ a ∧ i ∉ b) fun x => ?_]
  rw [mem_selN, List.mem_filter]
  simp only [Bool.not_eq_true', decide_eq_false_iff_not]
  exact ⟨fun h => ⟨ha.lt x h.1, h⟩, fun h => h.2⟩
theorem c_far (fs : Nat → Sm) : C_far (semOf 3 (dB fs t__law_far)) := by
  intro n a b st ha hb hn
  have la := ha.len
  have lb := hb.len
  refine call_free (st' := []) (by simp [D.frees]) rfl ?_
  have lc1 : dL fs (.lcV (.var 0) (.var 2) te__law_far_0 el__law_far_1 [2]) [some (tN a), some (tN b), none] [] = some (.ok ((a.filter fun x => !decide (x ∈ b)).map itD) []) := by
    rw [lcV_tup (ds := a.map itD) (by simp; rfl)]
    rw [lc_map itD (fun x => !decide (x ∈ b)) itD rfl a [] (by simp; omega) (fun x hx => ⟨[some (tN a), some (tN b), some (.int (x : Int))], by simp [itD], by simp [te__law_far_0, fNotIn_tN], fun _ => by simp [el__law_far_1, itD]⟩)]
    rfl
  have lc2 : dL fs (.lcV (.var 1) (.var 2) te__law_far_2 el__law_far_3 [2]) [some (tN a), some (tN b), none] [] = some (.ok ((b.filter fun x => !decide (x ∈ a)).map itD) []) := by
    rw [lcV_tup (ds := b.map itD) (by simp; rfl)]
    rw [lc_map itD (fun x => !decide (x ∈ a)) itD rfl b [] (by simp; omega) (fun x hx => ⟨[some (tN a), some (tN b), some (.int (x : Int))], by simp [itD], by simp [te__law_far_2, fNotIn_tN], fun _ => by simp [el__law_far_3, itD]⟩)]
    rfl
  simp [t__law_far, lc1, lc2, bLenF, filt_len ha, filt_len hb, farN]
end TA
/-! the laws' own pins -/
namespace TA
open PySem
/-! ### dicts of items, of any value -/
def keysV (v : D) (l : List Nat) : List (L2.Key × D) := l.map fun (k : Nat) => (.inl (k : Int), v)
theorem hasK_keysV {v : D} {l : List Nat} {x : Nat} : hasK (keysV v l) (.inl (x : Int)) = decide (x ∈ l) := by
  unfold hasK keysV
  rw [List.any_map]
  induction l with
  | nil => rfl
  | cons y l ih =>
    simp only [List.any_cons, Function.comp, ih, List.mem_cons]
    by_cases h : x = y
    · subst h; simp
    · have : ¬ (y : Int) = (x : Int) := by omega
      simp [h, this]
theorem setK_keysV {v : D} {l : List Nat} {x : Nat} : setK (keysV v l) (.inl (x : Int)) v = keysV v (addK l x) := by
  unfold setK addK
  rw [hasK_keysV]
  by_cases h : x ∈ l
  · simp only [h, decide_true, if_true]
    unfold keysV
    rw [List.map_map]
    apply List.map_congr_left
    intro y _
    simp only [Function.comp]
    by_cases e : (Sum.inl (y : Int) : L2.Key) = Sum.inl (x : Int)
    · simp [e]
    · simp [e]
  · simp only [h, decide_false, if_false]
    simp [keysV]
theorem mergeD_keysV {v : D} : ∀ {m l : List Nat}, mergeD (keysV v l) (keysV v m) = keysV v (m.foldl addK l)
  | [], l => rfl
  | x :: m, l => by
    show mergeD (setK (keysV v l) (.inl (x : Int)) v) (keysV v m) = _
    rw [setK_keysV, mergeD_keysV, List.foldl_cons]
theorem keyInts_keysV (v : D) : ∀ l : List Nat, keyInts (keysV v l) = some (l.map fun (k : Nat) => (k : Int))
  | [] => rfl
  | k :: l => by
    have := keyInts_keysV v l
    simp only [keysV, List.map_cons, keyInts] at this ⊢
    rw [this]
theorem sorted_keysV {n m : Nat} {v : D} {P : Nat → Prop} {l : List Nat} {st : Sto} (hn : n ≤ 60) (hs : st[m]? = some (.dct (keysV v l))) (nd : l.Nodup) (hm : ∀ i, i ∈ l ↔ i < n ∧ P i) : lSort (.at (.loc m)) st = some ((selN n P).map itD) := by
  apply lSort_of
  have hl : l.length ≤ n := sub_len nd fun k hk => ((hm k).mp hk).1
  have hb : Nat.blt (l.map fun (k : Nat) => (k : Int)).length 64 = true := by rw [Nat.blt_eq, List.length_map]; omega
  have e : lSorted (.at (.loc m)) st = some ((selN n P).map itD) := by
    simp only [lSorted, hs, keyInts_keysV, hb, sortI_sel nd hm, List.map_map]
    rfl
  simp only [lOr, e]
theorem kvs_V (v : D) : ∀ l : List Nat, kvs? (l.map fun x => .tup [itD x, v]) = some (keysV v l)
  | [] => rfl
  | x :: l => by
    have := kvs_V v l
    simp only [keysV, List.map_cons, kvs?, itD, keyD] at this ⊢
    rw [this]
theorem dict_of {v : D} {l : List Nat} {st : Sto} (hl : l.length ≤ 1000) : bDictF (l.map fun x => .tup [itD x, v]) st = some (.ok (.loc st.length) (st ++ [.dct (keysV v (l.foldl addK []))])) := by
  have hb : Nat.ble (keysV v l).length 1000000 = true := ble_mil (by unfold keysV; rw [List.length_map]; omega)
  have e : mergeD [] (keysV v l) = keysV v (l.foldl addK []) := mergeD_keysV (v := v) (l := []) (m := l)
  simp only [bDictF, kvs_V, hb, e]
theorem cut_head (ds : List D) : cutD ds none (some 1) = ds.take 1 := by
  unfold cutD HT.sIx
  cases ds with
  | nil => rfl
  | cons d ds => simp
theorem fLt_int {i j : Int} {st : Sto} : fLt (.int i) (.int j) st = some (.ok (.bl (decide (i < j))) st) := rfl
/-- what stands while pins are drawn -/
structure PnS (b m a : Nat) (st : Sto) (A B : List Nat) (s : Sto) : Prop where
  dr : DrS s b a
  kp : Kps b st s
  g0 : s[m]? = some (.lst (A.map itD))
  g1 : s[m + 1]? = some (.lst (B.map itD))
  g2 : s[m + 2]? = some (.lst [.loc m, .loc (m + 1)])
theorem ix_rows {b m a : Nat} {st s : Sto} {A B : List Nat} (h : PnS b m a st A B s) : fIx (.loc (m + 2)) (.int 0) s = some (.ok (.loc m) s) ∧ fIx (.loc (m + 2)) (.int 1) s = some (.ok (.loc (m + 1)) s) := ⟨fIx_lst (k := 0) h.g2 rfl, fIx_lst (k := 1) h.g2 rfl⟩
theorem PnS.set0 {b m a x : Nat} {st s : Sto} {A B : List Nat} (h : PnS b m a st A B s) (hm : st.length ≤ m) (hb : b + 2 < m) : PnS b m a st (A ++ [x]) B (s.set m (.lst (A.map itD ++ [itD x]))) :=
  ⟨h.dr.set (by omega), h.kp.set hm, by rw [get_set h.g0]; simp, get_set_ne (by omega) h.g1, get_set_ne (by omega) h.g2⟩
theorem PnS.set1 {b m a x : Nat} {st s : Sto} {A B : List Nat} (h : PnS b m a st A B s) (hm : st.length ≤ m) (hb : b + 2 < m) : PnS b m a st A (B ++ [x]) (s.set (m + 1) (.lst (B.map itD ++ [itD x]))) :=
  ⟨h.dr.set (by omega), h.kp.set (by omega), get_set_ne (by omega) h.g0, by rw [get_set h.g1]; simp, get_set_ne (by omega) h.g2⟩
theorem PnS.draw {fs : Nat → Sm} {k b m a many : Nat} {st s : Sto} {A B : List Nat} (hf : C_draw (fs k)) (h : PnS b m a st A B s) (hb : b + 2 < m) (ha : a ≤ 800000000) (h1 : 0 < many) (h2 : many ≤ 1000000) : ∃ (r : Nat) (s' : Sto), callS (fs k) [.loc (b + 2), .int (many : Int)] s = some (.ok (.int (r : Int)) s') ∧ r < many ∧ PnS b m (a + 1) st A B s' := by
  obtain ⟨r, s', q1, q2, q3, q4, q5⟩ := hf b a many s h.dr (by omega) h1 h2
  exact ⟨r, s', q1, q2, q3, h.kp.trans q4, q4.get _ _ (.inr (by omega)) h.g0, q4.get _ _ (.inr (by omega)) h.g1, q4.get _ _ (.inr (by omega)) h.g2⟩
theorem pn_body {fs : Nat → Sm} {k b m a i : Nat} {st s : Sto} {A B : List Nat} {e1 e4 : Option D} (hf : C_draw (fs k)) (h : PnS b m a st A B s) (hm : st.length ≤ m) (hb : b + 2 < m) (ha : a ≤ 800000000) (lA : A.length ≤ 1000) (lB : B.length ≤ 1000) :
    ∃ A' B' e4' s', dB fs (bd__law_pins_0 k) [some (.loc (b + 2)), e1, some (.loc (m + 2)), some (.int (i : Int)), e4] s = some (.nx [some (.loc (b + 2)), e1, some (.loc (m + 2)), some (.int (i : Int)), e4'] s') ∧ PnS b m (a + 1) st A' B' s' ∧ (A' = A ∨ A' = A ++ [i]) ∧ (B' = B ∨ B' = B ++ [i]) := by
  obtain ⟨r, s1, q1, q2, q3⟩ := h.draw hf hb ha (many := 6) (by omega) (by omega)
  have q1' : callS (fs k) [.loc (b + 2), .int 6] s = some (.ok (.int (r : Int)) s1) := q1
  have ix := ix_rows q3
  by_cases r0 : r = 0
  · subst r0
    have ty : isTy "list" (.loc m) s1 = true := by simp [isTy, tyD, q3.g0]
    have ap := append_at (d := itD i) q3.g0 (by simp; omega)
    simp only [itD] at ap
    refine ⟨A ++ [i], B, some (.int 0), _, ?_, q3.set0 (x := i) hm hb, .inr rfl, .inl rfl⟩
    simp at q1'
    simp [bd__law_pins_0, q1', fLt_int, ix.1, ty, ap]
    rfl
  · by_cases r1 : r = 1
    · subst r1
      have ty : isTy "list" (.loc (m + 1)) s1 = true := by simp [isTy, tyD, q3.g1]
      have ap := append_at (d := itD i) q3.g1 (by simp; omega)
      simp only [itD] at ap
      refine ⟨A, B ++ [i], some (.int 1), _, ?_, q3.set1 (x := i) hm hb, .inl rfl, .inr rfl⟩
      simp at q1'
      simp [bd__law_pins_0, q1', fLt_int, ix.2, ty, ap]
      rfl
    · have lt : ¬ (r : Int) < 2 := by omega
      refine ⟨A, B, some (.int (r : Int)), s1, ?_, q3, .inl rfl, .inl rfl⟩
      simp [bd__law_pins_0, q1', fLt_int, lt]
def C_pins (f : Sm) : Prop := ∀ (b a n : Nat) st, DrS st b a → a ≤ 700000000 → n ≤ 20 → ∃ A B a' st', callS f [.loc (b + 2), .int (n : Int)] st = some (.ok (pnD A B) st') ∧ Lot n A ∧ Lot n B ∧ DrS st' b a' ∧ a' ≤ a + 30 ∧ Kps b st st'
theorem lcV_new {fs : Nat → Sm} {env : En} {st st1 : Sto} {e tg ifs elt : IR} {vs : List Nat} {n : Nat} {ds : List D} (h : dE fs e env st = some (.ok (.loc n) st1)) (hn : st[n]? = none) (hd : st1[n]? = some (.lst ds)) : dL fs (.lcV e tg ifs elt vs) env st = lcL (lstIs n ds) (tgD tg) (dT fs ifs) (dE fs elt) (wipeE env vs) ds [] st1 := by
  rw [el_lcV]
  have hd' : isDct (dE fs e) env st = false := by simp only [isDct, locOf, h, hn]
  rw [hd', ei_val fs env st h]
  simp only [hd, thn_ok]
theorem forV_new {fs : Nat → Sm} {env : En} {st st1 : Sto} {e tg b : IR} {n : Nat} {ds : List D} (h : dE fs e env st = some (.ok (.loc n) st1)) (hn : st[n]? = none) (hd : st1[n]? = some (.lst ds)) : dS fs (.forV e tg b) env st = forL (lstIs n ds) (tgD tg) (dB fs b) ds env st1 := by
  rw [es_forV]
  have hd' : isDct (dE fs e) env st = false := by simp only [isDct, locOf, h, hn]
  rw [hd', ei_val fs env st h]
  simp only [hd, thnS_ok]
theorem cat_loc {n m : Nat} {a b : List D} {s : Sto} (ha : s[n]? = some (.lst a)) (hb : s[m]? = some (.lst b)) (hl : a.length + b.length ≤ 1000000) : fOr fAdd fCatL (.loc n) (.loc m) s = some (.ok (.loc s.length) (s ++ [.lst (a ++ b)])) := by
  have e : fAdd (.loc n) (.loc m) s = none := rfl
  simp only [fOr, e, fCatL, lstAt, ha, hb, ble_ok hl]
theorem map_take_it (l : List Nat) (k : Nat) : (l.map itD).take k = (l.take k).map itD := by rw [List.map_take]
theorem c_pins {fs : Nat → Sm} {k : Nat} (hf : C_draw (fs k)) : C_pins (semOf 5 (dB fs (t__law_pins k))) := by
  intro b a n st h ha hn
  rw [call_loc (by simp [D.frees, D.free])]
  have hb := h.lt
  obtain ⟨m, hm⟩ : ∃ m, m = st.length := ⟨_, rfl⟩
  have p0 : PnS b m a st [] [] (st ++ [.lst [], .lst [], .lst [.loc m, .loc (m + 1)]]) := ⟨h.app _, Kps.app _, by simp [hm], by simp [hm], by simp [hm]⟩
  obtain ⟨env2, s2, r1, ⟨A, B, x3, x4, rfl, hP, hA, hB⟩⟩ := for_range (C := yes) (tg := .nm 3) (body := dB fs (bd__law_pins_0 k))
    (fun i env s => ∃ A B x3 x4, env = [some (.loc (b + 2)), some (.int (n : Int)), some (.loc (m + 2)), x3, x4] ∧ PnS b m (a + i) st A B s ∧ Lot i A ∧ Lot i B) n
    (env := [some (.loc (b + 2)), some (.int (n : Int)), some (.loc (m + 2)), none, none]) (st := st ++ [.lst [], .lst [], .lst [.loc m, .loc (m + 1)]])
    ⟨[], [], none, none, rfl, p0, ⟨.nil, by simp⟩, ⟨.nil, by simp⟩⟩ (fun _ _ _ _ => rfl) (by
      rintro i env s hi ⟨A, B, x3, x4, rfl, hP, hA, hB⟩
      have lA := hA.len
      have lB := hB.len
      obtain ⟨A', B', e4', s', q1, q2, q3, q4⟩ := pn_body (i := i) (e1 := some (.int (n : Int))) (e4 := x4) hf hP (by omega) (by omega) (by omega) (by omega) (by omega)
      have ext : ∀ {X X' : List Nat}, Lot i X → (X' = X ∨ X' = X ++ [i]) → Lot (i + 1) X' := fun hX e => by
        rcases e with rfl | rfl
        · exact ⟨hX.asc, fun x hx => by have := hX.lt x hx; omega⟩
        · exact ⟨asc_app hX.asc hX.lt, fun x hx => by
            rcases List.mem_append.mp hx with hx | hx
            · have := hX.lt x hx; omega
            · simp at hx; omega⟩
      exact ⟨_, rfl, _, s', .inl q1, A', B', _, _, rfl, q2, ext hA q3, ext hB q4⟩)
  have lA := hA.len
  have lB := hB.len
  obtain ⟨r, s3, q1, q2, q3⟩ := hP.draw hf (by omega) (by omega) (many := 12) (by omega) (by omega)
  have q1' : callS (fs k) [.loc (b + 2), .int 12] s2 = some (.ok (.int (r : Int)) s3) := q1
  have ix := ix_rows q3
  have se : startE 5 [.loc (b + 2), .int (n : Int)] = [some (.loc (b + 2)), some (.int (n : Int)), none, none, none] := rfl
  have s0 : dS fs (.set 2 (.keep (.lst (.cons (.keep (.lst .nil)) (.cons (.keep (.lst .nil)) .nil))))) [some (.loc (b + 2)), some (.int (n : Int)), none, none, none] st = some (.nx [some (.loc (b + 2)), some (.int (n : Int)), some (.loc (m + 2)), none, none] (st ++ [.lst [], .lst [], .lst [.loc m, .loc (m + 1)]])) := by
    simp [hm]
  have rg := rng1_n (fs := fs) (env := [some (.loc (b + 2)), some (.int (n : Int)), some (.loc (m + 2)), none, none]) (a := .var 1) (n := n) (st := st ++ [.lst [], .lst [], .lst [.loc m, .loc (m + 1)]]) (st1 := st ++ [.lst [], .lst [], .lst [.loc m, .loc (m + 1)]]) (by omega) (by simp)
  have s1 : dS fs (.for (.rng1 (.cons (.var 1) .nil)) (.var 3) (bd__law_pins_0 k)) [some (.loc (b + 2)), some (.int (n : Int)), some (.loc (m + 2)), none, none] (st ++ [.lst [], .lst [], .lst [.loc m, .loc (m + 1)]]) = some (.nx [some (.loc (b + 2)), some (.int (n : Int)), some (.loc (m + 2)), x3, x4] s2) := by
    simp only [es_for, rg, thnS_ok, tgD_var, r1]
  have hp : ∀ d ∈ A.map itD, plD 30 d = true := fun d hd => by
    obtain ⟨_, _, rfl⟩ := List.mem_map.mp hd
    rfl
  have eq := eqX_nil (flPy_at q3.g0 hp) hp
  rw [List.isEmpty_map] at eq
  have plain : ∀ {e : Bool}, (r = 0 → A.isEmpty = true) → ∃ A B a' st', semOf 5 (dB fs (t__law_pins k)) [.loc (b + 2), .int (n : Int)] st = some (.ok (pnD A B) st') ∧ Lot n A ∧ Lot n B ∧ DrS st' b a' ∧ a' ≤ a + 30 ∧ Kps b st st' := fun hr => by
    refine ⟨A, B, a + n + 1, s3, ?_, hA, hB, q3.dr, by omega, q3.kp⟩
    simp only [semOf, se, t__law_pins, eb_cons, s0, s1]
    by_cases c : r = 0
    · rw [hr c] at eq
      subst c
      simp at q1'
      simp [q1', fEq_int, ix.1, ix.2, eq, pickN, bTup, q3.g0, q3.g1, pnD, tN]
    · have e0 : ((r : Int) == 0) = false := by rw [beq_eq_false_iff_ne]; omega
      simp [q1', fEq_int, e0, ix.1, ix.2, bTup, q3.g0, q3.g1, pnD, tN]
  by_cases c : r = 0
  · by_cases c2 : A.isEmpty = true
    · exact plain (e := true) fun _ => c2
    · rw [Bool.not_eq_true] at c2
      rw [c2] at eq
      subst c
      have nr : (fun i => i ∈ B ∨ i ∈ A.take 1) = fun i => i ∈ B ∨ i ∈ A.take 1 := rfl
      obtain ⟨l, hl⟩ : ∃ l, l = B ++ A.take 1 := ⟨_, rfl⟩
      have ltk : (A.take 1).length ≤ 20 := by rw [List.length_take]; omega
      have ll : l.length ≤ 40 := by rw [hl, List.length_append]; omega
      -- the slice, the sum
      obtain ⟨s4, hs4⟩ : ∃ s4, s4 = s3 ++ [.lst ((A.take 1).map itD)] := ⟨_, rfl⟩
      obtain ⟨s5, hs5⟩ : ∃ s5, s5 = s4 ++ [.lst (l.map itD)] := ⟨_, rfl⟩
      obtain ⟨s6, hs6⟩ : ∃ s6, s6 = s5 ++ [.dct (keysV (.int 1) (l.foldl addK []))] := ⟨_, rfl⟩
      obtain ⟨s7, hs7⟩ : ∃ s7, s7 = s6 ++ [.lst ((selN n fun i => i ∈ l).map itD)] := ⟨_, rfl⟩
      have l4 : s4.length = s3.length + 1 := by simp [hs4]
      have l5 : s5.length = s3.length + 2 := by simp [hs5, l4]
      have l6 : s6.length = s3.length + 3 := by simp [hs6, l5]
      have env5 : En := [some (.loc (b + 2)), some (.int (n : Int)), some (.loc (m + 2)), x3, x4]
      have sl : dE fs (.sl (.ix (.var 2) (.int 0)) .nil (.at (.int 1))) [some (.loc (b + 2)), some (.int (n : Int)), some (.loc (m + 2)), x3, x4] s3 = some (.ok (.loc s3.length) s4) := by
        rw [ev_slL (n := m) (ds := A.map itD) (l := none) (u := some 1) (st1 := s3) (st2 := s3) (st3 := s3) fs _ _ (by simp [ix.1]) rfl (by simp) q3.g0, cut_head, map_take_it, hs4]
      have g1' : s4[m + 1]? = some (.lst (B.map itD)) := by rw [hs4]; exact get_ext q3.g1 _
      have g3' : s4[s3.length]? = some (.lst ((A.take 1).map itD)) := by rw [hs4]; exact get_end
      have ct := cat_loc g1' g3' (by simp only [List.length_map]; omega)
      rw [← List.map_append, ← hl, ← hs5] at ct
      have ad : dE fs (.op2 .Add (.ix (.var 2) (.int 1)) (.sl (.ix (.var 2) (.int 0)) .nil (.at (.int 1)))) [some (.loc (b + 2)), some (.int (n : Int)), some (.loc (m + 2)), x3, x4] s3 = some (.ok (.loc s4.length) s5) := by
        rw [ev_add]
        have : dE fs (.ix (.var 2) (.int 1)) [some (.loc (b + 2)), some (.int (n : Int)), some (.loc (m + 2)), x3, x4] s3 = some (.ok (.loc (m + 1)) s3) := by simp [ix.2]
        simp only [this, thn_ok, sl, ct]
      have gl : s5[s4.length]? = some (.lst (l.map itD)) := by rw [hs5]; exact get_end
      have lc : dL fs (.lcV (.op2 .Add (.ix (.var 2) (.int 1)) (.sl (.ix (.var 2) (.int 0)) .nil (.at (.int 1)))) (.var 3) .tru el__law_pins_1 [3]) [some (.loc (b + 2)), some (.int (n : Int)), some (.loc (m + 2)), x3, x4] s3 = some (.ok (l.map fun x => .tup [itD x, .int 1]) s5) := by
        rw [lcV_new ad (List.getElem?_eq_none (by omega)) gl]
        refine lc_all itD (fun x => .tup [itD x, .int 1]) l (lstIs_self gl) (by omega) fun x _ => ⟨_, rfl, ?_⟩
        simp [el__law_pins_1]
      have dc := dict_of (v := .int 1) (l := l) (st := s5) (by omega)
      rw [← hs6] at dc
      have g6 : s6[s5.length]? = some (.dct (keysV (.int 1) (l.foldl addK []))) := by rw [hs6]; exact get_end
      have mem : ∀ i, i ∈ l → i < n := fun i hi => by
        rw [hl] at hi
        rcases List.mem_append.mp hi with hi | hi
        · exact hB.lt i hi
        · exact hA.lt i (List.mem_of_mem_take hi)
      have so := sorted_keysV (n := n) (P := fun i => i ∈ l) (by omega) g6 (nodup_addKs List.nodup_nil) (fun i => by
        rw [mem_addKs]
        simp only [List.not_mem_nil, false_or]
        exact ⟨fun h => ⟨mem i h, h⟩, fun h => h.2⟩)
      have kp7 : Kps b st s7 := by
        rw [hs7, hs6, hs5, hs4]
        exact (((q3.kp.trans (Kps.app _)).trans (Kps.app _)).trans (Kps.app _)).trans (Kps.app _)
      have get7 : ∀ {j : Nat} {o : O}, s3[j]? = some o → s7[j]? = some o := fun h => by
        rw [hs7, hs6, hs5, hs4]
        exact get_ext (get_ext (get_ext (get_ext h _) _) _) _
      have dr7 : DrS s7 b (a + n + 1) := by
        rw [hs7, hs6, hs5, hs4]
        exact (((q3.dr.app _).app _).app _).app _
      have g7 : s7[s6.length]? = some (.lst ((selN n fun i => i ∈ l).map itD)) := by rw [hs7]; exact get_end
      have pu : putD (.loc (m + 2)) (.int 1) (.loc s6.length) s7 = some (s7.set (m + 2) (.lst [.loc m, .loc s6.length])) := by
        simp only [putD, get7 q3.g2]
        rfl
      obtain ⟨s8, hs8⟩ : ∃ s8, s8 = s7.set (m + 2) (.lst [.loc m, .loc s6.length]) := ⟨_, rfl⟩
      rw [← hs8] at pu
      have hlt := get_lt q3.g2
      have g80 : s8[m]? = some (.lst (A.map itD)) := by rw [hs8]; exact get_set_ne (by omega) (get7 q3.g0)
      have g81 : s8[s6.length]? = some (.lst ((selN n fun i => i ∈ l).map itD)) := by rw [hs8]; exact get_set_ne (by omega) g7
      have g82 : s8[m + 2]? = some (.lst [.loc m, .loc s6.length]) := by rw [hs8]; exact get_set (get7 q3.g2)
      have i0 : fIx (.loc (m + 2)) (.int 0) s8 = some (.ok (.loc m) s8) := fIx_lst (k := 0) g82 rfl
      have i1 : fIx (.loc (m + 2)) (.int 1) s8 = some (.ok (.loc s6.length) s8) := fIx_lst (k := 1) g82 rfl
      refine ⟨A, selN n fun i => i ∈ l, a + n + 1, s8, ?_, hA, lot_sel _ _, by rw [hs8]; exact dr7.set (by omega), by omega, by rw [hs8]; exact kp7.set (by omega)⟩
      have kq : dE fs (.keep (.bL 1 (.at (.bf 8 (.lcV (.op2 .Add (.ix (.var 2) (.int 1)) (.sl (.ix (.var 2) (.int 0)) .nil (.at (.int 1)))) (.var 3) .tru el__law_pins_1 [3]))))) [some (.loc (b + 2)), some (.int (n : Int)), some (.loc (m + 2)), x3, x4] s3 = some (.ok (.loc s6.length) s7) := by
        rw [ev_keep, el_sorted, ex_at, ev_dictF, lc]
        simp only [thn_ok, dc, so, hs7]
      simp only [semOf, se, t__law_pins, eb_cons, s0, s1]
      simp at q1'
      simp [-ev_keep, q1', fEq_int, ix.1, eq, pickN, kq, pu, i0, i1, bTup, g80, g81, pnD, tN]
  · exact plain (e := true) fun h => absurd h c
end TA
/-! the laws on pins: one pin after the other -/
namespace TA
open PySem
theorem sorted_tN {l : List Nat} {st : Sto} (h : l.Pairwise (· < ·)) : lSort (.at (tN l)) st = some (l.map itD) := by
  have e0 : flItems st (.at (tN l)) = none := rfl
  have e1 : lSorted (.at (tN l)) st = none := rfl
  have e2 : lSortedP (.at (tN l)) st = none := by simp only [lSortedP, e0]
  have e3 : lSortedT (.at (tN l)) st = none := by simp only [lSortedT, e0]
  have so : sortI (l.map fun (k : Nat) => (k : Int)) = l.map fun (k : Nat) => (k : Int) := by
    refine sorted_eq (sortI_perm _) (sortI_pw _) ?_
    rw [List.pairwise_map]
    exact h.imp fun {a b} h => by omega
  have e4 : lSortedU (.at (tN l)) st = some (l.map itD) := by
    simp only [lSortedU, tN, ints_it, so, List.map_map]
    rfl
  simp only [lSort, lOr, e1, e2, e3, e4]
theorem mr_body {fs : Nat → Sm} {k n w x : Nat} {ps : List (Nat × Nat)} {a b l h p q p' q' : List Nat} {e6 e8 : Option D} {s : Sto} (hf : C_nearest (fs k)) (wf : WfO n ps) (hp' : Lot n p') (hq' : Lot n q') (hc : ¬ Clash ps p' q') (hh : Lw n ps h) (c : (w = 0 ∧ p' = p ++ [x] ∧ q' = q) ∨ (w = 1 ∧ p' = p ∧ q' = q ++ [x])) :
    dB fs (bd__law_more_right_1 k) [some (oD n ps), some (pnD a b), some (tN l), some (tN h), some (pnD p q), some (.int (w : Int)), e6, some (.int (x : Int)), e8] s = some (.nx [some (oD n ps), some (pnD a b), some (tN l), some (tN (nrs n ps p' q' h)), some (pnD p' q'), some (.int (w : Int)), e6, some (.int (x : Int)), some (.loc s.length)] (s ++ [.lst [tN p', tN q']])) := by
  have hn := wf.le
  have lp := hp'.len
  have lq := hq'.len
  have g : (s ++ [.lst [tN p', tN q']])[s.length]? = some (.lst [tN p', tN q']) := get_end
  have i0 : fIx (.loc s.length) (.int 0) (s ++ [.lst [tN p', tN q']]) = some (.ok (tN p') (s ++ [.lst [tN p', tN q']])) := fIx_lst (k := 0) g rfl
  have i1 : fIx (.loc s.length) (.int 1) (s ++ [.lst [tN p', tN q']]) = some (.ok (tN q') (s ++ [.lst [tN p', tN q']])) := fIx_lst (k := 1) g rfl
  have so1 := sorted_tN (st := s ++ [.lst [tN p', tN q']]) hp'.asc
  have so2 := sorted_tN (st := s ++ [.lst [tN p', tN q']]) hq'.asc
  have nr := hf n ps p' q' h (s ++ [.lst [tN p', tN q']]) wf hp' hq' hc hh
  have ca : ∀ {y y' : List Nat}, y' = y ++ [x] → y'.length ≤ 20 → fOr fAdd fCatL (tN y) (.tup [.int (x : Int)]) s = some (.ok (tN y') s) := fun e hl => by
    subst e
    rw [← tN_app]
    exact fCatN (by simp at hl ⊢; omega)
  have cn : ∀ {y : List Nat}, y.length ≤ 20 → fOr fAdd fCatL (tN y) (.tup []) s = some (.ok (tN y) s) := fun {y} hl => by
    have := fCatN (a := y.map itD) (b := []) (st := s) (by simp; omega)
    rw [List.append_nil] at this
    exact this
  have pe : D.tup [D.tup (p'.map itD), D.tup (q'.map itD)] = pnD p' q' := rfl
  have s1 : dS fs (.set 8 (.keep (.lst (.cons (.op2 .Add (.ix (.var 4) (.int 0)) (.ifE (.tst (.cmp .Eq (.var 5) (.int 0))) (.tup (.cons (.var 7) .nil)) (.tup .nil))) (.cons (.op2 .Add (.ix (.var 4) (.int 1)) (.ifE (.tst (.cmp .Eq (.var 5) (.int 1))) (.tup (.cons (.var 7) .nil)) (.tup .nil))) .nil))))) [some (oD n ps), some (pnD a b), some (tN l), some (tN h), some (pnD p q), some (.int (w : Int)), e6, some (.int (x : Int)), e8] s = some (.nx [some (oD n ps), some (pnD a b), some (tN l), some (tN h), some (pnD p q), some (.int (w : Int)), e6, some (.int (x : Int)), some (.loc s.length)] (s ++ [.lst [tN p', tN q']])) := by
    rcases c with ⟨rfl, e1, rfl⟩ | ⟨rfl, rfl, e2⟩
    · have c1 := ca e1 (by omega)
      have c2 := cn (y := q') (by omega)
      simp [pn_0, pn_1, fEq_int, c1, c2]
    · have c1 := ca e2 (by omega)
      have c2 := cn (y := p') (by omega)
      simp [pn_0, pn_1, fEq_int, c1, c2]
  generalize s ++ [.lst [tN p', tN q']] = S at i0 i1 so1 so2 nr s1 ⊢
  simp only [bd__law_more_right_1, eb_cons, s1]
  simp [i0, i1, so1, so2, bTupF, pe, nr]
theorem lot_pre {n : Nat} {a q r : List Nat} {x : Nat} (h : Lot n a) (e : a = q ++ x :: r) : Lot n (q ++ [x]) := by
  have : a = (q ++ [x]) ++ r := by rw [e]; simp
  rw [this] at h
  exact ⟨(List.pairwise_append.mp h.asc).1, fun y hy => h.lt y (List.mem_append.mpr (.inl hy))⟩
def C_more (f : Sm) : Prop := ∀ n ps a b l st, WfO n ps → Lot n a → Lot n b → ¬ Clash ps a b → Lw n ps l → callS f [oD n ps, pnD a b, tN l] st = some (.ok (.bl true) st)
theorem c_more {fs : Nat → Sm} {k : Nat} (hf : C_nearest (fs k)) : C_more (semOf 9 (dB fs (t__law_more_right k))) := by
  intro n ps a b l st wf ha hb hc hl
  have hn := wf.le
  have sub : ∀ {X q r : List Nat} {x : Nat}, X = q ++ x :: r → (∀ y ∈ q ++ [x], y ∈ X) ∧ ∀ y ∈ q, y ∈ q ++ [x] := fun e => ⟨fun y hy => by
    rw [e]
    rcases List.mem_append.mp hy with hy | hy
    · exact List.mem_append.mpr (.inl hy)
    · simp at hy; subst hy; simp, fun y hy => List.mem_append.mpr (.inl hy)⟩
  obtain ⟨env1, s1, r1, ⟨x7, x8, rfl⟩⟩ := for_list (C := yes) (tg := .nm 7) (body := dB fs (bd__law_more_right_1 k)) itD
    (fun q env s => ∃ x7 x8, env = [some (oD n ps), some (pnD a b), some (tN l), some (tN (nrs n ps q [] l)), some (pnD q []), some (.int 0), some (tN a), x7, x8]) a
    (env := [some (oD n ps), some (pnD a b), some (tN l), some (tN (nrs n ps [] [] l)), some (pnD [] []), some (.int 0), some (tN a), none, none]) (st := []) ⟨none, none, rfl⟩ (fun _ _ _ _ => rfl) (by
      rintro q x r env s e ⟨x7, x8, rfl⟩
      have u := sub e
      have b1 := mr_body (w := 0) (x := x) (a := a) (b := b) (l := l) (p := q) (q := []) (p' := q ++ [x]) (q' := []) (e6 := some (tN a)) (e8 := x8) (s := s) hf wf (lot_pre ha e) ⟨.nil, by simp⟩ (clash_mono u.1 (by simp) hc) (lw_nrs (a := q) (b := []) wf.up hl) (.inl ⟨rfl, rfl, rfl⟩)
      rw [nrs_nrs u.2 (fun _ h => h)] at b1
      exact ⟨_, rfl, _, _, .inl b1, _, _, rfl⟩)
  obtain ⟨env2, s2, r2, ⟨y7, y8, rfl⟩⟩ := for_list (C := yes) (tg := .nm 7) (body := dB fs (bd__law_more_right_1 k)) itD
    (fun q env s => ∃ x7 x8, env = [some (oD n ps), some (pnD a b), some (tN l), some (tN (nrs n ps a q l)), some (pnD a q), some (.int 1), some (tN b), x7, x8]) b
    (env := [some (oD n ps), some (pnD a b), some (tN l), some (tN (nrs n ps a [] l)), some (pnD a []), some (.int 1), some (tN b), x7, x8]) (st := s1) ⟨x7, x8, rfl⟩ (fun _ _ _ _ => rfl) (by
      rintro q x r env s e ⟨x7, x8, rfl⟩
      have u := sub e
      have b1 := mr_body (w := 1) (x := x) (a := a) (b := b) (l := l) (p := a) (q := q) (p' := a) (q' := q ++ [x]) (e6 := some (tN b)) (e8 := x8) (s := s) hf wf ha (lot_pre hb e) (clash_mono (fun _ h => h) u.1 hc) (lw_nrs (a := a) (b := q) wf.up hl) (.inr ⟨rfl, rfl, rfl⟩)
      rw [nrs_nrs (fun _ h => h) u.2] at b1
      exact ⟨_, rfl, _, _, .inl b1, _, _, rfl⟩)
  rw [nrs_nil hl.lot] at r1
  have f1 := forV_tup (fs := fs) (env := [some (oD n ps), some (pnD a b), some (tN l), some (tN l), some (pnD [] []), some (.int 0), some (tN a), none, none]) (st := []) (e := .var 6) (tg := .var 7) (b := bd__law_more_right_1 k) (ds := a.map itD) (by simp; rfl)
  rw [tgD_var, r1] at f1
  have f2 := forV_tup (fs := fs) (env := [some (oD n ps), some (pnD a b), some (tN l), some (tN (nrs n ps a [] l)), some (pnD a []), some (.int 1), some (tN b), x7, x8]) (st := s1) (e := .var 6) (tg := .var 7) (b := bd__law_more_right_1 k) (ds := b.map itD) (by simp; rfl)
  rw [tgD_var, r2] at f2
  have nr := hf n ps a b l s2 wf ha hb hc hl
  have eq := fEq_nb (st := s2) (nb_tN (nrs n ps a b l)) (nb_tN (nrs n ps a b l))
  rw [D.same_refl] at eq
  refine call_free (st' := s2) (frees_opl n ps a b l) rfl ?_
  have se : startE 9 [oD n ps, pnD a b, tN l] = [some (oD n ps), some (pnD a b), some (tN l), none, none, none, none, none, none] := rfl
  have q0 : dS fs (.par2 3 4 (.cons (.var 2) (.cons (.tup (.cons (.tup .nil) (.cons (.tup .nil) .nil))) .nil))) [some (oD n ps), some (pnD a b), some (tN l), none, none, none, none, none, none] [] = some (.nx [some (oD n ps), some (pnD a b), some (tN l), some (tN l), some (pnD [] []), none, none, none, none] []) := by
    simp [pnD, tN]
  have q1 : dS fs (.for (.enum (.at (.var 1))) (.tup (.cons (.var 5) (.cons (.var 6) .nil))) (bd__law_more_right_0 k)) [some (oD n ps), some (pnD a b), some (tN l), some (tN l), some (pnD [] []), none, none, none, none] [] = some (.nx [some (oD n ps), some (pnD a b), some (tN l), some (tN (nrs n ps a b l)), some (pnD a b), some (.int 1), some (tN b), y7, y8] s2) := by
    have it : dI fs (.enum (.at (.var 1))) [some (oD n ps), some (pnD a b), some (tN l), some (tN l), some (pnD [] []), none, none, none, none] [] = some (.ok ([.tup [.int 0, tN a], .tup [.int 1, tN b]], yes) []) := by
      rw [ei_enum]
      rfl
    rw [es_for, it]
    simp only [thnS_ok, forL, yes, tgD_tup, tgsD_cons, tgsD_nil, tgD_var, tgSet_tp, tgSets_cons, tgSet_nm, tgSets_nil, List.set_cons_succ, List.set_cons_zero, bd__law_more_right_0, eb_cons, eb_nil, f1, f2]
  simp only [semOf, se, t__law_more_right, eb_cons, q0, q1]
  simp [nr, eq]
end TA
/-! the laws on pins: all of what fits -/
namespace TA
open PySem
theorem pl_tN (l : List Nat) : plD 30 (tN l) = true := nb_pl (nb_tN l)
theorem pl_lots {L : List (List Nat)} : ∀ d ∈ L.map tN, plD 30 d = true := fun d hd => by
  obtain ⟨l, _, rfl⟩ := List.mem_map.mp hd
  exact pl_tN l
theorem map_it_inj : ∀ {a b : List Nat}, a.map itD = b.map itD → a = b
  | [], [], _ => rfl
  | [], _ :: _, h => by simp at h
  | _ :: _, [], h => by simp at h
  | x :: a, y :: b, h => by
    simp only [List.map_cons, List.cons.injEq, itD, D.int.injEq] at h
    rw [map_it_inj h.2, Int.ofNat.inj h.1]
/-- a lot in a list of lots -/
theorem fIn_lots {m : Nat} {F : List (List Nat)} {l : List Nat} {st : Sto} (h : st[m]? = some (.lst (F.map tN))) : fIn (tN l) (.loc m) st = some (.ok (.bl (decide (l ∈ F))) st) := by
  have hc := flPy_at h pl_lots
  simp only [flPy] at hc
  have t1 : toPy 40 st (tN l) = some (pyD (tN l)) := toPy_pl (pl_tN l) (by omega)
  have s1 : SeqAt.shaped (pyD (tN l)) = true := shaped_pl (pl_tN l) (by omega)
  have s2 := shaped_list (pl_lots (L := F))
  have any : ((pyDs (F.map tN)).any fun z => PyData.eqv z (pyD (tN l))) = decide (l ∈ F) := by
    clear hc s2 h
    induction F with
    | nil => rfl
    | cons f F ih =>
      simp only [List.map_cons, pyDs, List.any_cons, ih, eqv_nb (nb_tN f) (nb_tN l), List.mem_cons]
      by_cases e : l = f
      · subst e
        simp [D.same_refl]
      · have : D.same (tN f) (tN l) = false := by
          cases q : D.same (tN f) (tN l) with
          | false => rfl
          | true =>
            have := D.same_eq q
            simp only [tN, D.tup.injEq] at this
            exact absurd (map_it_inj this).symm e
        simp [this, e]
  simp only [fIn, inD, h, inSeq, t1, hc, inPy, s1, s2, Bool.and_self, any, okB]
theorem minI_le : ∀ (l : List Int) (n : Int), (minI n l = n ∨ minI n l ∈ l) ∧ minI n l ≤ n ∧ ∀ x ∈ l, minI n l ≤ x
  | [], n => ⟨.inl rfl, Int.le_refl _, by simp⟩
  | m :: l, n => by
    by_cases c : m < n
    · have e : minI n (m :: l) = minI m l := by simp [minI, c]
      have ih := minI_le l m
      rw [e]
      refine ⟨.inr ?_, by omega, fun x hx => ?_⟩
      · rcases ih.1 with h | h
        · rw [h]; exact List.mem_cons_self
        · exact List.mem_cons_of_mem _ h
      · rcases List.mem_cons.mp hx with rfl | hx
        · exact ih.2.1
        · exact ih.2.2 x hx
    · have e : minI n (m :: l) = minI n l := by simp [minI, c]
      have ih := minI_le l n
      rw [e]
      refine ⟨?_, ih.2.1, fun x hx => ?_⟩
      · rcases ih.1 with h | h
        · exact .inl h
        · exact .inr (List.mem_cons_of_mem _ h)
      · rcases List.mem_cons.mp hx with rfl | hx
        · omega
        · exact ih.2.2 x hx
theorem ints_map' {α : Type} (f : α → Int) : ∀ l : List α, ints? (l.map fun x => D.int (f x)) = some (l.map f)
  | [] => rfl
  | a :: l => by simp only [List.map_cons, ints?, ints_map' f l]
theorem min_of {F : List (List Nat)} {f : List Nat → Nat} {N : List Nat} {st : Sto} (hN : N ∈ F) (hm : ∀ o ∈ F, f N ≤ f o) : bMinF (F.map fun o => D.int (f o : Int)) st = some (.ok (.int (f N : Int)) st) := by
  cases F with
  | nil => simp at hN
  | cons a F =>
    have e := ints_map' (fun o => (f o : Int)) (a :: F)
    have e' : bMinF ((a :: F).map fun o => D.int (f o : Int)) st = some (.ok (.int (minI (f a : Int) (F.map fun o => (f o : Int)))) st) := by
      unfold bMinF
      rw [e]
      rfl
    rw [e']
    obtain ⟨h1, h2, h3⟩ := minI_le (F.map fun o => (f o : Int)) (f a : Int)
    have le : ∀ o ∈ a :: F, minI (f a : Int) (F.map fun o => (f o : Int)) ≤ (f o : Int) := fun o ho => by
      rcases List.mem_cons.mp ho with rfl | ho
      · exact h2
      · exact h3 _ (List.mem_map.mpr ⟨o, ho, rfl⟩)
    have ge : (f N : Int) ≤ minI (f a : Int) (F.map fun o => (f o : Int)) := by
      rcases h1 with h | h
      · rw [h]
        have := hm a List.mem_cons_self
        omega
      · obtain ⟨o, ho, e⟩ := List.mem_map.mp h
        have := hm o (List.mem_cons_of_mem _ ho)
        rw [← e]
        omega
    have := le N hN
    have : minI (f a : Int) (F.map fun o => (f o : Int)) = (f N : Int) := by omega
    rw [this]
theorem filter_one {F : List (List Nat)} {p : List Nat → Bool} {N : List Nat} (nd : F.Nodup) (hN : N ∈ F) (h : ∀ o ∈ F, p o = true ↔ o = N) : F.filter p = [N] := by
  have pm : (F.filter p).Perm [N] := (List.perm_ext_iff_of_nodup (List.Pairwise.filter _ nd) (by simp)).mpr fun o => by
    rw [List.mem_filter, List.mem_singleton]
    constructor
    · rintro ⟨a, b⟩
      exact (h o a).mp b
    · rintro rfl
      exact ⟨hN, (h o hN).mpr rfl⟩
  exact List.perm_singleton.mp pm
theorem ps_tN {n : Nat} {l : List Nat} (h : ∀ x ∈ l, x < n) (hn : n ≤ 1000) : plS 4 (tN l) = true := by
  simp only [tN, plS, List.all_eq_true]
  intro d hd
  obtain ⟨x, hx, rfl⟩ := List.mem_map.mp hd
  have := h x hx
  simp only [itD, plS, Nat.blt_eq]
  omega
theorem nodess_it : ∀ l : List Nat, nodess (l.map itD) = l.length
  | [] => rfl
  | x :: l => by simp only [List.map_cons, nodess, nodess_it l, itD, nodes, List.length_cons]; omega
theorem nodes_tN (l : List Nat) : nodes (tN l) = 1 + l.length := by simp only [tN, nodes, nodess_it]
/-! ### the nearest ones -/
theorem pr_near {fs : Nat → Sm} {k1 k2 n mF : Nat} {ps : List (Nat × Nat)} {a b l : List Nat} {F : List (List Nat)} {e2 e4 e6 e7 : Option D} {s : Sto} (h1 : C_nearest (fs k1)) (h2 : C_far (fs k2)) (wf : WfO n ps) (ha : Lot n a) (hb : Lot n b) (hc : ¬ Clash ps a b) (hl : Lw n ps l) (hF : s[mF]? = some (.lst (F.map tN))) (nd : F.Nodup) (mem : ∀ o, o ∈ F ↔ Lw n ps o ∧ Fit a b o) (len : F.length ≤ 64) :
    ∃ e6' e7' ext, dB fs (bd__law_pins_right_1 k1 k2) [some (oD n ps), some (pnD a b), e2, some (.loc mF), e4, some (tN l), e6, e7, none] s = some (.nx [some (oD n ps), some (pnD a b), e2, some (.loc mF), e4, some (tN l), e6', e7', none] (s ++ ext)) := by
  have hn := wf.le
  have hN : nrs n ps a b l ∈ F := (mem _).mpr ⟨lw_nrs wf.up hl, fit_nrs ha hc⟩
  have fl := fun o ho => far_le (l := l) ((mem o).mp ho).1 ((mem o).mp ho).2 hc
  have lc1 : dL fs (.lcV (.var 3) (.var 8) .tru (el__law_pins_right_2 k2) [8]) [some (oD n ps), some (pnD a b), e2, some (.loc mF), e4, some (tN l), e6, e7, none] s = some (.ok (F.map fun o => D.int (farN n l o : Int)) s) := by
    rw [lcV_lst (n := mF) (ds := F.map tN) (by simp) hF]
    refine lc_all tN (fun o => D.int (farN n l o : Int)) F (lstIs_self hF) (by omega) fun o ho => ⟨_, tgSet_nm _ _ _, ?_⟩
    have c := h2 n l o s hl.lot ((mem o).mp ho).1.lot hn
    simp [el__law_pins_right_2, c]
  have mn := min_of (f := farN n l) (st := s) hN fun o ho => (fl o ho).1
  have lc2 : dL fs (.lc (.itV (.var 3)) (.var 8) (te__law_pins_right_3 k2) el__law_pins_right_4 [8]) [some (oD n ps), some (pnD a b), e2, some (.loc mF), e4, some (tN l), some (.int (farN n l (nrs n ps a b l) : Int)), e7, none] s = some (.ok ([nrs n ps a b l].map tN) s) := by
    rw [el_lc, ei_val (d := .loc mF) (st1 := s) fs _ _ (by simp)]
    simp only [hF, thn_ok]
    rw [← filter_one (p := fun o => decide (farN n l o = farN n l (nrs n ps a b l))) nd hN fun o ho => by
      rw [decide_eq_true_eq]
      exact ⟨fun e => (fl o ho).2 e.symm, fun e => by rw [e]⟩]
    have q := lc_map (C := lstIs mF (F.map tN)) (tg := tgD (.var 8)) (t := dT fs (te__law_pins_right_3 k2)) (e := dE fs el__law_pins_right_4) (env := wipeE [some (oD n ps), some (pnD a b), e2, some (.loc mF), e4, some (tN l), some (.int (farN n l (nrs n ps a b l) : Int)), e7, none] [8]) (st := s) tN (fun o => decide (farN n l o = farN n l (nrs n ps a b l))) tN (lstIs_self hF) F [] (by simp; omega) (fun o ho => ⟨[some (oD n ps), some (pnD a b), e2, some (.loc mF), e4, some (tN l), some (.int (farN n l (nrs n ps a b l) : Int)), e7, some (tN o)], by simp, ?_, fun _ => by simp [el__law_pins_right_4]⟩)
    · exact q
    · have c := h2 n l o s hl.lot ((mem o).mp ho).1.lot hn
      simp [te__law_pins_right_3, c, fEq_int, natI_beq]
      by_cases z : farN n l o = farN n l (nrs n ps a b l) <;> simp [z]
  have g7 : (s ++ [.lst [tN (nrs n ps a b l)]])[s.length]? = some (.lst [tN (nrs n ps a b l)]) := get_end
  have ln : bLen [.loc s.length] (s ++ [.lst [tN (nrs n ps a b l)]]) = some (.ok (.int 1) (s ++ [.lst [tN (nrs n ps a b l)]])) := by
    simp [bLen]
  have ix : fIx (.loc s.length) (.int 0) (s ++ [.lst [tN (nrs n ps a b l)]]) = some (.ok (tN (nrs n ps a b l)) (s ++ [.lst [tN (nrs n ps a b l)]])) := fIx_lst (k := 0) g7 rfl
  have nr := h1 n ps a b l (s ++ [.lst [tN (nrs n ps a b l)]]) wf ha hb hc hl
  have ne := fNe_nb (st := s ++ [.lst [tN (nrs n ps a b l)]]) (nb_tN (nrs n ps a b l)) (nb_tN (nrs n ps a b l))
  rw [D.same_refl] at ne
  have ne1 : fNe (.int 1) (.int 1) (s ++ [.lst [tN (nrs n ps a b l)]]) = some (.ok (.bl false) (s ++ [.lst [tN (nrs n ps a b l)]])) := fNe_nb rfl rfl
  refine ⟨some (.int (farN n l (nrs n ps a b l) : Int)), some (.loc s.length), [.lst [tN (nrs n ps a b l)]], ?_⟩
  have q1 : dS fs (.set 6 (.bf 5 (.lcV (.var 3) (.var 8) .tru (el__law_pins_right_2 k2) [8]))) [some (oD n ps), some (pnD a b), e2, some (.loc mF), e4, some (tN l), e6, e7, none] s = some (.nx [some (oD n ps), some (pnD a b), e2, some (.loc mF), e4, some (tN l), some (.int (farN n l (nrs n ps a b l) : Int)), e7, none] s) := by
    rw [es_set, ev_minF, lc1]
    simp only [thn_ok, mn, thnS_ok, List.set_cons_succ, List.set_cons_zero]
  have q2 : dS fs (.set 7 (.keep (.lc (.itV (.var 3)) (.var 8) (te__law_pins_right_3 k2) el__law_pins_right_4 [8]))) [some (oD n ps), some (pnD a b), e2, some (.loc mF), e4, some (tN l), some (.int (farN n l (nrs n ps a b l) : Int)), e7, none] s = some (.nx [some (oD n ps), some (pnD a b), e2, some (.loc mF), e4, some (tN l), some (.int (farN n l (nrs n ps a b l) : Int)), some (.loc s.length), none] (s ++ [.lst [tN (nrs n ps a b l)]])) := by
    rw [es_set, ev_keep, lc2]
    simp only [thn_ok, thnS_ok, List.set_cons_succ, List.set_cons_zero, List.map_cons, List.map_nil]
  generalize s ++ [.lst [tN (nrs n ps a b l)]] = S at ln ix nr ne ne1 q2 ⊢
  simp only [bd__law_pins_right_1, eb_cons, q1, q2]
  simp [ln, ix, nr, ne, ne1]
end TA
/-! plans, by the numbers of the defs that they call -/
namespace TA
open PySem
def hn_k02_0 : List Hn := [{ cls := { cps := #[66, 97, 100, 76, 111, 116] }, as := some 1, res := .tup [.str { cps := #[108, 111, 116] }, .fld { cps := #[103, 105, 118, 101, 110] }] }, { cls := { cps := #[84, 117, 114, 110, 69, 114, 114, 111, 114] }, as := none, res := .tup [.str { cps := #[111, 116, 104, 101, 114] }, .non] }]
def xm_k02_1 : List (Str × Str × Bool) := [({ cps := #[66, 97, 100, 79, 114, 100, 101, 114] }, { cps := #[84, 117, 114, 110, 69, 114, 114, 111, 114] }, true), ({ cps := #[66, 97, 100, 79, 114, 100, 101, 114] }, { cps := #[66, 97, 100, 79, 114, 100, 101, 114] }, true), ({ cps := #[66, 97, 100, 79, 114, 100, 101, 114] }, { cps := #[66, 97, 100, 76, 111, 116] }, false), ({ cps := #[66, 97, 100, 76, 111, 116] }, { cps := #[84, 117, 114, 110, 69, 114, 114, 111, 114] }, true), ({ cps := #[66, 97, 100, 76, 111, 116] }, { cps := #[66, 97, 100, 79, 114, 100, 101, 114] }, false), ({ cps := #[66, 97, 100, 76, 111, 116] }, { cps := #[66, 97, 100, 76, 111, 116] }, true)]
def t_need_lot (c_is_lot_of : Nat) : IR := .cons (.ifS (.notT (.tst (.call c_is_lot_of 2 (.cons (.var 0) (.cons (.var 1) .nil))))) (.cons (.raise { cps := #[66, 97, 100, 76, 111, 116] } { cps := #[103, 105, 118, 101, 110] } (.var 1)) .nil) .nil) .nil
def el_head_in_1 : IR := .cmp .In (.var 3) (.ix (.var 2) (.var 4))
def te_head_in_0 : IR := .notT (.tst (.bf 2 (.lcV (.var 1) (.var 4) .tru el_head_in_1 [4])))
def el_head_in_2 : IR := .var 3
def t_head_in (c_ahead_in : Nat) : IR := .cons (.set 2 (.call c_ahead_in 1 (.cons (.var 0) .nil))) (.cons (.ret (.bf 3 (.lcV (.var 1) (.var 3) te_head_in_0 el_head_in_2 [3]))) .nil)
def t_head (c_need_order c_need_lot c_head_in : Nat) : IR := .cons (.ex (.call c_need_lot 2 (.cons (.call c_need_order 1 (.cons (.var 0) .nil)) (.cons (.var 1) .nil)))) (.cons (.ret (.call c_head_in 2 (.cons (.var 0) (.cons (.var 1) .nil)))) .nil)
def el_foot_1 : IR := .cmp .In (.var 4) (.ix (.var 2) (.var 3))
def te_foot_0 : IR := .notT (.tst (.bf 2 (.lcV (.var 1) (.var 4) .tru el_foot_1 [4])))
def el_foot_2 : IR := .var 3
def t_foot (c_need_order c_need_lot c_ahead_in : Nat) : IR := .cons (.ex (.call c_need_lot 2 (.cons (.call c_need_order 1 (.cons (.var 0) .nil)) (.cons (.var 1) .nil)))) (.cons (.set 2 (.call c_ahead_in 1 (.cons (.var 0) .nil))) (.cons (.ret (.bf 3 (.lcV (.var 1) (.var 3) te_foot_0 el_foot_2 [3]))) .nil))
def t_ground (c_need_order c_need_lot c_ground_in : Nat) : IR := .cons (.ex (.call c_need_lot 2 (.cons (.call c_need_order 1 (.cons (.var 0) .nil)) (.cons (.var 1) .nil)))) (.cons (.ret (.call c_ground_in 2 (.cons (.var 0) (.cons (.var 1) .nil)))) .nil)
def t_is_loose (c_need_order c_need_lot c_head_in : Nat) : IR := .cons (.ex (.call c_need_lot 2 (.cons (.call c_need_order 1 (.cons (.var 0) .nil)) (.cons (.var 1) .nil)))) (.cons (.ret (.cmp .Eq (.call c_head_in 2 (.cons (.var 0) (.cons (.var 1) .nil))) (.var 1))) .nil)
def te__law_lot_0 (c__law_draw : Nat) : IR := .tst (.cmp .Lt (.call c__law_draw 2 (.cons (.var 0) (.cons (.int 5) .nil))) (.var 2))
def el__law_lot_1 : IR := .var 3
def t__law_lot (c__law_draw : Nat) : IR := .cons (.set 2 (.op2 .Add (.int 1) (.call c__law_draw 2 (.cons (.var 0) (.cons (.int 4) .nil))))) (.cons (.ret (.bf 3 (.lc (.rng1 (.cons (.var 1) .nil)) (.var 3) (te__law_lot_0 c__law_draw) el__law_lot_1 [3]))) .nil)
def t__law_heard_k02 : IR := .cons (.tryS (.cons (.ret (.keep (.lst (.cons .no .nil)))) .nil) [{ cls := { cps := #[66, 97, 100, 76, 111, 116] }, as := some 1, res := .tup [.str { cps := #[108, 111, 116] }, .fld { cps := #[103, 105, 118, 101, 110] }] }, { cls := { cps := #[84, 117, 114, 110, 69, 114, 114, 111, 114] }, as := none, res := .tup [.str { cps := #[111, 116, 104, 101, 114] }, .non] }] [({ cps := #[66, 97, 100, 79, 114, 100, 101, 114] }, { cps := #[84, 117, 114, 110, 69, 114, 114, 111, 114] }, true), ({ cps := #[66, 97, 100, 79, 114, 100, 101, 114] }, { cps := #[66, 97, 100, 79, 114, 100, 101, 114] }, true), ({ cps := #[66, 97, 100, 79, 114, 100, 101, 114] }, { cps := #[66, 97, 100, 76, 111, 116] }, false), ({ cps := #[66, 97, 100, 76, 111, 116] }, { cps := #[84, 117, 114, 110, 69, 114, 114, 111, 114] }, true), ({ cps := #[66, 97, 100, 76, 111, 116] }, { cps := #[66, 97, 100, 79, 114, 100, 101, 114] }, false), ({ cps := #[66, 97, 100, 76, 111, 116] }, { cps := #[66, 97, 100, 76, 111, 116] }, true)]) .nil
def te__law_lot_due_1 : IR := .tst (.cmp .In (.var 4) (.ix (.var 5) (.var 7)))
def el__law_lot_due_2 : IR := .var 7
def te__law_lot_due_0 : IR := .tst (.cmpX false (.fr (.lcV (.var 1) (.var 7) te__law_lot_due_1 el__law_lot_due_2 [7])) (.fr (.lst .nil)))
def el__law_lot_due_3 : IR := .var 4
def te__law_lot_due_5 : IR := .tst (.cmp .In (.var 8) (.ix (.var 5) (.var 4)))
def el__law_lot_due_6 : IR := .var 8
def te__law_lot_due_4 : IR := .tst (.cmpX false (.fr (.lcV (.var 1) (.var 8) te__law_lot_due_5 el__law_lot_due_6 [8])) (.fr (.lst .nil)))
def el__law_lot_due_7 : IR := .var 4
def bd__law_lot_due_8 : IR := .cons (.set 6 (.keep (.cat (.fr (.cat (.at (.var 6)) (.fr (.lst (.cons (.var 4) .nil))))) (.at (.ix (.var 5) (.var 4)))))) .nil
def t__law_lot_due (c__law_aheads : Nat) : IR := .cons (.tgt (.tup (.cons (.var 5) (.cons (.var 6) .nil))) (.tup (.cons (.call c__law_aheads 1 (.cons (.var 0) .nil)) (.cons (.keep (.lst .nil)) .nil)))) (.cons (.set 2 (.bf 3 (.lcV (.var 1) (.var 4) te__law_lot_due_0 el__law_lot_due_3 [4]))) (.cons (.set 3 (.bf 3 (.lcV (.var 1) (.var 4) te__law_lot_due_4 el__law_lot_due_7 [4]))) (.cons (.forV (.var 1) (.var 4) bd__law_lot_due_8) (.cons (.ret (.keep (.lst (.cons (.var 2) (.cons (.var 3) (.cons (.bf 3 (.sset (.at (.var 6)))) (.cons (.cmp .Eq (.var 2) (.var 1)) .nil))))))) .nil))))
def bd__law_good_k02_0 (c_head c_foot c_ground c_is_loose c__law_of c__law_lot c__law_lot_due : Nat) : IR := .cons (.set 4 (.call c__law_lot 2 (.cons (.var 0) (.cons (.ix (.var 1) (.int 0)) .nil)))) (.cons (.set 5 (.call c__law_lot_due 2 (.cons (.var 1) (.cons (.var 4) .nil)))) (.cons (.set 6 (.keep (.lst (.cons (.call c_head 2 (.cons (.var 1) (.cons (.var 4) .nil))) (.cons (.call c_foot 2 (.cons (.var 1) (.cons (.var 4) .nil))) (.cons (.call c_ground 2 (.cons (.var 1) (.cons (.var 4) .nil))) (.cons (.call c_is_loose 2 (.cons (.var 1) (.cons (.var 4) .nil))) .nil))))))) (.cons (.ifS (.orT (.tst (.cmp .NotEq (.bv 4 (.cons (.var 6) .nil)) (.bv 4 (.cons (.var 5) .nil)))) (.tst (.cmp .NotEq (.bv 4 (.cons (.call c_ground 2 (.cons (.var 1) (.cons (.var 4) .nil))) .nil)) (.bv 4 (.cons (.ix (.var 5) (.int 2)) .nil))))) (.cons (.ret (.bl false)) .nil) .nil) (.cons (.ifS (.orT (.tst (.cmp .NotEq (.call c_head 2 (.cons (.var 1) (.cons (.ix (.var 5) (.int 2)) .nil))) (.ix (.var 5) (.int 0)))) (.orT (.tst (.cmp .NotEq (.call c_ground 2 (.cons (.var 1) (.cons (.ix (.var 5) (.int 0)) .nil))) (.ix (.var 5) (.int 2)))) (.tst (.cmp .IsNot (.call c_is_loose 2 (.cons (.var 1) (.cons (.ix (.var 5) (.int 0)) .nil))) (.bl true))))) (.cons (.ret (.bl false)) .nil) .nil) (.cons (.set 7 (.call c__law_of 2 (.cons (.var 0) (.cons (.keep (.lst (.cons (.op2 .Add (.var 4) (.tup (.cons (.ix (.var 1) (.int 0)) .nil))) (.cons (.keep (.bL 0 (.at (.var 4)))) (.cons (.ifE (.tst (.cmp .NotEq (.var 4) (.tup .nil))) (.op2 .Add (.var 4) (.sl (.var 4) (.at (.neg (.int 1))) .nil)) .non) (.cons (.op2 .Add (.tup (.cons (.neg (.int 1)) .nil)) (.var 4)) (.cons .non .nil))))))) .nil)))) (.cons (.set 8 (.keep (.lst (.cons (.hear (.call c_head 2 (.cons (.var 1) (.cons (.var 7) .nil))) hn_k02_0 xm_k02_1) (.cons (.hear (.call c_foot 2 (.cons (.var 1) (.cons (.var 7) .nil))) hn_k02_0 xm_k02_1) .nil))))) (.cons (.set 8 (.keep (.cat (.at (.var 8)) (.fr (.lst (.cons (.hear (.call c_ground 2 (.cons (.var 1) (.cons (.var 7) .nil))) hn_k02_0 xm_k02_1) (.cons (.hear (.call c_is_loose 2 (.cons (.var 1) (.cons (.var 7) .nil))) hn_k02_0 xm_k02_1) .nil))))))) (.cons (.ifS (.tst (.cmp .NotEq (.bv 4 (.cons (.var 8) .nil)) (.bf 4 (.rep (.fr (.lst (.cons (.tup (.cons (.str { cps := #[108, 111, 116] }) (.cons (.var 7) .nil))) .nil))) (.int 4))))) (.cons (.ret (.bl false)) .nil) .nil) .nil))))))))
def t__law_good_k02 (c_head c_foot c_ground c_is_loose c__law_of c__law_order c__law_lowers c__law_lot c__law_lot_due : Nat) : IR := .cons (.set 1 (.call c__law_order 2 (.cons (.var 0) (.cons (.int 7) .nil)))) (.cons (.for (.rng1 (.cons (.int 5) .nil)) (.var 2) (bd__law_good_k02_0 c_head c_foot c_ground c_is_loose c__law_of c__law_lot c__law_lot_due)) (.cons (.set 3 (.call c__law_of 2 (.cons (.var 0) (.cons (.call c__law_lowers 1 (.cons (.ifE (.tst (.cmp .Lt (.ix (.var 1) (.int 0)) (.int 7))) (.tup (.cons (.ix (.var 1) (.int 0)) (.cons (.ix (.var 1) (.int 1)) .nil))) (.tup (.cons (.int 6) (.cons (.tup (.cons (.tup (.cons (.int 0) (.cons (.int 1) .nil))) (.cons (.tup (.cons (.int 2) (.cons (.int 4) .nil))) .nil))) .nil)))) .nil)) .nil)))) (.cons (.set 1 (.ifE (.tst (.cmp .Lt (.ix (.var 1) (.int 0)) (.int 7))) (.var 1) (.tup (.cons (.int 6) (.cons (.tup (.cons (.tup (.cons (.int 0) (.cons (.int 1) .nil))) (.cons (.tup (.cons (.int 2) (.cons (.int 4) .nil))) .nil))) .nil))))) (.cons (.ret (.andV (.cmp .Eq (.call c_ground 2 (.cons (.var 1) (.cons (.var 3) .nil))) (.var 3)) (.cmp .Eq (.call c_ground 2 (.cons (.var 1) (.cons (.call c_head 2 (.cons (.var 1) (.cons (.var 3) .nil))) .nil))) (.var 3)))) .nil))))
def el_law_k02_0 (c_is_loose : Nat) : IR := .call c_is_loose 2 (.cons (.var 1) (.cons (.var 6) .nil))
def bd_law_k02_1 (c__law_good : Nat) : IR := .cons (.ifS (.notT (.tst (.call c__law_good 1 (.cons (.var 4) .nil)))) (.cons (.ret (.bl false)) .nil) .nil) .nil
def t_law_k02 (c_head c_foot c_ground c_is_loose c__law_begin c__law_good : Nat) : IR := .cons (.set 1 (.tup (.cons (.int 5) (.cons (.tup (.cons (.tup (.cons (.int 0) (.cons (.int 1) .nil))) (.cons (.tup (.cons (.int 1) (.cons (.int 2) .nil))) (.cons (.tup (.cons (.int 1) (.cons (.int 3) .nil))) (.cons (.tup (.cons (.int 2) (.cons (.int 4) .nil))) .nil))))) .nil)))) (.cons (.set 2 (.keep (.lst (.cons (.call c_head 2 (.cons (.var 1) (.cons (.tup (.cons (.int 0) (.cons (.int 2) (.cons (.int 3) .nil)))) .nil))) (.cons (.call c_foot 2 (.cons (.var 1) (.cons (.tup (.cons (.int 1) (.cons (.int 2) (.cons (.int 3) .nil)))) .nil))) (.cons (.call c_ground 2 (.cons (.var 1) (.cons (.tup (.cons (.int 3) .nil)) .nil))) (.cons (.call c_ground 2 (.cons (.var 1) (.cons (.tup .nil) .nil))) .nil))))))) (.cons (.ifS (.tst (.cmpX true (.at (.var 2)) (.fr (.lst (.cons (.tup (.cons (.int 2) (.cons (.int 3) .nil))) (.cons (.tup (.cons (.int 1) .nil)) (.cons (.tup (.cons (.int 0) (.cons (.int 1) (.cons (.int 3) .nil)))) (.cons (.tup .nil) .nil)))))))) (.cons (.ret (.bl false)) .nil) .nil) (.cons (.ifS (.tst (.cmpX true (.fr (.lcV (.tup (.cons (.tup .nil) (.cons (.tup (.cons (.int 2) (.cons (.int 3) .nil))) (.cons (.tup (.cons (.int 0) (.cons (.int 4) .nil))) (.cons (.tup (.cons (.int 3) (.cons (.int 4) .nil))) (.cons (.tup (.cons (.int 4) .nil)) .nil)))))) (.var 6) .tru (el_law_k02_0 c_is_loose) [6])) (.fr (.lst (.cons (.bl true) (.cons (.bl true) (.cons (.bl false) (.cons (.bl true) (.cons (.bl true) .nil))))))))) (.cons (.ret (.bl false)) .nil) .nil) (.cons (.set 3 (.keep (.lst (.cons (.hear (.call c_head 2 (.cons (.var 1) (.cons (.tup (.cons (.int 1) (.cons (.int 0) .nil))) .nil))) hn_k02_0 xm_k02_1) (.cons (.hear (.call c_ground 2 (.cons (.var 1) (.cons (.keep (.lst (.cons (.int 0) .nil))) .nil))) hn_k02_0 xm_k02_1) .nil))))) (.cons (.ifS (.tst (.cmpX true (.at (.var 3)) (.fr (.lst (.cons (.tup (.cons (.str { cps := #[108, 111, 116] }) (.cons (.tup (.cons (.int 1) (.cons (.int 0) .nil))) .nil))) (.cons (.tup (.cons (.str { cps := #[108, 111, 116] }) (.cons (.keep (.lst (.cons (.int 0) .nil))) .nil))) .nil)))))) (.cons (.ret (.bl false)) .nil) .nil) (.cons (.set 4 (.call c__law_begin 1 (.cons (.var 0) .nil))) (.cons (.for (.rng1 (.cons (.op2 .Add (.int 3) (.bv 5 (.cons (.bv 0 (.cons (.var 0) .nil)) (.cons (.int 4) .nil)))) .nil)) (.var 5) (bd_law_k02_1 c__law_good)) (.cons (.ret (.bl true)) .nil))))))))
end TA
/-! lots asked of any thing; heads, feet, grounds of lots -/
namespace TA
open PySem
/-- a thing that may be asked whether it is a lot -/
def okLt (st : Sto) (d : D) : Prop := okV st d ∧ ∀ ds, d = .tup ds → okVs st ds ∧ ds.length ≤ 1000
def ascB (ds : List D) : Bool := (ds.zip ds.tail).all fun p => ltI2 p.1 p.2
def lotB (n : Nat) (d : D) : Bool := match d with
  | .tup ds => ds.all (fun x => within x 0 ((n : Int) - 1)) && ascB ds
  | _ => false
def xLot (e : D) : Xn := ⟨{ cps := #[66, 97, 100, 76, 111, 116] }, [({ cps := #[103, 105, 118, 101, 110] }, e)]⟩
def needL (n : Nat) (d : D) (st : Sto) : Option (Out D) := match lotB n d with
  | true => some (.ok .non st)
  | false => some (.exc (xLot d) st)
theorem okVs_free {st : Sto} : ∀ {ds : List D}, okVs st ds → D.frees ds = true → ∀ st', okVs st' ds
  | [], _, _, _ => fun d hd => by cases hd
  | d :: ds, h, hf, st' => fun e he => by
    simp only [D.frees, Bool.and_eq_true] at hf
    rcases List.mem_cons.mp he with rfl | he
    · exact okV_free (h _ List.mem_cons_self) hf.1 st'
    · exact okVs_free (fun x hx => h x (List.mem_cons_of_mem _ hx)) hf.2 st' e he
theorem okLt_free {st : Sto} {d : D} (h : okLt st d) (hf : D.free d = true) (st' : Sto) : okLt st' d := ⟨okV_free h.1 hf st', fun ds e => by
  subst e
  exact ⟨okVs_free (h.2 ds rfl).1 (by simpa [D.free] using hf) st', (h.2 ds rfl).2⟩⟩
theorem okLt_tN {st : Sto} {l : List Nat} (h : l.length ≤ 1000) : okLt st (tN l) := ⟨⟨_, rfl⟩, fun ds e => by
  cases e
  refine ⟨fun d hd => ?_, by simpa using h⟩
  obtain ⟨k, _, rfl⟩ := List.mem_map.mp hd
  exact okV_it k⟩
theorem lotB_tN {n : Nat} {l : List Nat} (h : Lot n l) : lotB n (tN l) = true := by
  unfold tN lotB
  simp only [Bool.and_eq_true, List.all_eq_true]
  refine ⟨fun d hd => ?_, zip_asc l h.asc⟩
  obtain ⟨k, hk, rfl⟩ := List.mem_map.mp hd
  have := h.lt k hk
  simp only [within, itD, Bool.and_eq_true, decide_eq_true_eq]
  omega
def C_asc' (f : Sm) : Prop := ∀ ds st, (∀ d ∈ ds, isI d = true) → ds.length ≤ 1000 → callS f [.tup ds] st = some (.ok (.bl (ascB ds)) st)
theorem c_asc' (fs : Nat → Sm) : C_asc' (semOf 3 (dB fs t_do_ascend)) := by
  intro ds st h hl
  have run : ∀ st, semOf 3 (dB fs t_do_ascend) [.tup ds] st = some (.ok (.bl (ascB ds)) st) := fun st => by
    refine s_do_ascend fs ds st ltI2 hl fun a b hm => ?_
    have h1 := h a (List.of_mem_zip hm).1
    have h2 := h b (List.mem_of_mem_tail (List.of_mem_zip hm).2)
    cases a <;> simp [isI] at h1
    cases b <;> simp [isI] at h2
    rfl
  exact call_keep rfl (run st) fun _ => ⟨[], run []⟩
theorem bools_mapA {α : Type} (p : α → Bool) : ∀ l : List α, bools? (l.map fun x => D.bl (p x)) = some (l.map p)
  | [] => rfl
  | a :: l => by simp [bools?, bools_mapA p l]
theorem bAllF_map {α : Type} (p : α → Bool) (l : List α) (st : Sto) : bAllF (l.map fun x => D.bl (p x)) st = some (.ok (.bl (l.all p)) st) := by
  simp only [bAllF, bools_mapA, List.all_map]
  rfl
theorem bAnyF_map {α : Type} (p : α → Bool) (l : List α) (st : Sto) : bAnyF (l.map fun x => D.bl (p x)) st = some (.ok (.bl (l.any p)) st) := by
  simp only [bAnyF, bools_mapA, List.any_map]
  rfl
def C_lotq (f : Sm) : Prop := ∀ n ps d st, okLt st d → callS f [oD n ps, d] st = some (.ok (.bl (lotB n d)) st)
theorem c_lotq {fs : Nat → Sm} {k1 k2 : Nat} (h1 : C_is_within (fs k1)) (h2 : C_asc' (fs k2)) : C_lotq (semOf 3 (dB fs (t_is_lot_of k1 k2))) := by
  have run : ∀ n ps d st, okLt st d → semOf 3 (dB fs (t_is_lot_of k1 k2)) [oD n ps, d] st = some (.ok (.bl (lotB n d)) st) := by
    intro n ps d st hd
    obtain ⟨T, hT⟩ := hd.1
    have e := bIsi_tup hT
    cases hds : d with
    | tup ds =>
      obtain ⟨ok, hl⟩ := hd.2 ds hds
      subst hds
      have lc : dL fs (.lcV (.var 1) (.var 2) .tru (el_is_lot_of_0 k1) [2]) [some (oD n ps), some (.tup ds), none] st = some (.ok (ds.map fun x => .bl (within x 0 ((n : Int) - 1))) st) := by
        rw [lcV_tup (ds := ds.map id) (by simp)]
        refine lc_all id (fun x => .bl (within x 0 ((n : Int) - 1))) ds rfl (by omega) fun x hx => ⟨_, rfl, ?_⟩
        have c := c_is_within h1 x 0 ((n : Int) - 1) st (ok x hx)
        simp [el_is_lot_of_0, oD, c]
      have b1 := bAllF_map (fun x => within x 0 ((n : Int) - 1)) ds st
      cases ha : ds.all (fun x => within x 0 ((n : Int) - 1)) with
      | false =>
        rw [ha] at b1
        simp only at e
        simp [t_is_lot_of, e, lc, b1, lotB, ha]
      | true =>
        rw [ha] at b1
        have c2 := h2 ds st (fun x hx => by
          have := List.all_eq_true.mp ha x hx
          cases x <;> simp_all [within, isI]) hl
        simp only at e
        simp [t_is_lot_of, e, lc, b1, c2, lotB, ha]
    | _ =>
      subst hds
      simp only at e
      simp [t_is_lot_of, e, lotB]
  intro n ps d st hd
  refine call_keep rfl (run n ps d st hd) fun hf => ⟨[], run n ps d [] (okLt_free hd ?_ [])⟩
  simp only [D.frees, Bool.and_eq_true] at hf
  exact hf.2.1
def C_need_lot (f : Sm) : Prop := ∀ n ps d st, okLt st d → callS f [oD n ps, d] st = needL n d st
theorem c_need_lot {fs : Nat → Sm} {k : Nat} (h : C_lotq (fs k)) : C_need_lot (semOf 2 (dB fs (t_need_lot k))) := by
  have run : ∀ n ps d st, okLt st d → semOf 2 (dB fs (t_need_lot k)) [oD n ps, d] st = needL n d st := fun n ps d st hd => by
    have c := h n ps d st hd
    unfold needL
    cases e : lotB n d with
    | true => rw [e] at c; simp [t_need_lot, c]
    | false => rw [e] at c; simp [t_need_lot, c, xLot]
  intro n ps d st hd
  cases hf : D.frees [oD n ps, d] with
  | false => rw [call_loc hf]; exact run n ps d st hd
  | true =>
    have hdf : D.free d = true := by
      simp only [D.frees, Bool.and_eq_true] at hf
      exact hf.2.1
    have r := run n ps d [] (okLt_free hd hdf [])
    unfold needL at r ⊢
    cases e : lotB n d with
    | true => rw [e] at r; exact call_free hf rfl r
    | false => rw [e] at r; exact call_exc hf (by simp [frX, xLot, hdf]) r
/-! ### heads and feet -/
/-- nothing of the lot is behind it -/
def Top (ps : List (Nat × Nat)) (l : List Nat) (i : Nat) : Prop := i ∈ l ∧ ∀ j ∈ l, ¬ Ahd ps i j
/-- nothing of the lot is ahead of it -/
def Low (ps : List (Nat × Nat)) (l : List Nat) (i : Nat) : Prop := i ∈ l ∧ ∀ j ∈ l, ¬ Ahd ps j i
theorem lot_filter {n : Nat} {l : List Nat} {p : Nat → Bool} {P : Nat → Prop} (h : Lot n l) (hp : ∀ i ∈ l, p i = true ↔ P i) : l.filter p = selN n fun i => i ∈ l ∧ P i := by
  refine asc_uniq (List.Pairwise.filter _ h.asc) (selN_asc _ _) fun i => ?_
  rw [List.mem_filter, mem_selN]
  exact ⟨fun ⟨a, b⟩ => ⟨h.lt i a, a, (hp i a).mp b⟩, fun ⟨_, a, b⟩ => ⟨a, (hp i a).mpr b⟩⟩
def C_part (f : Sm) (F : List (Nat × Nat) → List Nat → Nat → Prop) : Prop := ∀ n ps l st, WfO n ps → Lot n l → callS f [oD n ps, tN l] st = some (.ok (tN (selN n (F ps l))) st)
theorem bTupF_sel (l : List Nat) (st : Sto) : bTupF (l.map itD) st = some (.ok (tN l) st) := rfl
theorem c_head_in {fs : Nat → Sm} {k : Nat} (h1 : C_ahead_in (fs k)) : C_part (semOf 5 (dB fs (t_head_in k))) Top := by
  intro n ps l st w hl
  have hn := w.le
  have ll := hl.len
  obtain ⟨tab, g, c⟩ := h1 n ps [] w.up w.le w.len
  simp only [List.length_nil, Nat.zero_add, List.nil_append] at c
  have t := DTab.of (st := []) n tab
  simp only [List.nil_append, List.length_nil] at t
  have inner : ∀ i, dL fs (.lcV (.var 1) (.var 4) .tru el_head_in_1 [4]) [some (oD n ps), some (tN l), some (.loc n), some (.int ((i : Nat) : Int)), none] (bSt 0 n tab) = some (.ok (l.map fun j => .bl (decide (i ∈ tab j))) (bSt 0 n tab)) := fun i => by
    rw [lcV_tup (ds := l.map itD) (by simp [tN])]
    refine lc_all itD (fun j => .bl (decide (i ∈ tab j))) l rfl (by omega) fun j hj => ⟨_, rfl, ?_⟩
    have hj' := hl.lt j hj
    have ix := t.ix hj'
    have inn := fIn_dctN (x := i) (t.dct j hj')
    simp only [Nat.zero_add] at ix inn
    simp [el_head_in_1, itD, ix, inn]
  have lc : dL fs (.lcV (.var 1) (.var 3) te_head_in_0 el_head_in_2 [3]) [some (oD n ps), some (tN l), some (.loc n), none, none] (bSt 0 n tab) = some (.ok ((selN n (Top ps l)).map itD) (bSt 0 n tab)) := by
    rw [lcV_tup (ds := l.map itD) (by simp [tN])]
    rw [lc_map itD (fun i => !l.any fun j => decide (i ∈ tab j)) itD rfl l [] (by simp; omega) (fun i hi => ?_)]
    · rw [lot_filter (P := fun i => ∀ j ∈ l, ¬ Ahd ps i j) hl fun i hi => ?_]
      · rfl
      · simp only [Bool.not_eq_true', List.any_eq_false, decide_eq_true_eq]
        exact ⟨fun h j hj a => h j hj (((g j (hl.lt j hj)).2 i).mpr a), fun h j hj a => h j hj (((g j (hl.lt j hj)).2 i).mp a)⟩
    · have b := bAnyF_map (fun j => decide (i ∈ tab j)) l (bSt 0 n tab)
      exact ⟨[some (oD n ps), some (tN l), some (.loc n), some (.int (i : Int)), none], by simp [itD], by simp [te_head_in_0, inner, b], fun _ => by simp [el_head_in_2, itD]⟩
  refine call_free (st' := bSt 0 n tab) (frees_ot n ps l) (free_tN _) ?_
  simp [t_head_in, c, lc, bTupF_sel]
/-! ### what is asked from outside -/
structure C_lots (f : Sm) (F : List (Nat × Nat) → List Nat → Nat → Prop) : Prop where
  good : C_part f F
  bad : ∀ n ps d st, WfO n ps → okLt st d → lotB n d = false → callS f [oD n ps, d] st = some (.exc (xLot d) st)
theorem bad_of {f : Sm} (run : ∀ n ps d st, WfO n ps → okLt st d → lotB n d = false → f [oD n ps, d] st = some (.exc (xLot d) st)) : ∀ n ps d st, WfO n ps → okLt st d → lotB n d = false → callS f [oD n ps, d] st = some (.exc (xLot d) st) := by
  intro n ps d st w hd hb
  cases hf : D.frees [oD n ps, d] with
  | false => rw [call_loc hf]; exact run n ps d st w hd hb
  | true =>
    have hdf : D.free d = true := by
      simp only [D.frees, Bool.and_eq_true] at hf
      exact hf.2.1
    exact call_exc hf (by simp [frX, xLot, hdf]) (run n ps d [] w (okLt_free hd hdf []) hb)
theorem needL_bad {n : Nat} {d : D} {st : Sto} (h : lotB n d = false) : needL n d st = some (.exc (xLot d) st) := by simp only [needL, h]
theorem needL_good {n : Nat} {l : List Nat} {st : Sto} (h : Lot n l) : needL n (tN l) st = some (.ok .non st) := by simp only [needL, lotB_tN h]
theorem c_head {fs : Nat → Sm} {k1 k2 k3 : Nat} (h1 : C_need_order (fs k1)) (h2 : C_need_lot (fs k2)) (h3 : C_part (fs k3) Top) : C_lots (semOf 2 (dB fs (t_head k1 k2 k3))) Top := by
  refine ⟨fun n ps l st w hl => ?_, bad_of fun n ps d st w hd hb => ?_⟩
  · have ll := hl.len
    have hn := w.le
    have c2 := h2 n ps (tN l) [] (okLt_tN (by omega))
    rw [needL_good hl] at c2
    refine call_free (st' := []) (frees_ot n ps l) (free_tN _) ?_
    simp [t_head, need_good h1 w, c2, h3 n ps l [] w hl]
  · have c2 := h2 n ps d st hd
    rw [needL_bad hb] at c2
    simp [t_head, need_good h1 w, c2]
theorem c_ground {fs : Nat → Sm} {k1 k2 k3 : Nat} (h1 : C_need_order (fs k1)) (h2 : C_need_lot (fs k2)) (h3 : C_ground_in (fs k3)) : C_lots (semOf 2 (dB fs (t_ground k1 k2 k3))) Grd := by
  refine ⟨fun n ps l st w hl => ?_, bad_of fun n ps d st w hd hb => ?_⟩
  · have ll := hl.len
    have hn := w.le
    have c2 := h2 n ps (tN l) [] (okLt_tN (by omega))
    rw [needL_good hl] at c2
    refine call_free (st' := []) (frees_ot n ps l) (free_tN _) ?_
    simp [t_ground, need_good h1 w, c2, h3 n ps l [] w hl]
  · have c2 := h2 n ps d st hd
    rw [needL_bad hb] at c2
    simp [t_ground, need_good h1 w, c2]
theorem c_foot {fs : Nat → Sm} {k1 k2 k3 : Nat} (h1 : C_need_order (fs k1)) (h2 : C_need_lot (fs k2)) (h3 : C_ahead_in (fs k3)) : C_lots (semOf 5 (dB fs (t_foot k1 k2 k3))) Low := by
  refine ⟨fun n ps l st w hl => ?_, bad_of fun n ps d st w hd hb => ?_⟩
  · have hn := w.le
    have ll := hl.len
    have c2 := h2 n ps (tN l) [] (okLt_tN (by omega))
    rw [needL_good hl] at c2
    obtain ⟨tab, g, c⟩ := h3 n ps [] w.up w.le w.len
    simp only [List.length_nil, Nat.zero_add, List.nil_append] at c
    have t := DTab.of (st := []) n tab
    simp only [List.nil_append, List.length_nil] at t
    have inner : ∀ i, i < n → dL fs (.lcV (.var 1) (.var 4) .tru el_foot_1 [4]) [some (oD n ps), some (tN l), some (.loc n), some (.int ((i : Nat) : Int)), none] (bSt 0 n tab) = some (.ok (l.map fun j => .bl (decide (j ∈ tab i))) (bSt 0 n tab)) := fun i hi => by
      rw [lcV_tup (ds := l.map itD) (by simp [tN])]
      refine lc_all itD (fun j => .bl (decide (j ∈ tab i))) l rfl (by omega) fun j hj => ⟨_, rfl, ?_⟩
      have ix := t.ix hi
      have inn := fIn_dctN (x := j) (t.dct i hi)
      simp only [Nat.zero_add] at ix inn
      simp [el_foot_1, itD, ix, inn]
    have lc : dL fs (.lcV (.var 1) (.var 3) te_foot_0 el_foot_2 [3]) [some (oD n ps), some (tN l), some (.loc n), none, none] (bSt 0 n tab) = some (.ok ((selN n (Low ps l)).map itD) (bSt 0 n tab)) := by
      rw [lcV_tup (ds := l.map itD) (by simp [tN])]
      rw [lc_map itD (fun i => !l.any fun j => decide (j ∈ tab i)) itD rfl l [] (by simp; omega) (fun i hi => ?_)]
      · rw [lot_filter (P := fun i => ∀ j ∈ l, ¬ Ahd ps j i) hl fun i hi => ?_]
        · rfl
        · simp only [Bool.not_eq_true', List.any_eq_false, decide_eq_true_eq]
          exact ⟨fun h j hj a => h j hj (((g i (hl.lt i hi)).2 j).mpr a), fun h j hj a => h j hj (((g i (hl.lt i hi)).2 j).mp a)⟩
      · have b := bAnyF_map (fun j => decide (j ∈ tab i)) l (bSt 0 n tab)
        exact ⟨[some (oD n ps), some (tN l), some (.loc n), some (.int (i : Int)), none], by simp [itD], by simp [te_foot_0, inner i (hl.lt i hi), b], fun _ => by simp [el_foot_2, itD]⟩
    refine call_free (st' := bSt 0 n tab) (frees_ot n ps l) (free_tN _) ?_
    simp [t_foot, need_good h1 w, c2, c, lc, bTupF_sel]
  · have c2 := h2 n ps d st hd
    rw [needL_bad hb] at c2
    simp [t_foot, need_good h1 w, c2]
structure C_loose (f : Sm) : Prop where
  good : ∀ n ps l st, WfO n ps → Lot n l → callS f [oD n ps, tN l] st = some (.ok (.bl (decide (selN n (Top ps l) = l))) st)
  bad : ∀ n ps d st, WfO n ps → okLt st d → lotB n d = false → callS f [oD n ps, d] st = some (.exc (xLot d) st)
theorem tN_inj : ∀ {a b : List Nat}, tN a = tN b → a = b := fun {a b} h => by
  unfold tN at h
  injection h with h
  exact List.map_inj_right (f := itD) (fun x y e => by unfold itD at e; injection e with e; omega) |>.mp h
theorem same_tN (a b : List Nat) : D.same (tN a) (tN b) = decide (a = b) := by
  rw [Bool.eq_iff_iff, same_iff, decide_eq_true_eq]
  exact ⟨tN_inj, fun h => by rw [h]⟩
theorem fEq_tN {a b : List Nat} {st : Sto} : fEq (tN a) (tN b) st = some (.ok (.bl (decide (a = b))) st) := by rw [fEq_nb (nb_tN a) (nb_tN b), same_tN]
theorem fNe_tN {a b : List Nat} {st : Sto} : fNe (tN a) (tN b) st = some (.ok (.bl (!decide (a = b))) st) := by rw [fNe_nb (nb_tN a) (nb_tN b), same_tN]
theorem c_is_loose {fs : Nat → Sm} {k1 k2 k3 : Nat} (h1 : C_need_order (fs k1)) (h2 : C_need_lot (fs k2)) (h3 : C_part (fs k3) Top) : C_loose (semOf 2 (dB fs (t_is_loose k1 k2 k3))) := by
  refine ⟨fun n ps l st w hl => ?_, bad_of fun n ps d st w hd hb => ?_⟩
  · have ll := hl.len
    have hn := w.le
    have c2 := h2 n ps (tN l) [] (okLt_tN (by omega))
    rw [needL_good hl] at c2
    refine call_free (st' := []) (frees_ot n ps l) rfl ?_
    simp [t_is_loose, need_good h1 w, c2, h3 n ps l [] w hl, fEq_tN]
  · have c2 := h2 n ps d st hd
    rw [needL_bad hb] at c2
    simp [t_is_loose, need_good h1 w, c2]
end TA
/-! the laws' own lots -/
namespace TA
open PySem
def C_lot (f : Sm) : Prop := ∀ (b a n : Nat) st, DrS st b a → a ≤ 700000000 → n ≤ 20 → ∃ l a' st', callS f [.loc (b + 2), .int (n : Int)] st = some (.ok (tN l) st') ∧ Lot n l ∧ DrS st' b a' ∧ a' ≤ a + 30 ∧ Kps b st st' ∧ st'.length = st.length
theorem c_lot {fs : Nat → Sm} {k : Nat} (hf : C_draw (fs k)) : C_lot (semOf 4 (dB fs (t__law_lot k))) := by
  intro b a n st h ha hn
  rw [call_loc (by simp [D.frees, D.free])]
  obtain ⟨r, st1, c1, hr, d1, k1, l1⟩ := hf b a 4 st h (by omega) (by omega) (by omega)
  have c1' : callS (fs k) [.loc (b + 2), .int 4] st = some (.ok (.int (r : Int)) st1) := c1
  have rg := rng1_n (fs := fs) (env := [some (.loc (b + 2)), some (.int (n : Int)), some (.int (1 + (r : Int))), none]) (a := .var 1) (n := n) (st := st1) (st1 := st1) (by omega) (by simp)
  obtain ⟨ys, st2, q1, ⟨l, rfl, lt, d2, k2, l2⟩⟩ := lc_all_inv (C := yes) (tg := .nm 3) (t := dT fs (te__law_lot_0 k)) (e := dE fs el__law_lot_1) (env := [some (.loc (b + 2)), some (.int (n : Int)), some (.int (1 + (r : Int))), none]) (fun i : Nat => D.int (i : Int))
    (fun q acc s => ∃ l, acc = l.map itD ∧ Lot q.length l ∧ DrS s b (a + 1 + q.length) ∧ Kps b st s ∧ s.length = st.length) (List.range n) (fun _ _ _ _ => rfl)
    (by
      rintro q i t acc s hq ⟨l, rfl, lt, d, kp, ls⟩
      obtain ⟨e, hi⟩ := range_pre hq
      have lq : q.length = i := by rw [e]; simp
      rw [lq] at lt d
      obtain ⟨r2, s2, c2, hr2, d3, k3, l3⟩ := hf b (a + 1 + i) 5 s d (by omega) (by omega) (by omega)
      have c2' : callS (fs k) [.loc (b + 2), .int 5] s = some (.ok (.int (r2 : Int)) s2) := c2
      have ll := lt.len
      refine ⟨by simp; omega, [some (.loc (b + 2)), some (.int (n : Int)), some (.int (1 + (r : Int))), some (.int (i : Int))], by simp, decide ((r2 : Int) < 1 + (r : Int)), s2, by simp [te__law_lot_0, c2', fLt_int], fun _ => ⟨l, rfl, ⟨lt.asc, fun x hx => ?_⟩, ?_, kp.trans k3, by omega⟩, fun _ => ⟨itD i, s2, by simp [el__law_lot_1, itD], l ++ [i], by simp, ⟨?_, fun x hx => ?_⟩, ?_, kp.trans k3, by omega⟩⟩
      · have := lt.lt x hx
        simp [lq]; omega
      · rw [List.length_append, List.length_singleton, lq, ← Nat.add_assoc]; exact d3
      · rw [List.pairwise_append]
        exact ⟨lt.asc, by simp, fun x hx y hy => by
          rw [List.mem_singleton] at hy
          have := lt.lt x hx
          omega⟩
      · rw [List.length_append, List.length_singleton, lq]
        rcases List.mem_append.mp hx with hx | hx
        · have := lt.lt x hx; omega
        · rw [List.mem_singleton] at hx; omega
      · rw [List.length_append, List.length_singleton, lq, ← Nat.add_assoc]; exact d3) (List.range n) [] [] st1 rfl ⟨[], rfl, ⟨.nil, by simp⟩, d1, k1, l1⟩
  simp only [List.length_range] at lt d2
  refine ⟨l, a + 1 + n, st2, ?_, lt, d2, by omega, k2, l2⟩
  have lc : dL fs (.lc (.rng1 (.cons (.var 1) .nil)) (.var 3) (te__law_lot_0 k) el__law_lot_1 [3]) [some (.loc (b + 2)), some (.int (n : Int)), some (.int (1 + (r : Int))), none] st1 = some (.ok (l.map itD) st2) := by
    rw [el_lc, rg, thn_ok, rngD0]
    have w : wipeE [some (.loc (b + 2)), some (.int (n : Int)), some (.int (1 + (r : Int))), none] [3] = [some (.loc (b + 2)), some (.int (n : Int)), some (.int (1 + (r : Int))), none] := rfl
    simp only [w, tgD_var, q1]
  simp [t__law_lot, c1', lc, bTupF_sel]
/-! ### what is due -/
theorem sset_sel {n : Nat} {P : Nat → Prop} {F : List Nat} (hm : ∀ i, i ∈ F ↔ i < n ∧ P i) : sortI (uniqI (F.map fun (k : Nat) => (k : Int))) = (selN n P).map fun (k : Nat) => (k : Int) := by
  refine sorted_eq ((sortI_perm _).trans ((List.perm_ext_iff_of_nodup uniqI_nodup ?_).mpr fun z => ?_)) (sortI_pw _) ?_
  · have := asc_nodup (selN_asc n P)
    exact List.Pairwise.map _ (fun a b h => by omega) this
  · rw [uniqI_mem, List.mem_map, List.mem_map]
    exact ⟨fun ⟨k, a, e⟩ => ⟨k, mem_selN.mpr ((hm k).mp a), e⟩, fun ⟨k, a, e⟩ => ⟨k, (hm k).mpr (mem_selN.mp a), e⟩⟩
  · rw [List.pairwise_map]
    exact (selN_asc n P).imp fun {a b} h => by omega
theorem lSset_sel {n m : Nat} {P : Nat → Prop} {F : List Nat} {st : Sto} (hs : st[m]? = some (.lst (F.map itD))) (hl : F.length < 64) (hm : ∀ i, i ∈ F ↔ i < n ∧ P i) : lSset (.at (.loc m)) st = some ((selN n P).map itD) := by
  have e : flInts (.at (.loc m)) st = some (F.map fun (k : Nat) => (k : Int)) := by simp only [flInts, hs, ints_it]
  have hb : Nat.blt (F.map fun (k : Nat) => (k : Int)).length 64 = true := by rw [Nat.blt_eq, List.length_map]; exact hl
  simp only [lSset, e, hb, sset_sel hm, List.map_map]
  rfl
/-- all found by a row of items -/
noncomputable def fndL (ps : List (Nat × Nat)) (n : Nat) (q : List Nat) : List Nat := q.flatMap fun x => x :: ahT ps n x
theorem fndL_app (ps : List (Nat × Nat)) (n : Nat) (q : List Nat) (x : Nat) : fndL ps n (q ++ [x]) = fndL ps n q ++ [x] ++ ahT ps n x := by simp [fndL]
theorem fndL_len (ps : List (Nat × Nat)) (n : Nat) : ∀ q : List Nat, (fndL ps n q).length ≤ q.length * (n + 1)
  | [] => by simp [fndL]
  | x :: q => by
    have h1 := fndL_len ps n q
    have h2 : (ahT ps n x).length ≤ n := selN_len n fun k => Ahd ps k x
    simp only [fndL, List.flatMap_cons, List.length_append, List.length_cons] at h1 ⊢
    rw [Nat.add_mul]
    omega
theorem mem_fndL {ps : List (Nat × Nat)} {n i : Nat} {l : List Nat} (w : Up n ps) (hl : Lot n l) : i ∈ fndL ps n l ↔ i < n ∧ Grd ps l i := by
  unfold fndL Grd
  rw [List.mem_flatMap]
  constructor
  · rintro ⟨x, hx, h⟩
    have hn := hl.lt x hx
    rcases List.mem_cons.mp h with rfl | h
    · exact ⟨hn, i, hx, .inl rfl⟩
    · obtain ⟨a, b⟩ := mem_selN.mp h
      exact ⟨a, x, hx, .inr b⟩
  · rintro ⟨hi, x, hx, h⟩
    refine ⟨x, hx, ?_⟩
    rcases h with rfl | h
    · exact List.mem_cons_self
    · exact List.mem_cons_of_mem _ (mem_selN.mpr ⟨hi, h⟩)
theorem plain_its (l : List Nat) : ∀ d ∈ l.map itD, plD 30 d = true := fun d hd => by
  obtain ⟨_, _, rfl⟩ := List.mem_map.mp hd
  rfl
def C_lot_due (f : Sm) : Prop := ∀ n ps l st, WfO n ps → n ≤ 7 → Lot n l → ∃ (m : Nat) (ext : Sto), callS f [oD n ps, tN l] st = some (.ok (.loc m) (st ++ ext)) ∧ st.length ≤ m ∧
  (st ++ ext)[m]? = some (.lst [tN (selN n (Top ps l)), tN (selN n (Low ps l)), tN (selN n (Grd ps l)), .bl (decide (selN n (Top ps l) = l))])
theorem c_lot_due {fs : Nat → Sm} {k : Nat} (hf : C_aheads (fs k)) : C_lot_due (semOf 9 (dB fs (t__law_lot_due k))) := by
  intro n ps l st w hn hl
  have ll := hl.len
  obtain ⟨ext, c, t⟩ := hf n ps [] w.up w.le w.len
  simp only [List.length_nil, List.nil_append] at c t
  obtain ⟨s0, hs0⟩ : ∃ s0, s0 = ext ++ [O.lst []] := ⟨_, rfl⟩
  have t0 : LTab s0 0 n (ahT ps n) := by rw [hs0]; exact t.app _
  -- the two comprehensions
  have in1 : ∀ i, dL fs (.lcV (.var 1) (.var 7) te__law_lot_due_1 el__law_lot_due_2 [7]) [some (oD n ps), some (tN l), none, none, some (.int ((i : Nat) : Int)), some (.loc 0), some (.loc ext.length), none, none] s0 = some (.ok ((l.filter fun j => decide (i ∈ ahT ps n j)).map itD) s0) := fun i => by
    rw [lcV_tup (ds := l.map itD) (by simp [tN])]
    rw [lc_map itD (fun j => decide (i ∈ ahT ps n j)) itD rfl l [] (by simp; omega) (fun j hj => ?_)]
    · rfl
    · have row := t0.row j (hl.lt j hj)
      have ix := t0.ix (hl.lt j hj)
      simp only [Nat.zero_add] at ix row
      exact ⟨[some (oD n ps), some (tN l), none, none, some (.int (i : Int)), some (.loc 0), some (.loc ext.length), some (.int (j : Int)), none], by simp [itD], by simp [te__law_lot_due_1, ix, fIn_lstN row], fun _ => by simp [el__law_lot_due_2, itD]⟩
  have in2 : ∀ x2 i, i < n → dL fs (.lcV (.var 1) (.var 8) te__law_lot_due_5 el__law_lot_due_6 [8]) [some (oD n ps), some (tN l), x2, none, some (.int ((i : Nat) : Int)), some (.loc 0), some (.loc ext.length), none, none] s0 = some (.ok ((l.filter fun j => decide (j ∈ ahT ps n i)).map itD) s0) := fun x2 i hi => by
    rw [lcV_tup (ds := l.map itD) (by simp [tN])]
    rw [lc_map itD (fun j => decide (j ∈ ahT ps n i)) itD rfl l [] (by simp; omega) (fun j hj => ?_)]
    · rfl
    · have row := t0.row i hi
      have ix := t0.ix hi
      simp only [Nat.zero_add] at ix row
      exact ⟨[some (oD n ps), some (tN l), x2, none, some (.int (i : Int)), some (.loc 0), some (.loc ext.length), none, some (.int (j : Int))], by simp [itD], by simp [te__law_lot_due_5, ix, fIn_lstN row], fun _ => by simp [el__law_lot_due_6, itD]⟩
  have lc1 : dL fs (.lcV (.var 1) (.var 4) te__law_lot_due_0 el__law_lot_due_3 [4]) [some (oD n ps), some (tN l), none, none, none, some (.loc 0), some (.loc ext.length), none, none] s0 = some (.ok ((selN n (Top ps l)).map itD) s0) := by
    rw [lcV_tup (ds := l.map itD) (by simp [tN])]
    rw [lc_map itD (fun i => (l.filter fun j => decide (i ∈ ahT ps n j)).isEmpty) itD rfl l [] (by simp; omega) (fun i hi => ?_)]
    · rw [lot_filter (P := fun i => ∀ j ∈ l, ¬ Ahd ps i j) hl fun i hi => ?_]
      · rfl
      · rw [List.isEmpty_iff, List.filter_eq_nil_iff]
        simp only [decide_eq_true_eq]
        exact ⟨fun h j hj a => h j hj (mem_selN.mpr ⟨hl.lt i hi, a⟩), fun h j hj a => h j hj (mem_selN.mp a).2⟩
    · have eq := eqX_nil (st := s0) (flPy_fr (ds := (l.filter fun j => decide (i ∈ ahT ps n j)).map itD) (st := s0) (plain_its _)) (plain_its _)
      rw [List.isEmpty_map] at eq
      exact ⟨[some (oD n ps), some (tN l), none, none, some (.int (i : Int)), some (.loc 0), some (.loc ext.length), none, none], by simp [itD], by simp [te__law_lot_due_0, in1, eq, pickN], fun _ => by simp [el__law_lot_due_3, itD]⟩
  have lc2 : ∀ x2, dL fs (.lcV (.var 1) (.var 4) te__law_lot_due_4 el__law_lot_due_7 [4]) [some (oD n ps), some (tN l), x2, none, none, some (.loc 0), some (.loc ext.length), none, none] s0 = some (.ok ((selN n (Low ps l)).map itD) s0) := fun x2 => by
    rw [lcV_tup (ds := l.map itD) (by simp [tN])]
    rw [lc_map itD (fun i => (l.filter fun j => decide (j ∈ ahT ps n i)).isEmpty) itD rfl l [] (by simp; omega) (fun i hi => ?_)]
    · rw [lot_filter (P := fun i => ∀ j ∈ l, ¬ Ahd ps j i) hl fun i hi => ?_]
      · rfl
      · rw [List.isEmpty_iff, List.filter_eq_nil_iff]
        simp only [decide_eq_true_eq]
        exact ⟨fun h j hj a => h j hj (mem_selN.mpr ⟨hl.lt j hj, a⟩), fun h j hj a => h j hj (mem_selN.mp a).2⟩
    · have eq := eqX_nil (st := s0) (flPy_fr (ds := (l.filter fun j => decide (j ∈ ahT ps n i)).map itD) (st := s0) (plain_its _)) (plain_its _)
      rw [List.isEmpty_map] at eq
      exact ⟨[some (oD n ps), some (tN l), x2, none, some (.int (i : Int)), some (.loc 0), some (.loc ext.length), none, none], by simp [itD], by simp [te__law_lot_due_4, in2 _ _ (hl.lt i hi), eq, pickN], fun _ => by simp [el__law_lot_due_7, itD]⟩
  -- the loop
  obtain ⟨T, hT⟩ : ∃ T, T = selN n (Top ps l) := ⟨_, rfl⟩
  obtain ⟨L, hL⟩ : ∃ L, L = selN n (Low ps l) := ⟨_, rfl⟩
  obtain ⟨env2, st2, r1, ⟨x4, m, rfl, t2, hm⟩⟩ := for_list (C := yes) (tg := .nm 4) (body := dB fs bd__law_lot_due_8) itD
    (fun q env s => ∃ x4 m, env = [some (oD n ps), some (tN l), some (tN T), some (tN L), x4, some (.loc 0), some (.loc m), none, none] ∧ LTab s 0 n (ahT ps n) ∧ s[m]? = some (.lst ((fndL ps n q).map itD))) l
    (env := [some (oD n ps), some (tN l), some (tN T), some (tN L), none, some (.loc 0), some (.loc ext.length), none, none]) (st := s0) ⟨none, ext.length, rfl, t0, by rw [hs0, get_end]; rfl⟩ (fun _ _ _ _ => rfl) (by
      rintro q x r env s ha ⟨x4, m, rfl, t1, hm⟩
      have hx : x < n := hl.lt x (by rw [ha]; simp)
      have lq : q.length ≤ 7 := by have := congrArg List.length ha; simp at this; omega
      have lf := fndL_len ps n q
      have lf2 : q.length * (n + 1) ≤ 7 * 8 := Nat.mul_le_mul lq (by omega)
      have la : (ahT ps n x).length ≤ n := selN_len n fun k => Ahd ps k x
      have row := t1.row x hx
      have ix := t1.ix hx
      simp only [Nat.zero_add] at ix row
      have b1 : Nat.ble ((fndL ps n q).length + 1) 1000000 = true := ble_mil (by omega)
      have b2 : Nat.ble ((fndL ps n q).length + 1 + (ahT ps n x).length) 1000000 = true := ble_mil (by omega)
      have fin : ∀ s' : Sto, flItems s' (.fr ((fndL ps n q).map itD ++ [.int (x : Int)])) = some ((fndL ps n q).map itD ++ [.int (x : Int)]) := fun _ => rfl
      refine ⟨_, rfl, [some (oD n ps), some (tN l), some (tN T), some (tN L), some (.int (x : Int)), some (.loc 0), some (.loc s.length), none, none], s ++ [.lst ((fndL ps n (q ++ [x])).map itD)], .inl ?_, some (.int (x : Int)), s.length, rfl, t1.app _, get_end⟩
      rw [fndL_app]
      simp [bd__law_lot_due_8, itD, flItems, hm, b1, ix, row, b2])
  have fv := forV_tup (fs := fs) (env := [some (oD n ps), some (tN l), some (tN T), some (tN L), none, some (.loc 0), some (.loc ext.length), none, none]) (st := s0) (e := .var 1) (tg := .var 4) (b := bd__law_lot_due_8) (ds := l.map itD) (by simp [tN])
  rw [tgD_var, r1] at fv
  have lf := fndL_len ps n l
  have lf2 : l.length * (n + 1) ≤ 7 * 8 := Nat.mul_le_mul (by omega) (by omega)
  have so := lSset_sel (P := Grd ps l) hm (by omega) (fun i => mem_fndL w.up hl)
  have run : semOf 9 (dB fs (t__law_lot_due k)) [oD n ps, tN l] [] = some (.ok (.loc st2.length) (st2 ++ [.lst [tN T, tN L, tN (selN n (Grd ps l)), .bl (decide (T = l))]])) := by
    have se : startE 9 [oD n ps, tN l] = [some (oD n ps), some (tN l), none, none, none, none, none, none, none] := rfl
    have p1 : dS fs (.tgt (.tup (.cons (.var 5) (.cons (.var 6) .nil))) (.tup (.cons (.call k 1 (.cons (.var 0) .nil)) (.cons (.keep (.lst .nil)) .nil)))) [some (oD n ps), some (tN l), none, none, none, none, none, none, none] [] = some (.nx [some (oD n ps), some (tN l), none, none, none, some (.loc 0), some (.loc ext.length), none, none] s0) := by
      simp [c, hs0]
    have p2 : dS fs (.set 2 (.bf 3 (.lcV (.var 1) (.var 4) te__law_lot_due_0 el__law_lot_due_3 [4]))) [some (oD n ps), some (tN l), none, none, none, some (.loc 0), some (.loc ext.length), none, none] s0 = some (.nx [some (oD n ps), some (tN l), some (tN T), none, none, some (.loc 0), some (.loc ext.length), none, none] s0) := by
      simp [lc1, bTupF_sel, hT]
    have p3 : dS fs (.set 3 (.bf 3 (.lcV (.var 1) (.var 4) te__law_lot_due_4 el__law_lot_due_7 [4]))) [some (oD n ps), some (tN l), some (tN T), none, none, some (.loc 0), some (.loc ext.length), none, none] s0 = some (.nx [some (oD n ps), some (tN l), some (tN T), some (tN L), none, some (.loc 0), some (.loc ext.length), none, none] s0) := by
      simp [lc2, bTupF_sel, hL]
    simp only [semOf, se, t__law_lot_due, eb_cons, p1, p2, p3, fv]
    simp [so, bTupF_sel, fEq_tN]
  refine ⟨st2.length + st.length, (st2 ++ [O.lst [tN T, tN L, tN (selN n (Grd ps l)), .bl (decide (T = l))]]).map (O.up st.length), ?_, by omega, ?_⟩
  · rw [call_new (frees_ot n ps l) rfl run]
    simp [D.up, Nat.add_comm]
  · rw [List.getElem?_append_right (by omega), Nat.add_sub_cancel, List.getElem?_map, get_end, hT, hL]
    simp only [Option.map_some, O.up, D.ups, D.up, tN, ups_itD]
end TA
/-! heads, feet, grounds: plain facts -/
namespace TA
open PySem
section
variable {n : Nat} {ps : List (Nat × Nat)} {l : List Nat}
theorem top_grd (u : Up n ps) (hl : Lot n l) : selN n (Top ps (selN n (Grd ps l))) = selN n (Top ps l) := selN_congr fun i hi => by
  unfold Top
  constructor
  · rintro ⟨h1, h2⟩
    obtain ⟨_, x, hx, h⟩ := mem_selN.mp h1
    have hxg : x ∈ selN n (Grd ps l) := mem_selN.mpr ⟨hl.lt x hx, x, hx, .inl rfl⟩
    rcases h with rfl | h
    · exact ⟨hx, fun j hj => h2 j (mem_selN.mpr ⟨hl.lt j hj, j, hj, .inl rfl⟩)⟩
    · exact absurd h (h2 x hxg)
  · rintro ⟨h1, h2⟩
    refine ⟨mem_selN.mpr ⟨hi, i, h1, .inl rfl⟩, fun j hj a => ?_⟩
    obtain ⟨_, x, hx, h⟩ := mem_selN.mp hj
    rcases h with rfl | h
    · exact h2 _ hx a
    · exact h2 x hx (a.trans h)
/-- above each item of a lot, or it itself, one that nothing is behind -/
theorem top_above (u : Up n ps) (hl : Lot n l) : ∀ (k x : Nat), n - x ≤ k → x ∈ l → ∃ y, Top ps l y ∧ (x = y ∨ Ahd ps x y)
  | 0, x, h, hx => by have := hl.lt x hx; omega
  | k + 1, x, h, hx => by
    by_cases hj : ∃ j ∈ l, Ahd ps x j
    · obtain ⟨j, hjl, a⟩ := hj
      have := a.lt u
      obtain ⟨y, h1, h2⟩ := top_above u hl k j (by omega) hjl
      refine ⟨y, h1, .inr ?_⟩
      rcases h2 with rfl | h2
      · exact a
      · exact a.trans h2
    · exact ⟨x, ⟨hx, fun j hjl a => hj ⟨j, hjl, a⟩⟩, .inl rfl⟩
theorem grd_top (u : Up n ps) (hl : Lot n l) : selN n (Grd ps (selN n (Top ps l))) = selN n (Grd ps l) := selN_congr fun i hi => by
  unfold Grd
  constructor
  · rintro ⟨x, hx, h⟩
    exact ⟨x, (mem_selN.mp hx).2.1, h⟩
  · rintro ⟨x, hx, h⟩
    obtain ⟨y, h1, h2⟩ := top_above u hl (n - x) x (Nat.le_refl _) hx
    refine ⟨y, mem_selN.mpr ⟨hl.lt y h1.1, h1⟩, ?_⟩
    rcases h2 with rfl | h2
    · exact h
    · rcases h with rfl | h
      · exact .inr h2
      · exact .inr (h.trans h2)
theorem top_top (hl : Lot n l) : selN n (Top ps (selN n (Top ps l))) = selN n (Top ps l) := selN_congr fun i hi => by
  constructor
  · rintro ⟨h1, _⟩
    exact (mem_selN.mp h1).2
  · intro h
    exact ⟨mem_selN.mpr ⟨hi, h⟩, fun j hj => h.2 j (mem_selN.mp hj).2.1⟩
theorem grd_low (w : Lw n ps l) : selN n (Grd ps l) = l := by
  rw [← lot_eq w.lot]
  have e : selN n (fun i => i ∈ l) = l := lot_eq w.lot
  rw [e]
  refine asc_uniq (selN_asc _ _) w.lot.asc fun i => ?_
  rw [mem_selN]
  constructor
  · rintro ⟨_, x, hx, h⟩
    rcases h with rfl | h
    · exact hx
    · exact w.dn x hx i h
  · exact fun h => ⟨w.lot.lt i h, i, h, .inl rfl⟩
end
/-! ### things that are no lots -/
theorem asc_false {y : D} (h : ltI2 y y = false) : ∀ r : List D, ascB (r ++ [y, y]) = false
  | [] => by simp [ascB, h]
  | [a] => by simp [ascB, h]
  | a :: b :: r => by
    have ih := asc_false h (b :: r)
    have e : ascB (a :: b :: r ++ [y, y]) = (ltI2 a b && ascB (b :: r ++ [y, y])) := rfl
    rw [e, ih, Bool.and_false]
theorem cut_last (r : List D) (y : D) : cutD (r ++ [y]) (some (-1)) none = [y] := by
  unfold cutD HT.sIx
  have e : (-1 + ((r.length : Int) + 1)).toNat = r.length := by omega
  simp [e]
theorem nod_all : ∀ {n : Nat} {ds : List D}, (∀ d ∈ ds, nodP (pyD d) = nodes d) → nodPs (pyDs ds) = nodess ds
  | _, [], _ => rfl
  | n, d :: ds, h => by simp only [pyDs, nodPs, nodess, h d List.mem_cons_self, nod_all (n := n) fun d hd => h d (List.mem_cons_of_mem _ hd)]
theorem nod_pyD : ∀ {n : Nat} {d : D}, plS n d = true → nodP (pyD d) = nodes d
  | 0, d, h => by cases d <;> simp_all [plS, pyD, nodP, nodes]
  | n + 1, d, h => by
    cases d with
    | tup ds =>
      simp only [plS, List.all_eq_true] at h
      simp only [pyD, nodP, nodes, nod_all (n := n) fun d hd => nod_pyD (h d hd)]
    | _ => simp_all [plS, pyD, nodP, nodes]
/-- what a thing that is no lot is like, wherever the list at m stands -/
structure Odd (n m : Nat) (l : List Nat) (d : D) (p : PyData) : Prop where
  no : lotB n d = false
  ps : psP 5 p = true
  nd : nodP p ≤ 1000
  at_ : ∀ s : Sto, s[m]? = some (.lst (l.map itD)) → okLt s d ∧ toPy 38 s d = some p
theorem odd_plain {n m : Nat} {l : List Nat} {d : D} (h0 : lotB n d = false) (h1 : plS 5 d = true) (h2 : nodes d ≤ 1000) (h3 : ∀ s, okLt s d) : Odd n m l d (pyD d) :=
  ⟨h0, ps_psP h1, by rw [nod_pyD h1]; exact h2, fun s _ => ⟨h3 s, toPy_pl (ps_pl h1) (by omega)⟩⟩
theorem nodess_its : ∀ l : List Nat, nodess (l.map itD) = l.length
  | [] => rfl
  | a :: l => by simp only [List.map_cons, nodess, nodess_its l, itD, nodes, List.length_cons]; omega
theorem nodess_app : ∀ a b : List D, nodess (a ++ b) = nodess a + nodess b
  | [], b => by simp [nodess]
  | x :: a, b => by simp only [List.cons_append, nodess, nodess_app a b]; omega
theorem its_ps {l : List Nat} (h : ∀ x ∈ l, x ≤ 1000) : ∀ d ∈ l.map itD, plS 4 d = true := fun d hd => by
  obtain ⟨k, hk, rfl⟩ := List.mem_map.mp hd
  have := h k hk
  simp only [itD, plS, Nat.blt_eq]
  omega
theorem okLt_ints {ds : List D} (h : ∀ d ∈ ds, isI d = true) (hl : ds.length ≤ 1000) (s : Sto) : okLt s (.tup ds) := ⟨⟨_, rfl⟩, fun es e => by
  cases e
  refine ⟨fun d hd => ?_, hl⟩
  have := h d hd
  cases d <;> simp [isI] at this
  exact okV_int⟩
theorem isI_its (l : List Nat) : ∀ d ∈ l.map itD, isI d = true := fun d hd => by
  obtain ⟨k, _, rfl⟩ := List.mem_map.mp hd
  rfl
noncomputable def odd3 (l : List Nat) : D := if l = [] then .non else .tup (l.map itD ++ cutD (l.map itD) (some (-1)) none)
noncomputable def odds (n m : Nat) (l : List Nat) : List D := [.tup (l.map itD ++ [.int (n : Int)]), .loc m, odd3 l, .tup (.int (-1) :: l.map itD), .non]
theorem okLt_non (s : Sto) : okLt s .non := ⟨⟨_, rfl⟩, fun ds e => nomatch e⟩
theorem odd_of {n m : Nat} {l : List Nat} {d : D} (hn : n ≤ 20) (hl : Lot n l) (hd : d ∈ odds n m l) : ∃ p, Odd n m l d p := by
  have ll := hl.len
  have sm : ∀ x ∈ l, x ≤ 1000 := fun x hx => by have := hl.lt x hx; omega
  simp only [odds, List.mem_cons, List.not_mem_nil, or_false] at hd
  rcases hd with rfl | rfl | rfl | rfl | rfl
  · refine ⟨_, odd_plain ?_ ?_ ?_ fun s => okLt_ints (fun d hd => ?_) (by simp; omega) s⟩
    · have w : within (.int (n : Int)) 0 ((n : Int) - 1) = false := by
        simp only [within]
        rw [Bool.and_eq_false_iff]
        right
        rw [decide_eq_false_iff_not]
        omega
      simp only [lotB, List.all_append, List.all_cons, w, Bool.false_and, Bool.and_false]
    · simp only [plS, List.all_eq_true]
      intro d hd
      rcases List.mem_append.mp hd with h | h
      · exact its_ps sm d h
      · rw [List.mem_singleton] at h
        subst h
        simp only [plS, Nat.blt_eq]
        omega
    · simp only [nodes, nodess_app, nodess_its, nodess]
      omega
    · rcases List.mem_append.mp hd with h | h
      · exact isI_its l d h
      · rw [List.mem_singleton] at h
        subst h
        rfl
  · refine ⟨.list (pyDs (l.map itD)), rfl, ?_, ?_, fun s hs => ⟨⟨⟨"list", by simp only [tyD, hs]⟩, fun ds e => nomatch e⟩, ?_⟩⟩
    · simp only [psP]
      exact psAll fun d hd => ps_psP (its_ps sm d hd)
    · simp only [nodP, nod_all (n := 0) fun d hd => nod_pyD (its_ps sm d hd), nodess_its]
      omega
    · simp only [toPy, hs, allO_pl fun d hd => toPy_pl (ps_pl (its_ps sm d hd)) (by omega : 4 ≤ 37), Option.map_some]
  · unfold odd3
    by_cases e : l = []
    · rw [if_pos e]
      exact ⟨_, odd_plain rfl rfl (by simp [nodes]) okLt_non⟩
    · rw [if_neg e]
      obtain ⟨r, y, rfl⟩ : ∃ r y, l = r ++ [y] := ⟨l.dropLast, l.getLast e, (List.dropLast_concat_getLast e).symm⟩
      rw [List.map_append, List.map_singleton, cut_last]
      refine ⟨_, odd_plain ?_ ?_ ?_ fun s => okLt_ints (fun d hd => ?_) (by simp at ll ⊢; omega) s⟩
      · have : ascB (r.map itD ++ [itD y] ++ [itD y]) = false := by
          rw [List.append_assoc]
          exact asc_false (by simp [ltI2, itD]) _
        simp only [lotB, this, Bool.and_false]
      · simp only [plS, List.all_eq_true]
        intro d hd
        have hd' : d ∈ (r ++ [y]).map itD := by
          rw [List.map_append, List.map_singleton]
          rcases List.mem_append.mp hd with h | h
          · exact h
          · exact List.mem_append.mpr (.inr h)
        exact its_ps sm d hd'
      · simp only [nodes, nodess_app, nodess_its, nodess, itD]
        simp at ll
        omega
      · have hd' : d ∈ (r ++ [y]).map itD := by
          rw [List.map_append, List.map_singleton]
          rcases List.mem_append.mp hd with h | h
          · exact h
          · exact List.mem_append.mpr (.inr h)
        exact isI_its _ d hd'
  · refine ⟨_, odd_plain ?_ ?_ ?_ fun s => okLt_ints (fun d hd => ?_) (by simp; omega) s⟩
    · have w : within (.int (-1)) 0 ((n : Int) - 1) = false := rfl
      simp only [lotB, List.all_cons, w, Bool.false_and]
    · simp only [plS, List.all_eq_true]
      intro d hd
      rcases List.mem_cons.mp hd with rfl | h
      · rfl
      · exact its_ps sm d h
    · simp only [nodes, nodess_its, nodess]
      omega
    · rcases List.mem_cons.mp hd with rfl | h
      · rfl
      · exact isI_its l d h
  · exact ⟨_, odd_plain rfl rfl (by simp [nodes]) okLt_non⟩
end TA
/-! the law on lots: one order -/
namespace TA
open PySem
theorem b_step {fs : Nat → Sm} {s b : IR} {env : En} {st : Sto} (env1 : En) (st1 : Sto) {o : Option SOut} (h : dS fs s env st = some (.nx env1 st1)) (g : dB fs b env1 st1 = o) : dB fs (.cons s b) env st = o := by
  rw [eb_cons, h]
  exact g
theorem b_ret {fs : Nat → Sm} {s b : IR} {env : En} {st st1 : Sto} {d : D} (h : dS fs s env st = some (.rt d st1)) : dB fs (.cons s b) env st = some (.rt d st1) := by rw [eb_cons, h]
/-- what is heard of a thing that is no lot -/
def lotT (d : D) : D := .tup [.str { cps := #[108, 111, 116] }, d]
theorem ct_lot (d : D) (st : Sto) : catchS xm_k02_1 (xLot d) st hn_k02_0 = some (.rt (lotT d) st) := rfl
theorem fIx_l {m k : Nat} {st : Sto} {ds : List D} {d : D} {i : Int} (h : st[m]? = some (.lst ds)) (hi : i = (k : Int)) (hk : ds[k]? = some d) : fIx (.loc m) (.int i) st = some (.ok d st) := by
  subst hi
  exact fIx_lst h hk
theorem ps_its {n : Nat} {l : List Nat} (hl : Lot n l) (hn : n ≤ 1000) : plS 5 (tN l) = true := by
  unfold tN
  simp only [plS, List.all_eq_true]
  exact fun d hd => its_ps (fun x hx => by have := hl.lt x hx; omega) d hd
theorem ev_odd3 {fs : Nat → Sm} {env : En} {l : List Nat} (h4 : env[4]? = some (some (tN l))) (hl : l.length ≤ 1000) (s : Sto) :
    dE fs (.ifE (.tst (.cmp .NotEq (.var 4) (.tup .nil))) (.op2 .Add (.var 4) (.sl (.var 4) (.at (.neg (.int 1))) .nil)) .non) env s = some (.ok (odd3 l) s) := by
  have ne : fNe (tN l) (.tup []) s = some (.ok (.bl (!decide (l = []))) s) := fNe_tN (b := [])
  have v4 : ∀ s, dE fs (.var 4) env s = some (.ok (tN l) s) := fun s => by simp [h4]
  unfold odd3
  by_cases e : l = []
  · rw [if_pos e]
    have ne' : fNe (tN l) (.tup []) s = some (.ok (.bl false) s) := by rw [ne]; simp [e]
    simp [h4, ne']
  · rw [if_neg e]
    have ne' : fNe (tN l) (.tup []) s = some (.ok (.bl true) s) := by rw [ne]; simp [e]
    have sl := ev_slT fs env s (a := .var 4) (lo := .at (.neg (.int 1))) (hi := .nil) (ds := l.map itD) (l := some (-1)) (u := none) (st1 := s) (st2 := s) (st3 := s) (v4 s) (by simp) (by simp)
    have lc : (cutD (l.map itD) (some (-1)) none).length ≤ 1000 := by
      unfold cutD
      simp only [List.length_take, List.length_drop, List.length_map]
      omega
    have ct : fOr fAdd fCatL (tN l) (.tup (cutD (l.map itD) (some (-1)) none)) s = some (.ok (.tup (l.map itD ++ cutD (l.map itD) (some (-1)) none)) s) := fCatN (by simp only [List.length_map]; omega)
    simp [h4, ne', sl, ct]
theorem lg_body {fs : Nat → Sm} {k1 k2 k3 k4 k5 k6 k7 b a n : Nat} {ps : List (Nat × Nat)} {e2 e3 e4 e5 e6 e7 e8 : Option D} {st : Sto} (h1 : C_lots (fs k1) Top) (h2 : C_lots (fs k2) Low) (h3 : C_lots (fs k3) Grd) (h4 : C_loose (fs k4)) (h5 : C_of (fs k5)) (h6 : C_lot (fs k6)) (h7 : C_lot_due (fs k7))
    (w : WfO n ps) (hn : n ≤ 7) (d : DrS st b a) (ha : a ≤ 600000000) :
    ∃ e4' e5' e6' e7' e8' a' st', dB fs (bd__law_good_k02_0 k1 k2 k3 k4 k5 k6 k7) [some (.loc (b + 2)), some (oD n ps), e2, e3, e4, e5, e6, e7, e8] st = some (.nx [some (.loc (b + 2)), some (oD n ps), e2, e3, e4', e5', e6', e7', e8'] st') ∧ DrS st' b a' ∧ a' ≤ a + 100 := by
  obtain ⟨l, a1, s1, c1, hl, d1, la1, _, _⟩ := h6 b a n st d (by omega) (by omega)
  have ll := hl.len
  obtain ⟨m5, x1, c2, hm5, g5⟩ := h7 n ps l s1 w hn hl
  obtain ⟨T, hT⟩ : ∃ T, T = selN n (Top ps l) := ⟨_, rfl⟩
  obtain ⟨L, hL⟩ : ∃ L, L = selN n (Low ps l) := ⟨_, rfl⟩
  obtain ⟨G, hG⟩ : ∃ G, G = selN n (Grd ps l) := ⟨_, rfl⟩
  have lT : Lot n T := by rw [hT]; exact lot_sel _ _
  have lL : Lot n L := by rw [hL]; exact lot_sel _ _
  have lG : Lot n G := by rw [hG]; exact lot_sel _ _
  have tlen := lT.len
  have llen := lL.len
  have glen := lG.len
  rw [← hT, ← hL, ← hG] at g5
  have f1 : ∀ s, callS (fs k1) [oD n ps, tN l] s = some (.ok (tN T) s) := fun s => by rw [h1.good n ps l s w hl, hT]
  have f2 : ∀ s, callS (fs k2) [oD n ps, tN l] s = some (.ok (tN L) s) := fun s => by rw [h2.good n ps l s w hl, hL]
  have f3 : ∀ s, callS (fs k3) [oD n ps, tN l] s = some (.ok (tN G) s) := fun s => by rw [h3.good n ps l s w hl, hG]
  have f4 : ∀ s, callS (fs k4) [oD n ps, tN l] s = some (.ok (.bl (decide (T = l))) s) := fun s => by rw [h4.good n ps l s w hl, hT]
  have f5 : ∀ s, callS (fs k1) [oD n ps, tN G] s = some (.ok (tN T) s) := fun s => by rw [h1.good n ps G s w lG, hG, top_grd w.up hl, hT]
  have f6 : ∀ s, callS (fs k3) [oD n ps, tN T] s = some (.ok (tN G) s) := fun s => by rw [h3.good n ps T s w lT, hT, grd_top w.up hl, hG]
  have f7 : ∀ s, callS (fs k4) [oD n ps, tN T] s = some (.ok (.bl true) s) := fun s => by
    rw [h4.good n ps T s w lT]
    have : selN n (Top ps T) = T := by rw [hT]; exact top_top hl
    rw [decide_eq_true this]
  obtain ⟨V, hV⟩ : ∃ V, V = [tN T, tN L, tN G, D.bl (decide (T = l))] := ⟨_, rfl⟩
  rw [← hV] at g5
  generalize hs2 : s1 ++ x1 = s2 at c2 g5
  have d2 : DrS s2 b a1 := by rw [← hs2]; exact d1.app _
  have lt1 := d1.lt
  have lt2 : s1.length ≤ s2.length := by rw [← hs2]; simp
  have lm5 := get_lt g5
  have ix : ∀ s, fIx (oD n ps) (.int 0) s = some (.ok (.int (n : Int)) s) := fun s => by simp [oD]
  have psV : ∀ v ∈ V, plS 6 v = true := fun v hv => by
    rw [hV] at hv
    simp only [List.mem_cons, List.not_mem_nil, or_false] at hv
    rcases hv with rfl | rfl | rfl | rfl
    · unfold tN
      simp only [plS, List.all_eq_true]
      exact fun d hd => by obtain ⟨k, hk, rfl⟩ := List.mem_map.mp hd; have := lT.lt k hk; simp only [itD, plS, Nat.blt_eq]; omega
    · unfold tN
      simp only [plS, List.all_eq_true]
      exact fun d hd => by obtain ⟨k, hk, rfl⟩ := List.mem_map.mp hd; have := lL.lt k hk; simp only [itD, plS, Nat.blt_eq]; omega
    · unfold tN
      simp only [plS, List.all_eq_true]
      exact fun d hd => by obtain ⟨k, hk, rfl⟩ := List.mem_map.mp hd; have := lG.lt k hk; simp only [itD, plS, Nat.blt_eq]; omega
    · rfl
  have ndV : nodess V ≤ 20000 := by
    rw [hV]
    simp only [nodess, nodes, tN, nodess_its]
    omega
  have g5' := get_ext g5 [O.lst V]
  have r5 := repr_loc g5' psV (by omega) ndV
  have r6 := repr_loc (m := s2.length) (st := s2 ++ [O.lst V]) get_end psV (by omega) ndV
  have neV := fNe_shown (st := s2 ++ [O.lst V]) (ok_shownL psV)
  have psG : plS 6 (tN G) = true := psV _ (by rw [hV]; simp)
  have rG := repr_ps (st := s2 ++ [O.lst V]) psG (by omega) (by simp only [nodes, tN, nodess_its]; omega)
  have neG := fNe_shown (st := s2 ++ [O.lst V]) (ok_shown psG)
  have i0 : fIx (.loc m5) (.int 0) (s2 ++ [O.lst V]) = some (.ok (tN T) (s2 ++ [O.lst V])) := fIx_l (k := 0) g5' rfl (by rw [hV]; rfl)
  have i2 : fIx (.loc m5) (.int 2) (s2 ++ [O.lst V]) = some (.ok (tN G) (s2 ++ [O.lst V])) := fIx_l (k := 2) g5' rfl (by rw [hV]; rfl)
  have eT : ∀ s, fNe (tN T) (tN T) s = some (.ok (.bl false) s) := fun s => by rw [fNe_tN]; simp
  have eG : ∀ s, fNe (tN G) (tN G) s = some (.ok (.bl false) s) := fun s => by rw [fNe_tN]; simp
  have isn : ∀ s, fIsNot (.bl true) (.bl true) s = some (.ok (.bl false) s) := fun s => rfl
  -- the odd thing
  obtain ⟨s3, hs3⟩ : ∃ s3, s3 = s2 ++ [O.lst V] := ⟨_, rfl⟩
  have d3 : DrS s3 b a1 := by rw [hs3]; exact d2.app _
  have lt3 := d3.lt
  obtain ⟨s5, hs5⟩ : ∃ s5, s5 = (s3 ++ [O.lst (l.map itD)]) ++ [O.lst (odds n s3.length l)] := ⟨_, rfl⟩
  have d5 : DrS s5 b a1 := by rw [hs5]; exact (d3.app _).app _
  have gO : s5[s3.length + 1]? = some (.lst (odds n s3.length l)) := by
    rw [hs5]
    have : s3.length + 1 = (s3 ++ [O.lst (l.map itD)]).length := by simp
    rw [this]
    exact get_end
  have gL : s5[s3.length]? = some (.lst (l.map itD)) := by rw [hs5]; exact get_ext get_end _
  obtain ⟨dd, s6, hd, c5, d6, k6', _⟩ := h5 b a1 (s3.length + 1) (odds n s3.length l) s5 d5 (by omega) (.inr (by omega)) gO (by simp [odds]) (by simp [odds])
  obtain ⟨p, od⟩ := odd_of (by omega) hl hd
  have gL6 := k6'.get s3.length _ (.inr (by omega)) gL
  have o6 := od.at_ s6 gL6
  have b1 := h1.bad n ps dd s6 w o6.1 od.no
  have b2 := h2.bad n ps dd s6 w o6.1 od.no
  obtain ⟨s7, hs7⟩ : ∃ s7, s7 = s6 ++ [O.lst [lotT dd, lotT dd]] := ⟨_, rfl⟩
  have o7 := od.at_ s7 (by rw [hs7]; exact get_ext gL6 _)
  have b3 := h3.bad n ps dd s7 w o7.1 od.no
  have b4 := h4.bad n ps dd s7 w o7.1 od.no
  have g8 : s7[s6.length]? = some (.lst [lotT dd, lotT dd]) := by rw [hs7]; exact get_end
  obtain ⟨s8, hs8⟩ : ∃ s8, s8 = s7 ++ [O.lst [lotT dd, lotT dd, lotT dd, lotT dd]] := ⟨_, rfl⟩
  have o8 := od.at_ s8 (by rw [hs8, hs7]; exact get_ext (get_ext gL6 _) _)
  obtain ⟨q, hq⟩ : ∃ q : PyData, q = .tuple [.str { cps := #[108, 111, 116] }, p] := ⟨_, rfl⟩
  have tq : toPy 39 s8 (lotT dd) = some q := by
    rw [hq]
    simp only [lotT, toPy, allO, o8.2, Option.map_some]
  have aq : allO (toPy 39 s8) [lotT dd, lotT dd, lotT dd, lotT dd] = some [q, q, q, q] := by simp only [allO, tq]
  have pq : psP 7 (.list [q, q, q, q]) = true := by
    have : psP 6 q = true := by
      rw [hq]
      have := od.ps
      simp only [psP, List.all_cons, List.all_nil, this, Bool.and_true]
      decide +kernel
    simp only [psP, List.all_cons, List.all_nil, this, Bool.and_self]
  have nq : nodP (.list [q, q, q, q]) ≤ 20000 := by
    have := od.nd
    rw [hq]
    simp only [nodP, nodPs]
    omega
  have g9 : s8[s7.length]? = some (.lst [lotT dd, lotT dd, lotT dd, lotT dd]) := by rw [hs8]; exact get_end
  have t9 : toPy 40 s8 (.loc s7.length) = some (.list [q, q, q, q]) := by simp only [toPy, g9, aq, Option.map_some]
  have r8 := repr_P t9 pq (by omega) nq
  have r9 := reprF_P aq pq (by omega) nq
  have ne9 := ne_P (st := s8) pq
  have ct1 : ∀ s, fOr fAdd fCatL (tN l) (.tup [.int (n : Int)]) s = some (.ok (.tup (l.map itD ++ [.int (n : Int)])) s) := fun s => fCatN (by simp; omega)
  have ct4 : ∀ s, fOr fAdd fCatL (.tup [.int (-1)]) (tN l) s = some (.ok (.tup (.int (-1) :: l.map itD)) s) := fun s => fCatN (a := [.int (-1)]) (by simp; omega)
  refine ⟨some (tN l), some (.loc m5), some (.loc s2.length), some dd, some (.loc s7.length), a1 + 1, s8, ?_, by rw [hs8, hs7]; exact (d6.app _).app _, by omega⟩
  unfold bd__law_good_k02_0
  refine b_step [some (.loc (b + 2)), some (oD n ps), e2, e3, some (tN l), e5, e6, e7, e8] s1 (by simp [ix, c1]) ?_
  refine b_step [some (.loc (b + 2)), some (oD n ps), e2, e3, some (tN l), some (.loc m5), e6, e7, e8] s2 (by simp [c2]) ?_
  refine b_step [some (.loc (b + 2)), some (oD n ps), e2, e3, some (tN l), some (.loc m5), some (.loc s2.length), e7, e8] s3 (by rw [hs3]; simp [f1, f2, f3, f4, hV]) ?_
  rw [← hs3] at r5 r6 neV rG neG i0 i2
  refine b_step [some (.loc (b + 2)), some (oD n ps), e2, e3, some (tN l), some (.loc m5), some (.loc s2.length), e7, e8] s3 (by simp [r5, r6, neV, f3, rG, i2, neG]) ?_
  refine b_step [some (.loc (b + 2)), some (oD n ps), e2, e3, some (tN l), some (.loc m5), some (.loc s2.length), e7, e8] s3 (by simp [i2, i0, f5, eT, f6, eG, f7, isn]) ?_
  refine b_step [some (.loc (b + 2)), some (oD n ps), e2, e3, some (tN l), some (.loc m5), some (.loc s2.length), some dd, e8] s6 ?_ ?_
  · have o3 := ev_odd3 (fs := fs) (env := [some (.loc (b + 2)), some (oD n ps), e2, e3, some (tN l), some (.loc m5), some (.loc s2.length), e7, e8]) (l := l) rfl (by omega)
    have ls : lList (.at (tN l)) s3 = some (l.map itD) := rfl
    have kp : dE fs (.keep (.lst (.cons (.op2 .Add (.var 4) (.tup (.cons (.ix (.var 1) (.int 0)) .nil))) (.cons (.keep (.bL 0 (.at (.var 4)))) (.cons (.ifE (.tst (.cmp .NotEq (.var 4) (.tup .nil))) (.op2 .Add (.var 4) (.sl (.var 4) (.at (.neg (.int 1))) .nil)) .non) (.cons (.op2 .Add (.tup (.cons (.neg (.int 1)) .nil)) (.var 4)) (.cons .non .nil))))))) [some (.loc (b + 2)), some (oD n ps), e2, e3, some (tN l), some (.loc m5), some (.loc s2.length), e7, e8] s3 = some (.ok (.loc (s3.length + 1)) s5) := by
      rw [hs5]
      simp [-ev_ifE, o3, ix, ct1, ls, ct4, odds]
    simp only [es_set, ev_call, ea_cons, ea_nil, ev_var, List.getElem?_cons_zero, thn_ok, kp, c5, thnS_ok, List.set_cons_succ, List.set_cons_zero, List.length_cons, List.length_nil]
  refine b_step [some (.loc (b + 2)), some (oD n ps), e2, e3, some (tN l), some (.loc m5), some (.loc s2.length), some dd, some (.loc s6.length)] s7 (by rw [hs7]; simp [b1, b2, ct_lot]) ?_
  refine b_step [some (.loc (b + 2)), some (oD n ps), e2, e3, some (tN l), some (.loc m5), some (.loc s2.length), some dd, some (.loc s7.length)] s8 (by rw [hs8]; simp [b3, b4, ct_lot, flItems, g8]) ?_
  refine b_step [some (.loc (b + 2)), some (oD n ps), e2, e3, some (tN l), some (.loc m5), some (.loc s2.length), some dd, some (.loc s7.length)] s8 ?_ (by simp)
  have rp : repD 4 [lotT dd] = [lotT dd, lotT dd, lotT dd, lotT dd] := rfl
  have sm : small 4 = true := by decide
  have lt' : D.tup [.str { cps := #[108, 111, 116] }, dd] = lotT dd := rfl
  simp [r8, lt', flItems, sm, rp, r9, ne9]
end TA
/-! the law on lots -/
namespace TA
open PySem
def C_lots_good (f : Sm) : Prop := ∀ (b a : Nat) st, DrS st b a → a ≤ 500000000 → ∃ a' st', callS f [.loc (b + 2)] st = some (.ok (.bl true) st') ∧ DrS st' b a' ∧ a' ≤ a + 1000
theorem wf_small : WfO 6 [(0, 1), (2, 4)] := ⟨fun p hp => by simp at hp; rcases hp with rfl | rfl <;> simp, by omega, by simp [ltQ], by simp⟩
theorem c_lots_good {fs : Nat → Sm} {k1 k2 k3 k4 k5 k6 k7 k8 k9 : Nat} (h1 : C_lots (fs k1) Top) (h2 : C_lots (fs k2) Low) (h3 : C_lots (fs k3) Grd) (h4 : C_loose (fs k4)) (h5 : C_of (fs k5)) (h6 : C_order (fs k6)) (h7 : C_lowers (fs k7)) (h8 : C_lot (fs k8)) (h9 : C_lot_due (fs k9)) :
    C_lots_good (semOf 9 (dB fs (t__law_good_k02 k1 k2 k3 k4 k5 k6 k7 k8 k9))) := by
  intro b a st d ha
  rw [call_loc (by simp [D.frees, D.free])]
  obtain ⟨n, ps, a1, s1, c1, w, hn, hp, d1, l1, _⟩ := h6 b a 7 st d (by omega) (by omega)
  have c1' : callS (fs k6) [.loc (b + 2), .int 7] st = some (.ok (oD n ps) s1) := c1
  obtain ⟨env2, s2, g, ⟨x2, x4, x5, x6, x7, x8, a2, rfl, d2, l2⟩⟩ := for_range (C := yes) (tg := .nm 2) (body := dB fs (bd__law_good_k02_0 k1 k2 k3 k4 k5 k8 k9))
    (fun i env s => ∃ x2 x4 x5 x6 x7 x8 a2, env = [some (.loc (b + 2)), some (oD n ps), x2, none, x4, x5, x6, x7, x8] ∧ DrS s b a2 ∧ a2 ≤ a1 + 100 * i) 5 (env := [some (.loc (b + 2)), some (oD n ps), none, none, none, none, none, none, none]) (st := s1) ⟨none, none, none, none, none, none, a1, rfl, d1, by omega⟩ (fun _ _ _ _ => rfl) (by
      rintro i env s hi ⟨x2, x4, x5, x6, x7, x8, a2, rfl, d2, l2⟩
      obtain ⟨y4, y5, y6, y7, y8, a3, s3, q1, q2, q3⟩ := lg_body (e2 := some (.int (i : Int))) (e3 := none) (e4 := x4) (e5 := x5) (e6 := x6) (e7 := x7) (e8 := x8) h1 h2 h3 h4 h5 h8 h9 w hn d2 (by omega)
      exact ⟨_, rfl, _, s3, .inl q1, _, _, _, _, _, _, a3, rfl, q2, by omega⟩)
  have rg := rng1_n (fs := fs) (env := [some (.loc (b + 2)), some (oD n ps), none, none, none, none, none, none, none]) (a := .int 5) (n := 5) (st := s1) (st1 := s1) (by omega) (by simp)
  -- the order that is asked at last
  obtain ⟨n', ps', w', hn', eq⟩ : ∃ n' ps', WfO n' ps' ∧ n' ≤ 6 ∧ ((n < 7 ∧ n' = n ∧ ps' = ps) ∨ (¬ n < 7 ∧ n' = 6 ∧ ps' = [(0, 1), (2, 4)])) := by
    by_cases h : n < 7
    · exact ⟨n, ps, w, by omega, .inl ⟨h, rfl, rfl⟩⟩
    · exact ⟨6, _, wf_small, by omega, .inr ⟨h, rfl, rfl⟩⟩
  have i0 : ∀ s, fIx (oD n ps) (.int 0) s = some (.ok (.int (n : Int)) s) := fun s => by simp [oD]
  have i1 : ∀ s, fIx (oD n ps) (.int 1) s = some (.ok (.tup (ps.map prN)) s) := fun s => by simp [oD]
  have o1 : D.tup [.int (n : Int), .tup (ps.map prN)] = oD n ps := rfl
  have o6 : D.tup [.int 6, .tup [.tup [.int 0, .int 1], .tup [.int 2, .int 4]]] = oD 6 [(0, 1), (2, 4)] := rfl
  have v1 : ∀ s, dE fs (.ifE (.tst (.cmp .Lt (.ix (.var 1) (.int 0)) (.int 7))) (.tup (.cons (.ix (.var 1) (.int 0)) (.cons (.ix (.var 1) (.int 1)) .nil))) (.tup (.cons (.int 6) (.cons (.tup (.cons (.tup (.cons (.int 0) (.cons (.int 1) .nil))) (.cons (.tup (.cons (.int 2) (.cons (.int 4) .nil))) .nil))) .nil)))) [some (.loc (b + 2)), some (oD n ps), x2, none, x4, x5, x6, x7, x8] s = some (.ok (oD n' ps') s) := fun s => by
    rcases eq with ⟨h, rfl, rfl⟩ | ⟨h, rfl, rfl⟩
    · have : (n' : Int) < 7 := by omega
      simp [i0, i1, fLt_int, this, o1]
    · have : ¬ (n : Int) < 7 := by omega
      simp [i0, fLt_int, this, o6]
  have v2 : ∀ s e3, dE fs (.ifE (.tst (.cmp .Lt (.ix (.var 1) (.int 0)) (.int 7))) (.var 1) (.tup (.cons (.int 6) (.cons (.tup (.cons (.tup (.cons (.int 0) (.cons (.int 1) .nil))) (.cons (.tup (.cons (.int 2) (.cons (.int 4) .nil))) .nil))) .nil)))) [some (.loc (b + 2)), some (oD n ps), x2, e3, x4, x5, x6, x7, x8] s = some (.ok (oD n' ps') s) := fun s e3 => by
    rcases eq with ⟨h, rfl, rfl⟩ | ⟨h, rfl, rfl⟩
    · have : (n' : Int) < 7 := by omega
      simp [i0, fLt_int, this]
    · have : ¬ (n : Int) < 7 := by omega
      simp [i0, fLt_int, this, o6]
  obtain ⟨M, mM, xs, c3, gM, geM, _, memM, lenM⟩ := h7 n' ps' s2 w' hn'
  obtain ⟨s3, hs3⟩ : ∃ s3, s3 = s2 ++ xs := ⟨_, rfl⟩
  rw [← hs3] at c3 gM
  have d3 : DrS s3 b a2 := by rw [hs3]; exact d2.app _
  have lt2 := d2.lt
  have hM : 0 < (M.map tN).length := by
    rw [List.length_map]
    exact List.length_pos_of_mem ((memM []).mpr (lw_nil n' ps'))
  obtain ⟨dv, s4, hd, c4, d4, _, _⟩ := h5 b a2 mM (M.map tN) s3 d3 (by omega) (.inr (by omega)) gM hM (by rw [List.length_map]; omega)
  obtain ⟨l, hl, rfl⟩ := List.mem_map.mp hd
  have wl : Lw n' ps' l := (memM l).mp hl
  have f1 : callS (fs k3) [oD n' ps', tN l] s4 = some (.ok (tN l) s4) := by rw [h3.good n' ps' l s4 w' wl.lot, grd_low wl]
  have f2 := h1.good n' ps' l s4 w' wl.lot
  have f3 : callS (fs k3) [oD n' ps', tN (selN n' (Top ps' l))] s4 = some (.ok (tN l) s4) := by rw [h3.good n' ps' _ s4 w' (lot_sel _ _), grd_top w'.up wl.lot, grd_low wl]
  have el : ∀ s, fEq (tN l) (tN l) s = some (.ok (.bl true) s) := fun s => by rw [fEq_tN]; simp
  refine ⟨a2 + 1, s4, ?_, d4, by omega⟩
  have run : dB fs (t__law_good_k02 k1 k2 k3 k4 k5 k6 k7 k8 k9) (startE 9 [.loc (b + 2)]) st = some (.rt (.bl true) s4) := by
    have se : startE 9 [.loc (b + 2)] = [some (.loc (b + 2)), none, none, none, none, none, none, none, none] := rfl
    rw [se]
    unfold t__law_good_k02
    refine b_step [some (.loc (b + 2)), some (oD n ps), none, none, none, none, none, none, none] s1 (by simp [c1']) ?_
    refine b_step [some (.loc (b + 2)), some (oD n ps), x2, none, x4, x5, x6, x7, x8] s2 (by simp only [es_for, rg, thnS_ok, tgD_var, g]) ?_
    refine b_step [some (.loc (b + 2)), some (oD n ps), x2, some (tN l), x4, x5, x6, x7, x8] s4 (by simp [-ev_ifE, v1, c3, c4]) ?_
    refine b_step [some (.loc (b + 2)), some (oD n' ps'), x2, some (tN l), x4, x5, x6, x7, x8] s4 (by simp [-ev_ifE, v2]) ?_
    refine b_ret ?_
    simp [f1, f2, f3, el]
  simp only [semOf, run]
/-! ### the law -/
def row02 : D := .tup [.int 5, .tup [.tup [.int 0, .int 1], .tup [.int 1, .int 2], .tup [.int 1, .int 3], .tup [.int 2, .int 4]]]
/-- the first statements of a plan, and the rest -/
def takeB : Nat → IR → List IR
  | 0, _ => []
  | n + 1, p => match p with
    | .cons a b => a :: takeB n b
    | _ => []
def dropB : Nat → IR → IR
  | 0, p => p
  | n + 1, p => match p with
    | .cons a b => dropB n b
    | p => p
def asB : List IR → IR
  | [] => .nil
  | a :: l => .cons a (asB l)
theorem dB_take {fs : Nat → Sm} : ∀ (n : Nat) {p : IR} {env env1 : En} {st st1 : Sto} {o : Option SOut}, dB fs (asB (takeB n p)) env st = some (.nx env1 st1) → dB fs (dropB n p) env1 st1 = o → dB fs p env st = o
  | 0, p, env, env1, st, st1, o, h, g => by
    simp only [takeB, asB, eb_nil] at h
    cases h
    exact g
  | n + 1, p, env, env1, st, st1, o, h, g => by
    unfold takeB at h
    unfold dropB at g
    split at h
    · rename_i a b
      simp only [asB, eb_cons] at h
      rw [eb_cons]
      cases e : dS fs a env st with
      | none => rw [e] at h; cases h
      | some r =>
        rw [e] at h
        cases r with
        | nx env2 st2 => exact dB_take n h g
        | _ => simp at h
    · rename_i hn
      simp only [asB, eb_nil] at h
      cases h
      split at g
      · exact absurd rfl (hn _ _)
      · exact g
theorem law_k02 {fs : Nat → Sm} {k1 k2 k3 k4 kb kg : Nat} {x2 x3 x5 x6 : Option D} {s0 : Sto} (hb : C_begin (fs kb)) (hg : C_lots_good (fs kg))
    (cl : ∀ d, dB fs (asB (takeB 6 (t_law_k02 k1 k2 k3 k4 kb kg))) [some d, none, none, none, none, none, none] [] = some (.nx [some d, some row02, x2, x3, none, x5, x6] s0))
    (ns : List Int) (hn : ns.length ≤ 63) : ∃ st', semOf 7 (dB fs (t_law_k02 k1 k2 k3 k4 kb kg)) [.rol (ns.map D.int)] [] = some (.ok (.bl true) st') := by
  obtain ⟨ext, c1, d1⟩ := hb ns s0 hn
  obtain ⟨s1, hs1⟩ : ∃ s1, s1 = s0 ++ ext := ⟨_, rfl⟩
  rw [← hs1] at c1 d1
  obtain ⟨m, hm⟩ : ∃ m : Nat, m = 3 + min ns.length 4 := ⟨_, rfl⟩
  obtain ⟨env2, s2, g, ⟨y5, a', rfl, d2, la⟩⟩ := for_range (C := yes) (tg := .nm 5) (body := dB fs (bd_law_k02_1 kg))
    (fun i env st => ∃ y5 a', env = [some (.rol (ns.map D.int)), some row02, x2, x3, some (.loc (s0.length + 2)), y5, x6] ∧ DrS st s0.length a' ∧ a' ≤ 1000 * i) m (env := [some (.rol (ns.map D.int)), some row02, x2, x3, some (.loc (s0.length + 2)), x5, x6]) (st := s1) ⟨x5, 0, rfl, d1, by omega⟩ (fun _ _ _ _ => rfl) (by
      rintro i env st hi ⟨y5, a', rfl, d, la⟩
      obtain ⟨a'', st', q1, q2, q3⟩ := hg s0.length a' st d (by omega)
      refine ⟨_, rfl, [some (.rol (ns.map D.int)), some row02, x2, x3, some (.loc (s0.length + 2)), some (.int (i : Int)), x6], st', .inl ?_, _, a'', rfl, q2, by omega⟩
      simp [bd_law_k02_1, q1])
  have ln : ∀ s, bLen [.rol (ns.map D.int)] s = some (.ok (.int (ns.length : Int)) s) := fun s => by simp [bLen]
  have mn : ∀ s, bMin2 [.int (ns.length : Int), .int 4] s = some (.ok (.int ((min ns.length 4 : Nat) : Int)) s) := fun s => by
    simp only [bMin2]
    by_cases h : (4 : Int) < ns.length
    · rw [if_pos h, Nat.min_eq_right (by omega)]; rfl
    · rw [if_neg h, Nat.min_eq_left (by omega)]
  have rg := rng1_n (fs := fs) (env := [some (.rol (ns.map D.int)), some row02, x2, x3, some (.loc (s0.length + 2)), x5, x6]) (a := .op2 .Add (.int 3) (.bv 5 (.cons (.bv 0 (.cons (.var 0) .nil)) (.cons (.int 4) .nil)))) (n := m) (st := s1) (st1 := s1) (by omega) (by
    simp [ln, mn, hm])
  refine ⟨s2, ?_⟩
  have run : dB fs (t_law_k02 k1 k2 k3 k4 kb kg) (startE 7 [.rol (ns.map D.int)]) [] = some (.rt (.bl true) s2) := by
    have se : startE 7 [.rol (ns.map D.int)] = [some (.rol (ns.map D.int)), none, none, none, none, none, none] := rfl
    rw [se]
    refine dB_take 6 (cl _) ?_
    show dB fs (.cons (.set 4 (.call kb 1 (.cons (.var 0) .nil))) (.cons (.for (.rng1 (.cons (.op2 .Add (.int 3) (.bv 5 (.cons (.bv 0 (.cons (.var 0) .nil)) (.cons (.int 4) .nil)))) .nil)) (.var 5) (bd_law_k02_1 kg)) (.cons (.ret (.bl true)) .nil))) _ _ = _
    refine b_step [some (.rol (ns.map D.int)), some row02, x2, x3, some (.loc (s0.length + 2)), x5, x6] s1 (by simp [c1]) ?_
    refine b_step [some (.rol (ns.map D.int)), some row02, x2, x3, some (.loc (s0.length + 2)), y5, x6] s2 (by simp only [es_for, rg, thnS_ok, tgD_var, g]) ?_
    exact b_ret (by simp)
  simp only [semOf, run]
end TA
namespace TA
open PySem PySem.Spec
open PyProof.Rows L2

def pg : Program := PySem.Challenge.pw_turnsall_k02_whole_lots
def bodyAt (k : Nat) : Stmt := match pg.main.body[k]? with
  | some s => s
  | none => .Pass ⟨0, 0, 0, 0⟩
def initAt (k j : Nat) : Stmt := match bodyAt k with
  | .ClassDef (body := b) .. => b.getD j (.Pass ⟨0, 0, 0, 0⟩)
  | _ => .Pass ⟨0, 0, 0, 0⟩
def xd_BadOrder : Xd := ⟨"BadOrder", "part", initAt 2 0⟩
def xd_BadLot : Xd := ⟨"BadLot", "given", initAt 3 0⟩
def md : Md := ⟨["all", "any", "bool", "int", "isinstance", "len", "list", "min", "range", "repr", "set", "sorted", "tuple", "zip"], [("MOST_ITEMS", 20)], ["TurnError", "BadOrder", "BadLot"], [xd_BadOrder, xd_BadLot], [("BadOrder", "TurnError", true), ("BadOrder", "BadOrder", true), ("BadOrder", "BadLot", false), ("BadLot", "TurnError", true), ("BadLot", "BadOrder", false), ("BadLot", "BadLot", true)], ["_law_good", "law"]⟩
def df_is_integer : Df := ⟨"is_integer", bodyAt 6, ["thing"], 1⟩
def df_is_within : Df := ⟨"is_within", bodyAt 7, ["thing", "least", "most"], 3⟩
def df_is_item_pair : Df := ⟨"is_item_pair", bodyAt 8, ["thing", "many", "one"], 2⟩
def df_do_ascend : Df := ⟨"do_ascend", bodyAt 9, ["some", "near", "far"], 1⟩
def df_order_fault : Df := ⟨"order_fault", bodyAt 10, ["thing", "one"], 1⟩
def df_need_order : Df := ⟨"need_order", bodyAt 11, ["thing", "fault"], 1⟩
def df_is_lot_of : Df := ⟨"is_lot_of", bodyAt 12, ["order", "thing", "one"], 2⟩
def df_need_lot : Df := ⟨"need_lot", bodyAt 13, ["order", "lot"], 2⟩
def df_ahead_in : Df := ⟨"ahead_in", bodyAt 14, ["order", "found", "item", "near", "pair"], 1⟩
def df_ground_in : Df := ⟨"ground_in", bodyAt 16, ["order", "lot", "item", "ahead", "found"], 2⟩
def df_head_in : Df := ⟨"head_in", bodyAt 17, ["order", "lot", "ahead", "item", "far"], 2⟩
def df_head : Df := ⟨"head", bodyAt 18, ["order", "lot"], 2⟩
def df_foot : Df := ⟨"foot", bodyAt 19, ["order", "lot", "ahead", "item", "near"], 2⟩
def df_ground : Df := ⟨"ground", bodyAt 20, ["order", "lot"], 2⟩
def df_is_loose : Df := ⟨"is_loose", bodyAt 21, ["order", "lot"], 2⟩
def df__law_mixed : Df := ⟨"_law_mixed", bodyAt 23, ["_law_cell", "_law_k"], 2⟩
def df__law_begin : Df := ⟨"_law_begin", bodyAt 24, ["_law_script", "_law_cells_so", "_law_cell"], 1⟩
def df__law_draw : Df := ⟨"_law_draw", bodyAt 25, ["_law_state", "_law_many", "_law_at", "_law_place", "_law_left", "_law_number"], 2⟩
def df__law_of : Df := ⟨"_law_of", bodyAt 26, ["_law_state", "_law_some"], 2⟩
def df__law_order : Df := ⟨"_law_order", bodyAt 27, ["_law_state", "_law_most", "_law_pairs", "_law_far", "_law_way", "_law_number", "_law_near"], 2⟩
def df__law_aheads : Df := ⟨"_law_aheads", bodyAt 28, ["_law_order_so", "_law_found_so", "_law_item", "_law_near", "_law_lot_here", "_law_one", "_law_far", "_law_pair"], 1⟩
def df__law_lowers : Df := ⟨"_law_lowers", bodyAt 29, ["_law_order_so", "_law_item", "_law_aheads_here", "_law_found_so", "_law_more", "_law_lot_here", "_law_one"], 1⟩
def df__law_lot : Df := ⟨"_law_lot", bodyAt 30, ["_law_state", "_law_many", "_law_thick", "_law_item"], 2⟩
def df__law_heard : Df := ⟨"_law_heard", bodyAt 31, ["_law_call", "error"], 1⟩
def df__law_lot_due : Df := ⟨"_law_lot_due", bodyAt 32, ["_law_order_here", "_law_lot_here", "_law_top", "_law_low", "_law_item", "_law_aheads_here", "_law_found", "_law_far", "_law_near"], 2⟩
def df__law_good : Df := ⟨"_law_good", bodyAt 33, ["_law_state", "_law_order_here", "_law_turn", "_law_lower", "_law_lot_here", "_law_due", "_law_told_so", "_law_odd", "_law_heard_here"], 1⟩
def df_law : Df := ⟨"law", bodyAt 34, ["_law_script", "_law_row", "_law_told_so", "_law_heard_here", "_law_state", "_law_turn", "_law_lot_here"], 1⟩
def dfs : List Df := [df_law, df__law_good, df__law_lot_due, df__law_heard, df__law_lot, df__law_lowers, df__law_aheads, df__law_order, df__law_of, df__law_draw, df__law_begin, df__law_mixed, df_is_loose, df_ground, df_foot, df_head, df_head_in, df_ground_in, df_ahead_in, df_need_lot, df_is_lot_of, df_need_order, df_order_fault, df_do_ascend, df_is_item_pair, df_is_within, df_is_integer]

theorem dt_is_integer : DfT df_is_integer := ⟨by decide +kernel, fun _ _ _ _ _ _ us hl => match us, hl with | [_], _ => rfl, by decide +kernel⟩
theorem dt_is_within : DfT df_is_within := ⟨by decide +kernel, fun _ _ _ _ _ _ us hl => match us, hl with | [_, _, _], _ => rfl, by decide +kernel⟩
theorem dt_is_item_pair : DfT df_is_item_pair := ⟨by decide +kernel, fun _ _ _ _ _ _ us hl => match us, hl with | [_, _], _ => rfl, by decide +kernel⟩
theorem dt_do_ascend : DfT df_do_ascend := ⟨by decide +kernel, fun _ _ _ _ _ _ us hl => match us, hl with | [_], _ => rfl, by decide +kernel⟩
theorem dt_order_fault : DfT df_order_fault := ⟨by decide +kernel, fun _ _ _ _ _ _ us hl => match us, hl with | [_], _ => rfl, by decide +kernel⟩
theorem dt_need_order : DfT df_need_order := ⟨by decide +kernel, fun _ _ _ _ _ _ us hl => match us, hl with | [_], _ => rfl, by decide +kernel⟩
theorem dt_is_lot_of : DfT df_is_lot_of := ⟨by decide +kernel, fun _ _ _ _ _ _ us hl => match us, hl with | [_, _], _ => rfl, by decide +kernel⟩
theorem dt_need_lot : DfT df_need_lot := ⟨by decide +kernel, fun _ _ _ _ _ _ us hl => match us, hl with | [_, _], _ => rfl, by decide +kernel⟩
theorem dt_ahead_in : DfT df_ahead_in := ⟨by decide +kernel, fun _ _ _ _ _ _ us hl => match us, hl with | [_], _ => rfl, by decide +kernel⟩
theorem dt_ground_in : DfT df_ground_in := ⟨by decide +kernel, fun _ _ _ _ _ _ us hl => match us, hl with | [_, _], _ => rfl, by decide +kernel⟩
theorem dt_head_in : DfT df_head_in := ⟨by decide +kernel, fun _ _ _ _ _ _ us hl => match us, hl with | [_, _], _ => rfl, by decide +kernel⟩
theorem dt_head : DfT df_head := ⟨by decide +kernel, fun _ _ _ _ _ _ us hl => match us, hl with | [_, _], _ => rfl, by decide +kernel⟩
theorem dt_foot : DfT df_foot := ⟨by decide +kernel, fun _ _ _ _ _ _ us hl => match us, hl with | [_, _], _ => rfl, by decide +kernel⟩
theorem dt_ground : DfT df_ground := ⟨by decide +kernel, fun _ _ _ _ _ _ us hl => match us, hl with | [_, _], _ => rfl, by decide +kernel⟩
theorem dt_is_loose : DfT df_is_loose := ⟨by decide +kernel, fun _ _ _ _ _ _ us hl => match us, hl with | [_, _], _ => rfl, by decide +kernel⟩
theorem dt__law_mixed : DfT df__law_mixed := ⟨by decide +kernel, fun _ _ _ _ _ _ us hl => match us, hl with | [_, _], _ => rfl, by decide +kernel⟩
theorem dt__law_begin : DfT df__law_begin := ⟨by decide +kernel, fun _ _ _ _ _ _ us hl => match us, hl with | [_], _ => rfl, by decide +kernel⟩
theorem dt__law_draw : DfT df__law_draw := ⟨by decide +kernel, fun _ _ _ _ _ _ us hl => match us, hl with | [_, _], _ => rfl, by decide +kernel⟩
theorem dt__law_of : DfT df__law_of := ⟨by decide +kernel, fun _ _ _ _ _ _ us hl => match us, hl with | [_, _], _ => rfl, by decide +kernel⟩
theorem dt__law_order : DfT df__law_order := ⟨by decide +kernel, fun _ _ _ _ _ _ us hl => match us, hl with | [_, _], _ => rfl, by decide +kernel⟩
theorem dt__law_aheads : DfT df__law_aheads := ⟨by decide +kernel, fun _ _ _ _ _ _ us hl => match us, hl with | [_], _ => rfl, by decide +kernel⟩
theorem dt__law_lowers : DfT df__law_lowers := ⟨by decide +kernel, fun _ _ _ _ _ _ us hl => match us, hl with | [_], _ => rfl, by decide +kernel⟩
theorem dt__law_lot : DfT df__law_lot := ⟨by decide +kernel, fun _ _ _ _ _ _ us hl => match us, hl with | [_, _], _ => rfl, by decide +kernel⟩
theorem dt__law_heard : DfT df__law_heard := ⟨by decide +kernel, fun _ _ _ _ _ _ us hl => match us, hl with | [_], _ => rfl, by decide +kernel⟩
theorem dt__law_lot_due : DfT df__law_lot_due := ⟨by decide +kernel, fun _ _ _ _ _ _ us hl => match us, hl with | [_, _], _ => rfl, by decide +kernel⟩
theorem dt__law_good : DfT df__law_good := ⟨by decide +kernel, fun _ _ _ _ _ _ us hl => match us, hl with | [_], _ => rfl, by decide +kernel⟩
theorem dt_law : DfT df_law := ⟨by decide +kernel, fun _ _ _ _ _ _ us hl => match us, hl with | [_], _ => rfl, by decide +kernel⟩
theorem dts : ∀ e ∈ dfs, DfT e := by
  intro e he
  simp only [dfs, List.mem_cons, List.not_mem_nil, or_false] at he
  rcases he with rfl | rfl | rfl | rfl | rfl | rfl | rfl | rfl | rfl | rfl | rfl | rfl | rfl | rfl | rfl | rfl | rfl | rfl | rfl | rfl | rfl | rfl | rfl | rfl | rfl | rfl | rfl
  · exact dt_law
  · exact dt__law_good
  · exact dt__law_lot_due
  · exact dt__law_heard
  · exact dt__law_lot
  · exact dt__law_lowers
  · exact dt__law_aheads
  · exact dt__law_order
  · exact dt__law_of
  · exact dt__law_draw
  · exact dt__law_begin
  · exact dt__law_mixed
  · exact dt_is_loose
  · exact dt_ground
  · exact dt_foot
  · exact dt_head
  · exact dt_head_in
  · exact dt_ground_in
  · exact dt_ahead_in
  · exact dt_need_lot
  · exact dt_is_lot_of
  · exact dt_need_order
  · exact dt_order_fault
  · exact dt_do_ascend
  · exact dt_is_item_pair
  · exact dt_is_within
  · exact dt_is_integer
theorem xt_BadOrder : XdT xd_BadOrder := ⟨by decide +kernel, fun _ _ _ _ _ _ us hl => match us, hl with | [_, _], _ => rfl, ⟨_, _, _, _, rfl⟩, by decide +kernel, by decide +kernel⟩
theorem xt_BadLot : XdT xd_BadLot := ⟨by decide +kernel, fun _ _ _ _ _ _ us hl => match us, hl with | [_, _], _ => rfl, ⟨_, _, _, _, rfl⟩, by decide +kernel, by decide +kernel⟩
theorem xts : ∀ x ∈ md.xds, XdT x := by
  intro x hx
  simp only [md, List.mem_cons, List.not_mem_nil, or_false] at hx
  rcases hx with rfl | rfl
  · exact xt_BadOrder
  · exact xt_BadLot
theorem xsub : ∀ x ∈ md.xds, x.name ∈ md.cls := by
  intro x hx
  have h : md.xds.all (fun x => mem md.cls x.name) = true := by decide +kernel
  exact mem_in (List.all_eq_true.mp h x hx)


abbrev Rw : PySem.W.OpenRow := PySem.W.OpenLaw.row PySem.Challenge.rw_turnsall_k02_whole_lots
def fa : List He.Fa := faL md dfs
def fn : List He.DefD := fnL md dfs
abbrev hk : PySem.W.Hook := He.hookX 4 fa fn [] [] (exB md)
def ob (s : PySem.W.SharedT) : He.AlX := He.obsX 4 fa fn [] [] (exB md) (HandSHeadRun.getT s)
theorem ob_eq (s : PySem.W.SharedT) : ob s = hk.obs s.abs := He.obsX_eq (HandSHeadRun.getT_eq s)
def loose0 : List Str := ["TurnError", "BadOrder", "BadLot", "MOST_ITEMS", "is_integer", "is_within", "is_item_pair", "do_ascend", "order_fault", "need_order", "is_lot_of", "need_lot", "ahead_in", "ground_in", "head_in", "head", "foot", "ground", "is_loose", "_law_mixed", "_law_begin", "_law_draw", "_law_of", "_law_order", "_law_aheads", "_law_lowers", "_law_lot", "_law_heard", "_law_lot_due"]
def looseN : List Str := loose0
theorem run (w : World) : HandSHeadRun.RunEq Rw (PySem.W.view Rw.prog [33, 34]) hk ob 3000 looseN w := by
  intro os
  kernel_rfl
end TA
namespace TA
open PySem PySem.Spec
open PyProof.Rows L2
theorem pq_is_integer : planOf md [] df_is_integer = t_is_integer := by decide +kernel
theorem pq_is_within : planOf md [df_is_integer] df_is_within = t_is_within 0 := by decide +kernel
theorem pq_is_item_pair : planOf md [df_is_within, df_is_integer] df_is_item_pair = t_is_item_pair 1 := by decide +kernel
theorem pq_do_ascend : planOf md [df_is_item_pair, df_is_within, df_is_integer] df_do_ascend = t_do_ascend := by decide +kernel
theorem pq_order_fault : planOf md [df_do_ascend, df_is_item_pair, df_is_within, df_is_integer] df_order_fault = t_order_fault 1 2 3 := by decide +kernel
theorem pq_need_order : planOf md [df_order_fault, df_do_ascend, df_is_item_pair, df_is_within, df_is_integer] df_need_order = t_need_order 4 := by decide +kernel
theorem pq_is_lot_of : planOf md [df_need_order, df_order_fault, df_do_ascend, df_is_item_pair, df_is_within, df_is_integer] df_is_lot_of = t_is_lot_of 1 3 := by decide +kernel
theorem pq_need_lot : planOf md [df_is_lot_of, df_need_order, df_order_fault, df_do_ascend, df_is_item_pair, df_is_within, df_is_integer] df_need_lot = t_need_lot 6 := by decide +kernel
theorem pq_ahead_in : planOf md [df_need_lot, df_is_lot_of, df_need_order, df_order_fault, df_do_ascend, df_is_item_pair, df_is_within, df_is_integer] df_ahead_in = t_ahead_in := by decide +kernel
theorem pq_ground_in : planOf md [df_ahead_in, df_need_lot, df_is_lot_of, df_need_order, df_order_fault, df_do_ascend, df_is_item_pair, df_is_within, df_is_integer] df_ground_in = t_ground_in 8 := by decide +kernel
theorem pq_head_in : planOf md [df_ground_in, df_ahead_in, df_need_lot, df_is_lot_of, df_need_order, df_order_fault, df_do_ascend, df_is_item_pair, df_is_within, df_is_integer] df_head_in = t_head_in 8 := by decide +kernel
theorem pq_head : planOf md [df_head_in, df_ground_in, df_ahead_in, df_need_lot, df_is_lot_of, df_need_order, df_order_fault, df_do_ascend, df_is_item_pair, df_is_within, df_is_integer] df_head = t_head 5 7 10 := by decide +kernel
theorem pq_foot : planOf md [df_head, df_head_in, df_ground_in, df_ahead_in, df_need_lot, df_is_lot_of, df_need_order, df_order_fault, df_do_ascend, df_is_item_pair, df_is_within, df_is_integer] df_foot = t_foot 5 7 8 := by decide +kernel
theorem pq_ground : planOf md [df_foot, df_head, df_head_in, df_ground_in, df_ahead_in, df_need_lot, df_is_lot_of, df_need_order, df_order_fault, df_do_ascend, df_is_item_pair, df_is_within, df_is_integer] df_ground = t_ground 5 7 9 := by decide +kernel
theorem pq_is_loose : planOf md [df_ground, df_foot, df_head, df_head_in, df_ground_in, df_ahead_in, df_need_lot, df_is_lot_of, df_need_order, df_order_fault, df_do_ascend, df_is_item_pair, df_is_within, df_is_integer] df_is_loose = t_is_loose 5 7 10 := by decide +kernel
theorem pq__law_mixed : planOf md [df_is_loose, df_ground, df_foot, df_head, df_head_in, df_ground_in, df_ahead_in, df_need_lot, df_is_lot_of, df_need_order, df_order_fault, df_do_ascend, df_is_item_pair, df_is_within, df_is_integer] df__law_mixed = t__law_mixed := by decide +kernel
theorem pq__law_begin : planOf md [df__law_mixed, df_is_loose, df_ground, df_foot, df_head, df_head_in, df_ground_in, df_ahead_in, df_need_lot, df_is_lot_of, df_need_order, df_order_fault, df_do_ascend, df_is_item_pair, df_is_within, df_is_integer] df__law_begin = t__law_begin := by decide +kernel
theorem pq__law_draw : planOf md [df__law_begin, df__law_mixed, df_is_loose, df_ground, df_foot, df_head, df_head_in, df_ground_in, df_ahead_in, df_need_lot, df_is_lot_of, df_need_order, df_order_fault, df_do_ascend, df_is_item_pair, df_is_within, df_is_integer] df__law_draw = t__law_draw 15 := by decide +kernel
theorem pq__law_of : planOf md [df__law_draw, df__law_begin, df__law_mixed, df_is_loose, df_ground, df_foot, df_head, df_head_in, df_ground_in, df_ahead_in, df_need_lot, df_is_lot_of, df_need_order, df_order_fault, df_do_ascend, df_is_item_pair, df_is_within, df_is_integer] df__law_of = t__law_of 17 := by decide +kernel
theorem pq__law_order : planOf md [df__law_of, df__law_draw, df__law_begin, df__law_mixed, df_is_loose, df_ground, df_foot, df_head, df_head_in, df_ground_in, df_ahead_in, df_need_lot, df_is_lot_of, df_need_order, df_order_fault, df_do_ascend, df_is_item_pair, df_is_within, df_is_integer] df__law_order = t__law_order 17 := by decide +kernel
theorem pq__law_aheads : planOf md [df__law_order, df__law_of, df__law_draw, df__law_begin, df__law_mixed, df_is_loose, df_ground, df_foot, df_head, df_head_in, df_ground_in, df_ahead_in, df_need_lot, df_is_lot_of, df_need_order, df_order_fault, df_do_ascend, df_is_item_pair, df_is_within, df_is_integer] df__law_aheads = t__law_aheads := by decide +kernel
theorem pq__law_lowers : planOf md [df__law_aheads, df__law_order, df__law_of, df__law_draw, df__law_begin, df__law_mixed, df_is_loose, df_ground, df_foot, df_head, df_head_in, df_ground_in, df_ahead_in, df_need_lot, df_is_lot_of, df_need_order, df_order_fault, df_do_ascend, df_is_item_pair, df_is_within, df_is_integer] df__law_lowers = t__law_lowers 20 := by decide +kernel
theorem pq__law_lot : planOf md [df__law_lowers, df__law_aheads, df__law_order, df__law_of, df__law_draw, df__law_begin, df__law_mixed, df_is_loose, df_ground, df_foot, df_head, df_head_in, df_ground_in, df_ahead_in, df_need_lot, df_is_lot_of, df_need_order, df_order_fault, df_do_ascend, df_is_item_pair, df_is_within, df_is_integer] df__law_lot = t__law_lot 17 := by decide +kernel
theorem pq__law_heard : planOf md [df__law_lot, df__law_lowers, df__law_aheads, df__law_order, df__law_of, df__law_draw, df__law_begin, df__law_mixed, df_is_loose, df_ground, df_foot, df_head, df_head_in, df_ground_in, df_ahead_in, df_need_lot, df_is_lot_of, df_need_order, df_order_fault, df_do_ascend, df_is_item_pair, df_is_within, df_is_integer] df__law_heard = t__law_heard_k02 := by decide +kernel
theorem pq__law_lot_due : planOf md [df__law_heard, df__law_lot, df__law_lowers, df__law_aheads, df__law_order, df__law_of, df__law_draw, df__law_begin, df__law_mixed, df_is_loose, df_ground, df_foot, df_head, df_head_in, df_ground_in, df_ahead_in, df_need_lot, df_is_lot_of, df_need_order, df_order_fault, df_do_ascend, df_is_item_pair, df_is_within, df_is_integer] df__law_lot_due = t__law_lot_due 20 := by decide +kernel
theorem pq__law_good : planOf md [df__law_lot_due, df__law_heard, df__law_lot, df__law_lowers, df__law_aheads, df__law_order, df__law_of, df__law_draw, df__law_begin, df__law_mixed, df_is_loose, df_ground, df_foot, df_head, df_head_in, df_ground_in, df_ahead_in, df_need_lot, df_is_lot_of, df_need_order, df_order_fault, df_do_ascend, df_is_item_pair, df_is_within, df_is_integer] df__law_good = t__law_good_k02 11 12 13 14 18 19 21 22 24 := by decide +kernel
theorem pq_law : planOf md [df__law_good, df__law_lot_due, df__law_heard, df__law_lot, df__law_lowers, df__law_aheads, df__law_order, df__law_of, df__law_draw, df__law_begin, df__law_mixed, df_is_loose, df_ground, df_foot, df_head, df_head_in, df_ground_in, df_ahead_in, df_need_lot, df_is_lot_of, df_need_order, df_order_fault, df_do_ascend, df_is_item_pair, df_is_within, df_is_integer] df_law = t_law_k02 11 12 13 14 16 25 := by decide +kernel
def r0 : List (Nat × IR) := []
def r1 : List (Nat × IR) := (1, t_is_integer) :: r0
def r2 : List (Nat × IR) := (3, t_is_within 0) :: r1
def r3 : List (Nat × IR) := (3, t_is_item_pair 1) :: r2
def r4 : List (Nat × IR) := (3, t_do_ascend) :: r3
def r5 : List (Nat × IR) := (2, t_order_fault 1 2 3) :: r4
def r6 : List (Nat × IR) := (2, t_need_order 4) :: r5
def r7 : List (Nat × IR) := (3, t_is_lot_of 1 3) :: r6
def r8 : List (Nat × IR) := (2, t_need_lot 6) :: r7
def r9 : List (Nat × IR) := (5, t_ahead_in) :: r8
def r10 : List (Nat × IR) := (5, t_ground_in 8) :: r9
def r11 : List (Nat × IR) := (5, t_head_in 8) :: r10
def r12 : List (Nat × IR) := (2, t_head 5 7 10) :: r11
def r13 : List (Nat × IR) := (5, t_foot 5 7 8) :: r12
def r14 : List (Nat × IR) := (2, t_ground 5 7 9) :: r13
def r15 : List (Nat × IR) := (2, t_is_loose 5 7 10) :: r14
def r16 : List (Nat × IR) := (2, t__law_mixed) :: r15
def r17 : List (Nat × IR) := (3, t__law_begin) :: r16
def r18 : List (Nat × IR) := (6, t__law_draw 15) :: r17
def r19 : List (Nat × IR) := (2, t__law_of 17) :: r18
def r20 : List (Nat × IR) := (7, t__law_order 17) :: r19
def r21 : List (Nat × IR) := (8, t__law_aheads) :: r20
def r22 : List (Nat × IR) := (7, t__law_lowers 20) :: r21
def r23 : List (Nat × IR) := (4, t__law_lot 17) :: r22
def r24 : List (Nat × IR) := (2, t__law_heard_k02) :: r23
def r25 : List (Nat × IR) := (9, t__law_lot_due 20) :: r24
def r26 : List (Nat × IR) := (9, t__law_good_k02 11 12 13 14 18 19 21 22 24) :: r25
def r27 : List (Nat × IR) := (7, t_law_k02 11 12 13 14 16 25) :: r26
theorem plans_eq : plansOf md dfs = r27 := by
  simp only [dfs, plansOf, pq_is_integer, pq_is_within, pq_is_item_pair, pq_do_ascend, pq_order_fault, pq_need_order, pq_is_lot_of, pq_need_lot, pq_ahead_in, pq_ground_in, pq_head_in, pq_head, pq_foot, pq_ground, pq_is_loose, pq__law_mixed, pq__law_begin, pq__law_draw, pq__law_of, pq__law_order, pq__law_aheads, pq__law_lowers, pq__law_lot, pq__law_heard, pq__law_lot_due, pq__law_good, pq_law]
  rfl
theorem h_is_integer : C_is_integer (fsOf r1 0) := c_is_integer' _
theorem h_is_within : C_is_within (fsOf r2 1) := c_is_within' (fs := fsOf r1) (k0 := 0) h_is_integer
theorem h_is_item_pair : C_is_item_pair (fsOf r3 2) := c_is_item_pair' (fs := fsOf r2) (k1 := 1) h_is_within
theorem h_do_ascend : C_do_ascend (fsOf r4 3) := c_do_ascend' _
theorem h_asc : C_asc' (fsOf r4 3) := c_asc' _
theorem h_order_fault : C_order_fault (fsOf r5 4) := c_order_fault' (fs := fsOf r4) (k1 := 1) (k2 := 2) (k3 := 3) h_is_within h_is_item_pair h_do_ascend
theorem h_need_order : C_need_order (fsOf r6 5) := c_need_order (fs := fsOf r5) (k := 4) h_order_fault
theorem h_is_lot_of : C_lotq (fsOf r7 6) := c_lotq (fs := fsOf r6) (k1 := 1) (k2 := 3) h_is_within h_asc
theorem h_need_lot : C_need_lot (fsOf r8 7) := c_need_lot (fs := fsOf r7) (k := 6) h_is_lot_of
theorem h_ahead_in : C_ahead_in (fsOf r9 8) := c_ahead_in _
theorem h_ground_in : C_ground_in (fsOf r10 9) := c_ground_in (fs := fsOf r9) (k := 8) h_ahead_in
theorem h_head_in : C_part (fsOf r11 10) Top := c_head_in (fs := fsOf r10) (k := 8) h_ahead_in
theorem h_head : C_lots (fsOf r12 11) Top := c_head (fs := fsOf r11) (k1 := 5) (k2 := 7) (k3 := 10) h_need_order h_need_lot h_head_in
theorem h_foot : C_lots (fsOf r13 12) Low := c_foot (fs := fsOf r12) (k1 := 5) (k2 := 7) (k3 := 8) h_need_order h_need_lot h_ahead_in
theorem h_ground : C_lots (fsOf r14 13) Grd := c_ground (fs := fsOf r13) (k1 := 5) (k2 := 7) (k3 := 9) h_need_order h_need_lot h_ground_in
theorem h_is_loose : C_loose (fsOf r15 14) := c_is_loose (fs := fsOf r14) (k1 := 5) (k2 := 7) (k3 := 10) h_need_order h_need_lot h_head_in
theorem h__law_mixed : C_mixed (fsOf r16 15) := c_mixed _
theorem h__law_begin : C_begin (fsOf r17 16) := c_begin _
theorem h__law_draw : C_draw (fsOf r18 17) := c_draw (fs := fsOf r17) (k := 15) h__law_mixed
theorem h__law_of : C_of (fsOf r19 18) := c_of (fs := fsOf r18) (k := 17) h__law_draw
theorem h__law_order : C_order (fsOf r20 19) := c_order (fs := fsOf r19) (k := 17) h__law_draw
theorem h__law_aheads : C_aheads (fsOf r21 20) := c_aheads _
theorem h__law_lowers : C_lowers (fsOf r22 21) := c_lowers (fs := fsOf r21) (k := 20) h__law_aheads
theorem h__law_lot : C_lot (fsOf r23 22) := c_lot (fs := fsOf r22) (k := 17) h__law_draw
theorem h__law_lot_due : C_lot_due (fsOf r25 24) := c_lot_due (fs := fsOf r24) (k := 20) h__law_aheads
theorem h__law_good : C_lots_good (fsOf r26 25) := c_lots_good (fs := fsOf r25) (k1 := 11) (k2 := 12) (k3 := 13) (k4 := 14) (k5 := 18) (k6 := 19) (k7 := 21) (k8 := 22) (k9 := 24) h_head h_foot h_ground h_is_loose h__law_of h__law_order h__law_lowers h__law_lot h__law_lot_due
theorem cl_k02 (d : D) : dB (fsOf r26) (asB (takeB 6 (t_law_k02 11 12 13 14 16 25))) [some d, none, none, none, none, none, none] [] = some (.nx [some d, some row02, some (.loc 0), some (.loc 2), none, none, none]
    [.lst [.tup [.int 2, .int 3], .tup [.int 1], .tup [.int 0, .int 1, .int 3], .tup []], .lst [.int 0], .lst [lotT (.tup [.int 1, .int 0]), lotT (.loc 1)], .lst [.int 0]]) := by kernel_rfl
theorem sem_law : ∀ ns : List Int, ns.length ≤ 63 → (∀ z ∈ ns, Builtin.Int.intBits z ≤ 1048576) → ∃ st', fsOf (plansOf md dfs) 26 [.rol (ns.map D.int)] [] = some (.ok (.bl true) st') := fun ns hn _ => by
  rw [plans_eq]
  exact law_k02 (fs := fsOf r26) (k1 := 11) (k2 := 12) (k3 := 13) (k4 := 14) (kb := 16) (kg := 25) h__law_begin h__law_good cl_k02 ns hn
end TA
open PySem PySem.W PySem.Calls PyProof.Rows
theorem PySem.Challenge.cw_turnsall_k02_whole_lots_holds : PySem.Challenge.rw_turnsall_k02_whole_lots.Holds := by
  w_on; o_law
  refine HandSHeadRun.head_any (r := OpenLaw.row PySem.Challenge.rw_turnsall_k02_whole_lots) (q := view (OpenLaw.row PySem.Challenge.rw_turnsall_k02_whole_lots).prog [33, 34]) (H := TA.hk) (ob := TA.ob) (M := 3000) (loose := TA.looseN) (d := HandSHeadRun.topDef (OpenLaw.row PySem.Challenge.rw_turnsall_k02_whole_lots).prog 34) (kwd := []) TA.ob_eq
    (by kernel_rfl) (fun s => by kernel_rfl) TA.run (by kernel_rfl) (by kernel_rfl) (by kernel_rfl) (by rfl) (by first | assumption | decide +kernel) (by decide +kernel) ⟨rfl, rfl, rfl, rfl, rfl, by decide +kernel⟩ ?hw ?hc
  case hw => w_witness2
  case hc =>
    refine TA.walk_G (l := PySem.Challenge.rw_turnsall_k02_whole_lots) (n := 63) rfl (by decide) (by kernel_rfl) ?F TA.sem_law
    intro w mg fa h Y G hmg0 tb
    obtain ⟨K, KX, c⟩ := Y
    have hmg : mg TA.df_law.name = some (.ref fa) := by
      have e : (HandSHeadRun.topDef (OpenLaw.row PySem.Challenge.rw_turnsall_k02_whole_lots).prog 34).name = TA.df_law.name := by kernel_rfl
      rw [← e]
      exact hmg0
    exact TA.law_fn KX G c.t.d c.more TA.xts TA.xsub TA.dts rfl hmg ⟨rfl, by decide, by decide⟩ tb (by kernel_rfl)
