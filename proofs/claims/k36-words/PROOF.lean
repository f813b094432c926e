import PyProof.Rows.All
import Wide.All
import OpenK.AllK
import Wide.FinOn
import HandS.ForMost
import HandS.Exc
import HandS.TryOnly
import HandS.ExcOwn
import HandS.WordsExc
import HandS.Lambda
import HandS.ExcCtx
import HandS.Deep
import HandS.TupAny
import HandS.Small
import HandS.More
import HandS.Comp
import HandS.Set
import HandS.SetFor
import HandS.SetKeys
import HandS.SortOrd
import KE.SortData
import KE.KDictList
import KE.KDictWalk
import HandS.DictTup
import PyProof.Rows.NestShow
import HandS.Replace
import HandS.Codes
import PyProof.StrLawsFirst
import HandS.Hot
import HandS.HotCalls
import KE.KLam
import HandS.ExcIs
import HandS.EndTab
import PyProof.ReprLoop
import PyProof.StrLawsRepr
import PyProof.Rows.RegStrFacts
import PySem.Challenge.RW_termsalike_k36_whole_words
section
set_option Elab.async false
set_option autoImplicit false
set_option linter.all false
set_option maxRecDepth 100000
set_option maxHeartbeats 1000000
/-! Mi: data as values over the hand layer. D: data; T: what a slot holds (shared data, or a list or dict of its own); Env: slots; R: outcomes. -/
namespace Mi
open PySem L2

inductive D where
  | non
  | bl (b : Bool)
  | int (i : Int)
  | str (s : List Nat)
  | tup (xs : List D)
  | lst (xs : List D)
  | frl (xs : List D)
  | dct (t : Bool) (kvs : List (D × D))
  | set (xs : List D)

inductive T where
  | un
  | sh (d : D)
  | lst (ts : List T)
  | dct (t : Bool) (kts : List (D × T))

abbrev Env := List T

/-- the text of the codes l -/
def S (l : List Nat) : Str := ⟨l.toArray⟩
theorem S_list (l : List Nat) : (S l).cps.toList = l := rfl
theorem S_of (x : Str) : S x.cps.toList = x := by cases x; rfl
theorem S_inj {l m : List Nat} : S l = S m ↔ l = m := ⟨fun h => by have := congrArg (fun z : Str => z.cps.toList) h; exact this, fun h => by rw [h]⟩
theorem S_length (l : List Nat) : (S l).length = l.length := by simp [S, Str.length]

def kD : Key → D
  | .inl i => .int i
  | .inr x => .str x.cps.toList

mutual
def T.strip : T → D
  | .un => .non
  | .sh d => d
  | .lst ts => .lst (T.strips ts)
  | .dct t kts => .dct t (T.stripKs kts)
def T.strips : List T → List D
  | [] => []
  | t :: ts => t.strip :: T.strips ts
def T.stripKs : List (D × T) → List (D × D)
  | [] => []
  | (k, t) :: ts => (k, t.strip) :: T.stripKs ts
end
theorem strips_eq : ∀ ts : List T, T.strips ts = ts.map T.strip
  | [] => rfl
  | t :: ts => by rw [T.strips, strips_eq ts]; rfl
theorem stripKs_eq : ∀ ts : List (D × T), T.stripKs ts = ts.map fun p => (p.1, p.2.strip)
  | [] => rfl
  | (k, t) :: ts => by rw [T.stripKs, stripKs_eq ts]; rfl

def isDct : HO → Prop
  | .dK _ => True
  | .dT _ => True
  | _ => False
/-- as it was, or a dict that is locked by now -/
def Le (u u' : HO) : Prop := u' = u ∨ (isDct u ∧ ∃ o, u' = .frz o u)
theorem Le.refl (u : HO) : Le u u := .inl rfl
theorem Le.trans {u u' u'' : HO} (x : Le u u') (y : Le u' u'') : Le u u'' := by
  rcases x with rfl | ⟨d, o, rfl⟩
  · exact y
  · rcases y with rfl | ⟨d', _⟩
    · exact .inr ⟨d, o, rfl⟩
    · exact d'.elim
theorem Le.lst {xs : List V} {u : HO} (h : Le (.lst xs) u) : u = .lst xs := h.elim id fun z => z.1.elim
theorem Le.tup {xs : List V} {u : HO} (h : Le (.tup xs) u) : u = .tup xs := h.elim id fun z => z.1.elim
theorem Le.frz {o : Obj} {x u : HO} (h : Le (.frz o x) u) : u = .frz o x := h.elim id fun z => z.1.elim
/-- all that F tells F' tells -/
def Ex (F F' : Hp) : Prop := ∀ a u, F a = some u → ∃ u', F' a = some u' ∧ Le u u'
theorem Ex.refl (F : Hp) : Ex F F := fun _ u h => ⟨u, h, .refl u⟩
theorem Ex.trans {F G H : Hp} (x : Ex F G) (y : Ex G H) : Ex F H := fun a u h => by
  obtain ⟨u', h1, l1⟩ := x a u h
  obtain ⟨u2, h2, l2⟩ := y a u' h1
  exact ⟨u2, h2, l1.trans l2⟩
theorem Ex.lst {F F' : Hp} (e : Ex F F') {a : Addr} {xs : List V} (h : F a = some (.lst xs)) : F' a = some (.lst xs) := by
  obtain ⟨u, h1, l⟩ := e a _ h
  rw [h1, l.lst]
theorem Ex.rdT {F F' : Hp} (e : Ex F F') {a : Addr} {xs : List V} (h : Rd F a (.tup xs)) : Rd F' a (.tup xs) := by
  rcases h with h | ⟨o, h⟩
  · obtain ⟨u, h1, l⟩ := e a _ h
    exact .inl (by rw [h1, l.tup])
  · obtain ⟨u, h1, l⟩ := e a _ h
    exact .inr ⟨o, by rw [h1, l.frz]⟩
theorem Ex.rdF {F F' : Hp} (e : Ex F F') {a : Addr} {xs : List V} {o : Obj} (h : F a = some (.frz o (.lst xs))) : F' a = some (.frz o (.lst xs)) := by
  obtain ⟨u, h1, l⟩ := e a _ h
  rw [h1, l.frz]
theorem Ex.rdD {F F' : Hp} (e : Ex F F') {a : Addr} {u : HO} (d : isDct u) (h : Rd F a u) : Rd F' a u := by
  rcases h with h | ⟨o, h⟩
  · obtain ⟨u', h1, l⟩ := e a _ h
    rcases l with rfl | ⟨_, o, rfl⟩
    · exact .inl h1
    · exact .inr ⟨o, h1⟩
  · obtain ⟨u', h1, l⟩ := e a _ h
    exact .inr ⟨o, by rw [h1, l.frz]⟩
theorem ex_t {F F' : Hp} {a : Addr} {xs : List V} (e : Ex F F') (h : F a = some (.tup xs)) : F' a = some (.tup xs) := by
  obtain ⟨u, h1, l⟩ := e a _ h
  rw [h1, l.tup]
theorem Ex.of {F F' : Hp} (h : ∀ a o, F a = some o → F' a = some o) : Ex F F' := fun a u r => ⟨u, h a u r, .refl u⟩
theorem Ex.new {H : Hp} {p : Addr} {o : HO} (h : H p = none) : Ex H (upd H p o) := Ex.of fun a u e => by
  rw [upd_ne (ne_of_none e h)]; exact e
theorem Ex.live {F F' : Hp} (e : Ex F F') {a : Addr} (h : F a ≠ none) : F' a ≠ none := by
  cases q : F a with
  | none => exact absurd q h
  | some u =>
    obtain ⟨u', h1, _⟩ := e a u q
    rw [h1]; simp

section
/-- the value v stands for the data d, as F tells -/
inductive Rep (K : PySem.W.Frag) (F : Hp) : V → D → Prop where
  | non : Rep K F .non .non
  | bl {b} : Rep K F (.bl b) (.bl b)
  | int {i} : Rep K F (.int i) (.int i)
  | str {l} : (∀ c ∈ l, c < 1114112) → Rep K F (.str (S l)) (.str l)
  | tup {a} {vs : List V} {ds : List D} : F a = some (.tup vs) → vs.length = ds.length → (∀ (i : Nat) (v : V) (d : D), vs[i]? = some v → ds[i]? = some d → Rep K F v d) → Rep K F (.ref a) (.tup ds)
  | lst {a} {vs : List V} {ds : List D} : F a = some (.lst vs) → vs.length = ds.length → (∀ (i : Nat) (v : V) (d : D), vs[i]? = some v → ds[i]? = some d → Rep K F v d) → Rep K F (.ref a) (.lst ds)
  | frl {a o} {vs : List V} {ds : List D} : F a = some (.frz o (.lst vs)) → vs.length = ds.length → (∀ (i : Nat) (v : V) (d : D), vs[i]? = some v → ds[i]? = some d → Rep K F v d) → Rep K F (.ref a) (.frl ds)
  | dK {a} {kvs : List (Key × V)} {ds : List (D × D)} : Rd F a (.dK kvs) → kvs.length = ds.length → (∀ (i : Nat) k v d e, kvs[i]? = some (k, v) → ds[i]? = some (d, e) → d = kD k) → (∀ (i : Nat) k v d e, kvs[i]? = some (k, v) → ds[i]? = some (d, e) → Rep K F v e) → Rep K F (.ref a) (.dct false ds)
  | dT {a} {kvs : List (List Key × V)} {ds : List (D × D)} : Rd F a (.dT kvs) → kvs.length = ds.length → (∀ (i : Nat) k v d e, kvs[i]? = some (k, v) → ds[i]? = some (d, e) → d = .tup (k.map kD)) → (∀ (i : Nat) k v d e, kvs[i]? = some (k, v) → ds[i]? = some (d, e) → Rep K F v e) → Rep K F (.ref a) (.dct true ds)

/-- the value v holds t: its own parts lie at A, in H alone; the rest is told by F -/
inductive Own (K : PySem.W.Frag) (F H : Hp) : V → T → (Addr → Prop) → Prop where
  | sh {v d} {A : Addr → Prop} : Rep K F v d → (∀ a, ¬ A a) → Own K F H v (.sh d) A
  | lst {a} {vs : List V} {ts : List T} {A : Addr → Prop} (B : Nat → Addr → Prop) : F a = none → H a = some (.lst vs) → vs.length = ts.length → (∀ (i : Nat) (v : V) (t : T), vs[i]? = some v → ts[i]? = some t → Own K F H v t (B i)) →
      (∀ i j b, B i b → B j b → i = j) → (∀ i, ¬ B i a) → (∀ b, A b ↔ b = a ∨ ∃ i, i < ts.length ∧ B i b) → Own K F H (.ref a) (.lst ts) A
  | dK {a} {kvs : List (Key × V)} {kts : List (D × T)} {A : Addr → Prop} (B : Nat → Addr → Prop) : F a = none → H a = some (.dK kvs) → kvs.length = kts.length → (∀ (i : Nat) k v d t, kvs[i]? = some (k, v) → kts[i]? = some (d, t) → d = kD k) →
      (∀ (i : Nat) k v d t, kvs[i]? = some (k, v) → kts[i]? = some (d, t) → Own K F H v t (B i)) →
      (∀ i j b, B i b → B j b → i = j) → (∀ i, ¬ B i a) → (∀ b, A b ↔ b = a ∨ ∃ i, i < kts.length ∧ B i b) → Own K F H (.ref a) (.dct false kts) A
  | dT {a} {kvs : List (List Key × V)} {kts : List (D × T)} {A : Addr → Prop} (B : Nat → Addr → Prop) : F a = none → H a = some (.dT kvs) → kvs.length = kts.length → (∀ (i : Nat) k v d t, kvs[i]? = some (k, v) → kts[i]? = some (d, t) → d = .tup (k.map kD)) →
      (∀ (i : Nat) k v d t, kvs[i]? = some (k, v) → kts[i]? = some (d, t) → Own K F H v t (B i)) →
      (∀ i j b, B i b → B j b → i = j) → (∀ i, ¬ B i a) → (∀ b, A b ↔ b = a ∨ ∃ i, i < kts.length ∧ B i b) → Own K F H (.ref a) (.dct true kts) A
end
section
variable {K : PySem.W.Frag} {F F' G H H' : Hp} {v : V} {d : D} {t : T} {A : Addr → Prop}
theorem Rep.mono (h : Rep K F v d) (e : Ex F F') : Rep K F' v d := by
  induction h with
  | non => exact .non
  | bl => exact .bl
  | int => exact .int
  | str h => exact .str h
  | tup q hl _ ih => exact .tup (ex_t e q) hl ih
  | lst q hl _ ih => exact .lst (e.lst q) hl ih
  | frl q hl _ ih => exact .frl (e.rdF q) hl ih
  | dK q hl hk _ ih => exact .dK (e.rdD trivial q) hl hk ih
  | dT q hl hk _ ih => exact .dT (e.rdD trivial q) hl hk ih
theorem getE {α β : Type} {xs : List α} {ys : List β} (hl : xs.length = ys.length) {i : Nat} {y : β} (h : ys[i]? = some y) : ∃ x, xs[i]? = some x := by
  have hi := (List.getElem?_eq_some_iff.mp h).1
  exact ⟨xs[i]'(by omega), List.getElem?_eq_getElem (by omega)⟩
theorem getE' {α β : Type} {xs : List α} {ys : List β} (hl : xs.length = ys.length) {i : Nat} {x : α} (h : xs[i]? = some x) : ∃ y, ys[i]? = some y := getE hl.symm h
theorem Own.fp (h : Own K F H v t A) : ∀ a, A a → F a = none ∧ ∃ o, H a = some o ∧ ((∃ xs, o = .lst xs) ∨ (∃ xs, o = .dK xs) ∨ ∃ xs, o = .dT xs) := by
  induction h with
  | sh _ n => exact fun a h => absurd h (n a)
  | lst B hf hh hl _ _ _ ha ih =>
    intro b hb
    rcases (ha b).mp hb with rfl | ⟨i, hi, hb⟩
    · exact ⟨hf, _, hh, .inl ⟨_, rfl⟩⟩
    · obtain ⟨v, hv⟩ := getE hl (List.getElem?_eq_getElem hi)
      exact ih i v _ hv (List.getElem?_eq_getElem hi) b hb
  | dK B hf hh hl _ _ _ _ ha ih =>
    intro b hb
    rcases (ha b).mp hb with rfl | ⟨i, hi, hb⟩
    · exact ⟨hf, _, hh, .inr (.inl ⟨_, rfl⟩)⟩
    · obtain ⟨⟨k, v⟩, hv⟩ := getE hl (List.getElem?_eq_getElem hi)
      exact ih i k v _ _ hv (List.getElem?_eq_getElem hi) b hb
  | dT B hf hh hl _ _ _ _ ha ih =>
    intro b hb
    rcases (ha b).mp hb with rfl | ⟨i, hi, hb⟩
    · exact ⟨hf, _, hh, .inr (.inr ⟨_, rfl⟩)⟩
    · obtain ⟨⟨k, v⟩, hv⟩ := getE hl (List.getElem?_eq_getElem hi)
      exact ih i k v _ _ hv (List.getElem?_eq_getElem hi) b hb
theorem Own.to {B : Addr → Prop} (h : Own K F H v t A) (e : ∀ a, A a ↔ B a) : Own K F H v t B := by
  have : A = B := funext fun a => propext (e a)
  exact this ▸ h
theorem Own.mono (h : Own K F H v t A) (e : Ex F F') (k : ∀ a, A a → F' a = none ∧ H' a = H a) : Own K F' H' v t A := by
  induction h with
  | sh r n => exact .sh (r.mono e) n
  | lst B hf hh hl _ hd hn ha ih =>
    obtain ⟨k1, k2⟩ := k _ ((ha _).mpr (.inl rfl))
    exact .lst B k1 (k2.trans hh) hl (fun i v t h1 h2 => ih i v t h1 h2 fun b hb => k b ((ha b).mpr (.inr ⟨i, (List.getElem?_eq_some_iff.mp h2).1, hb⟩))) hd hn ha
  | dK B hf hh hl hk _ hd hn ha ih =>
    obtain ⟨k1, k2⟩ := k _ ((ha _).mpr (.inl rfl))
    exact .dK B k1 (k2.trans hh) hl hk (fun i x v d t h1 h2 => ih i x v d t h1 h2 fun b hb => k b ((ha b).mpr (.inr ⟨i, (List.getElem?_eq_some_iff.mp h2).1, hb⟩))) hd hn ha
  | dT B hf hh hl hk _ hd hn ha ih =>
    obtain ⟨k1, k2⟩ := k _ ((ha _).mpr (.inl rfl))
    exact .dT B k1 (k2.trans hh) hl hk (fun i x v d t h1 h2 => ih i x v d t h1 h2 fun b hb => k b ((ha b).mpr (.inr ⟨i, (List.getElem?_eq_some_iff.mp h2).1, hb⟩))) hd hn ha
/-- what stands at A is told by F too from now on -/
noncomputable def frz (F H : Hp) (A : Addr → Prop) : Hp := fun a => open Classical in if A a then H a else F a
theorem frz_in {a : Addr} (h : A a) : frz F H A a = H a := by unfold frz; rw [if_pos h]
theorem frz_out {a : Addr} (h : ¬ A a) : frz F H A a = F a := by unfold frz; rw [if_neg h]
theorem frz_ex (h : ∀ a, A a → F a = none) : Ex F (frz F H A) := Ex.of fun a o e => by
  by_cases q : A a
  · rw [h a q] at e; cases e
  · rw [frz_out q]; exact e
theorem frz_le (e : Ex F H) : Ex (frz F H A) H := fun a u r => by
  by_cases q : A a
  · rw [frz_in q] at r; exact ⟨u, r, .refl u⟩
  · rw [frz_out q] at r; exact e a u r
theorem Own.rep (h : Own K F H v t A) (e : Ex F G) (k : ∀ a, A a → G a = H a) : Rep K G v t.strip := by
  induction h with
  | sh r n => exact r.mono e
  | @lst a vs ts A B hf hh hl _ hd hn ha ih =>
    rw [T.strip, strips_eq]
    refine .lst ((k _ ((ha _).mpr (.inl rfl))).trans hh) (by simpa using hl) fun i v d h1 h2 => ?_
    rw [List.getElem?_map] at h2
    cases q : ts[i]? with
    | none => rw [q] at h2; cases h2
    | some t =>
      rw [q] at h2; cases h2
      exact ih i v t h1 q fun b hb => k b ((ha b).mpr (.inr ⟨i, (List.getElem?_eq_some_iff.mp q).1, hb⟩))
  | @dK a kvs kts A B hf hh hl hk _ hd hn ha ih =>
    rw [T.strip, stripKs_eq]
    refine .dK (.inl ((k _ ((ha _).mpr (.inl rfl))).trans hh)) (by simpa using hl) (fun i x v d e' h1 h2 => ?_) fun i x v d e' h1 h2 => ?_ <;>
    · rw [List.getElem?_map] at h2
      cases q : kts[i]? with
      | none => rw [q] at h2; cases h2
      | some p =>
        obtain ⟨d1, t1⟩ := p
        rw [q] at h2; cases h2
        first
        | exact hk i x v _ t1 h1 q
        | exact ih i x v _ t1 h1 q fun b hb => k b ((ha b).mpr (.inr ⟨i, (List.getElem?_eq_some_iff.mp q).1, hb⟩))
  | @dT a kvs kts A B hf hh hl hk _ hd hn ha ih =>
    rw [T.strip, stripKs_eq]
    refine .dT (.inl ((k _ ((ha _).mpr (.inl rfl))).trans hh)) (by simpa using hl) (fun i x v d e' h1 h2 => ?_) fun i x v d e' h1 h2 => ?_ <;>
    · rw [List.getElem?_map] at h2
      cases q : kts[i]? with
      | none => rw [q] at h2; cases h2
      | some p =>
        obtain ⟨d1, t1⟩ := p
        rw [q] at h2; cases h2
        first
        | exact hk i x v _ t1 h1 q
        | exact ih i x v _ t1 h1 q fun b hb => k b ((ha b).mpr (.inr ⟨i, (List.getElem?_eq_some_iff.mp q).1, hb⟩))
end

/-! ### the frame: what a run may touch -/
/-- from (F, H) with the own places A to (F', H') with A' -/
structure Step (F H : Hp) (A : Addr → Prop) (F' H' : Hp) (A' : Addr → Prop) : Prop where
  ff : Ex F F'
  hx : ∀ a u, H a = some u → (∀ ps, u ≠ .tbl ps) → ¬ A a → ∃ u', H' a = some u' ∧ Le u u'
  hh : ∀ a o, H a = some o → (∀ ps, o ≠ .tbl ps) → ¬ A a → F a = none → H' a = some o
  fr : ∀ a, A' a → A a ∨ H a = none
  fz : ∀ a, F' a ≠ none → F a ≠ none ∨ A a ∨ H a = none
  lv : ∀ a, H a ≠ none → H' a ≠ none
section
variable {F H F1 H1 F2 H2 : Hp} {A A1 A2 : Addr → Prop}
theorem Step.refl : Step F H A F H A := ⟨Ex.refl F, fun _ u r _ _ => ⟨u, r, .refl u⟩, fun _ _ h _ _ _ => h, fun _ h => .inl h, fun _ h => .inl h, fun _ h => h⟩
theorem Step.trans (s : Step F H A F1 H1 A1) (t : Step F1 H1 A1 F2 H2 A2) : Step F H A F2 H2 A2 where
  ff := s.ff.trans t.ff
  hx := fun a u r n na => by
    obtain ⟨u1, h1, l1⟩ := s.hx a u r n na
    obtain ⟨u2, h2, l2⟩ := t.hx a u1 h1 (fun ps z => by
      subst z
      rcases l1 with z | ⟨_, o, z⟩
      · exact n ps z.symm
      · cases z) fun q => by
      rcases s.fr a q with z | z
      · exact na z
      · rw [r] at z; cases z
    exact ⟨u2, h2, l1.trans l2⟩
  hh := fun a o h n na f => by
    have h1 := s.hh a o h n na f
    refine t.hh a o h1 n (fun q => ?_) ?_
    · rcases s.fr a q with z | z
      · exact na z
      · rw [h] at z; cases z
    · cases q : F1 a with
      | none => rfl
      | some u =>
        rcases s.fz a (by rw [q]; simp) with z | z | z
        · exact absurd f z
        · exact absurd z na
        · rw [h] at z; cases z
  fr := fun a q => by
    rcases t.fr a q with z | z
    · exact s.fr a z
    · by_cases h : H a = none
      · exact .inr h
      · exact absurd z (s.lv a h)
  fz := fun a q => by
    rcases t.fz a q with z | z | z
    · exact s.fz a z
    · rcases s.fr a z with y | y
      · exact .inr (.inl y)
      · exact .inr (.inr y)
    · by_cases h : H a = none
      · exact .inr (.inr h)
      · exact absurd z (s.lv a h)
  lv := fun a h => t.lv a (s.lv a h)
/-- fewer own places behind -/
theorem Step.less {A' : Addr → Prop} (s : Step F H A F1 H1 A1) (h : ∀ a, A' a → A1 a) : Step F H A F1 H1 A' := ⟨s.ff, s.hx, s.hh, fun a q => s.fr a (h a q), s.fz, s.lv⟩
/-- more own places ahead -/
theorem Step.more {A' : Addr → Prop} (s : Step F H A F1 H1 A1) (h : ∀ a, A a → A' a) : Step F H A' F1 H1 A1 :=
  ⟨s.ff, fun a u r n na => s.hx a u r n fun z => na (h a z), fun a o e n na => s.hh a o e n fun z => na (h a z), fun a q => (s.fr a q).imp (h a) id, fun a q => (s.fz a q).imp id (Or.imp (h a) id), s.lv⟩
/-- a thing that lies apart stays -/
theorem Own.step {K : PySem.W.Frag} {v : V} {t : T} {C : Addr → Prop} (o : Own K F H v t C) (s : Step F H A F1 H1 A1) (d : ∀ a, C a → ¬ A a) : Own K F1 H1 v t C := by
  refine o.mono s.ff fun a ha => ?_
  obtain ⟨hf, o, ho, hk⟩ := o.fp a ha
  refine ⟨?_, ?_⟩
  · cases q : F1 a with
    | none => rfl
    | some u =>
      rcases s.fz a (by rw [q]; simp) with z | z | z
      · exact absurd hf z
      · exact absurd z (d a ha)
      · rw [ho] at z; cases z
  · rw [ho]
    refine s.hh a o ho (fun ps z => ?_) (d a ha) hf
    subst z
    rcases hk with ⟨_, q⟩ | ⟨_, q⟩ | ⟨_, q⟩ <;> cases q
/-- and lies apart behind -/
theorem Step.apart (s : Step F H A F1 H1 A1) {C : Addr → Prop} (hc : ∀ a, C a → H a ≠ none) (d : ∀ a, C a → ¬ A a) : ∀ a, C a → ¬ A1 a := fun a ha q => by
  rcases s.fr a q with z | z
  · exact d a ha z
  · exact hc a ha z
end
theorem Own.live {K : PySem.W.Frag} {F H : Hp} {v : V} {t : T} {A : Addr → Prop} (h : Own K F H v t A) : ∀ a, A a → H a ≠ none := fun a ha => by
  obtain ⟨_, o, ho, _⟩ := h.fp a ha
  rw [ho]; simp

/-- F tells of H: rightly, of no table, of nothing that isn't there -/
structure Sub (F H : Hp) : Prop where
  ex : Ex F H
  nt : ∀ a ps, F a ≠ some (.tbl ps)
  lv : ∀ a, F a ≠ none → H a ≠ none
  tp : ∀ a xs, H a = some (.tup xs) → F a = some (.tup xs)
theorem Sub.frz {F H : Hp} {A : Addr → Prop} (s : Sub F H) (h : ∀ a, A a → ∃ o, H a = some o ∧ ∀ ps, o ≠ .tbl ps) : Sub (frz F H A) H where
  ex := frz_le s.ex
  nt := fun a ps q => by
    by_cases z : A a
    · rw [frz_in z] at q
      obtain ⟨o, ho, hn⟩ := h a z
      rw [ho] at q; cases q; exact hn ps rfl
    · rw [frz_out z] at q; exact s.nt a ps q
  lv := fun a q => by
    by_cases z : A a
    · rw [frz_in z] at q; exact q
    · rw [frz_out z] at q; exact s.lv a q
  tp := fun a xs q => by
    by_cases z : A a
    · rw [frz_in z]; exact q
    · rw [frz_out z]; exact s.tp a xs q
theorem Own.notbl {K : PySem.W.Frag} {F H : Hp} {v : V} {t : T} {A : Addr → Prop} (h : Own K F H v t A) : ∀ a, A a → ∃ o, H a = some o ∧ ∀ ps, o ≠ .tbl ps := fun a ha => by
  obtain ⟨_, o, ho, hk⟩ := h.fp a ha
  refine ⟨o, ho, fun ps z => ?_⟩
  subst z
  rcases hk with ⟨_, q⟩ | ⟨_, q⟩ | ⟨_, q⟩ <;> cases q
/-! ### slots -/
/-- all own places of the slots -/
def AllB (B : Nat → Addr → Prop) : Addr → Prop := fun a => ∃ i, B i a
/-- the slots σ hold ρ; slot i's own places are B i -/
structure EnvR (K : PySem.W.Frag) (Tb : List (Addr × Str)) (F H : Hp) (σ : L2.St) (ρ : Env) (B : Nat → Addr → Prop) : Prop where
  sub : Sub F H
  len : σ.length = ρ.length
  at_ : ∀ (i : Nat) (t : T), ρ[i]? = some t → t ≠ .un → ∃ v, σ[i]? = some (some v) ∧ Own K F H v t (B i)
  no : ∀ (i : Nat), (ρ[i]? = none ∨ ρ[i]? = some .un) → ∀ a, ¬ B i a
  dis : ∀ i j a, B i a → B j a → i = j
  tabs : LamX.Tabs Tb H
section
variable {K : PySem.W.Frag} {Tb : List (Addr × Str)} {F H F' H' : Hp} {σ : L2.St} {ρ : Env} {B : Nat → Addr → Prop}
theorem EnvR.fp (E : EnvR K Tb F H σ ρ B) {i : Nat} {a : Addr} (h : B i a) : F a = none ∧ ∃ o, H a = some o ∧ ((∃ xs, o = .lst xs) ∨ (∃ xs, o = .dK xs) ∨ ∃ xs, o = .dT xs) := by
  cases q : ρ[i]? with
  | none => exact absurd h (E.no i (.inl q) a)
  | some t =>
    by_cases hu : t = .un
    · subst hu; exact absurd h (E.no i (.inr q) a)
    · obtain ⟨v, _, o⟩ := E.at_ i t q hu
      exact o.fp a h
theorem EnvR.live (E : EnvR K Tb F H σ ρ B) : ∀ a, AllB B a → H a ≠ none := fun a ⟨i, h⟩ => by
  obtain ⟨_, o, ho, _⟩ := E.fp h
  rw [ho]; simp
theorem EnvR.apart (E : EnvR K Tb F H σ ρ B) : ∀ a, AllB B a → F a = none := fun a ⟨i, h⟩ => (E.fp h).1
/-- slot i's own things are from now on shared -/
theorem EnvR.freeze (E : EnvR K Tb F H σ ρ B) {i : Nat} {t : T} (hi : ρ[i]? = some t) (hu : t ≠ .un) :
    ∃ v F', σ[i]? = some (some v) ∧ Rep K F' v t.strip ∧ EnvR K Tb F' H σ (ρ.set i (.sh t.strip)) (fun j a => j ≠ i ∧ B j a) ∧ Step F H (AllB B) F' H (AllB fun j a => j ≠ i ∧ B j a) := by
  obtain ⟨v, hv, o⟩ := E.at_ i t hi hu
  have fn : ∀ a, B i a → F a = none := fun a h => (o.fp a h).1
  have ex : Ex F (frz F H (B i)) := frz_ex fn
  have r : Rep K (frz F H (B i)) v t.strip := o.rep ex fun a h => frz_in h
  have il : i < ρ.length := (List.getElem?_eq_some_iff.mp hi).1
  refine ⟨v, frz F H (B i), hv, r, ⟨E.sub.frz o.notbl, by simpa using E.len, fun j u hj hu' => ?_, fun j hj a => ?_, fun j k a h1 h2 => E.dis j k a h1.2 h2.2, E.tabs⟩, ⟨ex, fun _ u r _ _ => ⟨u, r, .refl u⟩, fun _ _ h _ _ _ => h, fun a ⟨j, _, h⟩ => .inl ⟨j, h⟩, fun a q => ?_, fun _ h => h⟩⟩
  · by_cases e : j = i
    · subst e
      rw [List.getElem?_set_self il] at hj
      cases hj
      exact ⟨v, hv, .sh r fun a q => q.1 rfl⟩
    · rw [List.getElem?_set_ne (Ne.symm e)] at hj
      obtain ⟨w, hw, o2⟩ := E.at_ j u hj hu'
      refine ⟨w, hw, (o2.mono ex fun a ha => ⟨?_, rfl⟩).to fun a => ⟨fun h => ⟨e, h⟩, fun h => h.2⟩⟩
      rw [frz_out fun z => e (E.dis j i a ha z)]
      exact (o2.fp a ha).1
  · intro q
    rcases hj with hj | hj
    · have : ρ[j]? = none := by simpa using hj
      exact E.no j (.inl this) a q.2
    · rw [List.getElem?_set_ne (Ne.symm q.1)] at hj
      exact E.no j (.inr hj) a q.2
  · by_cases h : B i a
    · exact .inr (.inl ⟨i, h⟩)
    · rw [frz_out h] at q; exact .inl q
/-- a temporary becomes shared -/
theorem EnvR.freezeT (E : EnvR K Tb F H σ ρ B) {v : V} {t : T} {C : Addr → Prop} (o : Own K F H v t C) (d : ∀ a, C a → ¬ AllB B a) :
    ∃ F', Rep K F' v t.strip ∧ EnvR K Tb F' H σ ρ B ∧ Step F H (fun a => AllB B a ∨ C a) F' H (AllB B) := by
  have fn : ∀ a, C a → F a = none := fun a h => (o.fp a h).1
  have ex : Ex F (frz F H C) := frz_ex fn
  refine ⟨frz F H C, o.rep ex fun a h => frz_in h, ⟨E.sub.frz o.notbl, E.len, fun j u hj hu' => ?_, E.no, E.dis, E.tabs⟩, ⟨ex, fun _ u r _ _ => ⟨u, r, .refl u⟩, fun _ _ h _ _ _ => h, fun a h => .inl (.inl h), fun a q => ?_, fun _ h => h⟩⟩
  · obtain ⟨w, hw, o2⟩ := E.at_ j u hj hu'
    refine ⟨w, hw, o2.mono ex fun a ha => ⟨?_, rfl⟩⟩
    rw [frz_out fun z => d a z ⟨j, ha⟩]
    exact (o2.fp a ha).1
  · by_cases h : C a
    · exact .inr (.inl (.inr h))
    · rw [frz_out h] at q; exact .inl q
end
end Mi

end
section
set_option Elab.async false
set_option autoImplicit false
set_option linter.all false
set_option maxRecDepth 100000
set_option maxHeartbeats 1000000
/-! Mi, 2: outcomes, readings of expressions, their joining. -/
namespace Mi
open PySem L2

inductive Exc where
  | refused
  | large
  | missing
  | form (n : Int)
  | broken (s : List Nat)

def Exc.load : Exc → Option (Str × V)
  | .form n => some ("line", .int n)
  | .broken s => some ("name", .str (S s))
  | _ => none

inductive R (α : Type) where
  | ok (a : α) (ρ : Env)
  | exc (c : Exc) (ρ : Env)
  | bad
abbrev M (α : Type) := Env → R α
section
variable {α β γ : Type}
def pur (a : α) : M α := fun ρ => .ok a ρ
def bad : M α := fun _ => .bad
def bnd (m : M α) (k : α → M β) : M β := fun ρ =>
  match m ρ with
  | .ok a ρ' => k a ρ'
  | .exc c ρ' => .exc c ρ'
  | .bad => .bad
def opt (x : Option α) : M α := fun ρ =>
  match x with
  | some a => .ok a ρ
  | none => .bad
@[simp] theorem bnd_pur (a : α) (k : α → M β) : bnd (pur a) k = k a := rfl
@[simp] theorem bnd_bad (k : α → M β) : bnd bad k = bad := rfl
@[simp] theorem opt_some (a : α) : opt (some a) = pur a := rfl
@[simp] theorem opt_none : opt (none : Option α) = bad := rfl
end

/-- what is fixed through a program: its written part, its tables of code, its exceptions' classes -/
structure DX where
  K : PySem.W.Frag
  Tb : List (Addr × Str)
  cl : Exc → Value

/-- the exception c is wished for -/
def Wx (g : DX) (W : WX) (c : Exc) (σ : L2.St) (H : Hp) : Prop :=
  match c.load with
  | none => W (g.cl c) none σ H
  | some p => ∀ d, H d = some (.xd [p]) → W (g.cl c) (some d) σ H

section
variable (g : DX) (W : WX) (σ : L2.St)
def PostX (F H : Hp) (A : Addr → Prop) (c : Exc) (ρ' : Env) : Prop :=
  ∀ F' H' B', EnvR g.K g.Tb F' H' σ ρ' B' → Step F H A F' H' (AllB B') → Wx g W c σ H'
/-- a value, shared -/
def PostV (F H : Hp) (A : Addr → Prop) (Q : VK) : R D → Prop
  | .ok d ρ' => ∀ v F' H' B', EnvR g.K g.Tb F' H' σ ρ' B' → Rep g.K F' v d → Step F H A F' H' (AllB B') → Q v H'
  | .exc c ρ' => PostX g W σ F H A c ρ'
  | .bad => False
/-- a value that may be a thing of its own -/
def PostE (F H : Hp) (A : Addr → Prop) (Q : VK) : R T → Prop
  | .ok t ρ' => ∀ v F' H' B' C, EnvR g.K g.Tb F' H' σ ρ' B' → Own g.K F' H' v t C → (∀ a, C a → ¬ AllB B' a) → Step F H A F' H' (fun a => AllB B' a ∨ C a) → Q v H'
  | .exc c ρ' => PostX g W σ F H A c ρ'
  | .bad => False
/-- a truth -/
def PostT (F H : Hp) (A : Addr → Prop) (Q : Bool → Hp → Prop) : R Bool → Prop
  | .ok b ρ' => ∀ F' H' B', EnvR g.K g.Tb F' H' σ ρ' B' → Step F H A F' H' (AllB B') → Q b H'
  | .exc c ρ' => PostX g W σ F H A c ρ'
  | .bad => False
end
/-- several values, shared -/
def PostL (g : DX) (W : WX) (σ : L2.St) (F H : Hp) (A : Addr → Prop) (Q : List V → Hp → Prop) : R (List D) → Prop
  | .ok ds ρ' => ∀ vs F' H' B', EnvR g.K g.Tb F' H' σ ρ' B' → vs.length = ds.length → (∀ (i : Nat) v d, vs[i]? = some v → ds[i]? = some d → Rep g.K F' v d) → Step F H A F' H' (AllB B') → Q vs H'
  | .exc c ρ' => PostX g W σ F H A c ρ'
  | .bad => False

def rdV (g : DX) (W : WX) (m : M D) : TE := fun σ H Q => ∃ ρ F B, EnvR g.K g.Tb F H σ ρ B ∧ PostV g W σ F H (AllB B) Q (m ρ)
def rdE (g : DX) (W : WX) (m : M T) : TE := fun σ H Q => ∃ ρ F B, EnvR g.K g.Tb F H σ ρ B ∧ PostE g W σ F H (AllB B) Q (m ρ)
def rdT (g : DX) (W : WX) (m : M Bool) : TT := fun σ H Q => ∃ ρ F B, EnvR g.K g.Tb F H σ ρ B ∧ PostT g W σ F H (AllB B) Q (m ρ)
def rdL (g : DX) (W : WX) (m : M (List D)) : TA := fun σ H Q => ∃ ρ F B, EnvR g.K g.Tb F H σ ρ B ∧ PostL g W σ F H (AllB B) Q (m ρ)

section
variable {g : DX} {W : WX} {σ : L2.St} {F H F1 H1 : Hp} {A A1 : Addr → Prop}
theorem PostX.step {c : Exc} {ρ : Env} (s : Step F H A F1 H1 A1) (p : PostX g W σ F H A c ρ) : PostX g W σ F1 H1 A1 c ρ := fun F' H' B' E t => p F' H' B' E (s.trans t)
theorem PostV.step {Q : VK} {r : R D} (s : Step F H A F1 H1 A1) (p : PostV g W σ F H A Q r) : PostV g W σ F1 H1 A1 Q r := by
  cases r with
  | ok d ρ => exact fun v F' H' B' E r t => p v F' H' B' E r (s.trans t)
  | exc c ρ => exact PostX.step s p
  | bad => exact p
theorem PostE.step {Q : VK} {r : R T} (s : Step F H A F1 H1 A1) (p : PostE g W σ F H A Q r) : PostE g W σ F1 H1 A1 Q r := by
  cases r with
  | ok d ρ => exact fun v F' H' B' C E o d t => p v F' H' B' C E o d (s.trans t)
  | exc c ρ => exact PostX.step s p
  | bad => exact p
theorem PostT.step {Q : Bool → Hp → Prop} {r : R Bool} (s : Step F H A F1 H1 A1) (p : PostT g W σ F H A Q r) : PostT g W σ F1 H1 A1 Q r := by
  cases r with
  | ok d ρ => exact fun F' H' B' E t => p F' H' B' E (s.trans t)
  | exc c ρ => exact PostX.step s p
  | bad => exact p
theorem PostL.step {Q : List V → Hp → Prop} {r : R (List D)} (s : Step F H A F1 H1 A1) (p : PostL g W σ F H A Q r) : PostL g W σ F1 H1 A1 Q r := by
  cases r with
  | ok d ρ => exact fun v F' H' B' E l r t => p v F' H' B' E l r (s.trans t)
  | exc c ρ => exact PostX.step s p
  | bad => exact p

variable {ρ : Env} {B : Nat → Addr → Prop}
/-- what holds of an outcome: it is not bad, its exception is wished for, behind its value `k` goes on -/
def Then {α : Type} (g : DX) (W : WX) (σ : L2.St) (F H : Hp) (A : Addr → Prop) (r : R α) (k : α → Env → Prop) : Prop :=
  match r with
  | .ok a ρ' => k a ρ'
  | .exc c ρ' => PostX g W σ F H A c ρ'
  | .bad => False
theorem Then.mono {α : Type} {r : R α} {k k' : α → Env → Prop} (h : Then g W σ F H A r k) (q : ∀ a ρ', k a ρ' → k' a ρ') : Then g W σ F H A r k' := by
  cases r with
  | ok a ρ' => exact q a ρ' h
  | exc c ρ' => exact h
  | bad => exact h
/-- a value first, then the rest: V -/
theorem rdV.go {m : M D} {P : VK} (E : EnvR g.K g.Tb F H σ ρ B) (h : Then g W σ F H (AllB B) (m ρ) fun d ρ1 => ∀ v F1 H1 B1, EnvR g.K g.Tb F1 H1 σ ρ1 B1 → Rep g.K F1 v d → Step F H (AllB B) F1 H1 (AllB B1) → P v H1) : rdV g W m σ H P := by
  refine ⟨ρ, F, B, E, ?_⟩
  revert h
  cases m ρ with
  | ok d ρ1 => exact id
  | exc c ρ1 => exact id
  | bad => exact id
theorem rdE.go {m : M T} {P : VK} (E : EnvR g.K g.Tb F H σ ρ B) (h : Then g W σ F H (AllB B) (m ρ) fun t ρ1 => ∀ v F1 H1 B1 C, EnvR g.K g.Tb F1 H1 σ ρ1 B1 → Own g.K F1 H1 v t C → (∀ a, C a → ¬ AllB B1 a) → Step F H (AllB B) F1 H1 (fun a => AllB B1 a ∨ C a) → P v H1) : rdE g W m σ H P := by
  refine ⟨ρ, F, B, E, ?_⟩
  revert h
  cases m ρ with
  | ok d ρ1 => exact id
  | exc c ρ1 => exact id
  | bad => exact id
theorem rdT.go {m : M Bool} {P : Bool → Hp → Prop} (E : EnvR g.K g.Tb F H σ ρ B) (h : Then g W σ F H (AllB B) (m ρ) fun b ρ1 => ∀ F1 H1 B1, EnvR g.K g.Tb F1 H1 σ ρ1 B1 → Step F H (AllB B) F1 H1 (AllB B1) → P b H1) : rdT g W m σ H P := by
  refine ⟨ρ, F, B, E, ?_⟩
  revert h
  cases m ρ with
  | ok d ρ1 => exact id
  | exc c ρ1 => exact id
  | bad => exact id
theorem rdL.go {m : M (List D)} {P : List V → Hp → Prop} (E : EnvR g.K g.Tb F H σ ρ B) (h : Then g W σ F H (AllB B) (m ρ) fun ds ρ1 => ∀ vs F1 H1 B1, EnvR g.K g.Tb F1 H1 σ ρ1 B1 → vs.length = ds.length → (∀ (i : Nat) v d, vs[i]? = some v → ds[i]? = some d → Rep g.K F1 v d) → Step F H (AllB B) F1 H1 (AllB B1) → P vs H1) : rdL g W m σ H P := by
  refine ⟨ρ, F, B, E, ?_⟩
  revert h
  cases m ρ with
  | ok d ρ1 => exact id
  | exc c ρ1 => exact id
  | bad => exact id
/-- the outcome of a sequence: V -/
theorem PostV.bnd {α : Type} {m : M α} {k : α → M D} {Q : VK} (p : PostV g W σ F H A Q (bnd m k ρ)) : Then g W σ F H A (m ρ) fun a ρ1 => PostV g W σ F H A Q (k a ρ1) := by
  unfold Mi.bnd at p
  revert p
  cases m ρ <;> exact id
theorem PostE.bnd {α : Type} {m : M α} {k : α → M T} {Q : VK} (p : PostE g W σ F H A Q (bnd m k ρ)) : Then g W σ F H A (m ρ) fun a ρ1 => PostE g W σ F H A Q (k a ρ1) := by
  unfold Mi.bnd at p
  revert p
  cases m ρ <;> exact id
theorem PostT.bnd {α : Type} {m : M α} {k : α → M Bool} {Q : Bool → Hp → Prop} (p : PostT g W σ F H A Q (bnd m k ρ)) : Then g W σ F H A (m ρ) fun a ρ1 => PostT g W σ F H A Q (k a ρ1) := by
  unfold Mi.bnd at p
  revert p
  cases m ρ <;> exact id
theorem PostL.bnd {α : Type} {m : M α} {k : α → M (List D)} {Q : List V → Hp → Prop} (p : PostL g W σ F H A Q (bnd m k ρ)) : Then g W σ F H A (m ρ) fun a ρ1 => PostL g W σ F H A Q (k a ρ1) := by
  unfold Mi.bnd at p
  revert p
  cases m ρ <;> exact id
theorem PostV.opt {x : Option D} {Q : VK} (p : PostV g W σ F H A Q (opt x ρ)) : ∃ d, x = some d ∧ PostV g W σ F H A Q (.ok d ρ) := by
  cases x with
  | none => exact False.elim p
  | some d => exact ⟨d, rfl, p⟩
theorem PostT.opt {x : Option Bool} {Q : Bool → Hp → Prop} (p : PostT g W σ F H A Q (opt x ρ)) : ∃ d, x = some d ∧ PostT g W σ F H A Q (.ok d ρ) := by
  cases x with
  | none => exact False.elim p
  | some d => exact ⟨d, rfl, p⟩
end

/-! ### judgements -/
section
variable {P : Type}
theorem PEmono {X : Cx} {e : Expr} {t t' : TE} (h : PE X e t) (q : ∀ σ H Q, t' σ H Q → t σ H Q) : PE X e t' := ⟨fun pins s σ H Q I z => h.run pins s σ H Q I (q σ H Q z)⟩
theorem PTmono {X : Cx} {e : Expr} {t t' : TT} (h : PT X e t) (q : ∀ σ H Q, t' σ H Q → t σ H Q) : PT X e t' := ⟨fun pins s σ H Q I z => h.run pins s σ H Q I (q σ H Q z)⟩
theorem PAmono {X : Cx} {e : List Expr} {t t' : TA} (h : PA X e t) (q : ∀ σ H Q, t' σ H Q → t σ H Q) : PA X e t' := ⟨fun pos pins s σ H Q I z => h.run pos pins s σ H Q I (q σ H Q z)⟩
end
def DV (g : DX) (W : WX) (X : Cx) (e : Expr) (m : M D) : Prop := PE X e (rdV g W m)
def DE (g : DX) (W : WX) (X : Cx) (e : Expr) (m : M T) : Prop := PE X e (rdE g W m)
def DT (g : DX) (W : WX) (X : Cx) (e : Expr) (m : M Bool) : Prop := PT X e (rdT g W m)
def DA (g : DX) (W : WX) (X : Cx) (es : List Expr) (m : M (List D)) : Prop := PA X es (rdL g W m)

section
variable {g : DX} {W : WX} {X : Cx} {e : Expr}
/-- what is its own becomes shared -/
def froz (m : M T) : M D := bnd m fun t => pur t.strip
def shar (m : M D) : M T := bnd m fun d => pur (.sh d)
theorem DE.dv {m : M T} (h : DE g W X e m) : DV g W X e (froz m) := by
  refine PEmono h fun σ H Q ⟨ρ, F, B, E, p⟩ => rdE.go E (p.bnd.mono fun t ρ1 q v F1 H1 B1 C E1 o d s => ?_)
  obtain ⟨F2, r, E2, s2⟩ := E1.freezeT o d
  exact q v F2 H1 B1 E2 r (s.trans s2)
theorem DV.de {m : M D} (h : DV g W X e m) : DE g W X e (shar m) := by
  refine PEmono h fun σ H Q ⟨ρ, F, B, E, p⟩ => rdV.go E (p.bnd.mono fun d ρ1 q v F1 H1 B1 E1 r s => ?_)
  refine q v F1 H1 B1 (fun _ => False) E1 (.sh r fun _ => id) (fun _ => False.elim) ?_
  have e : (fun a => AllB B1 a ∨ False) = AllB B1 := funext fun a => propext ⟨fun h => h.elim id False.elim, .inl⟩
  rw [e]; exact s

/-- what an operation on values makes: new things laid, perhaps -/
structure Laid (F H F' H' : Hp) : Prop where
  kp : ∀ a o, H a = some o → H' a = some o
  ff : Ex F F'
  sub : Sub F' H'
  fz : ∀ a, F' a ≠ none → F a ≠ none ∨ H a = none
theorem Laid.step {F H F' H' : Hp} {A : Addr → Prop} (l : Laid F H F' H') : Step F H A F' H' A :=
  ⟨l.ff, fun a u r _ _ => ⟨u, l.kp a u r, .refl u⟩, fun a o h _ _ _ => l.kp a o h, fun _ h => .inl h, fun a h => (l.fz a h).imp id .inr, fun a h => by
    cases q : H a with
    | none => exact absurd q h
    | some o => rw [l.kp a o q]; simp⟩
theorem Laid.env {F H F' H' : Hp} {σ : L2.St} {ρ : Env} {B : Nat → Addr → Prop} (l : Laid F H F' H') (E : EnvR g.K g.Tb F H σ ρ B) : EnvR g.K g.Tb F' H' σ ρ B := by
  refine ⟨l.sub, E.len, fun i t hi hu => ?_, E.no, E.dis, E.tabs.ext l.kp⟩
  obtain ⟨v, hv, o⟩ := E.at_ i t hi hu
  refine ⟨v, hv, o.mono l.ff fun a ha => ?_⟩
  obtain ⟨hf, u, hu, _⟩ := o.fp a ha
  refine ⟨?_, by rw [hu, l.kp a u hu]⟩
  cases q : F' a with
  | none => rfl
  | some x =>
    rcases l.fz a (by rw [q]; simp) with z | z
    · exact absurd hf z
    · rw [hu] at z; cases z
theorem Laid.refl {F H : Hp} (s : Sub F H) : Laid F H F H := ⟨fun _ _ h => h, Ex.refl F, s, fun _ h => .inl h⟩
theorem Laid.trans {F H F1 H1 F2 H2 : Hp} (a : Laid F H F1 H1) (b : Laid F1 H1 F2 H2) : Laid F H F2 H2 :=
  ⟨fun x o h => b.kp x o (a.kp x o h), a.ff.trans b.ff, b.sub, fun x h => by
    rcases b.fz x h with z | z
    · exact a.fz x z
    · cases q : H x with
      | none => exact .inr rfl
      | some o => rw [a.kp x o q] at z; cases z⟩
/-- a new object, told by F too -/
theorem Laid.new {F H : Hp} {p : Addr} {o : HO} (s : Sub F H) (hp : H p = none) (no : ∀ ps, o ≠ .tbl ps) : Laid F H (upd F p o) (upd H p o) where
  kp := fun a u e => by rw [upd_ne (ne_of_none e hp)]; exact e
  ff := Ex.of fun a u e => by
    by_cases z : a = p
    · subst z; exact absurd hp (s.lv a (by rw [e]; simp))
    · rw [upd_ne z]; exact e
  sub := {
    ex := fun a u r => by
      by_cases z : a = p
      · subst z; rw [upd_same] at r ⊢; exact ⟨_, r, .refl _⟩
      · rw [upd_ne z] at r ⊢; exact s.ex a u r
    nt := fun a ps => by
      by_cases z : a = p
      · subst z; rw [upd_same]; intro h; exact no ps (Option.some.inj h)
      · rw [upd_ne z]; exact s.nt a ps
    lv := fun a h => by
      by_cases z : a = p
      · subst z; rw [upd_same]; simp
      · rw [upd_ne z] at h ⊢; exact s.lv a h
    tp := fun a xs h => by
      by_cases z : a = p
      · subst z; rw [upd_same] at h ⊢; exact h
      · rw [upd_ne z] at h ⊢; exact s.tp a xs h }
  fz := fun a h => by
    by_cases z : a = p
    · subst z; exact .inr hp
    · rw [upd_ne z] at h; exact .inl h
/-- a new object of its own: untold by F -/
theorem Laid.own {F H : Hp} {p : Addr} {o : HO} (s : Sub F H) (hp : H p = none) (nt : ∀ xs, o ≠ .tup xs := by intro _ h; cases h) : Laid F H F (upd H p o) where
  kp := fun a u e => by rw [upd_ne (ne_of_none e hp)]; exact e
  ff := Ex.refl F
  sub := ⟨s.ex.trans (Ex.new hp), s.nt, fun a h => by
    by_cases z : a = p
    · subst z; rw [upd_same]; simp
    · rw [upd_ne z]; exact s.lv a h, fun a xs h => by
    by_cases z : a = p
    · subst z; rw [upd_same] at h; exact absurd (Option.some.inj h) (nt xs)
    · rw [upd_ne z] at h; exact s.tp a xs h⟩
  fz := fun a h => .inl h
end
end Mi

end
section
set_option Elab.async false
set_option autoImplicit false
set_option linter.all false
set_option maxRecDepth 100000
set_option maxHeartbeats 1000000
/-! Mi, 3: operations on data. -/
namespace Mi
open PySem L2

/-! ### sameness -/
mutual
def D.py : D → PyData
  | .non => .none
  | .bl b => .bool b
  | .int i => .int i
  | .str l => .str (S l)
  | .tup xs => .tuple (D.pys xs)
  | .lst xs => .list (D.pys xs)
  | .frl _ => .none
  | .dct _ _ => .none
  | .set _ => .none
def D.pys : List D → List PyData
  | [] => []
  | x :: xs => x.py :: D.pys xs
end
mutual
/-- lists and tuples of scalars, at most so deep -/
def D.lay : D → Nat → Bool
  | .tup xs, n => (match n with | 0 => false | n + 1 => D.lays xs n)
  | .lst xs, n => (match n with | 0 => false | n + 1 => D.lays xs n)
  | .frl _, _ => false
  | .dct _ _, _ => false
  | .set _, _ => false
  | .non, _ => true
  | .bl _, _ => true
  | .int _, _ => true
  | .str _, _ => true
def D.lays : List D → Nat → Bool
  | [], _ => true
  | x :: xs, n => x.lay n && D.lays xs n
end
theorem lays_eq (n : Nat) : ∀ xs : List D, D.lays xs n = xs.all fun d => d.lay n
  | [] => rfl
  | x :: xs => by rw [D.lays, lays_eq n xs]; rfl
theorem pys_eq : ∀ xs : List D, D.pys xs = xs.map D.py
  | [] => rfl
  | x :: xs => by rw [D.pys, pys_eq xs]; rfl
section
variable {K : PySem.W.Frag} {F : Hp}
theorem S_ok {l : List Nat} (h : ∀ c ∈ l, c < 1114112) : PyData.canLay0 (.str (S l)) = true := by
  unfold PyData.canLay0 PyData.strOk S
  simpa using h
theorem depthAll_le (n : Nat) : ∀ xs : List PyData, (∀ x ∈ xs, x.depth ≤ n) → PyData.depthAll xs ≤ n
  | [], _ => by simp [PyData.depthAll]
  | x :: xs, h => by
    rw [PyData.depthAll]
    exact Nat.max_le.mpr ⟨h x (by simp), depthAll_le n xs fun y hy => h y (by simp [hy])⟩
theorem layAll : ∀ xs : List PyData, (∀ x ∈ xs, x.canLay0 = true) → PyData.canLayAll0 xs = true
  | [], _ => by simp [PyData.canLayAll0]
  | x :: xs, h => by
    rw [PyData.canLayAll0, h x (by simp), layAll xs fun y hy => h y (by simp [hy])]; rfl
theorem dpAll : ∀ (vs : List V) (ds : List PyData), vs.length = ds.length → (∀ (i : Nat) v d, vs[i]? = some v → ds[i]? = some d → Dp K F v d) → DpAll K F vs ds
  | [], [], _, _ => .nil
  | [], _ :: _, h, _ => by cases h
  | _ :: _, [], h, _ => by cases h
  | v :: vs, d :: ds, h, q => .cons (q 0 v d rfl rfl) (dpAll vs ds (by simpa using h) fun i v d h1 h2 => q (i + 1) v d (by simpa using h1) (by simpa using h2))
theorem Rep.dp {v : V} {d : D} (h : Rep K F v d) : ∀ n, d.lay n = true → Dp K F v d.py ∧ d.py.canLay0 = true ∧ d.py.depth ≤ n := by
  induction h with
  | non => exact fun n _ => ⟨.non, by simp [D.py, PyData.canLay0], by simp [D.py, PyData.depth]⟩
  | bl => exact fun n _ => ⟨.bl _, by simp [D.py, PyData.canLay0], by simp [D.py, PyData.depth]⟩
  | int => exact fun n _ => ⟨.int _, by simp [D.py, PyData.canLay0], by simp [D.py, PyData.depth]⟩
  | str h => exact fun n _ => ⟨.str _, S_ok h, by simp [D.py, PyData.depth]⟩
  | @tup a vs ds q hl _ ih =>
    intro n hn
    cases n with
    | zero => simp [D.lay] at hn
    | succ n =>
      have hn : ∀ d ∈ ds, d.lay n = true := by simpa [D.lay, lays_eq] using hn
      have all : ∀ (i : Nat) (hi : i < ds.length), Dp K F (vs[i]'(by omega)) ds[i].py ∧ ds[i].py.canLay0 = true ∧ ds[i].py.depth ≤ n := fun i hi =>
        ih i _ _ (List.getElem?_eq_getElem (by omega)) (List.getElem?_eq_getElem hi) n (hn _ (List.getElem_mem hi))
      have mem : ∀ x ∈ ds.map D.py, x.canLay0 = true ∧ x.depth ≤ n := fun x hx => by
        obtain ⟨d, hd, rfl⟩ := List.mem_map.mp hx
        obtain ⟨i, hi, rfl⟩ := List.getElem_of_mem hd
        exact (all i hi).2
      rw [D.py, pys_eq]
      refine ⟨.tup (SqT.of q) (dpAll _ _ (by simpa using hl) fun i v d h1 h2 => ?_), ?_, ?_⟩
      · rw [List.getElem?_map] at h2
        cases z : ds[i]? with
        | none => rw [z] at h2; cases h2
        | some e => rw [z] at h2; cases h2; exact (ih i v e h1 z n (hn e (List.mem_of_getElem? z))).1
      · rw [PyData.canLay0]; exact layAll _ fun x hx => (mem x hx).1
      · rw [PyData.depth]; exact Nat.succ_le_succ (depthAll_le n _ fun x hx => (mem x hx).2)
  | @lst a vs ds q hl _ ih =>
    intro n hn
    cases n with
    | zero => simp [D.lay] at hn
    | succ n =>
      have hn : ∀ d ∈ ds, d.lay n = true := by simpa [D.lay, lays_eq] using hn
      have all : ∀ (i : Nat) (hi : i < ds.length), Dp K F (vs[i]'(by omega)) ds[i].py ∧ ds[i].py.canLay0 = true ∧ ds[i].py.depth ≤ n := fun i hi =>
        ih i _ _ (List.getElem?_eq_getElem (by omega)) (List.getElem?_eq_getElem hi) n (hn _ (List.getElem_mem hi))
      have mem : ∀ x ∈ ds.map D.py, x.canLay0 = true ∧ x.depth ≤ n := fun x hx => by
        obtain ⟨d, hd, rfl⟩ := List.mem_map.mp hx
        obtain ⟨i, hi, rfl⟩ := List.getElem_of_mem hd
        exact (all i hi).2
      rw [D.py, pys_eq]
      refine ⟨.lst (SqL.of q) (dpAll _ _ (by simpa using hl) fun i v d h1 h2 => ?_), ?_, ?_⟩
      · rw [List.getElem?_map] at h2
        cases z : ds[i]? with
        | none => rw [z] at h2; cases h2
        | some e => rw [z] at h2; cases h2; exact (ih i v e h1 z n (hn e (List.mem_of_getElem? z))).1
      · rw [PyData.canLay0]; exact layAll _ fun x hx => (mem x hx).1
      · rw [PyData.depth]; exact Nat.succ_le_succ (depthAll_le n _ fun x hx => (mem x hx).2)
  | frl _ _ _ _ => exact fun n h => by simp [D.lay] at h
  | dK _ _ _ _ _ => exact fun n h => by simp [D.lay] at h
  | dT _ _ _ _ _ => exact fun n h => by simp [D.lay] at h
end
def dEq (d e : D) : Bool := PyData.eqv d.py e.py
def pyEq (d e : D) : Option Bool := if d.lay 64 && e.lay 64 then some (dEq d e) else none
theorem pyEq_some {d e : D} {b : Bool} (h : pyEq d e = some b) : d.lay 64 = true ∧ e.lay 64 = true ∧ b = dEq d e := by
  unfold pyEq at h
  split at h
  · rename_i q
    simp only [Bool.and_eq_true] at q
    exact ⟨q.1, q.2, (Option.some.inj h).symm⟩
  · cases h

/-! ### two-place operations by values -/
section
variable (g : DX)
def Op2 (f : D → D → Option D) (r : R2) : Prop := ∀ (F H : Hp) (x y : V) (dx dy d : D) (Q : VK), Sub F H → Rep g.K F x dx → Rep g.K F y dy → f dx dy = some d → (∀ v F' H', Laid F H F' H' → Rep g.K F' v d → Q v H') → r x y H Q
def Op1 (f : D → Option D) (r : V → Hp → VK → Prop) : Prop := ∀ (F H : Hp) (x : V) (dx d : D) (Q : VK), Sub F H → Rep g.K F x dx → f dx = some d → (∀ v F' H', Laid F H F' H' → Rep g.K F' v d → Q v H') → r x H Q
def OpL (f : List D → Option D) (r : List V → Hp → VK → Prop) : Prop := ∀ (F H : Hp) (xs : List V) (ds : List D) (d : D) (Q : VK), Sub F H → xs.length = ds.length → (∀ (i : Nat) v d, xs[i]? = some v → ds[i]? = some d → Rep g.K F v d) → f ds = some d → (∀ v F' H', Laid F H F' H' → Rep g.K F' v d → Q v H') → r xs H Q
end
def op2 (f : D → D → Option D) (a b : M D) : M D := bnd a fun x => bnd b fun y => opt (f x y)
def op1 (f : D → Option D) (a : M D) : M D := bnd a fun x => opt (f x)
section
variable {g : DX} {W : WX} {X : Cx} {e a b : Expr} {fa fb : M D} {f : D → D → Option D} {r : R2}
theorem dv_op2 (hr : Op2 g f r) (ha : DV g W X a fa) (hb : DV g W X b fb) (pe : PE X a (rdV g W fa) → PE X b (rdV g W fb) → PE X e (tOp r (rdV g W fa) (rdV g W fb))) : DV g W X e (op2 f fa fb) := by
  refine PEmono (pe ha hb) fun σ H Q ⟨ρ, F, B, E, p⟩ => rdV.go E (p.bnd.mono fun x ρ1 q v F1 H1 B1 E1 rx s => ?_)
  refine rdV.go E1 (((q.step s).bnd).mono fun y ρ2 q2 v2 F2 H2 B2 E2 ry s2 => ?_)
  obtain ⟨d, hd, p3⟩ := PostV.opt q2
  exact hr F2 H2 v v2 x y d Q E2.sub (rx.mono s2.ff) ry hd fun v3 F3 H3 l r3 => p3 v3 F3 H3 B2 (l.env E2) r3 (s2.trans l.step)
theorem dv_op1 {f : D → Option D} {r : V → Hp → VK → Prop} (hr : Op1 g f r) (ha : DV g W X a fa) (pe : PE X a (rdV g W fa) → PE X e (tUn r (rdV g W fa))) : DV g W X e (op1 f fa) := by
  refine PEmono (pe ha) fun σ H Q ⟨ρ, F, B, E, p⟩ => rdV.go E (p.bnd.mono fun x ρ1 q v F1 H1 B1 E1 rx s => ?_)
  obtain ⟨d, hd, p3⟩ := PostV.opt q
  exact hr F1 H1 v x d Q E1.sub rx hd fun v3 F3 H3 l r3 => p3 v3 F3 H3 B1 (l.env E1) r3 (s.trans l.step)
theorem Op2.or {f f' : D → D → Option D} {r r' : R2} (h : Op2 g f r) (h' : Op2 g f' r') : Op2 g (fun x y => (f x y).or (f' x y)) (fun x y H Q => r x y H Q ∨ r' x y H Q) := fun F H x y dx dy d Q s rx ry e k => by
  cases q : f dx dy with
  | some z => simp only [q] at e; cases e; exact .inl (h F H x y dx dy d Q s rx ry q k)
  | none => simp only [q] at e; exact .inr (h' F H x y dx dy d Q s rx ry e k)
/-! args -/
def cons1 (a : M D) (r : M (List D)) : M (List D) := bnd a fun d => bnd r fun ds => pur (d :: ds)
theorem da_nil : DA g W X [] (pur []) := PAmono pa_nil fun σ H Q ⟨ρ, F, B, E, p⟩ => p [] F H B E rfl (fun i v d h => by simp at h) Step.refl
theorem da_cons {es : List Expr} {fr : M (List D)} (ha : DV g W X a fa) (hr : DA g W X es fr) (hs : starEach (a :: es) X.env = (false, eval a X.env) :: starEach es X.env := by rfl) : DA g W X (a :: es) (cons1 fa fr) := by
  refine PAmono (pa_cons ha hr hs) fun σ H Q ⟨ρ, F, B, E, p⟩ => rdV.go E (p.bnd.mono fun x ρ1 q v F1 H1 B1 E1 rx s => ?_)
  refine rdL.go E1 (((q.step s).bnd).mono fun ds ρ2 q2 vs F2 H2 B2 E2 hl rs s2 => ?_)
  refine q2 (v :: vs) F2 H2 B2 E2 (by simp [hl]) (fun i w d h1 h2 => ?_) s2
  cases i with
  | zero => cases h1; cases h2; exact rx.mono s2.ff
  | succ i => exact rs i w d (by simpa using h1) (by simpa using h2)
def opL (f : List D → Option D) (m : M (List D)) : M D := bnd m fun ds => opt (f ds)
theorem dv_opL {es : List Expr} {m : M (List D)} {f : List D → Option D} {r : List V → Hp → VK → Prop} (hr : OpL g f r) (ha : DA g W X es m) (pe : PA X es (rdL g W m) → PE X e (tCB r (rdL g W m))) : DV g W X e (opL f m) := by
  refine PEmono (pe ha) fun σ H Q ⟨ρ, F, B, E, p⟩ => rdL.go E (p.bnd.mono fun ds ρ1 q vs F1 H1 B1 E1 hl rs s => ?_)
  obtain ⟨d, hd, p3⟩ := PostV.opt q
  exact hr F1 H1 vs ds d Q E1.sub hl rs hd fun v3 F3 H3 l r3 => p3 v3 F3 H3 B1 (l.env E1) r3 (s.trans l.step)
end
end Mi

end
section
set_option Elab.async false
set_option autoImplicit false
set_option linter.all false
set_option maxRecDepth 100000
set_option maxHeartbeats 1000000
/-! Mi, 4: names, constants, arithmetic, comparisons, tests. -/
namespace Mi
open PySem L2

theorem ifSome {α : Type} {c : Bool} {a b : α} (h : (if c = true then some a else none) = some b) : c = true ∧ a = b := by
  split at h
  · exact ⟨by assumption, Option.some.inj h⟩
  · cases h
section
variable {g : DX} {W : WX} {X : Cx} {e a b c : Expr} {fa fb fc : M D}
/-! ### names and constants -/
/-- a slot read: what was its own is shared from now on -/
def get (i : Nat) : M D := fun ρ =>
  match ρ[i]? with
  | some (.sh d) => .ok d ρ
  | some .un => .bad
  | some t => .ok t.strip (ρ.set i (.sh t.strip))
  | none => .bad
theorem get_some {i : Nat} {ρ : Env} {t : T} (h : ρ[i]? = some t) (hu : t ≠ .un) : get i ρ = .ok t.strip (ρ.set i (.sh t.strip)) := by
  unfold get
  rw [h]
  cases t with
  | un => exact absurd rfl hu
  | sh d =>
    show R.ok d ρ = .ok d (ρ.set i (.sh d))
    congr 1
    have := (List.getElem?_eq_some_iff.mp h)
    obtain ⟨hi, he⟩ := this
    rw [← he, List.set_getElem_self]
  | lst ts => rfl
  | dct t kts => rfl
theorem dv_var (i : Nat) {x : Str} {pos : Pos} (hN : X.N[i]? = some x := by rfl) (hv : Vis X.env.scope x := by first | exact Or.inl rfl | exact Or.inr (Or.inl rfl) | exact Or.inr (Or.inr rfl)) (hd : (x == ("__debug__" : Str)) = false := by decide)
    (hcd : (x == ("__classdict__" : Str)) = false := by decide) : DV g W X (.Name x pos) (get i) := by
  refine PEmono (pe_var hN hv hd hcd) fun σ H Q ⟨ρ, F, B, E, p⟩ => ?_
  cases q : ρ[i]? with
  | none => unfold get at p; rw [q] at p; exact p.elim
  | some t =>
    by_cases hu : t = .un
    · subst hu; unfold get at p; rw [q] at p; exact p.elim
    · rw [get_some q hu] at p
      obtain ⟨v, F', hv, r, E', s⟩ := E.freeze q hu
      exact ⟨v, hv, p v F' H _ E' r s⟩
theorem dv_c {d : D} {v : V} (h : PE X e (tC v)) (r : ∀ F, Rep g.K F v d) : DV g W X e (pur d) := PEmono h fun σ H Q ⟨ρ, F, B, E, p⟩ => p v F H B E (r F) Step.refl
theorem dv_int {i : Int} {j : Nat} {pos : Pos} : DV g W X (.Constant (.int i) j pos) (pur (.int i)) := dv_c pe_int fun _ => .int
theorem dv_bl {b : Bool} {j : Nat} {pos : Pos} : DV g W X (.Constant (.bool b) j pos) (pur (.bl b)) := dv_c pe_bl fun _ => .bl
theorem dv_non {j : Nat} {pos : Pos} : DV g W X (.Constant .none j pos) (pur .non) := dv_c pe_non fun _ => .non
theorem rep_str {F : Hp} {x : Str} (h : x.cps.toList.all (fun c => decide (c < 1114112)) = true) : Rep g.K F (.str x) (.str x.cps.toList) := by
  have := Rep.str (K := g.K) (F := F) (l := x.cps.toList) (fun c hc => of_decide_eq_true (List.all_eq_true.mp h c hc))
  rwa [S_of] at this
theorem dv_str {x : Str} {l : List Nat} {j : Nat} {pos : Pos} (hl : x.cps.toList = l := by rfl) (h : l.all (fun c => decide (c < 1114112)) = true := by decide) : DV g W X (.Constant (.str x) j pos) (pur (.str l)) := by
  subst hl
  exact dv_c pe_str fun _ => rep_str h
theorem dv_glob_int {x : Str} {i : Int} {t : Tok} {pos : Pos} (hm : X.mg x = some (.int i t)) (hg : Gl X x := by rfl) (hd : (x == ("__debug__" : Str)) = false := by decide) : DV g W X (.Name x pos) (pur (.int i)) := dv_c (pe_glob (v := .int i) hg hm ⟨_, rfl⟩ hd) fun _ => .int
theorem dv_glob_str {x y : Str} {l : List Nat} {t : Tok} {pos : Pos} (hm : X.mg x = some (.str y t)) (hl : y.cps.toList = l := by rfl) (h : l.all (fun c => decide (c < 1114112)) = true := by decide) (hg : Gl X x := by rfl) (hd : (x == ("__debug__" : Str)) = false := by decide) :
    DV g W X (.Name x pos) (pur (.str l)) := by
  subst hl
  exact dv_c (pe_glob (v := .str y) hg hm ⟨_, rfl⟩ hd) fun _ => rep_str h

/-! ### arithmetic -/
def fII (p : Int → Int → Bool) (f : Int → Int → D) : D → D → Option D
  | .int i, .int j => if p i j then some (f i j) else none
  | _, _ => none
theorem op2_II {C : Int → Int → Prop} {p : Int → Int → Bool} {f : Int → Int → D} {h : Int → Int → V} (hc : ∀ i j, p i j = true → C i j) (hr : ∀ F i j, p i j = true → Rep g.K F (h i j) (f i j)) : Op2 g (fII p f) (rI C h) := fun F H x y dx dy d Q s rx ry e k => by
  cases rx <;> try cases e
  cases ry <;> try cases e
  rename_i i j
  obtain ⟨q, rfl⟩ := ifSome e
  exact ⟨i, j, rfl, rfl, hc i j q, k _ _ _ (Laid.refl s) (hr F i j q)⟩
theorem op2_II0 {f : Int → Int → D} {h : Int → Int → V} (hr : ∀ F i j, Rep g.K F (h i j) (f i j)) : Op2 g (fII (fun _ _ => true) f) (rI0 h) := fun F H x y dx dy d Q s rx ry e k => by
  cases rx <;> try cases e
  cases ry <;> try cases e
  exact ⟨_, _, rfl, rfl, k _ _ _ (Laid.refl s) (hr F _ _)⟩
def big (n : Nat) : Bool := decide (n ≤ 16777216)
theorem big_ok {n : Nat} (h : big n = true) : n ≤ sizeLine := by
  rw [sizeLine_eq]; exact of_decide_eq_true h
def fAddS : D → D → Option D
  | .str i, .str j => if big (i.length + j.length) then some (.str (i ++ j)) else none
  | _, _ => none
theorem S_app (i j : List Nat) : S i ++ S j = S (i ++ j) := by
  show (⟨i.toArray ++ j.toArray⟩ : Str) = ⟨(i ++ j).toArray⟩
  rw [List.append_toArray]
theorem op2_addS : Op2 g fAddS (fun x y H Q => ∃ i j, x = .str i ∧ y = .str j ∧ i.length + j.length ≤ sizeLine ∧ Q (.str (i ++ j)) H) := fun F H x y dx dy d Q s rx ry e k => by
  cases rx <;> try cases e
  cases ry <;> try cases e
  rename_i l hl m hm
  obtain ⟨q, rfl⟩ := ifSome e
  refine ⟨_, _, rfl, rfl, by rw [S_length, S_length]; exact big_ok q, ?_⟩
  rw [S_app]
  exact k _ _ _ (Laid.refl s) (.str fun c h => (List.mem_append.mp h).elim (hl c) (hm c))
def fAddL : D → D → Option D
  | .lst i, .lst j => if big (i.length + j.length) then some (.lst (i ++ j)) else none
  | _, _ => none
theorem rep_app {F : Hp} {vs ws : List V} {ds es : List D} (hl : vs.length = ds.length) (h1 : ∀ (i : Nat) (v : V) (d : D), vs[i]? = some v → ds[i]? = some d → Rep g.K F v d)
    (h2 : ∀ (i : Nat) (v : V) (d : D), ws[i]? = some v → es[i]? = some d → Rep g.K F v d) : ∀ (i : Nat) (v : V) (d : D), (vs ++ ws)[i]? = some v → (ds ++ es)[i]? = some d → Rep g.K F v d := fun i v d a b => by
  by_cases h : i < vs.length
  · rw [List.getElem?_append_left h] at a
    rw [List.getElem?_append_left (by omega)] at b
    exact h1 i v d a b
  · rw [List.getElem?_append_right (by omega)] at a
    rw [List.getElem?_append_right (by omega), ← hl] at b
    exact h2 _ v d a b
theorem repsMono {F F' : Hp} (e : Ex F F') {vs : List V} {ds : List D} (h : ∀ (i : Nat) (v : V) (d : D), vs[i]? = some v → ds[i]? = some d → Rep g.K F v d) : ∀ (i : Nat) (v : V) (d : D), vs[i]? = some v → ds[i]? = some d → Rep g.K F' v d := fun i v d a b => (h i v d a b).mono e
/-- a new list, a new tuple of shared things -/
theorem rep_newL {F H : Hp} {p : Addr} {vs : List V} {ds : List D} (s : Sub F H) (hp : H p = none) (hl : vs.length = ds.length) (h : ∀ (i : Nat) (v : V) (d : D), vs[i]? = some v → ds[i]? = some d → Rep g.K F v d) :
    Laid F H (upd F p (.lst vs)) (upd H p (.lst vs)) ∧ Rep g.K (upd F p (.lst vs)) (.ref p) (.lst ds) :=
  have l := Laid.new s hp (fun ps => by simp)
  ⟨l, .lst upd_same hl (repsMono l.ff h)⟩
theorem rep_newT {F H : Hp} {p : Addr} {vs : List V} {ds : List D} (s : Sub F H) (hp : H p = none) (hl : vs.length = ds.length) (h : ∀ (i : Nat) (v : V) (d : D), vs[i]? = some v → ds[i]? = some d → Rep g.K F v d) :
    Laid F H (upd F p (.tup vs)) (upd H p (.tup vs)) ∧ Rep g.K (upd F p (.tup vs)) (.ref p) (.tup ds) :=
  have l := Laid.new s hp (fun ps => by simp)
  ⟨l, .tup upd_same hl (repsMono l.ff h)⟩
theorem Sub.lst {F H : Hp} (s : Sub F H) {a : Addr} {vs : List V} (h : F a = some (.lst vs)) : H a = some (.lst vs) := s.ex.lst h
theorem op2_addL : Op2 g fAddL rCat := fun F H x y dx dy d Q s rx ry e k => by
  cases rx <;> try cases e
  cases ry <;> try cases e
  rename_i a vs ds ha hl ra b ws es hb hl2 rb
  obtain ⟨q, rfl⟩ := ifSome e
  refine ⟨a, b, vs, ws, rfl, rfl, s.lst ha, s.lst hb, by rw [hl, hl2]; exact big_ok q, fun p hp => ?_⟩
  obtain ⟨l, r⟩ := rep_newL s hp (vs := vs ++ ws) (ds := ds ++ es) (by simp [hl, hl2]) (rep_app hl ra rb)
  exact k _ _ _ l r
def fAddT : D → D → Option D
  | .tup i, .tup j => if big (i.length + j.length) then some (.tup (i ++ j)) else none
  | _, _ => none
theorem sqT_mono {K : PySem.W.Frag} {F H : Hp} (s : Sub F H) {a : Addr} {vs : List V} (h : F a = some (.tup vs)) : SqT K H a vs := SqT.of (ex_t s.ex h)
theorem op2_addT : Op2 g fAddT (rCatA g.K) := fun F H x y dx dy d Q s rx ry e k => by
  have rx0 := rx
  have ry0 := ry
  cases rx <;> try cases e
  cases ry <;> try cases e
  rename_i a vs ds ha hl ra b ws es hb hl2 rb
  obtain ⟨q, rfl⟩ := ifSome e
  refine ⟨a, b, vs, ws, rfl, rfl, sqT_mono s ha, sqT_mono s hb, by rw [hl, hl2]; exact big_ok q, fun z => ?_, fun _ z => ?_, fun _ _ p hp => ?_⟩
  · subst z
    have : ds = [] := List.length_eq_zero_iff.mp hl.symm
    subst this
    exact k _ _ _ (Laid.refl s) ry0
  · subst z
    have : es = [] := List.length_eq_zero_iff.mp hl2.symm
    subst this
    rw [List.append_nil] at k
    exact k _ _ _ (Laid.refl s) rx0
  · obtain ⟨l, r⟩ := rep_newT s hp (vs := vs ++ ws) (ds := ds ++ es) (by simp [hl, hl2]) (rep_app hl ra rb)
    exact k _ _ _ l r
def fAdd (x y : D) : Option D := (fII (fun _ _ => true) (fun i j => .int (i + j)) x y).or ((fAddS x y).or ((fAddL x y).or (fAddT x y)))
theorem dv_add (ha : DV g W X a fa) (hb : DV g W X b fb) (hK : X.K = g.K) {pos : Pos} : DV g W X (.BinOp a .Add b pos) (op2 fAdd fa fb) :=
  dv_op2 (Op2.or (op2_II0 fun _ _ _ => .int) (Op2.or op2_addS (Op2.or op2_addL op2_addT))) ha hb fun ha hb => pe_op (OpR.or op_add (OpR.or op_add_str (OpR.or op_cat (hK ▸ op_catA)))) ha hb
def fSub : D → D → Option D := fII (fun _ _ => true) fun i j => .int (i - j)
theorem dv_sub (ha : DV g W X a fa) (hb : DV g W X b fb) {pos : Pos} : DV g W X (.BinOp a .Sub b pos) (op2 fSub fa fb) := dv_op2 (op2_II0 fun _ _ _ => .int) ha hb fun ha hb => pe_op op_sub ha hb
def smal (i : Int) : Bool := decide (-18446744073709551616 < i ∧ i < 18446744073709551616)
def fMulI : D → D → Option D := fII (fun i j => smal i || smal j) fun i j => .int (i * j)
theorem op2_mulI : Op2 g fMulI (rI CMul fun i j => .int (i * j)) := op2_II (fun i j h => by
  simp only [smal, Bool.or_eq_true, decide_eq_true_eq] at h
  exact h.imp (fun h => by rw [show (2 : Int) ^ 64 = 18446744073709551616 by decide]; exact h) fun h => by rw [show (2 : Int) ^ 64 = 18446744073709551616 by decide]; exact h) fun _ _ _ _ => .int
/-- text times int, list times int -/
def fMulS : D → D → Option D
  | .str l, .int k => if decide (-9223372036854775808 ≤ k ∧ k < 9223372036854775808) && big (l.length * k.toNat) then some (.str (List.replicate k.toNat l).flatten) else none
  | _, _ => none
def rRepS : R2 := fun x y H Q => ∃ l k, x = .str (S l) ∧ y = .int k ∧ -9223372036854775808 ≤ k ∧ k < 9223372036854775808 ∧ l.length * k.toNat ≤ 16777216 ∧ Q (.str (S (List.replicate k.toNat l).flatten)) H
theorem fold_app {α : Type} (n : Nat) (l acc : List α) : (List.replicate n l.toArray).foldl (· ++ ·) acc.toArray = (acc ++ (List.replicate n l).flatten).toArray := by
  induction n generalizing acc with
  | zero => simp
  | succ n ih =>
    rw [List.replicate_succ, List.foldl_cons, List.append_toArray, ih, List.replicate_succ, List.flatten_cons, List.append_assoc]
theorem op_repS : OpR X (binaryOp .Mult) rRepS := by
  intro pins s σ H x y v u Q I rx ry h
  obtain ⟨l, k, rfl, rfl, h1, h2, hz, q⟩ := h
  obtain ⟨t, rfl⟩ := rx
  obtain ⟨t', rfl⟩ := ry
  have len : (S l).length = l.length := S_length l
  have e63 : (2 : Int) ^ 63 = 9223372036854775808 := by decide
  have szl : ¬ l.length * k.toNat > sizeLine := by rw [sizeLine_eq]; omega
  refine PySem.P.mul_str ?_ (fun h0 _ => ?_) (fun h0 _ => ?_) ?_
  · rw [e63, decide_eq_false (by omega), decide_eq_false (by omega)]; rfl
  · rw [len]
    intro hgt
    have hk : 1 ≤ k := by omega
    have h3 : (l.length : Int) * k ≤ 16777216 := by
      have h8 : ((l.length * k.toNat : Nat) : Int) ≤ ((16777216 : Nat) : Int) := Int.ofNat_le.mpr hz
      rw [Int.natCast_mul, Int.toNat_of_nonneg (by omega)] at h8
      omega
    have h4 : (2 ^ 63 - 1 : Int) < (l.length : Int) * k := (Int.ediv_lt_iff_lt_mul (by omega)).mp hgt
    rw [e63] at h4
    omega
  · rw [len]
    exact decide_eq_false szl
  · have fin : ∀ (m : List Nat) (tok : Tok), m = (List.replicate k.toNat l).flatten → EP X pins σ Q (.str (S m) tok) { s with toks := s.toks + 1 } := fun m tok e => by
      subst e
      exact ⟨.str (S _), H, I.tok _, ⟨tok, rfl⟩, q⟩
    split
    · rename_i h0
      have e : k.toNat = 0 := by omega
      exact ⟨by decide, fin [] _ (by rw [e]; simp)⟩
    · split
      · rename_i h0 h1
        have e : (List.replicate k.toNat l).flatten = l := by
          simp only [Bool.or_eq_true, beq_iff_eq] at h1
          rcases h1 with h1 | h1
          · subst h1; simp
          · have : l = [] := List.length_eq_zero_iff.mp (by rw [← len]; exact h1)
            subst this
            simp
        rw [e] at q
        exact ⟨.str (S l), H, I, ⟨t, rfl⟩, q⟩
      · have e := fold_app k.toNat l []
        rw [List.nil_append] at e
        have e2 : (List.replicate k.toNat (S l).cps).foldl (· ++ ·) #[] = (S (List.replicate k.toNat l).flatten).cps := e
        rw [e2]
        refine ⟨?_, fin _ _ rfl⟩
        show (S (List.replicate k.toNat l).flatten).length ≤ sizeLine
        rw [S_length]
        have : (List.replicate k.toNat l).flatten.length = k.toNat * l.length := by simp
        rw [this, Nat.mul_comm]
        omega
def fMulL : D → D → Option D
  | .lst l, .int k => if decide (-9223372036854775808 ≤ k ∧ k < 9223372036854775808) && big (l.length * k.toNat) then some (.lst (List.replicate k.toNat l).flatten) else none
  | _, _ => none
theorem op2_mulS : Op2 g fMulS rRepS := fun F H x y dx dy d Q s rx ry e k => by
  cases rx <;> try cases e
  cases ry <;> try cases e
  rename_i l hl i
  obtain ⟨q, rfl⟩ := ifSome e
  simp only [Bool.and_eq_true, decide_eq_true_eq, big] at q
  exact ⟨l, i, rfl, rfl, q.1.1, q.1.2, q.2, k _ _ _ (Laid.refl s) (.str fun c h => by
    simp only [List.mem_flatten, List.mem_replicate] at h
    obtain ⟨m, ⟨_, rfl⟩, h⟩ := h
    exact hl c h)⟩
theorem rep_rep {F : Hp} {vs : List V} {ds : List D} (hl : vs.length = ds.length) (h : ∀ (i : Nat) (v : V) (d : D), vs[i]? = some v → ds[i]? = some d → Rep g.K F v d) : ∀ n : Nat, (List.replicate n vs).flatten.length = (List.replicate n ds).flatten.length ∧
    ∀ (i : Nat) (v : V) (d : D), (List.replicate n vs).flatten[i]? = some v → (List.replicate n ds).flatten[i]? = some d → Rep g.K F v d
  | 0 => ⟨rfl, fun i v d h => by simp at h⟩
  | n + 1 => by
    obtain ⟨h1, h2⟩ := rep_rep hl h n
    rw [List.replicate_succ, List.flatten_cons, List.replicate_succ, List.flatten_cons]
    exact ⟨by simp [hl], rep_app hl h h2⟩
theorem op2_mulL : Op2 g fMulL rRep := fun F H x y dx dy d Q s rx ry e k => by
  cases rx <;> try cases e
  cases ry <;> try cases e
  rename_i a vs ds ha hl ra i
  obtain ⟨q, rfl⟩ := ifSome e
  simp only [Bool.and_eq_true, decide_eq_true_eq, big] at q
  refine ⟨a, i, vs, rfl, rfl, s.lst ha, by have := q.1.1; omega, by have := q.1.2; omega, by rw [hl, sizeLine_eq]; exact q.2, fun p hp => ?_⟩
  obtain ⟨h1, h2⟩ := rep_rep hl ra i.toNat
  obtain ⟨l, r⟩ := rep_newL s hp h1 h2
  exact k _ _ _ l r
def fMul (x y : D) : Option D := (fMulI x y).or ((fMulS x y).or (fMulL x y))
theorem dv_mul (ha : DV g W X a fa) (hb : DV g W X b fb) {pos : Pos} : DV g W X (.BinOp a .Mult b pos) (op2 fMul fa fb) :=
  dv_op2 (Op2.or op2_mulI (Op2.or op2_mulS op2_mulL)) ha hb fun ha hb => pe_op (OpR.or op_mul (OpR.or op_repS op_rep)) ha hb
def fDiv : D → D → Option D := fII (fun _ j => decide (j ≠ 0 ∧ j.natAbs < 1073741824)) fun i j => .int (i.fdiv j)
theorem dv_div (ha : DV g W X a fa) (hb : DV g W X b fb) {pos : Pos} : DV g W X (.BinOp a .FloorDiv b pos) (op2 fDiv fa fb) := dv_op2 (op2_II (fun _ _ h => of_decide_eq_true h) fun _ _ _ _ => .int) ha hb fun ha hb => pe_op op_fdivN ha hb
def fMod : D → D → Option D := fII (fun _ j => decide (j ≠ 0)) fun i j => .int (i.fmod j)
theorem dv_mod (ha : DV g W X a fa) (hb : DV g W X b fb) {pos : Pos} : DV g W X (.BinOp a .Mod b pos) (op2 fMod fa fb) := dv_op2 (op2_II (fun _ _ h => of_decide_eq_true h) fun _ _ _ _ => .int) ha hb fun ha hb => pe_op op_modN ha hb
def fPow : D → D → Option D := fII (fun i j => decide (0 ≤ j ∧ j ≤ 1000000 ∧ i.natAbs < 18446744073709551616)) fun i j => .int (i ^ j.toNat)
theorem dv_pow (ha : DV g W X a fa) (hb : DV g W X b fb) {pos : Pos} : DV g W X (.BinOp a .Pow b pos) (op2 fPow fa fb) := dv_op2 (op2_II (C := CPow) (fun _ _ h => by
  have := of_decide_eq_true h
  exact ⟨this.1, this.2.1, by rw [show 2 ^ 64 = 18446744073709551616 by decide]; exact this.2.2⟩) fun _ _ _ _ => .int) ha hb fun ha hb => pe_op op_pow ha hb
def fNeg : D → Option D
  | .int i => some (.int (-i))
  | _ => none
theorem dv_neg (ha : DV g W X a fa) {pos : Pos} : DV g W X (.UnaryOp .USub a pos) (op1 fNeg fa) := dv_op1 (r := rU fun i => .int (-i)) (fun F H x dx d Q s rx e k => by
  cases rx <;> try cases e
  exact ⟨_, rfl, k _ _ _ (Laid.refl s) .int⟩) ha fun ha => pe_un un_neg ha

/-! ### comparisons -/
def fCmp (p : Int → Int → Bool) : D → D → Option D := fII (fun _ _ => true) fun i j => .bl (p i j)
theorem dv_lt (ha : DV g W X a fa) (hb : DV g W X b fb) {pos : Pos} : DV g W X (.Compare a [.Lt] [b] pos) (op2 (fCmp fun i j => decide (i < j)) fa fb) := dv_op2 (op2_II0 fun _ _ _ => .bl) ha hb fun ha hb => pe_cmpR op_lt ha hb (nomark _)
theorem dv_le (ha : DV g W X a fa) (hb : DV g W X b fb) {pos : Pos} : DV g W X (.Compare a [.LtE] [b] pos) (op2 (fCmp fun i j => decide (i ≤ j)) fa fb) := dv_op2 (op2_II0 fun _ _ _ => .bl) ha hb fun ha hb => pe_cmpR op_le ha hb (nomark _)
theorem dv_gt (ha : DV g W X a fa) (hb : DV g W X b fb) {pos : Pos} : DV g W X (.Compare a [.Gt] [b] pos) (op2 (fCmp fun i j => decide (j < i)) fa fb) := dv_op2 (op2_II0 fun _ _ _ => .bl) ha hb fun ha hb => pe_cmpR op_gt ha hb (nomark _)
theorem dv_ge (ha : DV g W X a fa) (hb : DV g W X b fb) {pos : Pos} : DV g W X (.Compare a [.GtE] [b] pos) (op2 (fCmp fun i j => decide (j ≤ i)) fa fb) := dv_op2 (op2_II0 fun _ _ _ => .bl) ha hb fun ha hb => pe_cmpR op_ge ha hb (nomark _)
theorem Dp.mono {K : PySem.W.Frag} {F H : Hp} (s : Sub F H) {v : V} {d : D} (r : Rep K F v d) : Rep K H v d := r.mono s.ex
def fEq (x y : D) : Option D := (pyEq x y).map .bl
def fNe (x y : D) : Option D := (pyEq x y).map fun b => .bl (!b)
theorem op2_eq : Op2 g fEq (rEqD g.K) := fun F H x y dx dy d Q s rx ry e k => by
  cases q : pyEq dx dy with
  | none => unfold fEq at e; rw [q] at e; cases e
  | some b =>
    unfold fEq at e; rw [q] at e; cases e
    obtain ⟨h1, h2, rfl⟩ := pyEq_some q
    obtain ⟨a1, a2, a3⟩ := (rx.mono s.ex).dp 64 h1
    obtain ⟨b1, b2, b3⟩ := (ry.mono s.ex).dp 64 h2
    exact ⟨_, _, a1, b1, by rw [SeqAt.shaped, a2, decide_eq_true a3]; rfl, by rw [SeqAt.shaped, b2, decide_eq_true b3]; rfl, k _ _ _ (Laid.refl s) .bl⟩
theorem op2_ne : Op2 g fNe (rNeD g.K) := fun F H x y dx dy d Q s rx ry e k => by
  cases q : pyEq dx dy with
  | none => unfold fNe at e; rw [q] at e; cases e
  | some b =>
    unfold fNe at e; rw [q] at e; cases e
    obtain ⟨h1, h2, rfl⟩ := pyEq_some q
    obtain ⟨a1, a2, a3⟩ := (rx.mono s.ex).dp 64 h1
    obtain ⟨b1, b2, b3⟩ := (ry.mono s.ex).dp 64 h2
    exact ⟨_, _, a1, b1, by rw [SeqAt.shaped, a2, decide_eq_true a3]; rfl, by rw [SeqAt.shaped, b2, decide_eq_true b3]; rfl, k _ _ _ (Laid.refl s) .bl⟩
theorem dv_eq (ha : DV g W X a fa) (hb : DV g W X b fb) (hK : X.K = g.K) (hu : X.A.units + 65 < cLine) {pos : Pos} : DV g W X (.Compare a [.Eq] [b] pos) (op2 fEq fa fb) := dv_op2 op2_eq ha hb fun ha hb => pe_cmpR (hK ▸ op_eqD (by omega)) ha hb (nomark _)
theorem dv_ne (ha : DV g W X a fa) (hb : DV g W X b fb) (hK : X.K = g.K) (hu : X.A.units + 65 < cLine) {pos : Pos} : DV g W X (.Compare a [.NotEq] [b] pos) (op2 fNe fa fb) := dv_op2 op2_ne ha hb fun ha hb => pe_cmpR (hK ▸ op_neD (by omega)) ha hb (nomark _)
end
end Mi

end
section
set_option Elab.async false
set_option autoImplicit false
set_option linter.all false
set_option maxRecDepth 100000
set_option maxHeartbeats 1000000
/-! Mi, 5: in, places, slices, calls of built-ins, displays, tests. -/
namespace Mi
open PySem L2

section
variable {g : DX} {W : WX} {X : Cx} {e a b c : Expr} {fa fb fc : M D}
/-! ### x in y -/
def fInC : D → D → Option Bool
  | .str a, .str l => (match a with | [c] => some (decide (c ∈ l)) | _ => none)
  | _, _ => none
def fInL : D → D → Option Bool
  | x, .lst ds => if x.lay 64 && D.lays ds 63 then some (ds.any fun z => dEq z x) else none
  | _, _ => none
def fInT : D → D → Option Bool
  | x, .tup ds => if x.lay 64 && D.lays ds 63 then some (ds.any fun z => dEq z x) else none
  | _, _ => none
def neg' (n : Bool) (o : Option Bool) : Option D := o.map fun b => .bl (if n then !b else b)
theorem shaped_of {K : PySem.W.Frag} {F : Hp} {v : V} {d : D} {n : Nat} (r : Rep K F v d) (h : d.lay n = true) (hn : n ≤ 64) : SeqAt.shaped d.py = true := by
  obtain ⟨_, h2, h3⟩ := r.dp n h
  rw [SeqAt.shaped, h2, decide_eq_true (Nat.le_trans h3 hn)]; rfl
def rInC (n : Bool) : R2 := fun x y H Q => ∃ (c : Nat) (z : Str), x = .str ⟨#[c]⟩ ∧ y = .str z ∧ Q (.bl (if n then !decide (c ∈ z.cps.toList) else decide (c ∈ z.cps.toList))) H
theorem op2_inC (n : Bool) : Op2 g (fun x y => neg' n (fInC x y)) (rInC n) := fun F H x y dx dy d Q s rx ry e k => by
  cases rx <;> try cases e
  cases ry <;> try cases e
  rename_i l hl l2 hl2
  cases l with
  | nil => cases e
  | cons c cs =>
    cases cs with
    | nil =>
      cases e
      exact ⟨c, S l2, rfl, rfl, k _ _ _ (Laid.refl s) .bl⟩
    | cons c2 cs => cases e
theorem op_inC (n : Bool) : OpR X (compareOp (if n then .NotIn else .In)) (rInC n) := by
  cases n with
  | false => exact op_in_sign
  | true => exact op_notIn_sign
def rInDL (K : PySem.W.Frag) (n : Bool) : R2 := fun x y H Q => ∃ d ds, Dp K H x d ∧ Dp K H y (.list ds) ∧ SeqAt.shaped d = true ∧ SeqAt.shaped (.list ds) = true ∧ Q (.bl (if n then !ds.any fun z => PyData.eqv z d else ds.any fun z => PyData.eqv z d)) H
def rInDT (K : PySem.W.Frag) (n : Bool) : R2 := fun x y H Q => ∃ d ds, Dp K H x d ∧ Dp K H y (.tuple ds) ∧ SeqAt.shaped d = true ∧ SeqAt.shaped (.tuple ds) = true ∧ Q (.bl (if n then !ds.any fun z => PyData.eqv z d else ds.any fun z => PyData.eqv z d)) H
theorem op_inDL (n : Bool) (hu : X.A.units + 65 < cLine) : OpR X (compareOp (if n then .NotIn else .In)) (rInDL X.K n) := by
  cases n with
  | false => exact op_inD hu
  | true => exact op_notInD hu
theorem op_inDT (n : Bool) (hu : X.A.units + 65 < cLine) : OpR X (compareOp (if n then .NotIn else .In)) (rInDT X.K n) := by
  intro pins s σ H x y v u Q I rx ry h
  obtain ⟨d, ds, hd, he, sd, se, q⟩ := h
  obtain ⟨as, r1⟩ := Dp.reads I d x v hd rx
  obtain ⟨bs, r2⟩ := Dp.reads I (.tuple ds) y u he ry
  have hl : PyData.canLayAll0 ds = true := by
    have := SeqAt.canLay_of_shaped se
    rwa [PyData.canLay0] at this
  cases n with
  | false => exact SeqAt.in_tuple_reads r2 r1 hl (SeqAt.canLay_of_shaped sd) (PyProof.Rows.room_in_shaped sd hu) ⟨.bl _, H, I, rfl, q⟩
  | true => exact SeqAt.notIn_tuple_reads r2 r1 hl (SeqAt.canLay_of_shaped sd) (PyProof.Rows.room_in_shaped sd hu) ⟨.bl _, H, I, rfl, q⟩
theorem any_py (d : D) : ∀ ds : List D, ((D.pys ds).any fun z => PyData.eqv z d.py) = ds.any fun z => dEq z d
  | [] => rfl
  | x :: xs => by rw [D.pys, List.any_cons, List.any_cons, any_py d xs]; rfl
theorem op2_inL (n : Bool) : Op2 g (fun x y => neg' n (fInL x y)) (rInDL g.K n) := fun F H x y dx dy d Q s rx ry e k => by
  cases ry <;> try cases e
  rename_i a vs ds ha hl hr
  cases q : fInL dx (.lst ds) with
  | none => simp only [q, neg'] at e; cases e
  | some b =>
    simp only [q, neg', Option.map_some, Option.some.injEq] at e
    subst e
    obtain ⟨h1, rfl⟩ := ifSome q
    simp only [Bool.and_eq_true] at h1
    have ry : Rep g.K H (.ref a) (.lst ds) := (Rep.lst ha hl hr).mono s.ex
    have rx' := rx.mono s.ex
    have hy : (D.lst ds).lay 64 = true := h1.2
    refine ⟨_, D.pys ds, (rx'.dp 64 h1.1).1, (ry.dp 64 hy).1, shaped_of rx' h1.1 (Nat.le_refl _), shaped_of ry hy (Nat.le_refl _), ?_⟩
    rw [any_py]
    exact k _ _ _ (Laid.refl s) .bl
theorem op2_inT (n : Bool) : Op2 g (fun x y => neg' n (fInT x y)) (rInDT g.K n) := fun F H x y dx dy d Q s rx ry e k => by
  cases ry <;> try cases e
  rename_i a vs ds ha hl hr
  cases q : fInT dx (.tup ds) with
  | none => simp only [q, neg'] at e; cases e
  | some b =>
    simp only [q, neg', Option.map_some, Option.some.injEq] at e
    subst e
    obtain ⟨h1, rfl⟩ := ifSome q
    simp only [Bool.and_eq_true] at h1
    have ry : Rep g.K H (.ref a) (.tup ds) := (Rep.tup ha hl hr).mono s.ex
    have rx' := rx.mono s.ex
    have hy : (D.tup ds).lay 64 = true := h1.2
    refine ⟨_, D.pys ds, (rx'.dp 64 h1.1).1, (ry.dp 64 hy).1, shaped_of rx' h1.1 (Nat.le_refl _), shaped_of ry hy (Nat.le_refl _), ?_⟩
    rw [any_py]
    exact k _ _ _ (Laid.refl s) .bl
def fIn (n : Bool) (x y : D) : Option D := (neg' n (fInC x y)).or ((neg' n (fInL x y)).or (neg' n (fInT x y)))
theorem dv_in (ha : DV g W X a fa) (hb : DV g W X b fb) (hK : X.K = g.K) (hu : X.A.units + 65 < cLine) {pos : Pos} (hm : behindInMarks .In b = false := by rfl) : DV g W X (.Compare a [.In] [b] pos) (op2 (fIn false) fa fb) :=
  dv_op2 (Op2.or (op2_inC false) (Op2.or (op2_inL false) (op2_inT false))) ha hb fun ha hb => pe_cmpR (OpR.or (op_inC false) (OpR.or (hK ▸ op_inDL false hu) (hK ▸ op_inDT false hu))) ha hb hm
theorem dv_notin (ha : DV g W X a fa) (hb : DV g W X b fb) (hK : X.K = g.K) (hu : X.A.units + 65 < cLine) {pos : Pos} (hm : behindInMarks .NotIn b = false := by rfl) : DV g W X (.Compare a [.NotIn] [b] pos) (op2 (fIn true) fa fb) :=
  dv_op2 (Op2.or (op2_inC true) (Op2.or (op2_inL true) (op2_inT true))) ha hb fun ha hb => pe_cmpR (OpR.or (op_inC true) (OpR.or (hK ▸ op_inDL true hu) (hK ▸ op_inDT true hu))) ha hb hm

/-! ### x[i] -/
def fIx : D → D → Option D
  | .lst ds, .int i => atI ds i
  | .tup ds, .int i => atI ds i
  | .str l, .int i => if big l.length then (atI l i).map fun c => .str [c] else none
  | _, _ => none
theorem atI_some {α : Type} {xs : List α} {i : Int} {x : α} (h : atI xs i = some x) : ∃ j, ixN xs.length i = some j ∧ xs[j]? = some x := by
  unfold atI at h
  cases q : ixN xs.length i with
  | none => rw [q] at h; cases h
  | some j => rw [q] at h; exact ⟨j, rfl, h⟩
theorem atI_rep {F : Hp} {vs : List V} {ds : List D} (hl : vs.length = ds.length) (hr : ∀ (i : Nat) (v : V) (d : D), vs[i]? = some v → ds[i]? = some d → Rep g.K F v d) {i : Int} {d : D} (h : atI ds i = some d) : ∃ v, atI vs i = some v ∧ Rep g.K F v d := by
  obtain ⟨j, h1, h2⟩ := atI_some h
  obtain ⟨v, hv⟩ := getE hl h2
  refine ⟨v, ?_, hr j v d hv h2⟩
  unfold atI
  rw [hl, h1]
  exact hv
theorem op2_ix : Op2 g fIx (rIx g.K) := fun F H x y dx dy d Q s rx ry e k => by
  cases rx <;> try cases e
  · rename_i l hl
    cases ry <;> try cases e
    rename_i i
    have e : (if big l.length = true then Option.map (fun c => D.str [c]) (atI l i) else none) = some d := e
    by_cases q : big l.length = true
    case neg => rw [if_neg q] at e; cases e
    rw [if_pos q] at e
    cases h : atI l i with
    | none => rw [h] at e; cases e
    | some c =>
      rw [h] at e; cases e
      refine .inr (.inr ⟨S l, i, c, rfl, rfl, by rw [S_length]; exact big_ok q, h, k _ _ _ (Laid.refl s) (.str (l := [c]) ?_)⟩)
      obtain ⟨j, _, h2⟩ := atI_some h
      intro c' hc'
      simp only [List.mem_singleton] at hc'
      subst hc'
      exact hl c' (List.mem_of_getElem? h2)
  · rename_i p vs ds hp hl hr
    cases ry <;> try cases e
    rename_i i
    obtain ⟨v, h1, h2⟩ := atI_rep hl hr e
    exact .inr (.inl ⟨p, vs, i, v, rfl, rfl, sqT_mono s hp, h1, k _ _ _ (Laid.refl s) h2⟩)
  · rename_i p vs ds hp hl hr
    cases ry <;> try cases e
    rename_i i
    obtain ⟨v, h1, h2⟩ := atI_rep hl hr e
    exact .inl ⟨p, vs, i, v, rfl, rfl, SqL.of (s.lst hp), h1, k _ _ _ (Laid.refl s) h2⟩
theorem dv_ix (ha : DV g W X a fa) (hb : DV g W X b fb) (hK : X.K = g.K) (hs : PlainIx b := by exact fun _ _ => rfl) {pos : Pos} : DV g W X (.Subscript a b pos) (op2 fIx fa fb) :=
  dv_op2 op2_ix ha hb fun ha hb => pe_ix (hK ▸ ix_seq) ha hb hs

/-! ### slices -/
def DO (g : DX) (W : WX) (X : Cx) (e : Option Expr) (m : M (Option Int)) : Prop := ∃ t : TO, PO X e t ∧ ∀ (σ : L2.St) (H : Hp) (Q : Option Int → Hp → Prop) (ρ : Env) (F : Hp) (B : Nat → Addr → Prop), EnvR g.K g.Tb F H σ ρ B →
  (Then g W σ F H (AllB B) (m ρ) fun o ρ1 => ∀ F1 H1 B1, EnvR g.K g.Tb F1 H1 σ ρ1 B1 → Step F H (AllB B) F1 H1 (AllB B1) → Q o H1) → t σ H Q
theorem do_none : DO g W X none (pur none) := ⟨_, po_none, fun σ H Q ρ F B E h => h F H B E Step.refl⟩
def asI : D → M (Option Int)
  | .int i => pur (some i)
  | _ => bad
theorem Then.bnd {α β : Type} {σ : L2.St} {F H : Hp} {A : Addr → Prop} {ρ : Env} {m : M α} {k : α → M β} {P : β → Env → Prop} (h : Then g W σ F H A (bnd m k ρ) P) : Then g W σ F H A (m ρ) fun a ρ1 => Then g W σ F H A (k a ρ1) P := by
  unfold Mi.bnd at h
  revert h
  cases m ρ <;> exact id
theorem do_some (ha : DV g W X a fa) : DO g W X (some a) (bnd fa asI) := ⟨_, po_some ha, fun σ H Q ρ F B E h => rdV.go E ((Then.bnd h).mono fun d ρ1 q v F1 H1 B1 E1 r s => by
  cases r <;> try exact q.elim
  exact ⟨_, rfl, q F1 H1 B1 E1 s⟩)⟩
def cut {α : Type} (xs : List α) (lo hi : Option Int) : List α := (xs.drop (HT.sIx xs.length 0 lo)).take (HT.sIx xs.length xs.length hi - HT.sIx xs.length 0 lo)
def fSl (d : D) (lo hi : Option Int) : Option D :=
  match d with
  | .str l => if big l.length then some (.str (cut l lo hi)) else none
  | .lst ds => some (.lst (cut ds lo hi))
  | .frl ds => some (.lst (cut ds lo hi))
  | .tup ds => some (.tup (cut ds lo hi))
  | _ => none
theorem cutS_eq (l : List Nat) (lo hi : Option Int) : cutS (S l) lo hi = S (cut l lo hi) := by
  unfold cutS cut
  rw [S_length]
  rfl
theorem cut_rep {F : Hp} {vs : List V} {ds : List D} (hl : vs.length = ds.length) (hr : ∀ (i : Nat) (v : V) (d : D), vs[i]? = some v → ds[i]? = some d → Rep g.K F v d) (lo hi : Option Int) :
    (cutV vs lo hi).length = (cut ds lo hi).length ∧ ∀ (i : Nat) (v : V) (d : D), (cutV vs lo hi)[i]? = some v → (cut ds lo hi)[i]? = some d → Rep g.K F v d := by
  unfold cutV cut
  rw [hl]
  refine ⟨by simp [hl], fun i v d h1 h2 => ?_⟩
  rw [List.getElem?_take] at h1 h2
  split at h1
  · rename_i q
    rw [if_pos q, List.getElem?_drop] at h2
    rw [List.getElem?_drop] at h1
    exact hr _ v d h1 h2
  · cases h1
def sl3 (f : D → Option Int → Option Int → Option D) (m : M D) (lo hi : M (Option Int)) : M D := bnd m fun d => bnd lo fun l => bnd hi fun h => opt (f d l h)
theorem dv_slice {lo hi : Option Expr} {fl fh : M (Option Int)} (ha : DV g W X a fa) (hl : DO g W X lo fl) (hh : DO g W X hi fh) (hK : X.K = g.K) {p2 pos : Pos} : DV g W X (.Subscript a (.Slice lo hi none p2) pos) (sl3 fSl fa fl fh) := by
  obtain ⟨tl, pl, kl⟩ := hl
  obtain ⟨th, ph, kh⟩ := hh
  refine PEmono (pe_slice (SlR.or sl_str (SlR.or (hK ▸ sl_list) (hK ▸ sl_tupA))) ha pl ph) fun σ H Q ⟨ρ, F, B, E, p⟩ => rdV.go E (p.bnd.mono fun d ρ1 q v F1 H1 B1 E1 r s => ?_)
  refine kl σ H1 _ ρ1 F1 B1 E1 (((q.step s).bnd).mono fun l ρ2 q2 F2 H2 B2 E2 s2 => ?_)
  refine kh σ H2 _ ρ2 F2 B2 E2 (((q2.step s2).bnd).mono fun h ρ3 q3 F3 H3 B3 E3 s3 => ?_)
  obtain ⟨d', hd, p4⟩ := PostV.opt q3
  have r3 : Rep g.K F3 v d := (r.mono s2.ff).mono s3.ff
  have fin : ∀ v F' H', Laid F3 H3 F' H' → Rep g.K F' v d' → Q v H' := fun v F' H' l r => p4 v F' H' B3 (l.env E3) r (s3.trans l.step)
  have hS := E3.sub
  cases r3 <;> try cases hd
  · rename_i z hz
    obtain ⟨hb, rfl⟩ := ifSome hd
    refine .inl ⟨S z, rfl, by rw [S_length]; exact big_ok hb, ?_⟩
    rw [cutS_eq]
    refine fin _ _ _ (Laid.refl hS) (.str fun c hc => hz c ?_)
    exact List.mem_of_mem_drop (List.mem_of_mem_take hc)
  · rename_i x vs ds hx hl hr
    obtain ⟨c1, c2⟩ := cut_rep hl hr l h
    refine .inr (.inr ⟨x, vs, rfl, sqT_mono hS hx, fun hw => ?_, fun _ p hp => ?_⟩)
    · have e : cut ds l h = ds := by
        unfold cut
        rw [← hl, hw.1, hw.2]
        simp [hl]
      rw [e] at fin
      exact fin _ _ _ (Laid.refl hS) (.tup hx hl hr)
    · obtain ⟨l, r⟩ := rep_newT hS hp c1 c2
      exact fin _ _ _ l r
  · rename_i x vs ds hx hl hr
    obtain ⟨c1, c2⟩ := cut_rep hl hr l h
    refine .inr (.inl ⟨x, vs, rfl, SqL.of (hS.lst hx), fun p hp => ?_⟩)
    obtain ⟨l, r⟩ := rep_newL hS hp c1 c2
    exact fin _ _ _ l r
  · rename_i x o vs ds hx hl hr
    obtain ⟨c1, c2⟩ := cut_rep hl hr l h
    refine .inr (.inl ⟨x, vs, rfl, .inl (.inr ⟨o, hS.ex.rdF hx⟩), fun p hp => ?_⟩)
    obtain ⟨l, r⟩ := rep_newL hS hp c1 c2
    exact fin _ _ _ l r
end
end Mi

end
section
set_option Elab.async false
set_option autoImplicit false
set_option linter.all false
set_option maxRecDepth 100000
set_option maxHeartbeats 1000000
/-! Mi, 6: calls of built-ins, displays, tests. -/
namespace Mi
open PySem L2

/-- room, and no guard around -/
def RoomG (k : Nat) (A : Around) : Prop := Room k A ∧ A.guards = some []
theorem RoomG.mono {j k : Nat} {A : Around} (r : RoomG k A) (h : j ≤ k) : RoomG j A := ⟨r.1.mono h, r.2⟩
theorem RoomG.deeper {k : Nat} {A : Around} (r : RoomG (k + 1) A) (env : PySem.Env) : RoomG k (A.deeper env) := ⟨r.1.deeper env, r.2⟩
/-- what holds of every place of the program's code -/
structure Ok (g : DX) (k : Nat) (X : Cx) : Prop where
  K : X.K = g.K
  calm : X.calm = true
  roomG : RoomG k X.A
  nd : X.N.Nodup
  nob : ∀ x ∈ (["len", "int", "abs", "all", "any", "sum", "tuple", "list", "max", "min", "repr", "isinstance", "range", "zip", "enumerate", "reversed", "sorted", "set", "dict", "str"] : List Str), X.mg x = none
theorem Ok.room {g : DX} {k : Nat} {X : Cx} (O : Ok g k X) : Room k X.A := O.roomG.1
theorem Ok.hu {g : DX} {k : Nat} {X : Cx} (O : Ok g k X) : X.A.units + 65 < cLine := by have := O.room.un; omega
theorem Ok.hu1 {g : DX} {k : Nat} {X : Cx} (O : Ok g k X) : X.A.units + 1 < cLine := by have := O.room.un; omega

section
variable {g : DX} {W : WX} {X : Cx} {e a b c : Expr} {es : List Expr} {fa fb fc : M D} {m : M (List D)} {k : Nat}
theorem reps1 {F : Hp} {xs : List V} {ds : List D} {d : D} (hl : xs.length = ds.length) (h : ∀ (i : Nat) (v : V) (d : D), xs[i]? = some v → ds[i]? = some d → Rep g.K F v d) (e : ds = [d]) : ∃ v, xs = [v] ∧ Rep g.K F v d := by
  subst e
  match xs, hl with
  | [v], _ => exact ⟨v, rfl, h 0 v d rfl rfl⟩
theorem reps2 {F : Hp} {xs : List V} {ds : List D} {d d' : D} (hl : xs.length = ds.length) (h : ∀ (i : Nat) (v : V) (d : D), xs[i]? = some v → ds[i]? = some d → Rep g.K F v d) (e : ds = [d, d']) : ∃ v v', xs = [v, v'] ∧ Rep g.K F v d ∧ Rep g.K F v' d' := by
  subst e
  match xs, hl with
  | [v, w], _ => exact ⟨v, w, rfl, h 0 v d rfl rfl, h 1 w d' rfl rfl⟩
/-- a function of one datum as one of a list -/
def on1 (f : D → Option D) : List D → Option D
  | [d] => f d
  | _ => none
def on2 (f : D → D → Option D) : List D → Option D
  | [d, d'] => f d d'
  | _ => none
theorem on1_some {f : D → Option D} {ds : List D} {d : D} (h : on1 f ds = some d) : ∃ x, ds = [x] ∧ f x = some d := by
  match ds, h with
  | [x], h => exact ⟨x, rfl, h⟩
theorem on2_some {f : D → D → Option D} {ds : List D} {d : D} (h : on2 f ds = some d) : ∃ x y, ds = [x, y] ∧ f x y = some d := by
  match ds, h with
  | [x, y], h => exact ⟨x, y, rfl, h⟩
theorem OpL.of1 {f : D → Option D} {r : List V → Hp → VK → Prop} (h : ∀ (F H : Hp) (x : V) (dx d : D) (Q : VK), Sub F H → Rep g.K F x dx → f dx = some d → (∀ v F' H', Laid F H F' H' → Rep g.K F' v d → Q v H') → r [x] H Q) : OpL g (on1 f) r := fun F H xs ds d Q s hl hr e k => by
  obtain ⟨x, rfl, e⟩ := on1_some e
  obtain ⟨v, rfl, r⟩ := reps1 hl hr rfl
  exact h F H v x d Q s r e k
theorem OpL.of2 {f : D → D → Option D} {r : List V → Hp → VK → Prop} (h : ∀ (F H : Hp) (x y : V) (dx dy d : D) (Q : VK), Sub F H → Rep g.K F x dx → Rep g.K F y dy → f dx dy = some d → (∀ v F' H', Laid F H F' H' → Rep g.K F' v d → Q v H') → r [x, y] H Q) : OpL g (on2 f) r := fun F H xs ds d Q s hl hr e k => by
  obtain ⟨x, y, rfl, e⟩ := on2_some e
  obtain ⟨v, w, rfl, r, r'⟩ := reps2 hl hr rfl
  exact h F H v w x y d Q s r r' e k

/-! ### len, int, abs, max, min, all, any, sum -/
def fLen : D → Option D
  | .str l => if big l.length then some (.int l.length) else none
  | .lst ds => some (.int ds.length)
  | .tup ds => some (.int ds.length)
  | _ => none
theorem lenV {F H : Hp} {x : V} {dx d : D} (s : Sub F H) (rx : Rep g.K F x dx) (e : fLen dx = some d) : ∃ n : Nat, LenV g.K x H n ∧ d = .int n := by
  cases rx <;> try cases e
  · rename_i l hl
    obtain ⟨q, rfl⟩ := ifSome e
    exact ⟨l.length, ⟨by rw [S_length]; exact big_ok q, (S_length l).symm⟩, rfl⟩
  · rename_i a vs ds h hl hr
    exact ⟨ds.length, .inr ⟨vs, sqT_mono s h, hl.symm⟩, rfl⟩
  · rename_i a vs ds h hl hr
    exact ⟨ds.length, .inl ⟨vs, SqL.of (s.lst h), hl.symm⟩, rfl⟩
theorem opL_len : OpL g (on1 fLen) (fun xs H Q => ∃ x n, xs = [x] ∧ LenV g.K x H n ∧ Q (.int n) H) := OpL.of1 fun F H x dx d Q s rx e k => by
  obtain ⟨n, h, rfl⟩ := lenV s rx e
  exact ⟨x, n, rfl, h, k _ _ _ (Laid.refl s) .int⟩
section
variable {p pos : Pos} (O : Ok g k X)
include O
theorem dv_len (ha : DA g W X (a :: es) m) (hg : Gl X "len" := by rfl) (he : starEach (a :: es) X.env = (false, eval a X.env) :: starEach es X.env := by rfl) (hpl : (backTo pos (starEach es X.env)).any (·.1) = false := by rfl) : DV g W X (.Call (.Name "len" p) (a :: es) [] pos) (opL (on1 fLen) m) :=
  dv_opL opL_len ha fun ha => pe_callB (O.K ▸ call_len) hg (O.nob _ (by decide)) (by decide +kernel) ha (he := he) (hpl := hpl)
def fAbs : D → Option D
  | .int i => some (.int (if i < 0 then -i else i))
  | _ => none
theorem dv_abs (ha : DA g W X (a :: es) m) (hg : Gl X "abs" := by rfl) (he : starEach (a :: es) X.env = (false, eval a X.env) :: starEach es X.env := by rfl) (hpl : (backTo pos (starEach es X.env)).any (·.1) = false := by rfl) : DV g W X (.Call (.Name "abs" p) (a :: es) [] pos) (opL (on1 fAbs) m) :=
  dv_opL (OpL.of1 fun F H x dx d Q s rx e k => by
    cases rx <;> try cases e
    exact ⟨_, rfl, k _ _ _ (Laid.refl s) .int⟩) ha fun ha => pe_callB call_abs hg (O.nob _ (by decide)) (by decide +kernel) ha (he := he) (hpl := hpl)
def fInt : D → Option D
  | .int i => some (.int i)
  | .bl b => some (.int (if b then 1 else 0))
  | _ => none
theorem dv_intc (ha : DA g W X (a :: es) m) (hg : Gl X "int" := by rfl) (he : starEach (a :: es) X.env = (false, eval a X.env) :: starEach es X.env := by rfl) (hpl : (backTo pos (starEach es X.env)).any (·.1) = false := by rfl) : DV g W X (.Call (.Name "int" p) (a :: es) [] pos) (opL (on1 fInt) m) :=
  dv_opL (OpL.of1 fun F H x dx d Q s rx e k => by
    cases rx <;> try cases e
    · exact .inr ⟨_, rfl, k _ _ _ (Laid.refl s) .int⟩
    · exact .inl ⟨_, rfl, k _ _ _ (Laid.refl s) .int⟩) ha fun ha => pe_callTy call_int1 hg (O.nob _ (by decide)) (by decide +kernel) ha (he := he) (hpl := hpl)
def fMax : D → D → Option D := fII (fun _ _ => true) fun i j => .int (if j > i then j else i)
def fMin : D → D → Option D := fII (fun _ _ => true) fun i j => .int (if j < i then j else i)
theorem dv_max2 (ha : DA g W X (a :: es) m) (hg : Gl X "max" := by rfl) (he : starEach (a :: es) X.env = (false, eval a X.env) :: starEach es X.env := by rfl) (hpl : (backTo pos (starEach es X.env)).any (·.1) = false := by rfl) : DV g W X (.Call (.Name "max" p) (a :: es) [] pos) (opL (on2 fMax) m) :=
  dv_opL (OpL.of2 fun F H x y dx dy d Q s rx ry e k => by
    cases rx <;> try cases e
    cases ry <;> try cases e
    exact ⟨_, _, rfl, k _ _ _ (Laid.refl s) .int⟩) ha fun ha => pe_callB (call_max2 O.calm) hg (O.nob _ (by decide)) (by decide +kernel) ha (he := he) (hpl := hpl)
theorem dv_min2 (ha : DA g W X (a :: es) m) (hg : Gl X "min" := by rfl) (he : starEach (a :: es) X.env = (false, eval a X.env) :: starEach es X.env := by rfl) (hpl : (backTo pos (starEach es X.env)).any (·.1) = false := by rfl) : DV g W X (.Call (.Name "min" p) (a :: es) [] pos) (opL (on2 fMin) m) :=
  dv_opL (OpL.of2 fun F H x y dx dy d Q s rx ry e k => by
    cases rx <;> try cases e
    cases ry <;> try cases e
    exact ⟨_, _, rfl, k _ _ _ (Laid.refl s) .int⟩) ha fun ha => pe_callB (call_min2 O.calm) hg (O.nob _ (by decide)) (by decide +kernel) ha (he := he) (hpl := hpl)
/-- a list of truths, of numbers, of texts -/
def dBls : List D → Option (List Bool)
  | [] => some []
  | .bl b :: ds => (dBls ds).map (b :: ·)
  | _ :: _ => none
def dInts : List D → Option (List Int)
  | [] => some []
  | .int i :: ds => (dInts ds).map (i :: ·)
  | _ :: _ => none
def dStrs : List D → Option (List (List Nat))
  | [] => some []
  | .str i :: ds => (dStrs ds).map (i :: ·)
  | _ :: _ => none
omit O in
theorem bls_some : ∀ {ds : List D} {bs : List Bool}, dBls ds = some bs → ds = bs.map .bl
  | [], _, h => by cases h; rfl
  | d :: ds, bs, h => by
    cases d <;> try cases h
    rename_i b
    cases q : dBls ds with
    | none => rw [dBls, q] at h; cases h
    | some cs => rw [dBls, q] at h; cases h; rw [bls_some q]; rfl
omit O in
theorem ints_some : ∀ {ds : List D} {bs : List Int}, dInts ds = some bs → ds = bs.map .int
  | [], _, h => by cases h; rfl
  | d :: ds, bs, h => by
    cases d <;> try cases h
    rename_i b
    cases q : dInts ds with
    | none => rw [dInts, q] at h; cases h
    | some cs => rw [dInts, q] at h; cases h; rw [ints_some q]; rfl
omit O in
theorem strs_some : ∀ {ds : List D} {bs : List (List Nat)}, dStrs ds = some bs → ds = bs.map .str
  | [], _, h => by cases h; rfl
  | d :: ds, bs, h => by
    cases d <;> try cases h
    rename_i b
    cases q : dStrs ds with
    | none => rw [dStrs, q] at h; cases h
    | some cs => rw [dStrs, q] at h; cases h; rw [strs_some q]; rfl
omit O in
theorem vs_of {α : Type} {F : Hp} {vs : List V} {f : α → D} {h : α → V} (hr : ∀ v x, Rep g.K F v (f x) → v = h x) : ∀ {xs : List α}, vs.length = (xs.map f).length → (∀ (i : Nat) (v : V) (d : D), vs[i]? = some v → (xs.map f)[i]? = some d → Rep g.K F v d) → vs = xs.map h := by
  induction vs with
  | nil => intro xs hl _; cases xs with
    | nil => rfl
    | cons _ _ => cases hl
  | cons v vs ih =>
    intro xs hl q
    cases xs with
    | nil => cases hl
    | cons x xs =>
      rw [List.map_cons, hr v x (q 0 v _ rfl rfl), ih (by simpa using hl) fun i v d h1 h2 => q (i + 1) v d (by simpa using h1) (by simpa using h2)]
omit O in
theorem vs_bl {F : Hp} {vs : List V} {bs : List Bool} (hl : vs.length = (bs.map D.bl).length) (q : ∀ (i : Nat) (v : V) (d : D), vs[i]? = some v → (bs.map D.bl)[i]? = some d → Rep g.K F v d) : vs = bs.map .bl := vs_of (fun v x r => by cases r; rfl) hl q
omit O in
theorem vs_int {F : Hp} {vs : List V} {bs : List Int} (hl : vs.length = (bs.map D.int).length) (q : ∀ (i : Nat) (v : V) (d : D), vs[i]? = some v → (bs.map D.int)[i]? = some d → Rep g.K F v d) : vs = bs.map .int := vs_of (fun v x r => by cases r; rfl) hl q
omit O in
theorem vs_str {F : Hp} {vs : List V} {bs : List (List Nat)} (hl : vs.length = (bs.map D.str).length) (q : ∀ (i : Nat) (v : V) (d : D), vs[i]? = some v → (bs.map D.str)[i]? = some d → Rep g.K F v d) : vs = bs.map fun l => .str (S l) := vs_of (h := fun l => .str (S l)) (fun v x r => by cases r; rfl) hl q
def fAll : D → Option D
  | .lst ds => (dBls ds).map fun bs => .bl (bs.all id)
  | _ => none
def fAny : D → Option D
  | .lst ds => (dBls ds).map fun bs => .bl (bs.any id)
  | _ => none
def fSum : D → Option D
  | .lst ds => (dInts ds).map fun bs => .int bs.sum
  | _ => none
omit O in
theorem lst_inv {F H : Hp} {x : V} {ds : List D} (s : Sub F H) (r : Rep g.K F x (.lst ds)) : ∃ a vs, x = .ref a ∧ SqL g.K H a vs ∧ vs.length = ds.length ∧ ∀ (i : Nat) (v : V) (d : D), vs[i]? = some v → ds[i]? = some d → Rep g.K F v d := by
  cases r with
  | lst h hl hr => exact ⟨_, _, rfl, SqL.of (s.lst h), hl, hr⟩
omit O in
theorem tup_inv {F H : Hp} {x : V} {ds : List D} (s : Sub F H) (r : Rep g.K F x (.tup ds)) : ∃ a vs, x = .ref a ∧ SqT g.K H a vs ∧ vs.length = ds.length ∧ ∀ (i : Nat) (v : V) (d : D), vs[i]? = some v → ds[i]? = some d → Rep g.K F v d := by
  cases r with
  | tup h hl hr => exact ⟨_, _, rfl, sqT_mono s h, hl, hr⟩
omit O in
theorem map_some {α β : Type} {o : Option α} {f : α → β} {b : β} (h : o.map f = some b) : ∃ a, o = some a ∧ b = f a := by
  cases o with
  | none => cases h
  | some a => cases h; exact ⟨a, rfl, rfl⟩
theorem dv_all (ha : DA g W X (a :: es) m) (hg : Gl X "all" := by rfl) (he : starEach (a :: es) X.env = (false, eval a X.env) :: starEach es X.env := by rfl) (hpl : (backTo pos (starEach es X.env)).any (·.1) = false := by rfl) : DV g W X (.Call (.Name "all" p) (a :: es) [] pos) (opL (on1 fAll) m) :=
  dv_opL (r := rAll g.K) (OpL.of1 fun F H x dx d Q s rx e k => by
    cases dx <;> try cases e
    obtain ⟨a, vs, rfl, h, hl, hr⟩ := lst_inv s rx
    obtain ⟨bs, e1, rfl⟩ := map_some e
    have := bls_some e1
    subst this
    have := vs_bl hl hr
    subst this
    exact ⟨a, bs, rfl, h, k _ _ _ (Laid.refl s) .bl⟩) ha fun ha => pe_callB (O.K ▸ cr_all O.calm) hg (O.nob _ (by decide)) (by decide +kernel) ha (he := he) (hpl := hpl)
theorem dv_any (ha : DA g W X (a :: es) m) (hg : Gl X "any" := by rfl) (he : starEach (a :: es) X.env = (false, eval a X.env) :: starEach es X.env := by rfl) (hpl : (backTo pos (starEach es X.env)).any (·.1) = false := by rfl) : DV g W X (.Call (.Name "any" p) (a :: es) [] pos) (opL (on1 fAny) m) :=
  dv_opL (r := rAny g.K) (OpL.of1 fun F H x dx d Q s rx e k => by
    cases dx <;> try cases e
    obtain ⟨a, vs, rfl, h, hl, hr⟩ := lst_inv s rx
    obtain ⟨bs, e1, rfl⟩ := map_some e
    have := bls_some e1
    subst this
    have := vs_bl hl hr
    subst this
    exact ⟨a, bs, rfl, h, k _ _ _ (Laid.refl s) .bl⟩) ha fun ha => pe_callB (O.K ▸ cr_any O.calm) hg (O.nob _ (by decide)) (by decide +kernel) ha (he := he) (hpl := hpl)
theorem dv_sum (ha : DA g W X (a :: es) m) (hg : Gl X "sum" := by rfl) (he : starEach (a :: es) X.env = (false, eval a X.env) :: starEach es X.env := by rfl) (hpl : (backTo pos (starEach es X.env)).any (·.1) = false := by rfl) : DV g W X (.Call (.Name "sum" p) (a :: es) [] pos) (opL (on1 fSum) m) :=
  dv_opL (r := rSum g.K) (OpL.of1 fun F H x dx d Q s rx e k => by
    cases dx <;> try cases e
    obtain ⟨a, vs, rfl, h, hl, hr⟩ := lst_inv s rx
    obtain ⟨bs, e1, rfl⟩ := map_some e
    have := ints_some e1
    subst this
    have := vs_int hl hr
    subst this
    exact ⟨a, bs, rfl, h, k _ _ _ (Laid.refl s) .int⟩) ha fun ha => pe_callB (O.K ▸ cr_sum O.calm) hg (O.nob _ (by decide)) (by decide +kernel) ha (he := he) (hpl := hpl)
/-- tuple(x) -/
def fTup : D → Option D
  | .lst ds => some (.tup ds)
  | .tup ds => some (.tup ds)
  | _ => none
theorem dv_tuplec (ha : DA g W X (a :: es) m) (hg : Gl X "tuple" := by rfl) (he : starEach (a :: es) X.env = (false, eval a X.env) :: starEach es X.env := by rfl) (hpl : (backTo pos (starEach es X.env)).any (·.1) = false := by rfl) : DV g W X (.Call (.Name "tuple" p) (a :: es) [] pos) (opL (on1 fTup) m) :=
  dv_opL (OpL.of1 fun F H x dx d Q s rx e k => by
    cases dx <;> try cases e
    · obtain ⟨a, vs, rfl, h, hl, hr⟩ := tup_inv s rx
      exact ⟨a, vs, rfl, .inr ⟨h, k _ _ _ (Laid.refl s) rx⟩⟩
    · obtain ⟨a, vs, rfl, h, hl, hr⟩ := lst_inv s rx
      refine ⟨a, vs, rfl, .inl ⟨h, fun p hp => ?_⟩⟩
      obtain ⟨l, r⟩ := rep_newT s hp hl hr
      exact k _ _ _ l r) ha fun ha => pe_callTy (O.K ▸ call_tuple_of) hg (O.nob _ (by decide)) (by decide +kernel) ha (he := he) (hpl := hpl)
end

/-! ### displays -/
theorem dv_tup {n : Nat} {pos : Pos} (ha : DA g W X es m) : DV g W X (.Tuple es n pos) (opL (fun ds => if big ds.length then some (.tup ds) else none) m) := by
  refine PEmono (pe_tup ha) fun σ H Q ⟨ρ, F, B, E, p⟩ => rdL.go E (p.bnd.mono fun ds ρ1 q vs F1 H1 B1 E1 hl rs s => ?_)
  obtain ⟨d, hd, p3⟩ := PostV.opt q
  obtain ⟨hb, rfl⟩ := ifSome hd
  refine ⟨by rw [hl]; exact big_ok hb, fun x hx => ?_⟩
  obtain ⟨l, r⟩ := rep_newT E1.sub hx hl rs
  exact p3 _ _ _ B1 (l.env E1) r (s.trans l.step)
/-- a new list of its own, its items shared -/
theorem own_lst {F H : Hp} {p : Addr} {vs : List V} {ds : List D} (s : Sub F H) (hp : H p = none) (hl : vs.length = ds.length) (h : ∀ (i : Nat) (v : V) (d : D), vs[i]? = some v → ds[i]? = some d → Rep g.K F v d) :
    Laid F H F (upd H p (.lst vs)) ∧ Own g.K F (upd H p (.lst vs)) (.ref p) (.lst (ds.map .sh)) (fun a => a = p) := by
  have hf : F p = none := by
    cases q : F p with
    | none => rfl
    | some o => exact absurd hp (s.lv p (by rw [q]; simp))
  refine ⟨Laid.own s hp, .lst (fun _ _ => False) hf upd_same (by simpa using hl) (fun i v t h1 h2 => ?_) (fun _ _ _ h => h.elim) (fun _ h => h) fun b => ⟨.inl, fun h => h.elim id fun ⟨_, _, h⟩ => h.elim⟩⟩
  rw [List.getElem?_map] at h2
  cases q : ds[i]? with
  | none => rw [q] at h2; cases h2
  | some d => rw [q] at h2; cases h2; exact .sh (h i v d h1 q) fun _ h => h
def ownL (m : M (List D)) : M T := bnd m fun ds => if big ds.length then pur (.lst (ds.map .sh)) else bad
theorem fresh_apart {σ : L2.St} {ρ : Env} {F H : Hp} {B : Nat → Addr → Prop} {p : Addr} (E : EnvR g.K g.Tb F H σ ρ B) (hp : H p = none) : ∀ a, a = p → ¬ AllB B a := fun a e h => by
  subst e
  exact E.live a h hp
theorem Laid.stepN {F H F' H' : Hp} {A C : Addr → Prop} (l : Laid F H F' H') (h : ∀ a, C a → H a = none) : Step F H A F' H' (fun a => A a ∨ C a) :=
  have s := l.step (A := A)
  ⟨s.ff, s.hx, s.hh, fun a q => q.imp id (h a), s.fz, s.lv⟩
theorem de_lst {pos : Pos} (ha : DA g W X es m) : DE g W X (.List es pos) (ownL m) := by
  refine PEmono (pe_lst ha) fun σ H Q ⟨ρ, F, B, E, p⟩ => rdL.go E (p.bnd.mono fun ds ρ1 q vs F1 H1 B1 E1 hl rs s => ?_)
  by_cases hb : big ds.length = true
  case neg => rw [if_neg hb] at q; exact q.elim
  rw [if_pos hb] at q
  refine ⟨by rw [hl]; exact big_ok hb, fun x hx => ?_⟩
  obtain ⟨l, o⟩ := own_lst E1.sub hx hl rs
  exact q _ _ _ B1 _ (l.env E1) o (fresh_apart E1 hx) (s.trans (l.stepN fun a e => e ▸ hx))

/-! ### tests -/
def asB : D → M Bool
  | .bl b => pur b
  | _ => bad
theorem dt_val (ha : DV g W X a fa) (he : ∀ whole, PySem.isTrue a X.env whole = (do let v ← whole; standAt a.pos; holding [v] (truthy v)) := by intro _; rfl) : DT g W X a (bnd fa asB) := by
  refine PTmono (pt_val ha he) fun σ H Q ⟨ρ, F, B, E, p⟩ => rdV.go E (p.bnd.mono fun d ρ1 q v F1 H1 B1 E1 r s => ?_)
  cases r <;> try exact q.elim
  exact ⟨_, rfl, q F1 H1 B1 E1 s⟩
def mAnd (x y : M Bool) : M Bool := bnd x fun b => if b then y else pur false
def mOr (x y : M Bool) : M Bool := bnd x fun b => if b then pur true else y
def mNot (x : M Bool) : M Bool := bnd x fun b => pur (!b)
def DW (g : DX) (W : WX) (X : Cx) (e : Expr) (m : M Bool) : Prop := PW X e (rdT g W m)
theorem PWmono {X : Cx} {e : Expr} {t t' : TT} (h : PW X e t) (q : ∀ σ H Q, t' σ H Q → t σ H Q) : PW X e t' := ⟨fun w pins s σ H Q I z => h.run w pins s σ H Q I (q σ H Q z)⟩
theorem DW.dt {m : M Bool} (h : DW g W X e m) : DT g W X e m := PW.pt h
section
variable {x y : M Bool} {l : List Expr} {pos : Pos}
theorem dw_and1 (h : DT g W X a x) : DW g W X (.BoolOp .And [a] pos) x := pw_and1 h
theorem dw_or1 (h : DT g W X a x) : DW g W X (.BoolOp .Or [a] pos) x := pw_or1 h
theorem dw_and (h : DT g W X a x) (h2 : DW g W X (.BoolOp .And (b :: l) pos) y) : DW g W X (.BoolOp .And (a :: b :: l) pos) (mAnd x y) := by
  refine PWmono (pw_and h h2) fun σ H Q ⟨ρ, F, B, E, p⟩ => rdT.go E (p.bnd.mono fun c ρ1 q F1 H1 B1 E1 s => ?_)
  cases c with
  | true => exact ⟨ρ1, F1, B1, E1, q.step s⟩
  | false => exact q F1 H1 B1 E1 s
theorem dw_or (h : DT g W X a x) (h2 : DW g W X (.BoolOp .Or (b :: l) pos) y) : DW g W X (.BoolOp .Or (a :: b :: l) pos) (mOr x y) := by
  refine PWmono (pw_or h h2) fun σ H Q ⟨ρ, F, B, E, p⟩ => rdT.go E (p.bnd.mono fun c ρ1 q F1 H1 B1 E1 s => ?_)
  cases c with
  | false => exact ⟨ρ1, F1, B1, E1, q.step s⟩
  | true => exact q F1 H1 B1 E1 s
theorem dt_not (h : DT g W X a x) : DT g W X (.UnaryOp .Not a pos) (mNot x) := by
  refine PTmono (pt_not h) fun σ H Q ⟨ρ, F, B, E, p⟩ => rdT.go E (p.bnd.mono fun c ρ1 q F1 H1 B1 E1 s => q F1 H1 B1 E1 s)
/-! as values: each part gives True or False -/
def vAnd (x y : M D) : M D := bnd x fun d => bnd (asB d) fun b => if b then y else pur (.bl false)
def vOr (x y : M D) : M D := bnd x fun d => bnd (asB d) fun b => if b then pur (.bl true) else y
def vNot (x : M D) : M D := bnd x fun d => bnd (asB d) fun b => pur (.bl (!b))
theorem dv_one {op : BoolOp} (h : PE X (.BoolOp op [a] pos) (rdV g W fa)) : DV g W X (.BoolOp op [a] pos) fa := h
theorem dv_and1 (h : DV g W X a fa) : DV g W X (.BoolOp .And [a] pos) fa := pe_one h
theorem dv_or1 (h : DV g W X a fa) : DV g W X (.BoolOp .Or [a] pos) fa := pe_one h
theorem asB_inv {σ : L2.St} {F H : Hp} {A : Addr → Prop} {v : V} {d : D} {ρ : Env} {F1 : Hp} {Q : VK} {kk : Bool → M D} (r : Rep g.K F1 v d) (q : PostV g W σ F H A Q (bnd (asB d) kk ρ)) : ∃ b, v = .bl b ∧ PostV g W σ F H A Q (kk b ρ) := by
  cases r <;> try exact q.elim
  exact ⟨_, rfl, q⟩
theorem dv_and (h : DV g W X a fa) (h2 : DV g W X (.BoolOp .And (b :: l) pos) fb) : DV g W X (.BoolOp .And (a :: b :: l) pos) (vAnd fa fb) := by
  refine PEmono (pe_and h h2) fun σ H Q ⟨ρ, F, B, E, p⟩ => rdV.go E (p.bnd.mono fun d ρ1 q v F1 H1 B1 E1 r s => ?_)
  obtain ⟨c, rfl, q⟩ := asB_inv r q
  refine ⟨c, rfl, ?_⟩
  cases c with
  | true => exact ⟨ρ1, F1, B1, E1, q.step s⟩
  | false => exact q _ F1 H1 B1 E1 .bl s
theorem dv_or (h : DV g W X a fa) (h2 : DV g W X (.BoolOp .Or (b :: l) pos) fb) : DV g W X (.BoolOp .Or (a :: b :: l) pos) (vOr fa fb) := by
  refine PEmono (pe_or h h2) fun σ H Q ⟨ρ, F, B, E, p⟩ => rdV.go E (p.bnd.mono fun d ρ1 q v F1 H1 B1 E1 r s => ?_)
  obtain ⟨c, rfl, q⟩ := asB_inv r q
  refine ⟨c, rfl, ?_⟩
  cases c with
  | false => exact ⟨ρ1, F1, B1, E1, q.step s⟩
  | true => exact q _ F1 H1 B1 E1 .bl s
theorem dv_not (h : DV g W X a fa) : DV g W X (.UnaryOp .Not a pos) (vNot fa) := by
  refine PEmono (pe_not h) fun σ H Q ⟨ρ, F, B, E, p⟩ => rdV.go E (p.bnd.mono fun d ρ1 q v F1 H1 B1 E1 r s => ?_)
  obtain ⟨c, rfl, q⟩ := asB_inv r q
  exact ⟨c, rfl, q _ F1 H1 B1 E1 .bl s⟩
def mIte {α : Type} (x : M Bool) (y z : M α) : M α := bnd x fun b => if b then y else z
theorem dv_ite (h : DT g W X c x) (ha : DV g W X a fa) (hb : DV g W X b fb) : DV g W X (.IfExp c a b pos) (mIte x fa fb) := by
  refine PEmono (pe_ifExp h ha hb) fun σ H Q ⟨ρ, F, B, E, p⟩ => rdT.go E (p.bnd.mono fun d ρ1 q F1 H1 B1 E1 s => ?_)
  cases d with
  | true => exact ⟨ρ1, F1, B1, E1, q.step s⟩
  | false => exact ⟨ρ1, F1, B1, E1, q.step s⟩
theorem de_ite {ta tb : M T} (h : DT g W X c x) (ha : DE g W X a ta) (hb : DE g W X b tb) : DE g W X (.IfExp c a b pos) (mIte x ta tb) := by
  refine PEmono (pe_ifExp h ha hb) fun σ H Q ⟨ρ, F, B, E, p⟩ => rdT.go E (p.bnd.mono fun d ρ1 q F1 H1 B1 E1 s => ?_)
  cases d with
  | true => exact ⟨ρ1, F1, B1, E1, q.step s⟩
  | false => exact ⟨ρ1, F1, B1, E1, q.step s⟩
/-- a < b < c -/
def op3 (f f' : D → D → Option D) (x y z : M D) : M D := bnd x fun dx => bnd y fun dy => bnd (opt (f dx dy)) fun d => bnd (asB d) fun b => if b then bnd z fun dz => opt (f' dy dz) else pur (.bl false)
end
end
end Mi

end
section
set_option Elab.async false
set_option autoImplicit false
set_option linter.all false
set_option maxRecDepth 100000
set_option maxHeartbeats 1000000
/-! Mi, 7: statements. -/
namespace Mi
open PySem L2

inductive SR where
  | nx (ρ : Env)
  | rt (t : T) (ρ : Env)
  | bk (ρ : Env)
  | ct (ρ : Env)
  | exc (c : Exc) (ρ : Env)
  | bad
abbrev SM := Env → SR
def sq (m1 m2 : SM) : SM := fun ρ =>
  match m1 ρ with
  | .nx ρ' => m2 ρ'
  | .rt t ρ' => .rt t ρ'
  | .bk ρ' => .bk ρ'
  | .ct ρ' => .ct ρ'
  | .exc c ρ' => .exc c ρ'
  | .bad => .bad
/-- from an expression's outcome to a statement's -/
def sbnd {α : Type} (m : M α) (k : α → SM) : SM := fun ρ =>
  match m ρ with
  | .ok a ρ' => k a ρ'
  | .exc c ρ' => .exc c ρ'
  | .bad => .bad
/-- the slots fx stay -/
def Fix (fx : List Nat) (σ σ' : L2.St) : Prop := ∀ i ∈ fx, σ'[i]? = σ[i]?
theorem Fix.refl (fx : List Nat) (σ : L2.St) : Fix fx σ σ := fun _ _ => rfl
theorem Fix.trans {fx : List Nat} {a b c : L2.St} (x : Fix fx a b) (y : Fix fx b c) : Fix fx a c := fun i h => (y i h).trans (x i h)
theorem Fix.set {fx : List Nat} {σ : L2.St} {i : Nat} {v : Option V} (h : i ∉ fx) : Fix fx σ (σ.set i v) := fun j hj => by
  have ne : i ≠ j := fun e => h (by rw [e]; exact hj)
  rw [List.getElem?_set_ne ne]

section
variable (g : DX) (W : WX) (fx : List Nat) (σ : L2.St) (F H : Hp) (A : Addr → Prop)
def PostR (P : L2.St → Hp → Prop) (ρ' : Env) : Prop := ∀ σ' F' H' B', EnvR g.K g.Tb F' H' σ' ρ' B' → Step F H A F' H' (AllB B') → Fix fx σ σ' → P σ' H'
def PostRt (P : VK) (t : T) (ρ' : Env) : Prop := ∀ v σ' F' H' B' C, EnvR g.K g.Tb F' H' σ' ρ' B' → Own g.K F' H' v t C → (∀ a, C a → ¬ AllB B' a) → Step F H A F' H' (fun a => AllB B' a ∨ C a) → Fix fx σ σ' → P v H'
def PostS (D : Ends) : SR → Prop
  | .nx ρ' => PostR g fx σ F H A D.nx ρ'
  | .bk ρ' => PostR g fx σ F H A D.bk ρ'
  | .ct ρ' => PostR g fx σ F H A D.ct ρ'
  | .exc c ρ' => PostR g fx σ F H A (fun σ' H' => Wx g W c σ' H') ρ'
  | .rt t ρ' => PostRt g fx σ F H A D.rt t ρ'
  | .bad => False
end
def rdS (g : DX) (W : WX) (fx : List Nat) (m : SM) : TS := fun D σ H => ∃ ρ F B, EnvR g.K g.Tb F H σ ρ B ∧ PostS g W fx σ F H (AllB B) D (m ρ)
def DS (g : DX) (W : WX) (fx : List Nat) (X : Cx) (st : Stmt) (m : SM) : Prop := PS X st (rdS g W fx m)
def DSs (g : DX) (W : WX) (fx : List Nat) (X : Cx) (st : List Stmt) (m : SM) : Prop := PSs X st (rdS g W fx m)
theorem PSmono {X : Cx} {e : Stmt} {t t' : TS} (h : PS X e t) (q : ∀ D σ H, t' D σ H → t D σ H) : PS X e t' := ⟨fun pins s σ H D I z => h.run pins s σ H D I (q D σ H z)⟩
theorem PSsmono {X : Cx} {e : List Stmt} {t t' : TS} (h : PSs X e t) (q : ∀ D σ H, t' D σ H → t D σ H) : PSs X e t' := ⟨fun pins s σ H D I z => h.run pins s σ H D I (q D σ H z)⟩

section
variable {g : DX} {W : WX} {fx : List Nat} {σ σ1 : L2.St} {F H F1 H1 : Hp} {A A1 : Addr → Prop}
theorem PostR.step {P : L2.St → Hp → Prop} {ρ : Env} (s : Step F H A F1 H1 A1) (f : Fix fx σ σ1) (p : PostR g fx σ F H A P ρ) : PostR g fx σ1 F1 H1 A1 P ρ := fun σ' F' H' B' E t x => p σ' F' H' B' E (s.trans t) (f.trans x)
theorem PostS.step {D : Ends} {r : SR} (s : Step F H A F1 H1 A1) (f : Fix fx σ σ1) (p : PostS g W fx σ F H A D r) : PostS g W fx σ1 F1 H1 A1 D r := by
  cases r with
  | nx ρ => exact PostR.step s f p
  | bk ρ => exact PostR.step s f p
  | ct ρ => exact PostR.step s f p
  | exc c ρ => exact PostR.step s f p
  | rt t ρ => exact fun v σ' F' H' B' C E o d q x => p v σ' F' H' B' C E o d (s.trans q) (f.trans x)
  | bad => exact p
theorem PostR.x {c : Exc} {ρ : Env} (p : PostR g fx σ F H A (fun σ' H' => Wx g W c σ' H') ρ) : PostX g W σ F H A c ρ := fun F' H' B' E s => p σ F' H' B' E s (.refl fx σ)
/-- a sequence's first part, then the rest -/
theorem PostS.sq {D : Ends} {m1 m2 : SM} {ρ : Env} (p : PostS g W fx σ F H A D (sq m1 m2 ρ)) (hA : ∃ B, A = AllB B) : PostS g W fx σ F H A { D with nx := rdS g W fx m2 D } (m1 ρ) := by
  unfold Mi.sq at p
  revert p
  cases m1 ρ with
  | nx ρ1 => exact fun p σ' F' H' B' E s x => ⟨ρ1, F', B', E, PostS.step s x p⟩
  | bk ρ => exact id
  | ct ρ => exact id
  | exc c ρ => exact id
  | rt t ρ => exact id
  | bad => exact id
theorem PostS.sbnd {α : Type} {D : Ends} {m : M α} {k : α → SM} {ρ : Env} (p : PostS g W fx σ F H A D (sbnd m k ρ)) : Then g W σ F H A (m ρ) fun a ρ1 => PostS g W fx σ F H A D (k a ρ1) := by
  unfold Mi.sbnd at p
  revert p
  cases m ρ with
  | ok a ρ => exact id
  | exc c ρ => exact PostR.x
  | bad => exact id

variable {X : Cx} {st : Stmt} {rest : List Stmt} {m1 m2 : SM} {e a b c : Expr} {pos : Pos} {fa : M D} {te : M T}
theorem dss_nil : DSs g W fx X [] .nx := PSsmono pss_nil fun D σ H ⟨ρ, F, B, E, p⟩ => p σ F H B E Step.refl (.refl fx σ)
theorem dss_one (h : DS g W fx X st m1) : DSs g W fx X [st] m1 := pss_one h
theorem dss_cons (h : DS g W fx X st m1) (h2 : DSs g W fx X rest m2) : DSs g W fx X (st :: rest) (sq m1 m2) :=
  PSsmono (pss_cons h h2) fun D σ H ⟨ρ, F, B, E, p⟩ => ⟨ρ, F, B, E, p.sq ⟨B, rfl⟩⟩
theorem ds_expr (h : DV g W X e fa) (hs : swapsWith e none pos.line X.env = pure false := by rfl) : DS g W fx X (.Expr e pos) (sbnd fa fun _ => .nx) :=
  PSmono (ps_expr h hs) fun D σ H ⟨ρ, F, B, E, p⟩ => rdV.go E (p.sbnd.mono fun d ρ1 q v F1 H1 B1 E1 r s => q σ F1 H1 B1 E1 s (.refl fx σ))
theorem ds_ret (h : DE g W X e te) : DS g W fx X (.Return (some e) pos) (sbnd te .rt) :=
  PSmono (ps_ret h) fun D σ H ⟨ρ, F, B, E, p⟩ => rdE.go E (p.sbnd.mono fun d ρ1 q v F1 H1 B1 C E1 o d s => q v σ F1 H1 B1 C E1 o d s (.refl fx σ))
theorem ds_pass : DS g W fx X (.Pass pos) .nx := PSmono ps_pass fun D σ H ⟨ρ, F, B, E, p⟩ => p σ F H B E Step.refl (.refl fx σ)
theorem ds_break : DS g W fx X (.Break pos) .bk := PSmono ps_break fun D σ H ⟨ρ, F, B, E, p⟩ => p σ F H B E Step.refl (.refl fx σ)
theorem ds_continue : DS g W fx X (.Continue pos) .ct := PSmono ps_continue fun D σ H ⟨ρ, F, B, E, p⟩ => p σ F H B E Step.refl (.refl fx σ)
def sIf (x : M Bool) (y z : SM) : SM := sbnd x fun b => if b then y else z
theorem ds_if {x : M Bool} {s1 s2 : List Stmt} (hc : DT g W X c x) (h1 : DSs g W fx X s1 m1) (h2 : DSs g W fx X s2 m2) : DS g W fx X (.If c s1 s2 pos) (sIf x m1 m2) :=
  PSmono (ps_if hc h1 h2) fun D σ H ⟨ρ, F, B, E, p⟩ => rdT.go E (p.sbnd.mono fun d ρ1 q F1 H1 B1 E1 s => by
    cases d with
    | true => exact ⟨ρ1, F1, B1, E1, PostS.step s (.refl fx σ) q⟩
    | false => exact ⟨ρ1, F1, B1, E1, PostS.step s (.refl fx σ) q⟩)

/-! ### stores -/
def setB (B : Nat → Addr → Prop) (i : Nat) (C : Addr → Prop) : Nat → Addr → Prop := fun j a => if j = i then C a else B j a
theorem EnvR.set {Tb : List (Addr × Str)} {K : PySem.W.Frag} {ρ : Env} {B : Nat → Addr → Prop} {i : Nat} {v : V} {t : T} {C : Addr → Prop} (E : EnvR K Tb F H σ ρ B) (o : Own K F H v t C) (d : ∀ a, C a → ¬ AllB B a) (hi : i < ρ.length) :
    EnvR K Tb F H (σ.set i (some v)) (ρ.set i t) (setB B i C) := by
  have hi' : i < σ.length := by rw [E.len]; exact hi
  refine ⟨E.sub, by simpa using E.len, fun j u hj hu => ?_, fun j hj a => ?_, fun j k a h1 h2 => ?_, E.tabs⟩
  · by_cases e : j = i
    · subst e
      rw [List.getElem?_set_self hi] at hj
      cases hj
      refine ⟨v, List.getElem?_set_self hi', o.to fun a => ?_⟩
      unfold setB; rw [if_pos rfl]
    · rw [List.getElem?_set_ne (Ne.symm e)] at hj
      obtain ⟨w, hw, o2⟩ := E.at_ j u hj hu
      refine ⟨w, by rw [List.getElem?_set_ne (Ne.symm e)]; exact hw, o2.to fun a => ?_⟩
      unfold setB; rw [if_neg e]
  · by_cases e : j = i
    · subst e
      rw [List.getElem?_set_self hi] at hj
      rcases hj with hj | hj
      · cases hj
      · cases hj; cases o
    · rw [List.getElem?_set_ne (Ne.symm e)] at hj
      unfold setB; rw [if_neg e]
      exact E.no j hj a
  · unfold setB at h1 h2
    split at h1 <;> split at h2
    · rename_i e1 e2; rw [e1, e2]
    · exact absurd ⟨k, h2⟩ (d a h1)
    · exact absurd ⟨j, h1⟩ (d a h2)
    · exact E.dis j k a h1 h2
theorem setB_sub {B : Nat → Addr → Prop} {i : Nat} {C : Addr → Prop} : ∀ a, AllB (setB B i C) a → AllB B a ∨ C a := fun a ⟨j, h⟩ => by
  unfold setB at h
  split at h
  · exact .inr h
  · exact .inl ⟨j, h⟩
/-- a slot stored -/
def put (i : Nat) (t : T) : SM := fun ρ => if i < ρ.length then .nx (ρ.set i t) else .bad
theorem PostS.put {D : Ends} {ρ1 : Env} {i : Nat} {t : T} {v : V} {B1 : Nat → Addr → Prop} {C : Addr → Prop} (hn : i ∉ fx) (p : PostS g W fx σ F H A D (put i t ρ1)) (E1 : EnvR g.K g.Tb F1 H1 σ ρ1 B1) (o : Own g.K F1 H1 v t C) (d : ∀ a, C a → ¬ AllB B1 a)
    (s : Step F H A F1 H1 (fun a => AllB B1 a ∨ C a)) : D.nx (σ.set i (some v)) H1 := by
  unfold Mi.put at p
  split at p
  · rename_i hi
    exact p _ F1 H1 _ (E1.set o d hi) (s.less setB_sub) (.set hn)
  · exact p.elim
theorem ds_set (i : Nat) {x : Str} {pos' : Pos} (hn : i ∉ fx) (he : DE g W X e te) (hnd : X.N.Nodup) (hi : X.N[i]? = some x := by rfl) (hx : Loc X.env.scope x := by first | exact Or.inl rfl | exact Or.inr rfl) (hs : swapsWith e (some (.Name x pos')) pos.line X.env = pure false := by rfl)
    (hf : X.fn x = true ∨ X.env.scope.names.lookup x = some .local := by first | exact .inl rfl | exact .inr rfl) : DS g W fx X (.Assign [.Name x pos'] e pos) (sbnd te (put i)) :=
  PSmono (ps_set hnd hi hx he hs hf) fun D σ H ⟨ρ, F, B, E, p⟩ => rdE.go E (p.sbnd.mono fun t ρ1 q v F1 H1 B1 C E1 o d s => PostS.put hn q E1 o d s)
end

/-! ### targets -/
/-- the slots sl alone may differ -/
def Only (sl : List Nat) (σ σ' : L2.St) : Prop := σ'.length = σ.length ∧ ∀ i, i ∉ sl → σ'[i]? = σ[i]?
theorem Only.fix {sl fx : List Nat} {σ σ' : L2.St} (o : Only sl σ σ') (h : ∀ i ∈ fx, i ∉ sl) : Fix fx σ σ' := fun i hi => o.2 i (h i hi)
section
variable {g : DX} {W : WX} {fx sl sl' : List Nat} {X : Cx}
/-- a target takes shared data -/
abbrev BD := D → Env → Option Env
def Tg (g : DX) (sl : List Nat) (t : TG) (f : BD) : Prop := ∀ (v : V) (d : D) (ρ ρ1 : Env) (σ : L2.St) (F H : Hp) (B : Nat → Addr → Prop) (Q : L2.St → Hp → Prop), EnvR g.K g.Tb F H σ ρ B → Rep g.K F v d → f d ρ = some ρ1 →
  (∀ σ' B', EnvR g.K g.Tb F H σ' ρ1 B' → (∀ a, AllB B' a → AllB B a) → Only sl σ σ' → Q σ' H) → t v σ H Q
def DG (g : DX) (sl : List Nat) (X : Cx) (e : Expr) (t : TG) (f : BD) : Prop := PG X e t ∧ Tg g sl t f
def bName (i : Nat) : BD := fun d ρ => if i < ρ.length then some (ρ.set i (.sh d)) else none
theorem dg_name (i : Nat) {x : Str} {pos : Pos} (hN : X.N.Nodup) (hi : X.N[i]? = some x := by rfl) (hx : Loc X.env.scope x := by first | exact Or.inl rfl | exact Or.inr rfl) (hf : X.fn x = true ∨ X.env.scope.names.lookup x = some .local := by first | exact .inl rfl | exact .inr rfl) :
    DG g [i] X (.Name x pos) (gName i) (bName i) := ⟨pg_name hN hi hx hf, fun v d ρ ρ1 σ F H B Q E r e k => by
  unfold bName at e
  split at e <;> cases e
  rename_i hi
  refine k _ _ (E.set (.sh (A := fun _ => False) r fun _ h => h) (fun _ h => h.elim) hi) (fun a h => ?_) ⟨by simp, fun j hj => List.getElem?_set_ne (fun e => hj (by rw [e]; exact List.mem_singleton.mpr rfl))⟩
  exact (setB_sub a h).elim id False.elim⟩
/-- several targets -/
abbrev BDs := List D → Env → Option Env
def Tgs (g : DX) (sl : List Nat) (t : TGs) (f : BDs) : Prop := ∀ (vs : List V) (ds : List D) (ρ ρ1 : Env) (σ : L2.St) (F H : Hp) (B : Nat → Addr → Prop) (Q : L2.St → Hp → Prop), EnvR g.K g.Tb F H σ ρ B → vs.length = ds.length →
  (∀ (i : Nat) (v : V) (d : D), vs[i]? = some v → ds[i]? = some d → Rep g.K F v d) → f ds ρ = some ρ1 →
  (∀ σ' B', EnvR g.K g.Tb F H σ' ρ1 B' → (∀ a, AllB B' a → AllB B a) → Only sl σ σ' → Q σ' H) → t vs σ H Q
def DGs (g : DX) (sl : List Nat) (X : Cx) (es : List Expr) (t : TGs) (f : BDs) : Prop := PGs X es t ∧ Tgs g sl t f
def bNil : BDs := fun ds ρ => if ds.isEmpty then some ρ else none
def bCons (f : BD) (r : BDs) : BDs := fun ds ρ =>
  match ds with
  | [] => none
  | d :: ds => (f d ρ).bind (r ds)
theorem dgs_nil : DGs g [] X [] gNil bNil := ⟨pgs_nil, fun vs ds ρ ρ1 σ F H B Q E hl _ e k => by
  unfold bNil at e
  cases ds with
  | nil => cases e; exact ⟨List.length_eq_zero_iff.mp hl, k σ B E (fun _ h => h) ⟨rfl, fun _ _ => rfl⟩⟩
  | cons d ds => cases e⟩
theorem dgs_cons {e : Expr} {es : List Expr} {t : TG} {u : TGs} {f : BD} {r : BDs} (h : DG g sl X e t f) (h2 : DGs g sl' X es u r) (hs : (assignEach (e :: es) X.env).map (·.2) = assign e X.env :: (assignEach es X.env).map (·.2) := by rfl) : DGs g (sl ++ sl') X (e :: es) (gCons t u) (bCons f r) := by
  obtain ⟨p, kt⟩ := h
  obtain ⟨q, ku⟩ := h2
  refine ⟨pgs_cons p q hs, fun vs ds ρ ρ1 σ F H B Q E hl hr e k => ?_⟩
  cases ds with
  | nil => cases e
  | cons d ds =>
    cases vs with
    | nil => cases hl
    | cons v vs =>
      cases z : f d ρ with
      | none => unfold bCons at e; simp only [z] at e; cases e
      | some ρ2 =>
        unfold bCons at e; simp only [z] at e
        refine ⟨v, vs, rfl, kt v d ρ ρ2 σ F H B _ E (hr 0 v d rfl rfl) z fun σ' B' E' hb hx => ?_⟩
        exact ku vs ds ρ2 ρ1 σ' F H B' Q E' (by simpa using hl) (fun i v d h1 h2 => hr (i + 1) v d (by simpa using h1) (by simpa using h2)) e fun σ2 B2 E2 hb2 hx2 => k σ2 B2 E2 (fun a h => hb a (hb2 a h)) ⟨hx2.1.trans hx.1, fun i hi => (hx2.2 i fun z => hi (List.mem_append_right _ z)).trans (hx.2 i fun z => hi (List.mem_append_left _ z))⟩
def bTup (r : BDs) : BD := fun d ρ =>
  match d with
  | .tup ds => r ds ρ
  | _ => none
theorem dg_tup {es : List Expr} {n : Nat} {k : Nat} {u : TGs} {r : BDs} {pos : Pos} (hc : X.calm = true) (hK : X.K = g.K) (h : DGs g sl X es u r) (hln : ∀ ds ρ ρ1, r ds ρ = some ρ1 → ds.length = n)
    (hn : (assignEach es X.env).length = n := by rfl) (hst : (assignEach es X.env).findIdx? (·.1) = none := by rfl) : DG g sl X (.Tuple es k pos) (gTup g.K n u) (bTup r) := by
  obtain ⟨q, ku⟩ := h
  refine ⟨hK ▸ pg_tup hc q hn hst, fun v d ρ ρ1 σ F H B Q E hr e kk => ?_⟩
  cases d <;> try cases e
  rename_i ds
  obtain ⟨a, vs, rfl, h, hl, hr⟩ := tup_inv E.sub hr
  exact ⟨a, vs, rfl, h, hl.trans (hln ds ρ ρ1 e), ku vs ds ρ ρ1 σ F H B Q E hl hr e kk⟩
theorem bNil_len : ∀ ds ρ ρ1, bNil ds ρ = some ρ1 → ds.length = 0 := fun ds ρ ρ1 h => by
  cases ds with
  | nil => rfl
  | cons _ _ => cases h
theorem bCons_len {f : BD} {r : BDs} {n : Nat} (h : ∀ ds ρ ρ1, r ds ρ = some ρ1 → ds.length = n) : ∀ ds ρ ρ1, bCons f r ds ρ = some ρ1 → ds.length = n + 1 := fun ds ρ ρ1 e => by
  cases ds with
  | nil => cases e
  | cons d ds =>
    unfold bCons at e
    cases z : f d ρ with
    | none => simp only [z] at e; cases e
    | some ρ2 => simp only [z] at e; rw [List.length_cons, h ds ρ2 ρ1 e]
def optS (x : Option Env) : SR := match x with | some ρ => .nx ρ | none => .bad
/-- target = e -/
theorem ds_asg {tg e : Expr} {t : TG} {fa : M D} {f : BD} {pos : Pos} (hg : DG g sl X tg t f) (he : DV g W X e fa) (hfx : ∀ i ∈ fx, i ∉ sl := by decide) (hs : swapsWithSole [tg] e pos.line X.env = pure false := by rfl) (hw : swappedStores [tg] e X.env = pure none := by rfl)
    (h1 : (assignEach [tg] X.env).map (·.2) = [assign tg X.env] := by rfl) : DS g W fx X (.Assign [tg] e pos) (sbnd fa fun d ρ => optS (f d ρ)) := by
  obtain ⟨pt, kt⟩ := hg
  refine PSmono (ps_asg he pt hs hw h1) fun D σ H ⟨ρ, F, B, E, p⟩ => rdV.go E (p.sbnd.mono fun d ρ1 q v F1 H1 B1 E1 r s => ?_)
  cases z : f d ρ1 with
  | none => unfold optS at q; simp only [z] at q; exact q.elim
  | some ρ2 =>
    unfold optS at q; simp only [z] at q
    exact kt v d ρ1 ρ2 σ F1 H1 B1 _ E1 r z fun σ' B' E' hb hx => q σ' F1 H1 B' E' (s.less hb) (hx.fix hfx)
end
end Mi

end
section
set_option Elab.async false
set_option autoImplicit false
set_option linter.all false
set_option maxRecDepth 100000
set_option maxHeartbeats 1000000
/-! Mi, 8: lists in slots, changed and asked. -/
namespace Mi
open PySem L2

/-- a list or a dict as it may be changed -/
def Mu (o : HO) : Prop := (∃ xs, o = .lst xs) ∨ (∃ xs, o = .dK xs) ∨ ∃ xs, o = .dT xs
theorem Mu.notbl {o : HO} (h : Mu o) (ps : Array Value) : o ≠ .tbl ps := by
  rcases h with ⟨_, rfl⟩ | ⟨_, rfl⟩ | ⟨_, rfl⟩ <;> simp
theorem Mu.notup {o : HO} (h : Mu o) (xs : List V) : o ≠ .tup xs := by
  rcases h with ⟨_, rfl⟩ | ⟨_, rfl⟩ | ⟨_, rfl⟩ <;> simp
theorem tabs_upd {Tb : List (Addr × Str)} {H : Hp} {a : Addr} {o u : HO} (t : LamX.Tabs Tb H) (ha : H a = some o) (hm : Mu o) : LamX.Tabs Tb (upd H a u) := fun p hp => by
  obtain ⟨ps, h1, h2, h3⟩ := t p hp
  refine ⟨ps, ?_, h2, fun pos cv hc => ?_⟩
  · rw [upd_ne (fun e => by rw [e, ha] at h1; cases h1; exact hm.notbl ps rfl)]; exact h1
  · obtain ⟨c, e1, e2⟩ := h3 pos cv hc
    refine ⟨c, e1, ?_⟩
    rw [upd_ne (fun e => by
      rw [e, ha] at e2
      cases e2
      rcases hm with ⟨_, q⟩ | ⟨_, q⟩ | ⟨_, q⟩ <;> (unfold LamX.CodeO at q; cases q))]
    exact e2
section
variable {g : DX} {σ : L2.St} {F H : Hp} {ρ : Env} {B : Nat → Addr → Prop}
/-- slot i's thing changes at its own place a -/
theorem EnvR.mut {K : PySem.W.Frag} {Tb : List (Addr × Str)} {i : Nat} {a : Addr} {o u : HO} {t t' : T} {C : Addr → Prop} {v : V} (E : EnvR K Tb F H σ ρ B) (hi : ρ[i]? = some t) (hv : σ[i]? = some (some v)) (ha : B i a) (ho : H a = some o) (hm : Mu o) (hu : Mu u)
    (n : Own K F (upd H a u) v t' C) (hc : ∀ b, C b → B i b ∨ (¬ AllB B b)) : EnvR K Tb F (upd H a u) σ (ρ.set i t') (setB B i C) ∧ ∀ A1 : Addr → Prop, (∀ b, AllB B b → A1 b) → (∀ b, C b → A1 b) → Step F H A1 F (upd H a u) (AllB (setB B i C)) := by
  have il : i < ρ.length := (List.getElem?_eq_some_iff.mp hi).1
  have fa : F a = none := (E.fp ha).1
  have sub : Sub F (upd H a u) := ⟨fun b x h => by
    rw [upd_ne (fun e => by rw [e, fa] at h; cases h)]; exact E.sub.ex b x h, E.sub.nt, fun b h => by
    by_cases e : b = a
    · subst e; rw [upd_same]; simp
    · rw [upd_ne e]; exact E.sub.lv b h, fun b xs h => by
    by_cases e : b = a
    · subst e; rw [upd_same] at h; exact absurd (Option.some.inj h) (hu.notup xs)
    · rw [upd_ne e] at h; exact E.sub.tp b xs h⟩
  refine ⟨⟨sub, by simpa using E.len, fun j w hj hw => ?_, fun j hj b => ?_, fun j k b h1 h2 => ?_, tabs_upd E.tabs ho hm⟩, fun A1 hA hC => ⟨Ex.refl F, fun b x h nt na => ⟨x, by rw [upd_ne (fun e => na (by rw [e]; exact hA a ⟨i, ha⟩))]; exact h, .refl x⟩,
    fun b x h nt na _ => by rw [upd_ne (fun e => na (by rw [e]; exact hA a ⟨i, ha⟩))]; exact h, fun b h => ?_, fun b h => .inl h, fun b h => ?_⟩⟩
  · by_cases e : j = i
    · subst e
      rw [List.getElem?_set_self il] at hj
      cases hj
      exact ⟨v, hv, n.to fun b => by unfold setB; rw [if_pos rfl]⟩
    · rw [List.getElem?_set_ne (Ne.symm e)] at hj
      obtain ⟨x, hx, o2⟩ := E.at_ j w hj hw
      refine ⟨x, hx, (o2.mono (Ex.refl F) fun b hb => ⟨(o2.fp b hb).1, upd_ne fun z => e (E.dis j i b hb (by rw [z]; exact ha))⟩).to fun b => ?_⟩
      unfold setB; rw [if_neg e]
  · by_cases e : j = i
    · subst e
      rw [List.getElem?_set_self il] at hj
      rcases hj with hj | hj
      · cases hj
      · cases hj; cases n
    · rw [List.getElem?_set_ne (Ne.symm e)] at hj
      unfold setB; rw [if_neg e]
      exact E.no j hj b
  · unfold setB at h1 h2
    split at h1 <;> split at h2
    · rename_i e1 e2; rw [e1, e2]
    · rename_i e1 e2
      rcases hc b h1 with z | z
      · exact absurd (E.dis k i b h2 z) e2
      · exact absurd ⟨k, h2⟩ z
    · rename_i e1 e2
      rcases hc b h2 with z | z
      · exact absurd (E.dis j i b h1 z) e1
      · exact absurd ⟨j, h1⟩ z
    · exact E.dis j k b h1 h2
  · rcases setB_sub b h with z | z
    · exact .inl (hA b z)
    · exact .inl (hC b z)
  · by_cases e : b = a
    · subst e; rw [upd_same]; simp
    · rw [upd_ne e]; exact h
theorem Own.lstI {K : PySem.W.Frag} {v : V} {ts : List T} {A : Addr → Prop} (h : Own K F H v (.lst ts) A) : ∃ a vs, ∃ (B : Nat → Addr → Prop), v = .ref a ∧ F a = none ∧ H a = some (.lst vs) ∧ vs.length = ts.length ∧ (∀ (i : Nat) (v : V) (t : T), vs[i]? = some v → ts[i]? = some t → Own K F H v t (B i)) ∧
    (∀ i j b, B i b → B j b → i = j) ∧ (∀ i, ¬ B i a) ∧ (∀ b, A b ↔ b = a ∨ ∃ i, i < ts.length ∧ B i b) := by
  cases h with
  | lst B h1 h2 h3 h4 h5 h6 h7 => exact ⟨_, _, B, rfl, h1, h2, h3, h4, h5, h6, h7⟩
/-- children at a changed place stay -/
theorem Own.kid {K : PySem.W.Frag} {v : V} {t : T} {C : Addr → Prop} {a : Addr} {u : HO} (o : Own K F H v t C) (h : ¬ C a) : Own K F (upd H a u) v t C :=
  o.mono (Ex.refl F) fun b hb => ⟨(o.fp b hb).1, upd_ne fun e => h (e ▸ hb)⟩
end
section
variable {g : DX} {W : WX} {fx : List Nat} {X : Cx} {k : Nat} {e a b c : Expr} {fa fb : M D} {te : M T} {x : Str} {p pos apos cpos : Pos}
/-- slot i's list, and what becomes of it -/
def modL {α : Type} (i : Nat) (f : List T → Option (α × List T)) : M α := fun ρ =>
  match ρ[i]? with
  | some (.lst ts) => (match f ts with | some (r, ts') => .ok r (ρ.set i (.lst ts')) | none => .bad)
  | _ => .bad
def mAppend (i : Nat) (te : M T) : M D := bnd te fun t => modL i fun ts => if big (ts.length + 1) then some (.non, ts ++ [t]) else none
theorem modL_inv {α : Type} {i : Nat} {f : List T → Option (α × List T)} {ρ : Env} {P : R α → Prop} (h : P (modL i f ρ)) (hb : ¬ P .bad) : ∃ ts r ts', ρ[i]? = some (.lst ts) ∧ f ts = some (r, ts') ∧ P (.ok r (ρ.set i (.lst ts'))) := by
  unfold modL at h
  cases q : ρ[i]? with
  | none => simp only [q] at h; exact absurd h hb
  | some t =>
    cases t <;> (simp only [q] at h) <;> try exact absurd h hb
    rename_i ts
    cases z : f ts with
    | none => simp only [z] at h; exact absurd h hb
    | some r => obtain ⟨r, ts'⟩ := r; simp only [z] at h; exact ⟨ts, r, ts', rfl, z, h⟩
theorem tyL {K : PySem.W.Frag} {H : Hp} {a : Addr} {vs : List V} (h : H a = some (.lst vs)) : tyV K "list" (.ref a) H := Or.inl ⟨rfl, vs, SqL.of h⟩
/-- a slot whose later content is a list has had one before: the place is the slot's -/
def isL (i : Nat) : M Unit := fun ρ => match ρ[i]? with | some (.lst _) => .ok () ρ | _ => .bad
theorem isL_inv {i : Nat} {ρ : Env} {P : R Unit → Prop} (h : P (isL i ρ)) (hb : ¬ P .bad) : ∃ ts, ρ[i]? = some (.lst ts) ∧ P (.ok () ρ) := by
  unfold isL at h
  cases q : ρ[i]? with
  | none => simp only [q] at h; exact absurd h hb
  | some t =>
    cases t <;> (simp only [q] at h) <;> try exact absurd h hb
    exact ⟨_, rfl, h⟩
theorem Then.isL {σ : L2.St} {F H : Hp} {A : Addr → Prop} {i : Nat} {ρ : Env} {P : Unit → Env → Prop} (h : Then g W σ F H A (isL i ρ) P) : ∃ ts, ρ[i]? = some (.lst ts) ∧ P () ρ := by
  obtain ⟨ts, h1, h2⟩ := isL_inv (P := fun r => Then g W σ F H A r P) h id
  exact ⟨ts, h1, h2⟩
theorem dv_append (i : Nat) (he : DE g W X e te) (hK : X.K = g.K) (hN : X.N[i]? = some x := by rfl) (hv : Vis X.env.scope x := by first | exact Or.inl rfl | exact Or.inr (Or.inl rfl) | exact Or.inr (Or.inr rfl)) (hd : (x == ("__debug__" : Str)) = false := by decide) (hcd : (x == ("__classdict__" : Str)) = false := by decide)
    (hbase : attributeBase (.Name x p) "append" X.env (eval (.Name x p) X.env) = eval (.Name x p) X.env := by rfl)
    (hfew : ((backTo cpos (starEach (e :: []) X.env)).all (fun x => !x.1) && (backToKw cpos (keywordEach [] X.env)).all (fun x => x.1.isSome) && decide ((e :: []).length + ([] : List Keyword).length + (if ([] : List Keyword).isEmpty then 0 else 1) < 30)) = true := by rfl)
    (hline : (apos.endLine == cpos.line) = true := by rfl) (hs : starEach (e :: []) X.env = (false, eval e X.env) :: starEach [] X.env := by rfl) (hplain : (backTo cpos (starEach [] X.env)).any (·.1) = false := by rfl) :
    DV g W X (.Call (.Attribute (.Name x p) "append" apos) [e] [] cpos) (bnd (isL i) fun _ => mAppend i te) := by
  refine PEmono (pe_bm PySem.F.plainAttrs_list PySem.F.slot_list_append PySem.F.type_list_append mt_append (pe_var hN hv hd hcd) (pa_cons he pa_nil hs) hbase hfew hline hs hplain) fun σ H Q ⟨ρ, F, B, E, p⟩ => ?_
  obtain ⟨ts, h1, p⟩ := Then.isL p.bnd
  obtain ⟨v, hv, o⟩ := E.at_ i _ h1 (by simp)
  obtain ⟨a, vs, Bk, rfl, hf, hh, hl, hk, hd, hn, hA⟩ := o.lstI
  refine ⟨.ref a, hv, by rw [hK]; exact tyL hh, ?_⟩
  refine rdE.go E (p.bnd.mono fun t ρ1 q w F1 H1 B1 C E1 ow dw s => ?_)
  obtain ⟨ts, r, ts', h1, h2, h3⟩ := modL_inv (P := PostV g W σ F H (AllB B) Q) q id
  obtain ⟨hb, e2⟩ := ifSome h2
  cases e2
  obtain ⟨v', hv', o⟩ := E1.at_ i _ h1 (by simp)
  rw [hv] at hv'
  cases hv'
  obtain ⟨a', vs, Bk, ea, hf, hh, hl, hk, hd, hn, hA⟩ := o.lstI
  cases ea
  have ha : B1 i a := (hA a).mpr (.inl rfl)
  have nC : ∀ b, C b → ¬ B1 i b := fun b h z => dw b h ⟨i, z⟩
  have own : Own g.K F1 (upd H1 a (.lst (vs ++ [w]))) (.ref a) (.lst (ts ++ [t])) (fun b => B1 i b ∨ C b) := by
    refine .lst (fun j b => if j < ts.length then Bk j b else if j = ts.length then C b else False) hf upd_same (by simp [hl]) (fun j v u h1 h2 => ?_) (fun j k b h1 h2 => ?_) (fun j h => ?_) fun b => ?_
    · by_cases z : j < ts.length
      · rw [List.getElem?_append_left (by omega)] at h1
        rw [List.getElem?_append_left z] at h2
        exact ((hk j v u h1 h2).kid (hn j)).to fun b => by simp [z]
      · by_cases z2 : j = ts.length
        · subst z2
          rw [List.getElem?_append_right (by omega), hl, Nat.sub_self] at h1
          rw [List.getElem?_append_right (by omega), Nat.sub_self] at h2
          cases h1; cases h2
          exact (ow.kid fun h => nC a h ha).to fun b => by simp
        · rw [List.getElem?_eq_none (by simp; omega)] at h2; cases h2
    · split at h1 <;> split at h2
      · exact hd j k b h1 h2
      · split at h2
        · exact absurd ((hA b).mpr (.inr ⟨j, by assumption, h1⟩)) (nC b h2)
        · exact h2.elim
      · split at h1
        · exact absurd ((hA b).mpr (.inr ⟨k, by assumption, h2⟩)) (nC b h1)
        · exact h1.elim
      · split at h1
        · split at h2
          · omega
          · exact h2.elim
        · exact h1.elim
    · split at h
      · exact hn j h
      · split at h
        · exact nC a h ha
        · exact h
    · constructor
      · rintro (h | h)
        · rcases (hA b).mp h with rfl | ⟨j, hj, h⟩
          · exact .inl rfl
          · exact .inr ⟨j, by simp; omega, by rw [if_pos hj]; exact h⟩
        · exact .inr ⟨ts.length, by simp, by rw [if_neg (Nat.lt_irrefl _), if_pos rfl]; exact h⟩
      · rintro (rfl | ⟨j, hj, h⟩)
        · exact .inl ha
        · split at h
          · exact .inl ((hA b).mpr (.inr ⟨j, by assumption, h⟩))
          · split at h
            · exact .inr h
            · exact h.elim
  obtain ⟨E2, st⟩ := E1.mut h1 hv ha hh (.inl ⟨_, rfl⟩) (.inl ⟨_, rfl⟩) own fun b h => h.imp id fun h z => dw b h z
  refine ⟨a, vs, w, rfl, rfl, hh, ?_, ?_⟩
  · have := big_ok hb
    rw [hl]; omega
  · exact h3 .non F1 _ _ E2 .non (s.trans (st _ (fun b h => .inl h) fun b h => h.elim (fun h => .inl ⟨i, h⟩) .inr))
/-- x.pop() -/
def mPop (i : Nat) : M T := modL i fun ts => (ts.getLast?).map fun t => (t, ts.dropLast)
theorem de_pop (i : Nat) (hK : X.K = g.K) (hN : X.N[i]? = some x := by rfl) (hv : Vis X.env.scope x := by first | exact Or.inl rfl | exact Or.inr (Or.inl rfl) | exact Or.inr (Or.inr rfl)) (hd : (x == ("__debug__" : Str)) = false := by decide) (hcd : (x == ("__classdict__" : Str)) = false := by decide)
    (hbase : attributeBase (.Name x p) "pop" X.env (eval (.Name x p) X.env) = eval (.Name x p) X.env := by rfl) (hline : (apos.endLine == cpos.line) = true := by rfl) :
    DE g W X (.Call (.Attribute (.Name x p) "pop" apos) [] [] cpos) (mPop i) := by
  refine PEmono (pe_bm0 PySem.F.plainAttrs_list PySem.F.slot_list_pop PySem.F.type_list_pop mt_pop (pe_var hN hv hd hcd) hbase hline) fun σ H Q ⟨ρ, F, B, E, p⟩ => ?_
  obtain ⟨ts, r, ts', h1, h2, h3⟩ := modL_inv (P := PostE g W σ F H (AllB B) Q) p id
  obtain ⟨t, e1, e2⟩ := map_some h2
  cases e2
  obtain ⟨v, hv, o⟩ := E.at_ i _ h1 (by simp)
  obtain ⟨a, vs, Bk, rfl, hf, hh, hl, hk, hd, hn, hA⟩ := o.lstI
  have hne : ts ≠ [] := fun z => by subst z; cases e1
  have hpos : 0 < ts.length := List.length_pos_iff.mpr hne
  have ht : ts[ts.length - 1]? = some r := by rw [← List.getLast?_eq_getElem?]; exact e1
  obtain ⟨w, hw⟩ := getE hl ht
  refine ⟨.ref a, hv, by rw [hK]; exact tyL hh, a, vs, w, rfl, rfl, hh, by rw [hl]; exact hw, ?_⟩
  have ha : B i a := (hA a).mpr (.inl rfl)
  have own : Own g.K F (upd H a (.lst vs.dropLast)) (.ref a) (.lst ts.dropLast) (fun b => b = a ∨ ∃ j, j < ts.length - 1 ∧ Bk j b) := by
    refine .lst (fun j b => j < ts.length - 1 ∧ Bk j b) hf upd_same (by simp [hl]) (fun j v u h1 h2 => ?_) (fun j k b h1 h2 => hd j k b h1.2 h2.2) (fun j h => hn j h.2) fun b => by simp
    rw [List.getElem?_dropLast] at h1 h2
    split at h2 <;> try cases h2
    rename_i z
    rw [if_pos (by omega)] at h1
    exact ((hk j v u h1 h2).kid (hn j)).to fun b => by simp [z]
  obtain ⟨E2, st⟩ := E.mut h1 hv ha hh (.inl ⟨_, rfl⟩) (.inl ⟨_, rfl⟩) own fun b h => .inl ((hA b).mpr (h.imp id fun ⟨j, hj, h⟩ => ⟨j, by omega, h⟩))
  have ow := hk _ w r hw ht
  have hsub : ∀ b, (b = a ∨ ∃ j, j < ts.length - 1 ∧ Bk j b) → AllB B b := fun b h => ⟨i, (hA b).mpr (h.imp id fun ⟨j, hj, h⟩ => ⟨j, by omega, h⟩)⟩
  have st2 := st (AllB B) (fun b h => h) hsub
  refine h3 w F _ _ (Bk (ts.length - 1)) E2 (ow.kid (hn _)) (fun b hb ⟨j, h⟩ => ?_) ⟨st2.ff, st2.hx, st2.hh, fun b h => ?_, st2.fz, st2.lv⟩
  · unfold setB at h
    split at h
    · rcases h with rfl | ⟨l, hl, h⟩
      · exact hn _ hb
      · have := hd _ _ b hb h; omega
    · rename_i z
      exact z (E.dis j i b h ((hA b).mpr (.inr ⟨_, by omega, hb⟩)))
  · rcases h with h | h
    · exact st2.fr b h
    · exact .inl ⟨i, (hA b).mpr (.inr ⟨_, by omega, h⟩)⟩
end
end Mi

end
section
set_option Elab.async false
set_option autoImplicit false
set_option linter.all false
set_option maxRecDepth 100000
set_option maxHeartbeats 1000000
/-! Mi, 9: lists in slots, further. -/
namespace Mi
open PySem L2
section
variable {g : DX} {W : WX} {fx : List Nat} {X : Cx} {k : Nat} {e a b c : Expr} {fa fb : M D} {te : M T} {x : Str} {p pos apos cpos : Pos} {F H : Hp}
theorem Own.app {a : Addr} {vs ws : List V} {ts : List T} {ds : List D} {A : Addr → Prop} (o : Own g.K F H (.ref a) (.lst ts) A) (hh : H a = some (.lst vs)) (hl2 : ws.length = ds.length) (hr : ∀ (i : Nat) (v : V) (d : D), ws[i]? = some v → ds[i]? = some d → Rep g.K F v d) :
    Own g.K F (upd H a (.lst (vs ++ ws))) (.ref a) (.lst (ts ++ ds.map .sh)) A := by
  obtain ⟨a', vs', Bk, ea, hf, hh', hl, hk, hd, hn, hA⟩ := o.lstI
  cases ea
  rw [hh] at hh'; cases hh'
  refine .lst (fun j b => j < ts.length ∧ Bk j b) hf upd_same (by simp [hl, hl2]) (fun j v u h1 h2 => ?_) (fun j k b h1 h2 => hd j k b h1.2 h2.2) (fun j h => hn j h.2) fun b => ?_
  · by_cases z : j < ts.length
    · rw [List.getElem?_append_left (by omega)] at h1
      rw [List.getElem?_append_left z] at h2
      exact ((hk j v u h1 h2).kid (hn j)).to fun b => by simp [z]
    · rw [List.getElem?_append_right (by omega)] at h1
      rw [List.getElem?_append_right (by omega), List.getElem?_map, ← hl] at h2
      cases q : ds[j - vs.length]? with
      | none => rw [q] at h2; cases h2
      | some d => rw [q] at h2; cases h2; exact .sh (hr _ v d h1 q) fun b h => z h.1
  · rw [hA b]
    constructor
    · rintro (h | ⟨j, hj, h⟩)
      · exact .inl h
      · exact .inr ⟨j, by simp; omega, hj, h⟩
    · rintro (h | ⟨j, _, hj, h⟩)
      · exact .inl h
      · exact .inr ⟨j, hj, h⟩
theorem Own.set {a : Addr} {vs : List V} {ts : List T} {A C : Addr → Prop} {j : Nat} {w : V} {t : T} (o : Own g.K F H (.ref a) (.lst ts) A) (hh : H a = some (.lst vs)) (ow : Own g.K F H w t C) (hj : j < ts.length) (dC : ∀ b, C b → ¬ A b) :
    ∃ A' : Addr → Prop, Own g.K F (upd H a (.lst (vs.set j w))) (.ref a) (.lst (ts.set j t)) A' ∧ ∀ b, A' b → A b ∨ C b := by
  obtain ⟨a', vs', Bk, ea, hf, hh', hl, hk, hd, hn, hA⟩ := o.lstI
  cases ea
  rw [hh] at hh'; cases hh'
  have nA : A a := (hA a).mpr (.inl rfl)
  refine ⟨fun b => b = a ∨ ∃ i, i < ts.length ∧ (if i = j then C b else Bk i b), .lst (fun i b => i < ts.length ∧ (if i = j then C b else Bk i b)) hf upd_same (by simp [hl]) (fun i v u h1 h2 => ?_) (fun i k b h1 h2 => ?_) (fun i h => ?_) fun b => ?_, fun b h => ?_⟩
  · by_cases z : i = j
    · subst z
      rw [List.getElem?_set_self (by omega)] at h1
      rw [List.getElem?_set_self hj] at h2
      cases h1; cases h2
      exact (ow.kid fun h => dC a h nA).to fun b => by simp [hj]
    · rw [List.getElem?_set_ne (Ne.symm z)] at h1 h2
      have hi := (List.getElem?_eq_some_iff.mp h2).1
      exact ((hk i v u h1 h2).kid (hn i)).to fun b => by simp [z, hi]
  · obtain ⟨l1, h1⟩ := h1
    obtain ⟨l2, h2⟩ := h2
    split at h1 <;> split at h2
    · rename_i e1 e2; rw [e1, e2]
    · exact absurd ((hA b).mpr (.inr ⟨k, l2, h2⟩)) (dC b h1)
    · exact absurd ((hA b).mpr (.inr ⟨i, l1, h1⟩)) (dC b h2)
    · exact hd i k b h1 h2
  · obtain ⟨l1, h⟩ := h
    split at h
    · exact dC a h nA
    · exact hn i h
  · simp
  · rcases h with rfl | ⟨i, hi, h⟩
    · exact .inl nA
    · split at h
      · exact .inr h
      · exact .inl ((hA b).mpr (.inr ⟨i, hi, h⟩))
/-- x.extend(e) -/
def mExtend (i : Nat) (fa : M D) : M D := bnd fa fun d => modL i fun ts => match d with | .lst ds => if big (ts.length + ds.length) then some (.non, ts ++ ds.map .sh) else none | _ => none
theorem dv_extend (i : Nat) (he : DV g W X e fa) (hK : X.K = g.K) (hN : X.N[i]? = some x := by rfl) (hv : Vis X.env.scope x := by first | exact Or.inl rfl | exact Or.inr (Or.inl rfl) | exact Or.inr (Or.inr rfl)) (hd : (x == ("__debug__" : Str)) = false := by decide) (hcd : (x == ("__classdict__" : Str)) = false := by decide)
    (hbase : attributeBase (.Name x p) "extend" X.env (eval (.Name x p) X.env) = eval (.Name x p) X.env := by rfl)
    (hfew : ((backTo cpos (starEach (e :: []) X.env)).all (fun x => !x.1) && (backToKw cpos (keywordEach [] X.env)).all (fun x => x.1.isSome) && decide ((e :: []).length + ([] : List Keyword).length + (if ([] : List Keyword).isEmpty then 0 else 1) < 30)) = true := by rfl)
    (hline : (apos.endLine == cpos.line) = true := by rfl) (hs : starEach (e :: []) X.env = (false, eval e X.env) :: starEach [] X.env := by rfl) (hplain : (backTo cpos (starEach [] X.env)).any (·.1) = false := by rfl) :
    DV g W X (.Call (.Attribute (.Name x p) "extend" apos) [e] [] cpos) (bnd (isL i) fun _ => mExtend i fa) := by
  refine PEmono (pe_bm PySem.F.plainAttrs_list PySem.F.slot_list_extend PySem.F.type_list_extend mt_extend (pe_var hN hv hd hcd) (pa_cons he pa_nil hs) hbase hfew hline hs hplain) fun σ H Q ⟨ρ, F, B, E, p⟩ => ?_
  obtain ⟨ts, h1, p⟩ := Then.isL p.bnd
  obtain ⟨v, hv, o⟩ := E.at_ i _ h1 (by simp)
  obtain ⟨a, vs, Bk, rfl, hf, hh, hl, hk, hd, hn, hA⟩ := o.lstI
  refine ⟨.ref a, hv, by rw [hK]; exact tyL hh, ?_⟩
  refine rdV.go E (p.bnd.mono fun d ρ1 q w F1 H1 B1 E1 rw_ s => ?_)
  obtain ⟨ts, r, ts', h1, h2, h3⟩ := modL_inv (P := PostV g W σ F H (AllB B) Q) q id
  cases d <;> try cases h2
  rename_i ds
  obtain ⟨hb, e2⟩ := ifSome h2
  cases e2
  obtain ⟨v', hv', o⟩ := E1.at_ i _ h1 (by simp)
  rw [hv] at hv'
  cases hv'
  obtain ⟨a', vs, Bk, ea, hf, hh, hl, hk, hd, hn, hA⟩ := o.lstI
  cases ea
  have ha : B1 i a := (hA a).mpr (.inl rfl)
  cases rw_ with
  | @lst b zs _ hF hl2 hr2 =>
    obtain ⟨E2, st⟩ := E1.mut h1 hv ha hh (.inl ⟨_, rfl⟩) (.inl ⟨_, rfl⟩) (o.app hh hl2 hr2) fun b h => .inl h
    exact ⟨a, b, vs, zs, rfl, rfl, hh, E1.sub.lst hF, by rw [hl, hl2]; exact big_ok hb, h3 .non F1 _ _ E2 .non (s.trans (st _ (fun b h => h) fun b h => ⟨i, h⟩))⟩
theorem PostX.less {σ : L2.St} {A A' : Addr → Prop} {c : Exc} {ρ : Env} (h : ∀ a, A a → A' a) (p : PostX g W σ F H A' c ρ) : PostX g W σ F H A c ρ := fun F' H' B' E s => p F' H' B' E (s.more h)
theorem Then.less {α : Type} {σ : L2.St} {A A' : Addr → Prop} {r : R α} {P : α → Env → Prop} (h : ∀ a, A a → A' a) (p : Then g W σ F H A' r P) : Then g W σ F H A r P := by
  cases r with
  | ok a ρ => exact p
  | exc c ρ => exact PostX.less h p
  | bad => exact p
/-- x[j] = e -/
def mSetI (i : Nat) (te : M T) (fj : M D) : SM := sbnd te fun t => sbnd (isL i) fun _ => sbnd fj fun d => sbnd (modL i fun ts => match d with | .int j => (ixN ts.length j).map fun n => ((), ts.set n t) | _ => none) fun _ => .nx
theorem ds_setI (i : Nat) {j : Expr} {pos' : Pos} (he : DE g W X e te) (hj : DV g W X j fb) (hN : X.N[i]? = some x := by rfl) (hv : Vis X.env.scope x := by first | exact Or.inl rfl | exact Or.inr (Or.inl rfl) | exact Or.inr (Or.inr rfl)) (hd : (x == ("__debug__" : Str)) = false := by decide) (hcd : (x == ("__classdict__" : Str)) = false := by decide)
    (ha : ∀ v, assign (.Subscript (.Name x p) j pos') X.env v = (do
      let ov ← holding [v] (eval (.Name x p) X.env)
      let iv ← holding [v, ov] (eval j X.env)
      standAt pos'
      holding [v, ov, iv] (setItem ov iv v)
      release [v, ov, iv] []) := by intro _; rfl)
    (hs : swapsWithSole [.Subscript (.Name x p) j pos'] e pos.line X.env = pure false := by rfl) (hw : swappedStores [.Subscript (.Name x p) j pos'] e X.env = pure none := by rfl) (h1 : (assignEach [.Subscript (.Name x p) j pos'] X.env).map (·.2) = [assign (.Subscript (.Name x p) j pos') X.env] := by rfl) :
    DS g W fx X (.Assign [.Subscript (.Name x p) j pos'] e pos) (mSetI i te fb) := by
  refine PSmono (ps_asg he (pg_sub (pe_var hN hv hd hcd) hj set_list ha) hs hw h1) fun D σ H ⟨ρ, F, B, E, p⟩ => rdE.go E (p.sbnd.mono fun t ρ1 q w F1 H1 B1 C E1 ow dw s => ?_)
  obtain ⟨ts, h1, q⟩ := Then.isL q.sbnd
  obtain ⟨v, hv, o⟩ := E1.at_ i _ h1 (by simp)
  obtain ⟨a, vs, Bk, rfl, hf, hh, hl, hk, hd, hn, hA⟩ := o.lstI
  refine ⟨.ref a, hv, ?_⟩
  refine rdV.go E1 (Then.less (fun _ h => Or.inl h) ((PostS.step s (.refl fx σ) q).sbnd.mono fun d ρ2 q2 y F2 H2 B2 E2 ry s2 => ?_))
  have ow2 := ow.step s2 dw
  have dw2 := s2.apart ow.live dw
  have q3 := q2.sbnd
  obtain ⟨ts, r, ts', h1, h2, h3⟩ := modL_inv (P := fun z => Then g W σ F1 H1 (fun b => AllB B1 b ∨ C b) z _) q3 id
  cases d <;> try cases h2
  rename_i j
  obtain ⟨n, e1, e2⟩ := map_some h2
  cases e2
  cases ry
  obtain ⟨v', hv', o⟩ := E2.at_ i _ h1 (by simp)
  rw [hv] at hv'
  cases hv'
  obtain ⟨a', vs, Bk, ea, hf, hh, hl, hk, hd, hn, hA⟩ := o.lstI
  cases ea
  have ha : B2 i a := (hA a).mpr (.inl rfl)
  have hj : n < ts.length := (ixN_seq e1).2.1
  obtain ⟨A', o2, sub⟩ := o.set hh ow2 hj fun b h z => dw2 b h ⟨i, z⟩
  obtain ⟨E3, st⟩ := E2.mut h1 hv ha hh (.inl ⟨_, rfl⟩) (.inl ⟨_, rfl⟩) o2 fun b h => (sub b h).imp id (dw2 b)
  refine ⟨a, vs, j, n, rfl, rfl, hh, by rw [hl]; exact e1, ?_⟩
  refine h3 σ F2 _ _ E3 ?_ (.refl fx σ)
  have s3 : Step F1 H1 (fun b => AllB B1 b ∨ C b) F2 H2 (fun b => AllB B2 b ∨ C b) := by
    have m := s2.more (A' := fun b => AllB B1 b ∨ C b) fun b h => .inl h
    exact ⟨m.ff, m.hx, m.hh, fun b h => h.elim (fun h => (s2.fr b h).imp .inl id) fun h => .inl (.inr h), m.fz, m.lv⟩
  exact s3.trans (st _ (fun b h => .inl h) fun b h => (sub b h).imp (fun h => ⟨i, h⟩) id)
/-! ### asked without sharing -/
/-- a slot's list or shared thing asked by place -/
def mIx (i : Nat) (fj : M D) : M D := bnd fj fun d ρ =>
  match ρ[i]? with
  | some (.sh x) => opt (fIx x d) ρ
  | some (.lst ts) => (match d with | .int j => (match atI ts j with | some (.sh y) => .ok y ρ | _ => .bad) | _ => .bad)
  | _ => .bad
def isU (i : Nat) : M Unit := fun ρ => match ρ[i]? with | some .un => .bad | some _ => .ok () ρ | none => .bad
theorem Then.isU {σ : L2.St} {F H : Hp} {A : Addr → Prop} {i : Nat} {ρ : Env} {P : Unit → Env → Prop} (h : Then g W σ F H A (isU i ρ) P) : ∃ t, ρ[i]? = some t ∧ t ≠ .un ∧ P () ρ := by
  unfold Mi.isU at h
  cases q : ρ[i]? with
  | none => simp only [q] at h; exact h.elim
  | some t =>
    cases t <;> (simp only [q] at h) <;> first | exact h.elim | exact ⟨_, rfl, by simp, h⟩
theorem dv_ixP (i : Nat) (hj : DV g W X b fb) (hK : X.K = g.K) (hs : PlainIx b := by exact fun _ _ => rfl) (hN : X.N[i]? = some x := by rfl) (hv : Vis X.env.scope x := by first | exact Or.inl rfl | exact Or.inr (Or.inl rfl) | exact Or.inr (Or.inr rfl)) (hd : (x == ("__debug__" : Str)) = false := by decide) (hcd : (x == ("__classdict__" : Str)) = false := by decide) :
    DV g W X (.Subscript (.Name x p) b pos) (bnd (isU i) fun _ => mIx i fb) := by
  refine PEmono (pe_ix (hK ▸ ix_seq) (pe_var hN hv hd hcd) hj hs) fun σ H Q ⟨ρ, F, B, E, p⟩ => ?_
  obtain ⟨t, h1, hu, p⟩ := Then.isU p.bnd
  obtain ⟨v, hv, o⟩ := E.at_ i t h1 hu
  refine ⟨v, hv, rdV.go E (p.bnd.mono fun d ρ1 q y F1 H1 B1 E1 ry s => ?_)⟩
  cases h : ρ1[i]? with
  | none => simp only [h] at q; exact q.elim
  | some t1 =>
    cases t1 with
    | un => simp only [h] at q; exact q.elim
    | dct _ _ => simp only [h] at q; exact q.elim
    | sh x =>
      simp only [h] at q
      obtain ⟨r, hr, q⟩ := PostV.opt q
      obtain ⟨v', hv', o⟩ := E1.at_ i _ h (by simp)
      rw [hv] at hv'; cases hv'
      cases o with
      | sh r0 n => exact op2_ix F1 H1 v y x d r Q E1.sub r0 ry hr fun v3 F3 H3 l r3 => q v3 F3 H3 B1 (l.env E1) r3 (s.trans l.step)
    | lst ts =>
      simp only [h] at q
      cases ry <;> try exact q.elim
      rename_i j
      cases z : atI ts j with
      | none => simp only [z] at q; exact q.elim
      | some t =>
        cases t <;> (simp only [z] at q) <;> try exact q.elim
        rename_i y
        obtain ⟨v', hv', o⟩ := E1.at_ i _ h (by simp)
        rw [hv] at hv'; cases hv'
        obtain ⟨a, vs, Bk, rfl, hf, hh, hl, hk, hd, hn, hA⟩ := o.lstI
        obtain ⟨n, z1, z2⟩ := atI_some z
        obtain ⟨w, hw⟩ := getE hl z2
        have ow := hk n w _ hw z2
        cases ow with
        | sh rw_ _ =>
          refine .inl ⟨a, vs, j, w, rfl, rfl, SqL.of hh, ?_, q w F1 H1 B1 E1 rw_ s⟩
          unfold atI
          rw [hl, z1]
          exact hw
/-- len of a slot's list -/
def mLen (i : Nat) : M D := fun ρ =>
  match ρ[i]? with
  | some (.sh x) => opt (fLen x) ρ
  | some (.lst ts) => .ok (.int ts.length) ρ
  | _ => .bad
theorem dv_lenP (i : Nat) (O : Ok g k X) (hN : X.N[i]? = some x := by rfl) (hv : Vis X.env.scope x := by first | exact Or.inl rfl | exact Or.inr (Or.inl rfl) | exact Or.inr (Or.inr rfl)) (hd : (x == ("__debug__" : Str)) = false := by decide) (hcd : (x == ("__classdict__" : Str)) = false := by decide)
    {p2 : Pos} (hg : Gl X "len" := by rfl) (hs : starEach [.Name x p2] X.env = (false, eval (.Name x p2) X.env) :: starEach [] X.env := by rfl) (hpl : (backTo pos (starEach [] X.env)).any (·.1) = false := by rfl) : DV g W X (.Call (.Name "len" p) [.Name x p2] [] pos) (mLen i) := by
  refine PEmono (pe_callB (O.K ▸ call_len) hg (O.nob _ (by decide)) (by decide +kernel) (pa_cons (pe_var hN hv hd hcd) pa_nil hs) (he := hs) (hpl := hpl)) fun σ H Q ⟨ρ, F, B, E, p⟩ => ?_
  unfold mLen at p
  cases h : ρ[i]? with
  | none => simp only [h] at p; exact p.elim
  | some t1 =>
    cases t1 with
    | un => simp only [h] at p; exact p.elim
    | dct _ _ => simp only [h] at p; exact p.elim
    | sh x =>
      simp only [h] at p
      obtain ⟨d, hd, q⟩ := PostV.opt p
      obtain ⟨v, hv, o⟩ := E.at_ i _ h (by simp)
      cases o with
      | sh r0 n =>
        obtain ⟨n, h1, rfl⟩ := lenV E.sub r0 hd
        exact ⟨v, hv, v, n, rfl, h1, q _ F H B E .int Step.refl⟩
    | lst ts =>
      simp only [h] at p
      obtain ⟨v, hv, o⟩ := E.at_ i _ h (by simp)
      obtain ⟨a, vs, Bk, rfl, hf, hh, hl, hk, hd, hn, hA⟩ := o.lstI
      exact ⟨_, hv, _, ts.length, rfl, .inl ⟨vs, SqL.of hh, hl.symm⟩, p _ F H B E .int Step.refl⟩
end
end Mi

end
section
set_option Elab.async false
set_option autoImplicit false
set_option linter.all false
set_option maxRecDepth 100000
set_option maxHeartbeats 1000000
/-! Mi, 10: defs and their calls. -/
namespace Mi
open PySem L2

/-- what a def makes of shared arguments -/
inductive Out where
  | ret (t : T)
  | exc (c : Exc)
  | bad
/-- what a def makes of a thing that it changes, and of shared arguments -/
inductive OutS where
  | ret (t s : T)
  | exc (c : Exc) (s : T)
  | bad
def WxE (g : DX) (E : XK) (c : Exc) (H : Hp) : Prop := Wx g (fun cls d _ H => E cls d H) c [] H
section
variable (g : DX)
def spP (m : List D → Out) (n : Nat) : Sp := fun vs H Q E => vs.length = n ∧ ∃ F ds, Sub F H ∧ LamX.Tabs g.Tb H ∧ vs.length = ds.length ∧ (∀ (i : Nat) v d, vs[i]? = some v → ds[i]? = some d → Rep g.K F v d) ∧
  match m ds with
  | .ret t => ∀ v F' H' C, Sub F' H' → LamX.Tabs g.Tb H' → Own g.K F' H' v t C → Step F H (fun _ => False) F' H' C → Q v H'
  | .exc c => ∀ F' H', Sub F' H' → LamX.Tabs g.Tb H' → Step F H (fun _ => False) F' H' (fun _ => False) → WxE g E c H'
  | .bad => False
def spS (m : T → List D → OutS) (n : Nat) : Sp := fun vs H Q E => vs.length = n + 1 ∧ ∃ F v0 ws t0 A0 ds, vs = v0 :: ws ∧ Sub F H ∧ LamX.Tabs g.Tb H ∧ Own g.K F H v0 t0 A0 ∧ ws.length = ds.length ∧ (∀ (i : Nat) v d, ws[i]? = some v → ds[i]? = some d → Rep g.K F v d) ∧
  match m t0 ds with
  | .ret t s => ∀ v F' H' C A', Sub F' H' → LamX.Tabs g.Tb H' → Own g.K F' H' v t C → Own g.K F' H' v0 s A' → (∀ a, C a → ¬ A' a) → Step F H A0 F' H' (fun a => A' a ∨ C a) → Q v H'
  | .exc c s => ∀ F' H' A', Sub F' H' → LamX.Tabs g.Tb H' → Own g.K F' H' v0 s A' → Step F H A0 F' H' A' → WxE g E c H'
  | .bad => False
end
/-- a def's promise, no guard around -/
structure FnG (P : Program) (w : World) (K : PySem.W.Frag) (mg : Str → Option Value) (base : Heap) (CX : CXT) (k : Nat) (f : Addr) (fd : FuncData) (ps : List Str) (sp : Sp) : Prop where
  len : ∀ vs H Q E, sp vs H Q E → vs.length = ps.length
  run : ∀ (A : Around) (outer : List PySem.Env) (s : Shared) (H : Hp) (args : Args) (us : List Value) (vs : List V) (Q : VK) (E : XK), RoomG k A → Env0 P w K mg base A outer s H → BindsTo s fd args (ps.zip us) → Vals vs us → sp vs H Q E →
    codeAny (model P w) A (.call (.ref f) args) (CR CX outer P w H s Q E) s
section
variable {X : Cx} {pins : List (Addr × Obj)} {σ : L2.St} {H : Hp} {s : Shared} {Q : VK} {us : List Value} {vs : List V} {CX : CXT} {k : Nat} {f : Addr} {fd : FuncData} {ps : List Str} {sp : Sp} {E : L2.St → XK} {x : Str} {e : Expr} {es : List Expr} {t : TA} {p pos : Pos}
theorem run_fnG {E : XK} (F : FnG X.prog X.w X.K X.mg X.base CX k f fd ps sp) (hr : RoomG k X.A) (hb : Binds X.K fd ps []) (hx : PassesAt CX X σ E)
    (I : Inv X pins σ H s) (r : Vals vs us) (h : sp vs H Q E) : wpAny (model X.prog X.w) X.A (PySem.call (.ref f) us) (EP X pins σ Q) X.xe s := by
  have hl : us.length = ps.length := by rw [← r.length]; exact F.len _ _ _ _ h
  refine wpAny_call (codeAny_mono (F.run X.A X.stack s H ⟨us, []⟩ us vs Q E hr I.env0 (by simpa using hb s us I.kIn (by simpa using hl)) r h) fun r s' hq => ?_)
  cases r with
  | error e => exact hx pins H s e s' I hq
  | ok fl =>
    cases fl with
    | ret u => exact I.after hq
    | next => exact False.elim hq
    | brk => exact False.elim hq
    | cont => exact False.elim hq
theorem pe_callG (F : FnG X.prog X.w X.K X.mg X.base CX k f fd ps sp) (hr : RoomG k X.A) (hg : Gl X x) (hm : X.mg x = some (.ref f)) (hk : PySem.W.keepIn X.K (.ref f) = true) (hb : Binds X.K fd ps []) (hx : ∀ σ, PassesAt CX X σ (E σ))
    (ha : PA X (e :: es) t) (hdb : (x == ("__debug__" : Str)) = false := by decide) (he : starEach (e :: es) X.env = (false, eval e X.env) :: starEach es X.env := by rfl) (hpl : (backTo pos (starEach es X.env)).any (·.1) = false := by rfl) :
    PE X (.Call (.Name x p) (e :: es) [] pos) (tCallS sp E t) := by
  refine ⟨fun pins s σ H Q I h => ?_⟩
  refine wpAny_Call_Name_kw (ld_glob I hg hm ?_ hdb)
  refine PySem.W.callWith_K (h₀ := X.base) I.ok.mod.kin hk (thn (ha.run pos pins s σ H _ I h) fun us s1 ⟨vs, H1, I1, r, q⟩ => ⟨I1.kIn, ?_⟩) he hpl
  exact run_fnG F hr hb (hx σ) I1 r q
end
/-- the def x means m (at level j) -/
def DefP (g : DX) (P : Program) (w : World) (mg : Str → Option Value) (base : Heap) (j : Nat) (x : Str) (n : Nat) (m : List D → Out) : Prop :=
  ∃ f fd ps, FnG P w g.K mg base (L2N.CX P w) j f fd ps (spP g m n) ∧ mg x = some (.ref f) ∧ PySem.W.keepIn g.K (.ref f) = true ∧ Binds g.K fd ps []
def DefS (g : DX) (P : Program) (w : World) (mg : Str → Option Value) (base : Heap) (j : Nat) (x : Str) (n : Nat) (m : T → List D → OutS) : Prop :=
  ∃ f fd ps, FnG P w g.K mg base (L2N.CX P w) j f fd ps (spS g m n) ∧ mg x = some (.ref f) ∧ PySem.W.keepIn g.K (.ref f) = true ∧ Binds g.K fd ps []
def callP (m : List D → Out) (a : M (List D)) : M T := bnd a fun ds ρ =>
  match m ds with
  | .ret t => .ok t ρ
  | .exc c => .exc c ρ
  | .bad => .bad
section
variable {g : DX} {W : WX} {X : Cx} {j k n : Nat} {e : Expr} {es : List Expr} {ml : M (List D)} {m : List D → Out} {x : Str} {p pos : Pos} {σ : L2.St} {F H F' H' : Hp} {ρ : Env} {B : Nat → Addr → Prop}
/-- the slots behind a call that changes none of their things -/
theorem EnvR.call {C : Addr → Prop} (E : EnvR g.K g.Tb F H σ ρ B) (s : Sub F' H') (tb : LamX.Tabs g.Tb H') (st : Step F H (fun _ => False) F' H' C) : EnvR g.K g.Tb F' H' σ ρ B ∧ (∀ a, C a → ¬ AllB B a) ∧ Step F H (AllB B) F' H' (fun a => AllB B a ∨ C a) := by
  have fr : ∀ a, C a → ¬ AllB B a := fun a h z => by
    rcases st.fr a h with q | q
    · exact q
    · exact E.live a z q
  refine ⟨⟨s, E.len, fun i t hi hu => ?_, E.no, E.dis, tb⟩, fr, ?_⟩
  · obtain ⟨v, hv, o⟩ := E.at_ i t hi hu
    exact ⟨v, hv, o.step st fun _ _ h => h⟩
  · have m := st.more (A' := AllB B) fun _ h => h.elim
    exact ⟨m.ff, m.hx, m.hh, fun a h => h.elim .inl fun h => m.fr a h, m.fz, m.lv⟩
theorem wxE {E : XK} {c : Exc} (h : WxE g E c H) (q : ∀ cls d, E cls d H → W cls d σ H) : Wx g W c σ H := by
  unfold WxE Wx at h
  unfold Wx
  cases z : c.load with
  | none => simp only [z] at h ⊢; exact q _ _ h
  | some p => simp only [z] at h ⊢; exact fun d hd => q _ _ (h d hd)
theorem wxW {c : Exc} (h : Wx g W c σ H) : WxE g (WE W σ) c H := by
  unfold WxE Wx
  unfold Wx at h
  cases z : c.load with
  | none => simp only [z] at h ⊢; exact h
  | some p => simp only [z] at h ⊢; exact h
theorem callP_ok {vs : List V} {ds : List D} {Q : VK} (E : EnvR g.K g.Tb F H σ ρ B) (hn : vs.length = n) (hl : vs.length = ds.length) (hr : ∀ (i : Nat) v d, vs[i]? = some v → ds[i]? = some d → Rep g.K F v d)
    (q : PostE g W σ F H (AllB B) Q (match m ds with | .ret t => .ok t ρ | .exc c => .exc c ρ | .bad => .bad)) : spP g m n vs H Q (WE W σ) := by
  refine ⟨hn, F, ds, E.sub, E.tabs, hl, hr, ?_⟩
  cases z : m ds with
  | ret t =>
    simp only [z] at q ⊢
    intro v F' H' C s tb o st
    obtain ⟨E', fr, st'⟩ := E.call s tb st
    exact q v F' H' B C E' o fr st'
  | exc c =>
    simp only [z] at q ⊢
    intro F' H' s tb st
    obtain ⟨E', fr, st'⟩ := E.call s tb st
    exact wxW (q F' H' B E' (st'.less fun a h => .inl h))
  | bad => simp only [z] at q ⊢; exact q
theorem de_call (D : DefP g X.prog X.w X.mg X.base j x n m) (hK : X.K = g.K) (hr : RoomG j X.A) (tk : L2N.Takes X W) (ha : DA g W X (e :: es) ml) (hn : (e :: es).length = n := by rfl) (hg : Gl X x := by rfl) (hdb : (x == ("__debug__" : Str)) = false := by decide)
    (he : starEach (e :: es) X.env = (false, eval e X.env) :: starEach es X.env := by rfl) (hpl : (backTo pos (starEach es X.env)).any (·.1) = false := by rfl) (hml : ∀ ρ ds ρ', ml ρ = .ok ds ρ' → ds.length = n) : DE g W X (.Call (.Name x p) (e :: es) [] pos) (callP m ml) := by
  obtain ⟨f, fd, ps, Fn, hm, hk, hb⟩ := D
  rw [← hK] at Fn hk hb
  refine PEmono (pe_callG Fn hr hg hm hk hb (fun σ => L2N.passAt tk σ) ha hdb he hpl) fun σ H Q ⟨ρ, F, B, E, p⟩ => ?_
  have hlen := hml ρ
  refine rdL.go E ?_
  have q := p.bnd
  revert q hlen
  cases ml ρ with
  | bad => exact fun _ q => q
  | exc c ρ => exact fun _ q => q
  | ok ds ρ1 =>
    intro hlen q vs F1 H1 B1 E1 hl rs s
    have z := hlen ds ρ1 rfl
    exact callP_ok E1 (hl.trans z) hl rs (PostE.step s q)
theorem len_nil : ∀ ρ ds ρ', (pur [] : M (List D)) ρ = .ok ds ρ' → ds.length = 0 := fun ρ ds ρ' h => by cases h; rfl
theorem len_cons {a : M D} {r : M (List D)} {n : Nat} (h : ∀ ρ ds ρ', r ρ = .ok ds ρ' → ds.length = n) : ∀ ρ ds ρ', cons1 a r ρ = .ok ds ρ' → ds.length = n + 1 := fun ρ ds ρ' e => by
  unfold cons1 bnd at e
  cases z : a ρ with
  | bad => simp only [z] at e; cases e
  | exc c ρ1 => simp only [z] at e; cases e
  | ok d ρ1 =>
    simp only [z] at e
    cases z2 : r ρ1 with
    | bad => simp only [z2] at e; cases e
    | exc c ρ1 => simp only [z2] at e; cases e
    | ok ds2 ρ2 => simp only [z2] at e; cases e; rw [List.length_cons, h ρ1 ds2 _ z2]
/-! a def that changes its first argument, a slot's own thing -/
def callS (i : Nat) (m : T → List D → OutS) (a : M (List D)) : M T := bnd (isU i) fun _ => bnd a fun ds ρ =>
  match ρ[i]? with
  | none => .bad
  | some t0 =>
    match t0, m t0 ds with
    | .un, _ => .bad
    | _, .ret t s => .ok t (ρ.set i s)
    | _, .exc c s => .exc c (ρ.set i s)
    | _, .bad => .bad
theorem EnvR.callS {i : Nat} {t0 s0 : T} {v0 : V} {C A' : Addr → Prop} (E : EnvR g.K g.Tb F H σ ρ B) (hi : ρ[i]? = some t0) (hv : σ[i]? = some (some v0)) (s : Sub F' H') (tb : LamX.Tabs g.Tb H') (o : Own g.K F' H' v0 s0 A') (st : Step F H (B i) F' H' (fun a => A' a ∨ C a)) (dC : ∀ a, C a → ¬ A' a) :
    EnvR g.K g.Tb F' H' σ (ρ.set i s0) (setB B i A') ∧ (∀ a, C a → ¬ AllB (setB B i A') a) ∧ Step F H (AllB B) F' H' (fun a => AllB (setB B i A') a ∨ C a) := by
  have il : i < ρ.length := (List.getElem?_eq_some_iff.mp hi).1
  have ap : ∀ a, (A' a ∨ C a) → ∀ j, j ≠ i → ¬ B j a := fun a h j hj z => by
    rcases st.fr a h with q | q
    · exact hj (E.dis j i a z q)
    · exact E.live a ⟨j, z⟩ q
  refine ⟨⟨s, by simpa using E.len, fun j u hj hu => ?_, fun j hj a => ?_, fun j k a h1 h2 => ?_, tb⟩, fun a h ⟨j, z⟩ => ?_, ?_⟩
  · by_cases e : j = i
    · subst e
      rw [List.getElem?_set_self il] at hj
      cases hj
      exact ⟨v0, hv, o.to fun b => by unfold setB; rw [if_pos rfl]⟩
    · rw [List.getElem?_set_ne (Ne.symm e)] at hj
      obtain ⟨w, hw, o2⟩ := E.at_ j u hj hu
      exact ⟨w, hw, (o2.step st fun a h z => e (E.dis j i a h z)).to fun b => by unfold setB; rw [if_neg e]⟩
  · by_cases e : j = i
    · subst e
      rw [List.getElem?_set_self il] at hj
      rcases hj with hj | hj
      · cases hj
      · cases hj; cases o
    · rw [List.getElem?_set_ne (Ne.symm e)] at hj
      unfold setB; rw [if_neg e]
      exact E.no j hj a
  · unfold setB at h1 h2
    split at h1 <;> split at h2
    · rename_i e1 e2; rw [e1, e2]
    · exact absurd h2 (ap a (.inl h1) k (by assumption))
    · exact absurd h1 (ap a (.inl h2) j (by assumption))
    · exact E.dis j k a h1 h2
  · unfold setB at z
    split at z
    · exact dC a h z
    · exact ap a (.inr h) j (by assumption) z
  · have m := st.more (A' := AllB B) fun a h => ⟨i, h⟩
    refine ⟨m.ff, m.hx, m.hh, fun a h => ?_, m.fz, m.lv⟩
    rcases h with ⟨j, h⟩ | h
    · unfold setB at h
      split at h
      · exact m.fr a (.inl h)
      · exact .inl ⟨j, h⟩
    · exact m.fr a (.inr h)
theorem callS_ok {i : Nat} {ms : T → List D → OutS} {v0 : V} {vs : List V} {ds : List D} {Q : VK} {t0 : T} (E : EnvR g.K g.Tb F H σ ρ B) (hi : ρ[i]? = some t0) (hu : t0 ≠ .un) (hv : σ[i]? = some (some v0)) (hn : vs.length = n) (hl : vs.length = ds.length) (hr : ∀ (i : Nat) v d, vs[i]? = some v → ds[i]? = some d → Rep g.K F v d)
    (q : PostE g W σ F H (AllB B) Q (match ms t0 ds with | .ret t s => .ok t (ρ.set i s) | .exc c s => .exc c (ρ.set i s) | .bad => .bad)) : spS g ms n (v0 :: vs) H Q (WE W σ) := by
  obtain ⟨v, hv2, o⟩ := E.at_ i t0 hi hu
  rw [hv] at hv2; cases hv2
  refine ⟨by simp [hn], F, v0, vs, t0, B i, ds, rfl, E.sub, E.tabs, o, hl, hr, ?_⟩
  cases z : ms t0 ds with
  | ret t s =>
    simp only [z] at q ⊢
    intro v F' H' C A' s tb o1 o2 dC st
    obtain ⟨E', fr, st'⟩ := E.callS hi hv s tb o2 st dC
    exact q v F' H' _ C E' o1 fr st'
  | exc c s =>
    simp only [z] at q ⊢
    intro F' H' A' s tb o2 st
    obtain ⟨E', fr, st'⟩ := E.callS (C := fun _ => False) hi hv s tb o2 (st.less fun a h => h.elim id False.elim) fun _ h => h.elim
    exact wxW (q F' H' _ E' (st'.less fun a h => .inl h))
  | bad => simp only [z] at q ⊢; exact q
theorem de_callS {i : Nat} {ms : T → List D → OutS} {y : Str} {py : Pos} (D : DefS g X.prog X.w X.mg X.base j x n ms) (hK : X.K = g.K) (hr : RoomG j X.A) (tk : L2N.Takes X W) (ha : DA g W X es ml) (hn : es.length = n := by rfl)
    (hN : X.N[i]? = some y := by rfl) (hv : Vis X.env.scope y := by first | exact Or.inl rfl | exact Or.inr (Or.inl rfl) | exact Or.inr (Or.inr rfl)) (hd : (y == ("__debug__" : Str)) = false := by decide) (hcd : (y == ("__classdict__" : Str)) = false := by decide)
    (hg : Gl X x := by rfl) (hdb : (x == ("__debug__" : Str)) = false := by decide)
    (he : starEach (.Name y py :: es) X.env = (false, eval (.Name y py) X.env) :: starEach es X.env := by rfl) (hpl : (backTo pos (starEach es X.env)).any (·.1) = false := by rfl) (hml : ∀ ρ ds ρ', ml ρ = .ok ds ρ' → ds.length = n) : DE g W X (.Call (.Name x p) (.Name y py :: es) [] pos) (callS i ms ml) := by
  obtain ⟨f, fd, ps, Fn, hm, hk, hb⟩ := D
  rw [← hK] at Fn hk hb
  refine PEmono (pe_callG Fn hr hg hm hk hb (fun σ => L2N.passAt tk σ) (pa_cons (pe_var hN hv hd hcd) ha he) hdb he hpl) fun σ H Q ⟨ρ, F, B, E, p⟩ => ?_
  obtain ⟨t, h1, hu, p⟩ := Then.isU p.bnd
  obtain ⟨v, hv, o⟩ := E.at_ i t h1 hu
  refine ⟨v, hv, ?_⟩
  have hlen := hml ρ
  refine rdL.go E ?_
  have q := p.bnd
  revert q hlen
  cases ml ρ with
  | bad => exact fun _ q => q
  | exc c ρ => exact fun _ q => q
  | ok ds ρ1 =>
    intro hlen q vs F1 H1 B1 E1 hl rs s
    have z := hlen ds ρ1 rfl
    have q := PostE.step s q
    cases h : ρ1[i]? with
    | none => simp only [h] at q; exact q.elim
    | some t0 =>
      simp only [h] at q
      by_cases hu : t0 = .un
      · subst hu; simp only at q; exact q.elim
      · refine callS_ok E1 h hu hv (hl.trans z) hl rs ?_
        revert q
        cases ms t0 ds with
        | ret t s => cases t0 <;> first | exact absurd rfl hu | exact id
        | exc c s => cases t0 <;> first | exact absurd rfl hu | exact id
        | bad => cases t0 <;> first | exact absurd rfl hu | exact id
end
end Mi

end
section
set_option Elab.async false
set_option autoImplicit false
set_option linter.all false
set_option maxRecDepth 100000
set_option maxHeartbeats 1000000
/-! Mi, 11: what is walked; for, while. -/
namespace Mi
open PySem L2

/-- the iterator J yields ds, wherever F is told -/
structure Wk (g : DX) (J : It) (F : Hp) (ds : List D) : Prop where
  go : ∀ (i : Nat) F1 H, i < ds.length → Ex F F1 → Sub F1 H → J.go i H
  yl : ∀ (i : Nat) F1 H x H' d, ds[i]? = some d → Ex F F1 → Sub F1 H → J.yld i H x H' → ∃ F', Laid F1 H F' H' ∧ Rep g.K F' x d
  st : ∀ F1 H, Ex F F1 → Sub F1 H → J.stop ds.length H
def rdI (g : DX) (W : WX) (m : M (List D)) : TI := fun σ H R => ∃ ρ F B, EnvR g.K g.Tb F H σ ρ B ∧ Then g W σ F H (AllB B) (m ρ) fun ds ρ1 => ∀ J F1 H1 B1, EnvR g.K g.Tb F1 H1 σ ρ1 B1 → Wk g J F1 ds → Step F H (AllB B) F1 H1 (AllB B1) → R J H1
def DI (g : DX) (W : WX) (X : Cx) (tg iter : Expr) (m : M (List D)) : Prop := PI X tg iter (rdI g W m)
theorem PImono {X : Cx} {tg iter : Expr} {t t' : TI} (h : PI X tg iter t) (q : ∀ σ H R, t' σ H R → t σ H R) : PI X tg iter t' := ⟨fun pins s σ H R I z => h.run pins s σ H R I (q σ H R z)⟩
section
variable {g : DX} {W : WX} {X : Cx} {tg e a b c : Expr} {es : List Expr} {fa : M D} {ml : M (List D)} {k : Nat} {p pos : Pos}
theorem sqL_of {K : PySem.W.Frag} {F H : Hp} {a : Addr} {vs : List V} (s : Sub F H) (h : F a = some (.lst vs)) : SqL K H a vs := SqL.of (s.lst h)
/-- the items of a thing that may be walked -/
def items : D → Option (List D)
  | .lst ds => some ds
  | .tup ds => some ds
  | .str l => some (l.map fun c => .str [c])
  | _ => none
theorem wk_list {F : Hp} {a : Addr} {vs : List V} {ds : List D} (h : F a = some (.lst vs)) (hl : vs.length = ds.length) (hr : ∀ (i : Nat) (v : V) (d : D), vs[i]? = some v → ds[i]? = some d → Rep g.K F v d) : Wk g (Itl g.K a) F ds where
  go := fun i F1 H hi e s => ⟨vs, vs[i]'(by omega), sqL_of s (e.lst h), List.getElem?_eq_getElem (by omega)⟩
  yl := fun i F1 H x H' d hd e s y => by
    obtain ⟨rfl, q⟩ := y
    exact ⟨F1, Laid.refl s, (hr i x d (q vs (sqL_of s (e.lst h))) hd).mono e⟩
  st := fun F1 H e s => ⟨vs, sqL_of s (e.lst h), by omega⟩
theorem wk_tup {F : Hp} {a : Addr} {vs : List V} {ds : List D} (h : F a = some (.tup vs)) (hl : vs.length = ds.length) (hr : ∀ (i : Nat) (v : V) (d : D), vs[i]? = some v → ds[i]? = some d → Rep g.K F v d) : Wk g (Itt g.K a) F ds where
  go := fun i F1 H hi e s => ⟨vs, vs[i]'(by omega), sqT_mono s (ex_t e h), List.getElem?_eq_getElem (by omega)⟩
  yl := fun i F1 H x H' d hd e s y => by
    obtain ⟨rfl, q⟩ := y
    exact ⟨F1, Laid.refl s, (hr i x d (q vs (sqT_mono s (ex_t e h))) hd).mono e⟩
  st := fun F1 H e s => ⟨vs, sqT_mono s (ex_t e h), by omega⟩
theorem wk_str {F : Hp} {l : List Nat} (hl : ∀ c ∈ l, c < 1114112) : Wk g (L2.Its (S l)) F (l.map fun c => .str [c]) where
  go := fun i F1 H hi e s => by simpa [L2.Its, S] using hi
  yl := fun i F1 H x H' d hd e s y => by
    obtain ⟨rfl, c, hc, rfl⟩ := y
    have hc : l[i]? = some c := by simpa [S] using hc
    rw [List.getElem?_map, hc] at hd
    cases hd
    exact ⟨F1, Laid.refl s, .str (l := [c]) fun x hx => by
      simp only [List.mem_singleton] at hx
      subst hx
      exact hl x (List.mem_of_getElem? hc)⟩
  st := fun F1 H e s => by simp [L2.Its, S]
theorem wk_range {F : Hp} {lo c : Int} {n : Nat} : Wk g (Itc lo c n) F ((List.range n).map fun (i : Nat) => .int (lo + (i : Int) * c)) where
  go := fun i F1 H hi e s => by simpa [Itc] using hi
  yl := fun i F1 H x H' d hd e s y => by
    obtain ⟨rfl, rfl⟩ := y
    have hi : i < n := by simpa using (List.getElem?_eq_some_iff.mp hd).1
    rw [List.getElem?_map, List.getElem?_range hi] at hd
    cases hd
    exact ⟨F1, Laid.refl s, .int⟩
  st := fun F1 H e s => by simp [Itc]
theorem wk_range1 {F : Hp} {lo : Int} {n : Nat} : Wk g (Itr lo n) F ((List.range n).map fun (i : Nat) => .int (lo + (i : Int))) where
  go := fun i F1 H hi e s => by simpa [Itr] using hi
  yl := fun i F1 H x H' d hd e s y => by
    obtain ⟨rfl, rfl⟩ := y
    have hi : i < n := by simpa using (List.getElem?_eq_some_iff.mp hd).1
    rw [List.getElem?_map, List.getElem?_range hi] at hd
    cases hd
    exact ⟨F1, Laid.refl s, .int⟩
  st := fun F1 H e s => by simp [Itr]
/-- a list, a tuple, a text: whatever comes -/
def iAny (K : PySem.W.Frag) (te : TE) : TI := fun σ H R => te σ H fun v H1 => (∃ a xs, v = .ref a ∧ SqL K H1 a xs ∧ R (Itl K a) H1) ∨ (∃ a xs, v = .ref a ∧ SqT K H1 a xs ∧ R (Itt K a) H1) ∨ ∃ x, v = .str x ∧ R (L2.Its x) H1
theorem pi_any {te : TE} (he : PE X e te) : PI X tg e (iAny X.K te) := by
  refine ⟨fun pins s σ H R I h => ?_⟩
  refine thn (he.run pins s σ H _ I h) fun v s1 ⟨y, H1, I1, r1, q⟩ => ?_
  have fresh : ∀ b, b ∈ [s1.heap.objs.size] → FpOk X pins H1 b := fun b hb => by
    have e : b = s1.heap.objs.size := List.mem_singleton.mp hb
    rw [e]
    exact I1.fpOk (Nat.le_refl _) (I1.hok.fresh (Nat.le_refl _))
  rcases q with ⟨a, xs, rfl, hq, q⟩ | ⟨a, xs, rfl, hq, q⟩ | ⟨x, rfl, q⟩
  · cases r1
    obtain ⟨its, rv, pl, hz⟩ := I1.list hq
    exact wpAny_pyIter_list pl.isList ⟨_, [s1.heap.objs.size], _, _, H1, rfl, I1.kept (t' := s1.toks) (fun b o e => Heap.get?_push_of_some _ e), turn_list a _, ⟨_, Heap.get?_push_size _ rfl, rfl, rfl⟩, fresh, q⟩
  · cases r1
    obtain ⟨its, rv, pl, hz⟩ := I1.tuple hq
    exact wpAny_pyIter_tuple (show s1.heap.IsTuple a its.toArray from pl) ⟨_, [s1.heap.objs.size], _, _, H1, rfl, I1.kept (t' := s1.toks) (fun b o e => Heap.get?_push_of_some _ e), turn_tuple a _, ⟨_, Heap.get?_push_size _ rfl, rfl, rfl⟩, fresh, q⟩
  · obtain ⟨t, rfl⟩ := r1
    cases ha : x.cps.all (· < 128) with
    | false => exact wpAny_pyIter_wide ha (pi_one (tk := s1.toks) I1 _ (turn_str _ x t "str_iterator" (.inr rfl)) ⟨_, Heap.get?_push_size _ rfl, rfl, rfl⟩ q)
    | true => exact wpAny_pyIter_ascii ha (pi_one (tk := s1.toks) I1 _ (turn_str _ x t "str_ascii_iterator" (.inl rfl)) ⟨_, Heap.get?_push_size _ rfl, rfl, rfl⟩ q)
theorem di_any (ha : DV g W X e fa) (hK : X.K = g.K) : DI g W X tg e (bnd fa fun d => opt (items d)) := by
  refine PImono (hK ▸ pi_any ha) fun σ H R ⟨ρ, F, B, E, p⟩ => rdV.go E ((Then.bnd p).mono fun d ρ1 q v F1 H1 B1 E1 r s => ?_)
  have s1 := E1.sub
  cases r <;> try exact q.elim
  · rename_i l hl
    exact .inr (.inr ⟨_, rfl, q _ F1 H1 B1 E1 (wk_str hl) s⟩)
  · rename_i a vs ds h hl hr
    exact .inr (.inl ⟨a, vs, rfl, sqT_mono s1 h, q _ F1 H1 B1 E1 (wk_tup h hl hr) s⟩)
  · rename_i a vs ds h hl hr
    exact .inl ⟨a, vs, rfl, sqL_of s1 h, q _ F1 H1 B1 E1 (wk_list h hl hr) s⟩
def i62 (i : Int) : Bool := decide (-4611686018427387904 ≤ i ∧ i < 4611686018427387904)
theorem i62_ok {i : Int} (h : i62 i = true) : -(2 ^ 62) ≤ i ∧ i < 2 ^ 62 := by
  have := of_decide_eq_true h
  rw [show (2 : Int) ^ 62 = 4611686018427387904 by decide]
  exact this
def rng1 : List D → Option (List D)
  | [.int n] => if i62 n then some ((List.range n.toNat).map fun (i : Nat) => .int (0 + (i : Int))) else none
  | _ => none
def rng2 : List D → Option (List D)
  | [.int lo, .int n] => if i62 lo && i62 n then some ((List.range (n - lo).toNat).map fun (i : Nat) => .int (lo + (i : Int))) else none
  | _ => none
/-- range(a, b, -1) -/
def rng3 : List D → Option (List D)
  | [.int lo, .int n, .int c] => if (i62 lo && i62 n) && decide (c = -1) then some ((List.range (lo - n).toNat).map fun (i : Nat) => .int (lo + (i : Int) * -1)) else none
  | _ => none
theorem one_int {F : Hp} {vs : List V} {ds : List D} (hl : vs.length = ds.length) (hr : ∀ (i : Nat) (v : V) (d : D), vs[i]? = some v → ds[i]? = some d → Rep g.K F v d) : ∀ {is : List Int}, ds = is.map .int → vs = is.map .int := fun {is} h => by
  subst h
  exact vs_int hl hr
theorem di_range1 (O : Ok g k X) (ha : DA g W X [a] ml) (hg : Gl X "range" := by rfl) (hs : starEach [a] X.env = [(false, eval a X.env)] := by rfl) : DI g W X tg (.Call (.Name "range" p) [a] [] pos) (bnd ml fun ds => opt (rng1 ds)) := by
  refine PImono (pi_range1 hg (O.nob _ (by decide)) ha hs) fun σ H R ⟨ρ, F, B, E, q⟩ => rdL.go E ((Then.bnd q).mono fun ds ρ1 q vs F1 H1 B1 E1 hl hr s => ?_)
  match ds, hl, hr, q with
  | [.int n], hl, hr, q =>
    have hv := one_int hl hr (is := [n]) rfl
    subst hv
    cases z : i62 n with
    | false => simp only [rng1, z] at q; exact q.elim
    | true =>
      simp only [rng1, z, if_true] at q
      obtain ⟨h1, h2⟩ := i62_ok z
      refine ⟨n, rfl, h1, h2, q _ F1 H1 B1 E1 wk_range1 s⟩
theorem di_range2 (O : Ok g k X) (ha : DA g W X [a, b] ml) (hg : Gl X "range" := by rfl) (hs : starEach [a, b] X.env = [(false, eval a X.env), (false, eval b X.env)] := by rfl) (hs2 : starEach [b] X.env = [(false, eval b X.env)] := by rfl) : DI g W X tg (.Call (.Name "range" p) [a, b] [] pos) (bnd ml fun ds => opt (rng2 ds)) := by
  refine PImono (pi_range2 hg (O.nob _ (by decide)) ha hs hs2) fun σ H R ⟨ρ, F, B, E, q⟩ => rdL.go E ((Then.bnd q).mono fun ds ρ1 q vs F1 H1 B1 E1 hl hr s => ?_)
  match ds, hl, hr, q with
  | [.int lo, .int n], hl, hr, q =>
    have hv := one_int hl hr (is := [lo, n]) rfl
    subst hv
    cases z : (i62 lo && i62 n) with
    | false => simp only [rng2, z] at q; exact q.elim
    | true =>
      simp only [rng2, z, if_true] at q
      simp only [Bool.and_eq_true] at z
      exact ⟨lo, n, rfl, ⟨(i62_ok z.1).1, (i62_ok z.1).2, (i62_ok z.2).1, (i62_ok z.2).2⟩, q _ F1 H1 B1 E1 wk_range1 s⟩
theorem di_range3 (O : Ok g k X) (ha : DA g W X [a, b, c] ml) (hg : Gl X "range" := by rfl) (hs : starEach [a, b, c] X.env = (false, eval a X.env) :: starEach [b, c] X.env := by rfl) (hpl : (backTo pos (starEach [b, c] X.env)).any (·.1) = false := by rfl) : DI g W X tg (.Call (.Name "range" p) [a, b, c] [] pos) (bnd ml fun ds => opt (rng3 ds)) := by
  refine PImono (pi_range3 hg (O.nob _ (by decide)) ha hs hpl) fun σ H R ⟨ρ, F, B, E, q⟩ => rdL.go E ((Then.bnd q).mono fun ds ρ1 q vs F1 H1 B1 E1 hl hr s => ?_)
  match ds, hl, hr, q with
  | [.int lo, .int n, .int cc], hl, hr, q =>
    have hv := one_int hl hr (is := [lo, n, cc]) rfl
    subst hv
    cases z : ((i62 lo && i62 n) && decide (cc = -1)) with
    | false => simp only [rng3, z] at q; exact q.elim
    | true =>
      simp only [rng3, z, if_true] at q
      simp only [Bool.and_eq_true, decide_eq_true_eq] at z
      obtain ⟨⟨z1, z2⟩, rfl⟩ := z
      exact ⟨lo, n, -1, (lo - n).toNat, rfl, RgC.neg (i62_ok z1).1 (i62_ok z1).2 (i62_ok z2).1 (i62_ok z2).2, q _ F1 H1 B1 E1 wk_range s⟩
end

/-! ### for -/
section
variable {g : DX} {W : WX} {fx sl : List Nat} {X : Cx} {tg iter c : Expr} {body : List Stmt} {mi : M (List D)} {t : TG} {f : BD} {mb : SM} {pos : Pos} {k : Nat}
/-- behind a turn's body -/
def loopK (r : SR) (k : SM) : SR :=
  match r with
  | .nx ρ => k ρ
  | .ct ρ => k ρ
  | .bk ρ => .nx ρ
  | .rt t ρ => .rt t ρ
  | .exc c ρ => .exc c ρ
  | .bad => .bad
def forL (f : BD) (mb : SM) : List D → SM
  | [] => .nx
  | d :: ds => fun ρ =>
    match f d ρ with
    | none => .bad
    | some ρ1 => loopK (mb ρ1) (forL f mb ds)
theorem ds_for (hp : PassesOwn (model X.prog X.w) X.A X.env X.xe) (O : Ok g k X) (hi : DI g W X tg iter mi) (hg : DG g sl X tg t f) (hb : DSs g W fx X body mb) (hfx : ∀ i ∈ fx, i ∉ sl := by decide) (hs : ∀ x, foldedSetIterable iter X.env x = pure x := by intro _; rfl) : DS g W fx X (.For tg iter body [] pos) (sbnd mi (forL f mb)) := by
  obtain ⟨pg, kt⟩ := hg
  refine PSmono (ps_for hp O.calm hi pg hb hs) fun D σ0 H0 ⟨ρ0, F0, B0, E0, p⟩ => ⟨ρ0, F0, B0, E0, p.sbnd.mono fun ds ρ1 q J F1 H1 B1 E1 wk s1 => ?_⟩
  have q := PostS.step s1 (.refl fx σ0) q
  refine ⟨fun i m σ H => i ≤ ds.length ∧ m = ds.length - i ∧ ∃ ρ F B, EnvR g.K g.Tb F H σ ρ B ∧ Ex F1 F ∧ PostS g W fx σ F H (AllB B) D (forL f mb (ds.drop i) ρ), ⟨_, Nat.zero_le _, rfl, ρ1, F1, B1, E1, Ex.refl _, by rw [List.drop_zero]; exact q⟩, ?_⟩
  rintro i m σ H ⟨hi, rfl, ρ, F, B, E, e1, pq⟩
  by_cases z : i = ds.length
  · subst z
    rw [List.drop_length] at pq
    exact .inl ⟨wk.st F H e1 E.sub, pq σ F H B E Step.refl (.refl fx σ)⟩
  · have hlt : i < ds.length := by omega
    refine .inr ⟨wk.go i F H hlt e1 E.sub, fun σ' H' => ∃ ρ F B, EnvR g.K g.Tb F H' σ' ρ B ∧ Ex F1 F ∧ PostS g W fx σ' F H' (AllB B) D (forL f mb (ds.drop (i + 1)) ρ), ?_, ?_⟩
    · rintro σ' H' ⟨ρ', F', B', E', e', p'⟩
      exact ⟨ds.length - (i + 1), by omega, by omega, rfl, ρ', F', B', E', e', p'⟩
    · intro x H' y
      obtain ⟨F', l, r⟩ := wk.yl i F H x H' ds[i] (List.getElem?_eq_getElem hlt) e1 E.sub y
      have E' := l.env E
      rw [List.drop_eq_getElem_cons hlt] at pq
      unfold forL at pq
      cases zz : f ds[i] ρ with
      | none => simp only [zz] at pq; exact pq.elim
      | some ρ2 =>
        simp only [zz] at pq
        refine kt x ds[i] ρ ρ2 σ F' H' B _ E' r zz fun σ2 B2 E2 hb2 hx2 => ⟨ρ2, F', B2, E2, ?_⟩
        have pq := PostS.step ((l.step (A := AllB B)).less hb2) (hx2.fix hfx) pq
        unfold loopK at pq
        revert pq
        cases mb ρ2 with
        | nx ρ3 => exact fun pq σ3 F3 H3 B3 E3 s3 x3 => ⟨ρ3, F3, B3, E3, (e1.trans l.ff).trans s3.ff, PostS.step s3 x3 pq⟩
        | ct ρ3 => exact fun pq σ3 F3 H3 B3 E3 s3 x3 => ⟨ρ3, F3, B3, E3, (e1.trans l.ff).trans s3.ff, PostS.step s3 x3 pq⟩
        | bk ρ3 => exact id
        | rt t ρ3 => exact id
        | exc c ρ3 => exact id
        | bad => exact id
/-! ### while -/
def whileN (mc : M Bool) (mb : SM) : Nat → SM
  | 0 => fun _ => .bad
  | n + 1 => fun ρ =>
    match mc ρ with
    | .ok b ρ1 => if b then loopK (mb ρ1) (whileN mc mb n) else .nx ρ1
    | .exc c ρ1 => .exc c ρ1
    | .bad => .bad
theorem ds_while {mc : M Bool} (n : Env → Nat) (hp : PassesOwn (model X.prog X.w) X.A X.env X.xe) (hc : DT g W X c mc) (hb : DSs g W fx X body mb) : DS g W fx X (.While c body [] pos) (fun ρ => whileN mc mb (n ρ) ρ) := by
  refine PSmono (ps_while hp hc hb) fun D σ0 H0 ⟨ρ0, F0, B0, E0, p⟩ => ?_
  refine ⟨fun m σ H => ∃ ρ F B, EnvR g.K g.Tb F H σ ρ B ∧ PostS g W fx σ F H (AllB B) D (whileN mc mb m ρ), ⟨n ρ0, ρ0, F0, B0, E0, p⟩, ?_⟩
  rintro m σ H ⟨ρ, F, B, E, pq⟩
  cases m with
  | zero => exact pq.elim
  | succ m =>
    refine rdT.go E ?_
    unfold whileN at pq
    revert pq
    cases mc ρ with
    | bad => exact id
    | exc c ρ1 => exact PostR.x
    | ok b ρ1 =>
      cases b with
      | false => exact fun pq F1 H1 B1 E1 s => pq σ F1 H1 B1 E1 s (.refl fx σ)
      | true =>
        intro pq F1 H1 B1 E1 s
        refine ⟨fun σ' H' => ∃ ρ F B, EnvR g.K g.Tb F H' σ' ρ B ∧ PostS g W fx σ' F H' (AllB B) D (whileN mc mb m ρ), fun σ' H' w => ⟨m, Nat.lt_succ_self m, w⟩, ρ1, F1, B1, E1, ?_⟩
        have pq : PostS g W fx σ F1 H1 (AllB B1) D (loopK (mb ρ1) (whileN mc mb m)) := PostS.step s (.refl fx σ) pq
        unfold loopK at pq
        revert pq
        cases mb ρ1 with
        | nx ρ3 => exact fun pq σ3 F3 H3 B3 E3 s3 x3 => ⟨ρ3, F3, B3, E3, PostS.step s3 x3 pq⟩
        | ct ρ3 => exact fun pq σ3 F3 H3 B3 E3 s3 x3 => ⟨ρ3, F3, B3, E3, PostS.step s3 x3 pq⟩
        | bk ρ3 => exact id
        | rt t ρ3 => exact id
        | exc c ρ3 => exact id
        | bad => exact id
end
end Mi

end
section
set_option Elab.async false
set_option autoImplicit false
set_option linter.all false
set_option maxRecDepth 100000
set_option maxHeartbeats 1000000
/-! Mi, 12: list comprehensions. -/
namespace Mi
open PySem L2

/-- nothing is let out -/
abbrev W0 : WX := fun _ _ _ _ => False
section
variable {g : DX} {W : WX} {X : Cx} {k : Nat}
def wipeE (ρ : Env) : List Nat → Env
  | [] => ρ
  | v :: vs => (wipeE ρ vs).set v .un
theorem wipeE_length (ρ : Env) : ∀ vs, (wipeE ρ vs).length = ρ.length
  | [] => rfl
  | v :: vs => by rw [wipeE, List.length_set, wipeE_length ρ vs]
theorem wipeE_in {ρ : Env} {i : Nat} : ∀ {vs : List Nat}, i ∈ vs → (wipeE ρ vs)[i]? = none ∨ (wipeE ρ vs)[i]? = some .un
  | v :: vs, h => by
    rw [wipeE]
    by_cases e : v = i
    · subst e
      by_cases l : v < (wipeE ρ vs).length
      · rw [List.getElem?_set_self l]; exact .inr rfl
      · rw [List.getElem?_eq_none (by simpa using l)]; exact .inl rfl
    · rw [List.getElem?_set_ne e]
      exact wipeE_in ((List.mem_cons.mp h).resolve_left fun z => e z.symm)
theorem wipeE_out {ρ : Env} {i : Nat} : ∀ {vs : List Nat}, i ∉ vs → (wipeE ρ vs)[i]? = ρ[i]?
  | [], _ => rfl
  | v :: vs, h => by
    rw [wipeE, List.getElem?_set_ne (fun e => h (by rw [e]; exact List.mem_cons_self)), wipeE_out fun z => h (List.mem_cons_of_mem _ z)]
theorem wipe_out {σ : L2.St} {i : Nat} : ∀ {vs : List Nat}, i ∉ vs → (wipe σ vs)[i]? = σ[i]?
  | [], _ => rfl
  | v :: vs, h => by
    rw [wipe, List.getElem?_set_ne (fun e => h (by rw [e]; exact List.mem_cons_self)), wipe_out fun z => h (List.mem_cons_of_mem _ z)]
theorem wipe_in {σ : L2.St} {i : Nat} : ∀ {vs : List Nat}, i ∈ vs → (wipe σ vs)[i]? = none ∨ (wipe σ vs)[i]? = some none
  | v :: vs, h => by
    rw [wipe]
    by_cases e : v = i
    · subst e
      by_cases l : v < (wipe σ vs).length
      · rw [List.getElem?_set_self l]; exact .inr rfl
      · rw [List.getElem?_eq_none (by simpa using l)]; exact .inl rfl
    · rw [List.getElem?_set_ne e]
      exact wipe_in ((List.mem_cons.mp h).resolve_left fun z => e z.symm)
theorem wipe_eq {σ σ' : L2.St} {sl vs : List Nat} (o : Only sl σ σ') (h : ∀ i ∈ sl, i ∈ vs) : wipe σ' vs = wipe σ vs := by
  refine List.ext_getElem? fun i => ?_
  by_cases z : i ∈ vs
  · have l1 : (wipe σ' vs).length = σ'.length := wipe_length _ _
    have l2 : (wipe σ vs).length = σ.length := wipe_length _ _
    rcases wipe_in (σ := σ') z with e | e
    · have := List.getElem?_eq_none_iff.mp e
      rw [e, List.getElem?_eq_none (by rw [l2, ← o.1, ← l1]; exact this)]
    · rcases wipe_in (σ := σ) z with e' | e'
      · have := List.getElem?_eq_none_iff.mp e'
        have h2 := (List.getElem?_eq_some_iff.mp e).1
        rw [l1, o.1] at h2
        rw [l2] at this
        omega
      · rw [e, e']
  · rw [wipe_out z, wipe_out z]
    exact o.2 i fun q => z (h i q)
def wipeB (B : Nat → Addr → Prop) (vs : List Nat) : Nat → Addr → Prop := fun i a => i ∉ vs ∧ B i a
theorem EnvR.wipe {F H : Hp} {σ : L2.St} {ρ : Env} {B : Nat → Addr → Prop} (E : EnvR g.K g.Tb F H σ ρ B) (vs : List Nat) : EnvR g.K g.Tb F H (wipe σ vs) (wipeE ρ vs) (wipeB B vs) := by
  refine ⟨E.sub, by rw [wipe_length, wipeE_length]; exact E.len, fun i t hi hu => ?_, fun i hi a h => ?_, fun i j a h1 h2 => E.dis i j a h1.2 h2.2, E.tabs⟩
  · by_cases z : i ∈ vs
    · rcases wipeE_in (ρ := ρ) z with e | e <;> rw [e] at hi <;> cases hi
      exact absurd rfl hu
    · rw [wipeE_out z] at hi
      obtain ⟨v, hv, o⟩ := E.at_ i t hi hu
      exact ⟨v, by rw [wipe_out z]; exact hv, o.to fun a => ⟨fun h => ⟨z, h⟩, fun h => h.2⟩⟩
  · rw [wipeE_out h.1] at hi
    exact E.no i hi a h.2
/-- the block's own slots hold nothing of their own ahead of it -/
def flatAt (ρ : Env) (vs : List Nat) : Bool := vs.all fun i => match ρ[i]? with | some (.sh _) => true | some .un => true | _ => false
/-- behind the block they hold what they held -/
def backE (ρ0 ρ : Env) : List Nat → Env
  | [] => ρ
  | v :: vs => (backE ρ0 ρ vs).set v (ρ0[v]?.getD .un)
theorem backE_length (ρ0 ρ : Env) : ∀ vs, (backE ρ0 ρ vs).length = ρ.length
  | [] => rfl
  | v :: vs => by rw [backE, List.length_set, backE_length ρ0 ρ vs]
theorem backE_in {ρ0 ρ : Env} {i : Nat} (hl : ρ0.length = ρ.length) : ∀ {vs : List Nat}, i ∈ vs → (backE ρ0 ρ vs)[i]? = ρ0[i]?
  | v :: vs, h => by
    rw [backE]
    by_cases e : v = i
    · subst e
      by_cases l : v < ρ0.length
      · rw [List.getElem?_set_self (by rw [backE_length, ← hl]; exact l), List.getElem?_eq_getElem l]; rfl
      · rw [List.getElem?_eq_none (by rw [List.length_set, backE_length, ← hl]; omega), List.getElem?_eq_none (by omega)]
    · rw [List.getElem?_set_ne e]
      exact backE_in hl ((List.mem_cons.mp h).resolve_left fun z => e z.symm)
theorem backE_out {ρ0 ρ : Env} {i : Nat} : ∀ {vs : List Nat}, i ∉ vs → (backE ρ0 ρ vs)[i]? = ρ[i]?
  | [], _ => rfl
  | v :: vs, h => by
    rw [backE, List.getElem?_set_ne (fun e => h (by rw [e]; exact List.mem_cons_self)), backE_out fun z => h (List.mem_cons_of_mem _ z)]
theorem EnvR.back {F H F1 H1 : Hp} {σ : L2.St} {ρ0 ρ : Env} {B0 B : Nat → Addr → Prop} {vs : List Nat} (E0 : EnvR g.K g.Tb F H σ ρ0 B0) (E : EnvR g.K g.Tb F1 H1 (L2.wipe σ vs) ρ B) (e : Ex F F1) (fl : flatAt ρ0 vs = true) :
    EnvR g.K g.Tb F1 H1 σ (backE ρ0 ρ vs) (wipeB B vs) := by
  have hl : ρ0.length = ρ.length := by rw [← E0.len, ← E.len, wipe_length]
  have flat := List.all_eq_true.mp fl
  refine ⟨E.sub, by rw [backE_length, ← hl]; exact E0.len, fun i t hi hu => ?_, fun i hi a h => ?_, fun i j a h1 h2 => E.dis i j a h1.2 h2.2, E.tabs⟩
  · by_cases z : i ∈ vs
    · rw [backE_in hl z] at hi
      have q := flat i z
      rw [hi] at q
      cases t <;> first | exact absurd rfl hu | cases q | skip
      obtain ⟨v, hv, o⟩ := E0.at_ i _ hi hu
      cases o with
      | sh r n => exact ⟨v, hv, .sh (r.mono e) fun a h => h.1 z⟩
    · rw [backE_out z] at hi
      obtain ⟨v, hv, o⟩ := E.at_ i t hi hu
      exact ⟨v, by rw [← wipe_out z]; exact hv, o.to fun a => ⟨fun h => ⟨z, h⟩, fun h => h.2⟩⟩
  · rw [backE_out h.1] at hi
    exact E.no i hi a h.2
theorem wipeB_sub {B : Nat → Addr → Prop} {vs : List Nat} : ∀ a, AllB (wipeB B vs) a → AllB B a := fun a ⟨i, h⟩ => ⟨i, h.2⟩
/-- one more item of its own -/
theorem Own.snoc {F H : Hp} {a : Addr} {vs : List V} {ts : List T} {A C : Addr → Prop} {w : V} {t : T} (o : Own g.K F H (.ref a) (.lst ts) A) (hh : H a = some (.lst vs)) (ow : Own g.K F H w t C) (dC : ∀ b, C b → ¬ A b) :
    Own g.K F (upd H a (.lst (vs ++ [w]))) (.ref a) (.lst (ts ++ [t])) (fun b => A b ∨ C b) := by
  obtain ⟨a', vs', Bk, ea, hf, hh', hl, hk, hd, hn, hA⟩ := o.lstI
  cases ea
  rw [hh] at hh'; cases hh'
  have ha : A a := (hA a).mpr (.inl rfl)
  refine .lst (fun j b => if j < ts.length then Bk j b else if j = ts.length then C b else False) hf upd_same (by simp [hl]) (fun j v u h1 h2 => ?_) (fun j k b h1 h2 => ?_) (fun j h => ?_) fun b => ?_
  · by_cases z : j < ts.length
    · rw [List.getElem?_append_left (by omega)] at h1
      rw [List.getElem?_append_left z] at h2
      exact ((hk j v u h1 h2).kid (hn j)).to fun b => by simp [z]
    · by_cases z2 : j = ts.length
      · subst z2
        rw [List.getElem?_append_right (by omega), hl, Nat.sub_self] at h1
        rw [List.getElem?_append_right (by omega), Nat.sub_self] at h2
        cases h1; cases h2
        exact (ow.kid fun h => dC a h ha).to fun b => by simp
      · rw [List.getElem?_eq_none (by simp; omega)] at h2; cases h2
  · split at h1 <;> split at h2
    · exact hd j k b h1 h2
    · split at h2
      · exact absurd ((hA b).mpr (.inr ⟨j, by assumption, h1⟩)) (dC b h2)
      · exact h2.elim
    · split at h1
      · exact absurd ((hA b).mpr (.inr ⟨k, by assumption, h2⟩)) (dC b h1)
      · exact h1.elim
    · split at h1
      · split at h2
        · omega
        · exact h2.elim
      · exact h1.elim
  · split at h
    · exact hn j h
    · split at h
      · exact dC a h ha
      · exact h
  · constructor
    · rintro (h | h)
      · rcases (hA b).mp h with rfl | ⟨j, hj, h⟩
        · exact .inl rfl
        · exact .inr ⟨j, by simp; omega, by rw [if_pos hj]; exact h⟩
      · exact .inr ⟨ts.length, by simp, by rw [if_neg (Nat.lt_irrefl _), if_pos rfl]; exact h⟩
    · rintro (rfl | ⟨j, hj, h⟩)
      · exact .inl ha
      · split at h
        · exact .inl ((hA b).mpr (.inr ⟨j, by assumption, h⟩))
        · split at h
          · exact .inr h
          · exact h.elim
/-- a thing apart changes: the slots stay -/
theorem EnvR.other {F H : Hp} {σ : L2.St} {ρ : Env} {B : Nat → Addr → Prop} {a : Addr} {o u : HO} (E : EnvR g.K g.Tb F H σ ρ B) (ho : H a = some o) (hm : Mu o) (fa : F a = none) (ha : ¬ AllB B a) (mu : Mu u := by exact .inl ⟨_, rfl⟩) : EnvR g.K g.Tb F (upd H a u) σ ρ B := by
  refine ⟨⟨fun b x h => by
    rw [upd_ne (fun e => by rw [e, fa] at h; cases h)]; exact E.sub.ex b x h, E.sub.nt, fun b h => by
    by_cases e : b = a
    · subst e; rw [upd_same]; simp
    · rw [upd_ne e]; exact E.sub.lv b h, fun b xs h => by
    by_cases e : b = a
    · subst e; rw [upd_same] at h; exact absurd (Option.some.inj h) (mu.notup xs)
    · rw [upd_ne e] at h; exact E.sub.tp b xs h⟩, E.len, fun i t hi hu => ?_, E.no, E.dis, tabs_upd E.tabs ho hm⟩
  obtain ⟨v, hv, ow⟩ := E.at_ i t hi hu
  exact ⟨v, hv, ow.kid fun h => ha ⟨i, h⟩⟩
theorem Step.other {F H : Hp} {a : Addr} {u : HO} {A A' : Addr → Prop} (hA : A a) (h : ∀ b, A' b → A b) : Step F H A F (upd H a u) A' :=
  ⟨Ex.refl F, fun b x h nt na => ⟨x, by rw [upd_ne (fun e => na (by rw [e]; exact hA))]; exact h, .refl x⟩, fun b x h nt na _ => by rw [upd_ne (fun e => na (by rw [e]; exact hA))]; exact h, fun b hb => .inl (h b hb), fun b h => .inl h, fun b h => by
    by_cases e : b = a
    · subst e; rw [upd_same]; simp
    · rw [upd_ne e]; exact h⟩
end

/-! ### [e for x in xs if c] -/
def lcGo (vs : List Nat) (f : BD) (mc : M Bool) (te : M T) : List D → List T → M (List T)
  | [], ts => pur ts
  | d :: ds, ts => fun ρ =>
    match f d ρ with
    | none => .bad
    | some ρ1 =>
      match mc ρ1 with
      | .ok b ρ2 =>
        if b then
          match te ρ2 with
          | .ok t ρ3 => if big (ts.length + 1) then lcGo vs f mc te ds (ts ++ [t]) (wipeE ρ3 vs) else .bad
          | _ => .bad
        else lcGo vs f mc te ds ts (wipeE ρ2 vs)
      | _ => .bad
def lcM (vs : List Nat) (mi : M (List D)) (f : BD) (mc : M Bool) (te : M T) : M T := bnd mi fun ds ρ =>
  if flatAt ρ vs then
    match lcGo vs f mc te ds [] (wipeE ρ vs) with
    | .ok ts ρ' => .ok (.lst ts) (backE ρ ρ' vs)
    | _ => .bad
  else .bad
def DTs (g : DX) (X : Cx) (ifs : List Expr) (m : M Bool) : Prop := PTs X ifs (rdT g W0 m)
theorem PTsmono {X : Cx} {ifs : List Expr} {t t' : TT} (h : PTs X ifs t) (q : ∀ σ H Q, t' σ H Q → t σ H Q) : PTs X ifs t' := ⟨fun pins s σ H Q I z => h.run pins s σ H Q I (q σ H Q z)⟩
section
variable {g : DX} {W : WX} {X : Cx} {k : Nat} {tg iter elt c : Expr} {ifs : List Expr} {scope : Scope} {own : List (Str × Nat)} {pos : Pos} {mi : M (List D)} {f : BD} {mc : M Bool} {te : M T} {sl : List Nat} {t : TG}
theorem dts_nil : DTs g X [] (pur true) := PTsmono pts_nil fun σ H Q ⟨ρ, F, B, E, p⟩ => p F H B E Step.refl
theorem dts_one (h : DT g W0 X c mc) : DTs g X [c] mc := pts_one h
theorem lc_read {own : List (Str × Nat)} (hsl : ∀ i ∈ sl, i ∈ own.map (·.2)) (kt : Tg g sl t f) : ∀ σ H Q, rdE g W (lcM (own.map (·.2)) mi f mc te) σ H Q → tLc (rdI g W mi) t (rdT g W0 mc) (rdE g W0 te) (own.map (·.2)) σ H Q := by
  intro σ H Q h
  revert h
  refine fun ⟨ρ0, F0, B0, E0, p⟩ => ⟨ρ0, F0, B0, E0, p.bnd.mono fun ds ρ1 q J F1 H1 B1 E1 wk s1 D hD => ?_⟩
  have q := PostE.step s1 q
  generalize hvs : own.map (·.2) = vs at *
  by_cases fl : flatAt ρ1 vs = true
  case neg => rw [if_neg fl] at q; exact q.elim
  rw [if_pos fl] at q
  -- what is asked of the rest of the walk
  have fin : ∀ (r : R (List T)), (r = lcGo vs f mc te ds [] (wipeE ρ1 vs)) → ∃ ts ρ', r = .ok ts ρ' ∧ PostE g W σ F1 H1 (AllB B1) Q (.ok (.lst ts) (backE ρ1 ρ' vs)) := fun r hr => by
    rw [← hr] at q
    cases r with
    | ok ts ρ' => exact ⟨ts, ρ', rfl, q⟩
    | exc c ρ' => exact q.elim
    | bad => exact q.elim
  obtain ⟨tsF, ρF, hF, q⟩ := fin _ rfl
  have EW := E1.wipe vs
  obtain ⟨l0, o0⟩ := own_lst (g := g) (vs := []) (ds := []) E1.sub hD rfl (fun i v d h => by simp at h)
  have EW' := l0.env EW
  refine ⟨fun i m H => i ≤ ds.length ∧ m = ds.length - i ∧ ∃ ρ F B C ts, EnvR g.K g.Tb F H (wipe σ vs) ρ B ∧ Ex F1 F ∧ Own g.K F H (.ref D) (.lst ts) C ∧ (∀ a, C a → ¬ AllB B a) ∧ Step F1 H1 (AllB B1) F H (fun a => AllB B a ∨ C a) ∧ lcGo vs f mc te (ds.drop i) ts ρ = .ok tsF ρF,
    ⟨_, Nat.zero_le _, rfl, wipeE ρ1 vs, F1, wipeB B1 vs, _, [], EW', Ex.refl _, o0, fun a ha z => fresh_apart E1 hD a ha (wipeB_sub a z), (l0.stepN (A := AllB B1) (C := fun a => a = D) fun a e => by rw [e]; exact hD).less fun a h => h.imp (wipeB_sub a) id, by rw [List.drop_zero]; exact hF⟩, ?_⟩
  rintro i m H ⟨hi', rfl, ρ, F, B, C, ts, E, e1, o, dC, st, pq⟩
  by_cases z : i = ds.length
  · subst z
    rw [List.drop_length] at pq
    cases pq
    refine .inl ⟨wk.st F H e1 E.sub, ?_⟩
    have EB := E1.back E e1 fl
    exact q (.ref D) F H _ C EB o (fun a ha z => dC a ha (wipeB_sub a z)) (st.less fun a h => h.imp (wipeB_sub a) id)
  · have hlt : i < ds.length := by omega
    refine .inr ⟨wk.go i F H hlt e1 E.sub, fun H' => ∃ ρ F B C ts, EnvR g.K g.Tb F H' (wipe σ vs) ρ B ∧ Ex F1 F ∧ Own g.K F H' (.ref D) (.lst ts) C ∧ (∀ a, C a → ¬ AllB B a) ∧ Step F1 H1 (AllB B1) F H' (fun a => AllB B a ∨ C a) ∧ lcGo vs f mc te (ds.drop (i + 1)) ts ρ = .ok tsF ρF, ?_, ?_⟩
    · rintro H' ⟨ρ', F', B', C', ts', rest⟩
      exact ⟨ds.length - (i + 1), by omega, by omega, rfl, ρ', F', B', C', ts', rest⟩
    · intro x H' y
      obtain ⟨F', l, r⟩ := wk.yl i F H x H' ds[i] (List.getElem?_eq_getElem hlt) e1 E.sub y
      have E' := l.env E
      have o' : Own g.K F' H' (.ref D) (.lst ts) C := o.step (l.step (A := AllB B)) dC
      have st' : Step F1 H1 (AllB B1) F' H' (fun a => AllB B a ∨ C a) := st.trans l.step
      rw [List.drop_eq_getElem_cons hlt] at pq
      unfold lcGo at pq
      cases zz : f ds[i] ρ with
      | none => simp only [zz] at pq; cases pq
      | some ρ2 =>
        simp only [zz] at pq
        refine kt x ds[i] ρ ρ2 (wipe σ vs) F' H' B _ E' r zz fun σ2 B2 E2 hb2 hx2 => ?_
        have hw : wipe σ2 vs = wipe σ vs := by
          rw [wipe_eq hx2 hsl]
          exact wipe_eq (sl := vs) ⟨wipe_length _ _, fun j hj => wipe_out hj⟩ fun _ h => h
        refine ⟨hw, rdT.go E2 ?_⟩
        have dC2 : ∀ a, C a → ¬ AllB B2 a := fun a h q => dC a h (hb2 a q)
        have st2 : Step F1 H1 (AllB B1) F' H' (fun a => AllB B2 a ∨ C a) := st'.less fun a h => h.imp (hb2 a) id
        cases zc : mc ρ2 with
        | bad => simp only [zc] at pq; cases pq
        | exc c ρ3 => simp only [zc] at pq; cases pq
        | ok b ρ3 =>
          simp only [zc] at pq
          intro F3 H3 B3 E3 s3
          have o3 := o'.step s3 dC2
          have dC3 := s3.apart o'.live dC2
          have join : ∀ {F4 H4 : Hp} {B4 : Nat → Addr → Prop} {Y : Addr → Prop}, Step F' H' (AllB B2) F4 H4 (fun a => AllB B4 a ∨ Y a) → Step F1 H1 (AllB B1) F4 H4 (fun a => (AllB B4 a ∨ Y a) ∨ C a) := fun {F4 H4 B4 Y} s => by
            refine st2.trans ?_
            have m := s.more (A' := fun a => AllB B2 a ∨ C a) fun a h => .inl h
            exact ⟨m.ff, m.hx, m.hh, fun a h => h.elim (fun h => (s.fr a h).imp .inl id) fun h => .inl (.inr h), m.fz, m.lv⟩
          have ew : ∀ {F4 H4 : Hp} {ρ4 : Env} {B4 : Nat → Addr → Prop}, EnvR g.K g.Tb F4 H4 σ2 ρ4 B4 → EnvR g.K g.Tb F4 H4 (wipe σ vs) (wipeE ρ4 vs) (wipeB B4 vs) := fun {F4 H4 ρ4 B4} E => by
            have := E.wipe vs
            rwa [hw] at this
          cases b with
          | false =>
            simp only [Bool.false_eq_true, if_false] at pq ⊢
            have s3' : Step F' H' (AllB B2) F3 H3 (fun a => AllB B3 a ∨ False) := ⟨s3.ff, s3.hx, s3.hh, fun a h => h.elim (s3.fr a) False.elim, s3.fz, s3.lv⟩
            exact ⟨_, F3, _, C, ts, ew E3, (e1.trans l.ff).trans s3.ff, o3, fun a h q => dC3 a h (wipeB_sub a q), (join s3').less fun a h => h.imp (fun h => .inl (wipeB_sub a h)) id, pq⟩
          | true =>
            simp only [if_true] at pq ⊢
            refine rdE.go E3 ?_
            cases ze : te ρ3 with
            | bad => simp only [ze] at pq; cases pq
            | exc c ρ4 => simp only [ze] at pq; cases pq
            | ok tv ρ4 =>
              simp only [ze] at pq
              intro w F4 H4 B4 Y E4 ow dY s4
              by_cases hb : big (ts.length + 1) = true
              case neg => rw [if_neg hb] at pq; cases pq
              rw [if_pos hb] at pq
              have o4 := o3.step s4 dC3
              have dC4 : ∀ a, C a → ¬ (AllB B4 a ∨ Y a) := s4.apart o3.live dC3
              obtain ⟨a', us, Bk, ea, hf, hh, hl, hk, hd, hn, hA⟩ := o4.lstI
              cases ea
              have cD : C D := (hA D).mpr (.inl rfl)
              refine ⟨us, hh, ?_, wipeE ρ4 vs, F4, wipeB B4 vs, fun b => C b ∨ Y b, ts ++ [tv], ?_, ((e1.trans l.ff).trans s3.ff).trans s4.ff, o4.snoc hh ow fun b h q => dC4 b q (.inr h), fun a h q => ?_, ?_, pq⟩
              · have := big_ok hb
                omega
              · exact EnvR.other (ew E4) hh (.inl ⟨_, rfl⟩) hf fun q => dC4 D cD (.inl (wipeB_sub D q))
              · rcases h with h | h
                · exact dC4 a h (.inl (wipeB_sub a q))
                · exact dY a h (wipeB_sub a q)
              · have s34 : Step F' H' (AllB B2) F4 H4 (fun a => AllB B4 a ∨ Y a) := s3.trans s4
                exact (join s34).trans (Step.other (.inr cD) fun b h => by
                  rcases h with h | h | h
                  · exact .inl (.inl (wipeB_sub b h))
                  · exact .inr h
                  · exact .inl (.inr h))
theorem de_lc (O : Ok g k X) (hi : DI g W X tg iter mi) (ok : BlkOk X.N X.env.scope scope own) (hsl : ∀ i ∈ sl, i ∈ own.map (·.2))
    (hg : ∀ (s : Shared) (H : Hp) (C : Addr) (cl : List (Str × Addr)) (fp : List Addr), DG g sl (X.blk s H scope (compEnvC scope cl C X.env) fp) tg t f)
    (ht : ∀ (s : Shared) (H : Hp) (C : Addr) (cl : List (Str × Addr)) (fp : List Addr), DTs g (X.blk s H scope (compEnvC scope cl C X.env) fp) ifs mc)
    (he : ∀ (s : Shared) (H : Hp) (C : Addr) (cl : List (Str × Addr)) (fp : List Addr), DE g W0 (X.blk s H scope (compEnvC scope cl C X.env) fp) elt te)
    (hs : ∀ x, foldedSetIterable iter X.env x = pure x := by intro _; rfl) : DE g W X (.ListComp elt [⟨tg, iter, ifs, 0⟩] scope pos) (lcM (own.map (·.2)) mi f mc te) := by
  have pg := fun s H C cl fp => (hg s H C cl fp).1
  have kt : Tg g sl t f := (hg X.s_0 (fun _ => none) 0 [] []).2
  exact PEmono (pe_lc O.calm O.nd hi ok pg ht he hs) (lc_read hsl kt)
end
end Mi

end
section
set_option Elab.async false
set_option autoImplicit false
set_option linter.all false
set_option maxRecDepth 100000
set_option maxHeartbeats 1000000
/-! Mi, 13: a def by its body; raise; two names at once; a slot handed back. -/
namespace Mi
open PySem L2

section
variable {g : DX} {W : WX} {fx : List Nat} {X : Cx} {k : Nat} {e a b : Expr} {pos : Pos}
/-- an exception class of the program -/
structure ExcOk (g : DX) (mg : Str → Option Value) (x : Str) (c : Exc) : Prop where
  ld : c.load = none
  ex : ∃ C : Addr, g.cl c = .ref C ∧ mg x = some (.ref C) ∧ PySem.W.excIn g.K C PySem.HandSPX.veTail "ValueError.__new__" = true ∧ PySem.W.keepIn g.K (.ref C) = true ∧ PySem.W.subIn g.K (.ref C) (.type "BaseException") = some true ∧ PySem.W.typeIn g.K (.ref C) = some (.type "type")
theorem ds_raise {x m : Str} {j : Nat} {c : Exc} {p p2 p3 pos : Pos} (C : ExcOk g X.mg x c) (O : Ok g k X) (tk : L2N.Takes X W) (hg : Gl X x := by rfl) (hdb : (x == ("__debug__" : Str)) = false := by decide) :
    DS g W fx X (.Raise (some (.Call (.Name x p) [.Constant (.str m) j p2] [] p3)) none pos) (fun ρ => .exc c ρ) := by
  obtain ⟨C, h1, h2, h3, h4, h5, h6⟩ := C.ex
  refine PSmono (L2N.ps_raise O.calm tk (L2N.pmk_own PySem.F.excBase_ValueError (by rw [O.K]; exact h3) h2 (by rw [O.K]; exact h4) (raises_own (by rw [O.K]; exact h5) (by rw [O.K]; exact h6)) hg hdb)) fun D σ H ⟨ρ, F, B, E, p⟩ => ?_
  have q := p σ F H B E Step.refl (.refl fx σ)
  unfold Wx at q
  simp only [ExcOk.ld ‹_›, h1] at q
  exact q
/-- a slot handed over: it holds nothing behind -/
def mMove (i : Nat) : M T := fun ρ =>
  match ρ[i]? with
  | none => .bad
  | some .un => .bad
  | some t => .ok t (ρ.set i .un)
theorem EnvR.move {F H : Hp} {σ : L2.St} {ρ : Env} {B : Nat → Addr → Prop} {i : Nat} {t : T} (E : EnvR g.K g.Tb F H σ ρ B) (hi : ρ[i]? = some t) (hu : t ≠ .un) : ∃ v, σ[i]? = some (some v) ∧ Own g.K F H v t (B i) ∧ EnvR g.K g.Tb F H σ (ρ.set i .un) (setB B i fun _ => False) ∧
    (∀ a, B i a → ¬ AllB (setB B i fun _ => False) a) ∧ ∀ a, AllB (setB B i fun _ => False) a ∨ B i a → AllB B a := by
  obtain ⟨v, hv, o⟩ := E.at_ i t hi hu
  have il : i < ρ.length := (List.getElem?_eq_some_iff.mp hi).1
  refine ⟨v, hv, o, ⟨E.sub, by simpa using E.len, fun j u hj hu' => ?_, fun j hj a => ?_, fun j k a h1 h2 => ?_, E.tabs⟩, fun a h ⟨j, z⟩ => ?_, fun a h => ?_⟩
  · by_cases e : j = i
    · subst e
      rw [List.getElem?_set_self il] at hj
      cases hj
      exact absurd rfl hu'
    · rw [List.getElem?_set_ne (Ne.symm e)] at hj
      obtain ⟨w, hw, o2⟩ := E.at_ j u hj hu'
      exact ⟨w, hw, o2.to fun b => by unfold setB; rw [if_neg e]⟩
  · unfold setB
    split
    · exact id
    · rename_i e
      rw [List.getElem?_set_ne (Ne.symm e)] at hj
      exact E.no j hj a
  · unfold setB at h1 h2
    split at h1 <;> split at h2 <;> first | exact h1.elim | exact h2.elim | exact E.dis j k a h1 h2
  · unfold setB at z
    split at z
    · exact z
    · rename_i e
      exact e (E.dis j i a z h)
  · rcases h with ⟨j, z⟩ | h
    · unfold setB at z
      split at z
      · exact z.elim
      · exact ⟨j, z⟩
    · exact ⟨i, h⟩
theorem de_move (i : Nat) {x : Str} (hN : X.N[i]? = some x := by rfl) (hv : Vis X.env.scope x := by first | exact Or.inl rfl | exact Or.inr (Or.inl rfl) | exact Or.inr (Or.inr rfl)) (hd : (x == ("__debug__" : Str)) = false := by decide)
    (hcd : (x == ("__classdict__" : Str)) = false := by decide) : DE g W X (.Name x pos) (mMove i) := by
  refine PEmono (pe_var hN hv hd hcd) fun σ H Q ⟨ρ, F, B, E, p⟩ => ?_
  unfold mMove at p
  cases q : ρ[i]? with
  | none => simp only [q] at p; exact p.elim
  | some t =>
    by_cases hu : t = .un
    · subst hu; simp only [q] at p; exact p.elim
    · have p : PostE g W σ F H (AllB B) Q (.ok t (ρ.set i .un)) := by
        revert p
        simp only [q]
        cases t <;> first | exact absurd rfl hu | exact id
      obtain ⟨v, hv, o, E', d, sub⟩ := E.move q hu
      exact ⟨v, hv, p v F H _ _ E' o d (Step.refl.less sub)⟩
/-! ### a, b = e1, e2 -/
/-- two things of their own, the second one made behind the first -/
def two (x y : M T) : M (T × T) := bnd x fun t => bnd y fun u => pur (t, u)
def put2 (i j : Nat) (p : T × T) : SM := fun ρ => if i < ρ.length ∧ j < ρ.length then .nx ((ρ.set i p.1).set j p.2) else .bad
theorem ds_par {i j : Nat} {x y : Str} {ta tb : M T} {px py pt : Pos} {kt k2 : Nat} {pt2 : Pos} (O : Ok g k X) (hij : i ≠ j) (hni : i ∉ fx) (hnj : j ∉ fx) (ha : DE g W X a ta) (hb : DE g W X b tb) (hi : X.N[i]? = some x := by rfl) (hj : X.N[j]? = some y := by rfl)
    (hx : X.env.scope.names.lookup x = some .local := by rfl) (hy : X.env.scope.names.lookup y = some .local := by rfl) (hs : starEach [a, b] X.env = (false, eval a X.env) :: starEach [b] X.env := by rfl) (hs2 : starEach [b] X.env = (false, eval b X.env) :: starEach [] X.env := by rfl)
    (hp : ∀ ta, PA X [a, b] ta → PS X (.Assign [.Tuple [.Name x px, .Name y py] kt pt] (.Tuple [a, b] k2 pt2) pos) (tPar i j ta)) : DS g W fx X (.Assign [.Tuple [.Name x px, .Name y py] kt pt] (.Tuple [a, b] k2 pt2) pos) (sbnd (two ta tb) (put2 i j)) := by
  refine PSmono (hp _ (pa_cons ha (pa_cons hb pa_nil hs2) hs)) fun D σ H ⟨ρ, F, B, E, p⟩ => rdE.go E ?_
  have p := p.sbnd
  unfold two bnd at p
  revert p
  cases ta ρ with
  | bad => exact id
  | exc c ρ1 => exact id
  | ok t ρ1 =>
    intro p v F1 H1 B1 C E1 o d s
    refine rdE.go E1 ?_
    revert p
    simp only
    cases tb ρ1 with
    | bad => exact id
    | exc c ρ1 => exact fun p => PostX.step (s.less fun a h => .inl h) p
    | ok u ρ2 =>
      intro p w F2 H2 B2 C2 E2 o2 d2 s2
      have p : PostS g W fx σ F H (AllB B) D (put2 i j (t, u) ρ2) := p
      unfold put2 at p
      split at p
      case isFalse => exact p.elim
      rename_i hl
      have o' := o.step s2 d
      have dd : ∀ a, C a → ¬ (AllB B2 a ∨ C2 a) := s2.apart o.live d
      have E3 := E2.set (i := i) o' (fun a h z => dd a h (.inl z)) hl.1
      have dd2 : ∀ a, C2 a → ¬ AllB (setB B2 i C) a := fun a h z => by
        rcases setB_sub a z with z | z
        · exact d2 a h z
        · exact dd a z (.inr h)
      have E4 := E3.set (i := j) o2 dd2 (by simpa using hl.2)
      have hf : Fix fx σ ((σ.set i (some v)).set j (some w)) := (Fix.set hni).trans (Fix.set hnj)
      refine ⟨v, w, rfl, p _ F2 H2 _ E4 ?_ hf⟩
      refine (s.trans (?_ : Step F1 H1 (fun a => AllB B1 a ∨ C a) F2 H2 (fun a => (AllB B2 a ∨ C2 a) ∨ C a))).less fun a h => ?_
      · have m := s2.more (A' := fun a => AllB B1 a ∨ C a) fun a h => .inl h
        exact ⟨m.ff, m.hx, m.hh, fun a h => h.elim (fun h => (s2.fr a h).imp .inl id) fun h => .inl (.inr h), m.fz, m.lv⟩
      · rcases setB_sub a h with h | h
        · rcases setB_sub a h with h | h
          · exact .inl (.inl h)
          · exact .inr h
        · exact .inl (.inr h)
end

/-! ### a def by its body -/
def startE (N : List Str) (ds : List D) : Env := ds.map .sh ++ List.replicate (N.length - ds.length) .un
def toOut : SR → Out
  | .rt t _ => .ret t
  | .nx _ => .ret (.sh .non)
  | .exc c _ => .exc c
  | _ => .bad
def startS (N : List Str) (t : T) (ds : List D) : Env := (t :: ds.map .sh) ++ List.replicate (N.length - (ds.length + 1)) .un
def toOutS : SR → OutS
  | .rt t ρ => (match (show List T from ρ)[0]? with | some T.un => .bad | some s => .ret t s | none => .bad)
  | .nx ρ => (match (show List T from ρ)[0]? with | some T.un => .bad | some s => .ret (.sh .non) s | none => .bad)
  | .exc c ρ => (match (show List T from ρ)[0]? with | some T.un => .bad | some s => .exc c s | none => .bad)
  | _ => .bad
/-- what the program's top says of a def -/
structure Top (g : DX) (mg : Str → Option Value) (x : Str) (st : Stmt) (ps : List Str) : Prop where
  ex : ∃ (f : Addr) (fd : FuncData), Fun g.K x x st f fd ∧ mg x = some (.ref f) ∧ Binds g.K fd ps []
section
variable {g : DX} {P : Program} {w : World} {mg : Str → Option Value} {base : Heap} {x : Str} {st : Stmt} {N ps : List Str} {sc : Scope} {k : Nat} {sm : SM}
abbrev noBuiltin (mg : Str → Option Value) : Prop := ∀ x ∈ (["len", "int", "abs", "all", "any", "sum", "tuple", "list", "max", "min", "repr", "isinstance", "range", "zip", "enumerate", "reversed", "sorted", "set", "dict", "str"] : List Str), mg x = none
theorem env_start {F H : Hp} {vs : List V} {ds : List D} (s : Sub F H) (tb : LamX.Tabs g.Tb H) (hl : vs.length = ds.length) (hr : ∀ (i : Nat) v d, vs[i]? = some v → ds[i]? = some d → Rep g.K F v d) : EnvR g.K g.Tb F H (L2.start N vs) (startE N ds) (fun _ _ => False) := by
  refine ⟨s, by simp [L2.start, startE, hl], fun i t hi hu => ?_, fun _ _ _ h => h, fun _ _ _ h => h.elim, tb⟩
  unfold startE at hi
  by_cases z : i < ds.length
  · rw [List.getElem?_append_left (by simpa using z), List.getElem?_map] at hi
    rw [List.getElem?_eq_getElem z] at hi
    cases hi
    refine ⟨vs[i]'(by omega), ?_, .sh (hr i _ _ (List.getElem?_eq_getElem (by omega)) (List.getElem?_eq_getElem z)) fun _ h => h⟩
    unfold L2.start
    rw [List.getElem?_append_left (by simp; omega), List.getElem?_map, List.getElem?_eq_getElem (by omega)]
    rfl
  · rw [List.getElem?_append_right (by simp; omega), List.getElem?_replicate] at hi
    split at hi <;> cases hi
    exact absurd rfl hu
theorem fnG_of {f : Addr} {fd : FuncData} {qual : Str} {sp : Sp} (F : Fun g.K x qual st f fd) (S : FnScope N ps (defScope st)) (len : ∀ vs H Q E, sp vs H Q E → vs.length = ps.length)
    (hbody : ∀ (cdv : Value) (A : Around) (outer : List PySem.Env) (s : Shared) (H : Hp) (vs : List V) (Q : VK) (E : XK), RoomG k (A.deeper (PyProof.Rows.envOfC qual (defScope st) s.heap.objs.size f cdv)) → sp vs H Q E →
      ∃ t, PSs (cxOf (L2N.CX P w) P w g.K mg base N qual (defScope st) f cdv A outer s H E) (defBody st) t ∧ t { nx := fun _ H' => Q .non H', rt := Q } (L2.start N vs) H) : FnG P w g.K mg base (L2N.CX P w) (k + 1) f fd ps sp := by
  obtain ⟨oc, od, kV, doc, pm, an, cdv, ct, osl, rfl, lk, hcd⟩ := F.ex
  refine ⟨len, fun A outer s H args us vs Q E hr e0 hb r h => ?_⟩
  exact LamX.run_ofS lk hcd S hr.1 e0 hb r (len _ _ _ _ h) fun hr2 => hbody cdv A outer s H vs Q E ⟨hr2, hr.2⟩ h
theorem defP_of (T : Top g mg x st ps) (nb : noBuiltin mg) (hsc : FnScope N ps sc) (hst : defScope st = sc)
    (body : ∀ (cd : Value) (f : Addr) (A : Around) (outer : List PySem.Env) (s : Shared) (H : Hp) (E : XK), Ok g k (cxOf (L2N.CX P w) P w g.K mg base N x sc f cd A outer s H E) → L2N.Takes (cxOf (L2N.CX P w) P w g.K mg base N x sc f cd A outer s H E) (fun cls d _ H => E cls d H) →
      DSs g (fun cls d _ H => E cls d H) [] (cxOf (L2N.CX P w) P w g.K mg base N x sc f cd A outer s H E) (defBody st) sm)
    (m : List D → Out) (hm : ∀ ds, ds.length = ps.length → m ds ≠ .bad → toOut (sm (startE N ds)) = m ds) : DefP g P w mg base (k + 1) x ps.length m := by
  obtain ⟨f, fd, Fn, hmg, hb⟩ := T.ex
  subst hst
  refine ⟨f, fd, ps, fnG_of Fn hsc (fun vs H Q E h => h.1) (fun cdv A outer s H vs Q E hr h => ?_), hmg, Fn.kp, hb⟩
  have tk : L2N.Takes (cxOf (L2N.CX P w) P w g.K mg base N x (defScope st) f cdv A outer s H E) (fun cls d _ H => E cls d H) := L2N.takes_of rfl rfl rfl rfl
  refine ⟨_, body cdv f A outer s H E ⟨rfl, rfl, hr, hsc.nd, nb⟩ tk, ?_⟩
  obtain ⟨hn, F, ds, sub, tb, hl, hreps, post⟩ := h
  refine ⟨startE N ds, F, fun _ _ => False, env_start sub tb hl hreps, ?_⟩
  have e := hm ds (hl.symm.trans hn)
  have AB : AllB (fun _ _ => False) = fun _ => False := funext fun a => propext ⟨fun ⟨_, h⟩ => h, False.elim⟩
  rw [AB]
  cases z : sm (startE N ds) with
  | rt t ρ' =>
    rw [z] at e
    have e2 : m ds = .ret t := by
      by_cases q : m ds = .bad
      · rw [q] at post; exact post.elim
      · exact (e q).symm
    rw [e2] at post
    intro v σ' F' H' B' C E' o d s' _
    exact post v F' H' C E'.sub E'.tabs o (s'.less fun a h => .inr h)
  | nx ρ' =>
    rw [z] at e
    have e2 : m ds = .ret (.sh .non) := by
      by_cases q : m ds = .bad
      · rw [q] at post; exact post.elim
      · exact (e q).symm
    rw [e2] at post
    intro σ' F' H' B' E' s' _
    exact post .non F' H' (fun _ => False) E'.sub E'.tabs (.sh .non fun _ h => h) (s'.less fun a h => h.elim)
  | exc c ρ' =>
    rw [z] at e
    have e2 : m ds = .exc c := by
      by_cases q : m ds = .bad
      · rw [q] at post; exact post.elim
      · exact (e q).symm
    rw [e2] at post
    intro σ' F' H' B' E' s' _
    have q := post F' H' E'.sub E'.tabs (s'.less fun a h => h.elim)
    exact wxE q fun _ _ h => h
  | bk ρ' => rw [z] at e; by_cases q : m ds = .bad <;> first | (rw [q] at post; exact post.elim) | exact absurd (e q).symm q
  | ct ρ' => rw [z] at e; by_cases q : m ds = .bad <;> first | (rw [q] at post; exact post.elim) | exact absurd (e q).symm q
  | bad => rw [z] at e; by_cases q : m ds = .bad <;> first | (rw [q] at post; exact post.elim) | exact absurd (e q).symm q
end
end Mi

end
section
set_option Elab.async false
set_option autoImplicit false
set_option linter.all false
set_option maxRecDepth 100000
set_option maxHeartbeats 1000000
/-! Mi, 14: chained comparisons, the module's constants, texts. -/
namespace Mi
open PySem L2

section
variable {g : DX} {W : WX} {fx : List Nat} {X : Cx} {k : Nat} {e a b c : Expr} {fa fb fc : M D} {pos p : Pos} {x : Str}
theorem Ok.blk {s : Shared} {H : Hp} {scope : Scope} {cenv : PySem.Env} {fp : List Addr} (O : Ok g k X) : Ok g k (X.blk s H scope cenv fp) := ⟨O.K, O.calm, O.roomG, O.nd, O.nob⟩
theorem dv_gint {i : Int} (hm : ∃ t, X.mg x = some (.int i t)) (hg : Gl X x := by rfl) (hd : (x == ("__debug__" : Str)) = false := by decide) : DV g W X (.Name x pos) (pur (.int i)) := let ⟨_, h⟩ := hm; dv_glob_int h hg hd
theorem dv_gstr {y : Str} {l : List Nat} (hm : ∃ t, X.mg x = some (.str y t)) (hl : y.cps.toList = l := by rfl) (h : l.all (fun c => decide (c < 1114112)) = true := by decide) (hg : Gl X x := by rfl) (hd : (x == ("__debug__" : Str)) = false := by decide) : DV g W X (.Name x pos) (pur (.str l)) := let ⟨_, h'⟩ := hm; dv_glob_str h' hl h hg hd
theorem dv_chain {op op' : CmpOp} {r r' : R2} {f f' : D → D → Option D} (ho : OpR X (compareOp op) r) (ho' : OpR X (compareOp op') r') (hf : Op2 g f r) (hf' : Op2 g f' r') (hs : ∀ x y d, f x y = some d → ∃ b, d = .bl b) (ha : DV g W X a fa) (hb : DV g W X b fb) (hc : DV g W X c fc)
    (hm : lastMarks [op, op'] [b, c] = false := by with_unfolding_all rfl) : DV g W X (.Compare a [op, op'] [b, c] pos) (op3 f f' fa fb fc) := by
  refine PEmono (pe_chain ho ho' ha hb hc hm) fun σ H Q ⟨ρ, F, B, E, p⟩ => rdV.go E (p.bnd.mono fun dx ρ1 q v F1 H1 B1 E1 rx s1 => ?_)
  refine rdV.go E1 (((q.step s1).bnd).mono fun dy ρ2 q v2 F2 H2 B2 E2 ry s2 => ?_)
  have q := q.step s2
  cases z : f dx dy with
  | none => unfold bnd at q; simp only [z] at q; exact q.elim
  | some d =>
    obtain ⟨bo, rfl⟩ := hs _ _ _ z
    refine hf F2 H2 v v2 dx dy _ _ E2.sub (rx.mono s2.ff) ry z fun v3 F3 H3 l r3 => ?_
    cases r3
    refine ⟨bo, rfl, ?_⟩
    have q : PostV g W σ F2 H2 (AllB B2) Q ((if bo then bnd fc fun dz => opt (f' dy dz) else pur (.bl false)) ρ2) := by
      unfold bnd at q; simp only [z] at q; exact q
    have q := q.step (l.step (A := AllB B2))
    have E3 := l.env E2
    cases bo with
    | false => exact q _ F3 H3 B2 E3 .bl Step.refl
    | true =>
      refine rdV.go E3 (q.bnd.mono fun dz ρ4 q v4 F4 H4 B4 E4 rz s4 => ?_)
      obtain ⟨d, hd, p5⟩ := PostV.opt q
      exact hf' F4 H4 v2 v4 dy dz d Q E4.sub ((ry.mono l.ff).mono s4.ff) rz hd fun v5 F5 H5 l5 r5 => p5 v5 F5 H5 B4 (l5.env E4) r5 (s4.trans l5.step)
theorem fCmp_bl {p : Int → Int → Bool} : ∀ x y d, fCmp p x y = some d → ∃ b, d = .bl b := fun x y d h => by
  unfold fCmp fII at h
  split at h
  · simp only [if_true] at h; cases h; exact ⟨_, rfl⟩
  · cases h
theorem fEq_bl : ∀ x y d, fEq x y = some d → ∃ b, d = .bl b := fun x y d h => by
  obtain ⟨b, _, rfl⟩ := map_some h
  exact ⟨b, rfl⟩
abbrev cLt : D → D → Option D := fCmp fun i j => decide (i < j)
abbrev cLe : D → D → Option D := fCmp fun i j => decide (i ≤ j)
theorem dv_le_le (ha : DV g W X a fa) (hb : DV g W X b fb) (hc : DV g W X c fc) (hm : lastMarks [.LtE, .LtE] [b, c] = false := by with_unfolding_all rfl) : DV g W X (.Compare a [.LtE, .LtE] [b, c] pos) (op3 cLe cLe fa fb fc) := dv_chain op_le op_le (op2_II0 fun _ _ _ => .bl) (op2_II0 fun _ _ _ => .bl) fCmp_bl ha hb hc hm
theorem dv_le_lt (ha : DV g W X a fa) (hb : DV g W X b fb) (hc : DV g W X c fc) (hm : lastMarks [.LtE, .Lt] [b, c] = false := by with_unfolding_all rfl) : DV g W X (.Compare a [.LtE, .Lt] [b, c] pos) (op3 cLe cLt fa fb fc) := dv_chain op_le op_lt (op2_II0 fun _ _ _ => .bl) (op2_II0 fun _ _ _ => .bl) fCmp_bl ha hb hc hm
theorem dv_eq_eq (O : Ok g k X) (ha : DV g W X a fa) (hb : DV g W X b fb) (hc : DV g W X c fc) (hm : lastMarks [.Eq, .Eq] [b, c] = false := by with_unfolding_all rfl) : DV g W X (.Compare a [.Eq, .Eq] [b, c] pos) (op3 fEq fEq fa fb fc) :=
  have hu := O.hu
  dv_chain (O.K ▸ op_eqD (by omega)) (O.K ▸ op_eqD (by omega)) op2_eq op2_eq fEq_bl ha hb hc hm

/-! ### texts' methods -/
/-- lower of plain signs -/
def low1 (c : Nat) : Nat := if 65 ≤ c ∧ c ≤ 90 then c + 32 else c
theorem lens_sum : ∀ ls : List (List Nat), ((ls.map S).map (·.length)).sum = (ls.map List.length).sum
  | [] => rfl
  | l :: ls => by rw [List.map_cons, List.map_cons, List.sum_cons, List.map_cons, List.sum_cons, lens_sum ls, S_length]
def fJoin : D → D → Option D
  | .str s, .lst ds => (dStrs ds).bind fun ls => if decide ((ls.map List.length).sum + ls.length * s.length ≤ 16777216) then some (.str (TL.joinL s ls)) else none
  | _, _ => none
def fSplit : D → D → Option D
  | .str x, .str y => if y.all (fun c => decide (c < 256)) && (decide (y ≠ []) && decide (x.length + 2 ≤ 16777216)) then some (.lst ((TL.spl y 0 [] x).map .str)) else none
  | _, _ => none
def fLower : D → Option D
  | .str l => if l.all (fun c => decide (c < 128)) && decide (l.length ≤ 5592405) then some (.str (l.map low1)) else none
  | _ => none
theorem lower_ascii {l : List Nat} (h : ∀ c ∈ l, c < 128) : Txt.lower (S l) = S (l.map low1) := by
  have one : ∀ c : Nat, c < 128 → Unicode.lowerOf c = [low1 c] := by
    have : ∀ c : _root_.Fin 128, Unicode.lowerOf c.val = [low1 c.val] := by decide +kernel
    exact fun c hc => this ⟨c, hc⟩
  have key : ∀ (f : Nat → Nat → List Nat) (m : List Nat), (∀ (i : Nat) c, m[i]? = some c → f i c = [low1 c]) → ((m.toArray.mapIdx fun i c => (f i c).toArray).flatten) = (m.map low1).toArray := by
    intro f m hm
    refine Array.ext' ?_
    rw [Array.toList_flatten]
    simp only [Array.toList_mapIdx]
    have e : (m.mapIdx fun i c => (f i c).toArray) = m.map fun c => #[low1 c] := by
      refine List.ext_getElem? fun i => ?_
      rw [List.getElem?_mapIdx, List.getElem?_map]
      cases q : m[i]? with
      | none => rfl
      | some c => simp [hm i c q]
    rw [e, List.map_map]
    clear e hm
    induction m with
    | nil => rfl
    | cons c m ih => simpa using ih
  show (⟨((S l).cps.mapIdx fun i c => (Unicode.lowerAt (S l).cps i).toArray).flatten⟩ : Str) = S (l.map low1)
  refine congrArg Str.mk (key _ l fun i c hc => ?_)
  unfold Unicode.lowerAt
  have hc' : (S l).cps[i]? = some c := by simpa [S] using hc
  rw [hc']
  have hlt := h c (List.mem_of_getElem? hc)
  have n : (c == 0x3A3) = false := by
    rw [beq_eq_false_iff_ne]
    omega
  simp only [n, Bool.false_and, Bool.false_eq_true, if_false]
  exact one c hlt
/-- s.m(), s.m(e) of texts -/
theorem dv_m0 {f : D → Option D} {r : V → List V → Hp → VK → Prop} {e' : Expr} (hr : ∀ (F H : Hp) (l : List Nat) (d : D) (Q : VK), Sub F H → (∀ c ∈ l, c < 1114112) → f (.str l) = some d → (∀ v F' H', Laid F H F' H' → Rep g.K F' v d → Q v H') → r (.str (S l)) [] H Q)
    (hn : ∀ d d', f d = some d' → ∃ l, d = .str l) (ha : DV g W X a fa) (pe : PE X a (rdV g W fa) → PE X e' (tM0 r (rdV g W fa))) : DV g W X e' (op1 f fa) := by
  refine PEmono (pe ha) fun σ H Q ⟨ρ, F, B, E, p⟩ => rdV.go E (p.bnd.mono fun dx ρ1 q v F1 H1 B1 E1 rx s => ?_)
  obtain ⟨d, hd, p3⟩ := PostV.opt q
  obtain ⟨l, rfl⟩ := hn _ _ hd
  cases rx with
  | str hl => exact ⟨⟨_, rfl⟩, hr F1 H1 l d Q E1.sub hl hd fun v3 F3 H3 l r3 => p3 v3 F3 H3 B1 (l.env E1) r3 (s.trans l.step)⟩
theorem dv_m1 {f : D → D → Option D} {r : V → List V → Hp → VK → Prop} {e' : Expr} (hr : ∀ (F H : Hp) (l : List Nat) (y : V) (dy d : D) (Q : VK), Sub F H → (∀ c ∈ l, c < 1114112) → Rep g.K F y dy → f (.str l) dy = some d → (∀ v F' H', Laid F H F' H' → Rep g.K F' v d → Q v H') → r (.str (S l)) [y] H Q)
    (hn : ∀ d dy d', f d dy = some d' → ∃ l, d = .str l) (ha : DV g W X a fa) (hb : DV g W X b fb) (pe : PE X a (rdV g W fa) → PE X b (rdV g W fb) → PE X e' (tM1 r (rdV g W fa) (rdV g W fb))) : DV g W X e' (bnd (bnd fa fun d => match d with | .str l => pur l | _ => bad) fun l => bnd fb fun dy => opt (f (.str l) dy)) := by
  refine PEmono (pe ha hb) fun σ H Q ⟨ρ, F, B, E, p⟩ => rdV.go E ((Then.bnd p.bnd).mono fun dx ρ1 q v F1 H1 B1 E1 rx s => ?_)
  cases rx <;> try exact q.elim
  rename_i l hl
  refine ⟨⟨_, rfl⟩, rdV.go E1 ((PostV.bnd (PostV.step s q)).mono fun dy ρ2 q2 y F2 H2 B2 E2 ry s2 => ?_)⟩
  obtain ⟨d, hd, p3⟩ := PostV.opt q2
  exact hr F2 H2 l y dy d Q E2.sub hl ry hd fun v3 F3 H3 l r3 => p3 v3 F3 H3 B2 (l.env E2) r3 (s2.trans l.step)
def onS (fa : M D) : M (List Nat) := bnd fa fun d => match d with | .str l => pur l | _ => bad
def mth1 (f : D → D → Option D) (fa fb : M D) : M D := bnd (onS fa) fun l => bnd fb fun dy => opt (f (.str l) dy)
section
variable {apos : Pos}
theorem dv_lower (ha : DV g W X a fa) (hbase : attributeBase a "lower" X.env (eval a X.env) = eval a X.env := by rfl) (hline : (apos.endLine == pos.line) = true := by rfl) : DV g W X (.Call (.Attribute a "lower" apos) [] [] pos) (op1 fLower fa) :=
  dv_m0 (fun F H l d Q s hl e k => by
    obtain ⟨h, rfl⟩ := ifSome e
    simp only [Bool.and_eq_true, List.all_eq_true, decide_eq_true_eq] at h
    refine ⟨_, rfl, rfl, by rw [S_length]; exact h.2, ?_⟩
    rw [lower_ascii h.1]
    refine k _ _ _ (Laid.refl s) (.str fun c hc => ?_)
    obtain ⟨c', h', rfl⟩ := List.mem_map.mp hc
    have := h.1 c' h'
    unfold low1
    split <;> omega) (fun d d' h => by
    cases d <;> try cases h
    exact ⟨_, rfl⟩) ha fun ha => pe_lower ha hbase hline
theorem dv_join (ha : DV g W X a fa) (hb : DV g W X b fb) (hK : X.K = g.K) (hs : starEach [b] X.env = [(false, eval b X.env)] := by rfl) (hbase : attributeBase a "join" X.env (eval a X.env) = eval a X.env := by rfl) (hline : (apos.endLine == pos.line) = true := by rfl) : DV g W X (.Call (.Attribute a "join" apos) [b] [] pos) (mth1 fJoin fa fb) :=
  dv_m1 (fun F H l y dy d Q s hl ry e k => by
    cases dy <;> try cases e
    rename_i ds
    obtain ⟨p, vs, rfl, hq, hlen, hr⟩ := lst_inv s ry
    cases z : dStrs ds with
    | none => simp only [fJoin, z] at e; cases e
    | some ls =>
      simp only [fJoin, z] at e
      obtain ⟨h0, rfl⟩ := ifSome e
      have h := of_decide_eq_true h0
      have z' := strs_some z
      subst z'
      have hv := vs_str hlen hr
      have hv2 : vs = (ls.map S).map V.str := by rw [hv, List.map_map]; rfl
      rw [hv2] at hq
      refine ⟨_, p, ls.map S, rfl, rfl, .inl hq, by rw [lens_sum, List.length_map, S_length]; exact h, ?_⟩
      have e2 : Txt.join (S l) (ls.map S) = S (TL.joinL l ls) := by
        rw [TL.join_eq]
        refine TL.ext_tl ?_
        rw [TL.tl_join]
        have : (ls.map S).map TL.tl = ls := by
          rw [List.map_map]
          exact (List.map_congr_left fun x _ => rfl).trans (List.map_id ls)
        rw [this]
        rfl
      rw [e2]
      refine k _ _ _ (Laid.refl s) (.str ?_)
      have hall : ∀ m ∈ ls, ∀ c ∈ m, c < 1114112 := fun m hm c hc => by
        obtain ⟨i, hi, rfl⟩ := List.getElem_of_mem hm
        have := hr i _ (.str ls[i]) (List.getElem?_eq_getElem (by rw [hlen, List.length_map]; exact hi)) (by rw [List.getElem?_map, List.getElem?_eq_getElem hi]; rfl)
        generalize vs[i]'(by rw [hlen, List.length_map]; exact hi) = vi at this
        cases this with
        | str h => exact h c hc
      clear h0 z hv hv2 hq h e2 hr hlen ry e k
      induction ls with
      | nil => intro c hc; simp [TL.joinL] at hc
      | cons x xs ih =>
        cases xs with
        | nil => intro c hc; simp [TL.joinL] at hc; exact hall x (by simp) c hc
        | cons y ys =>
          intro c hc
          simp only [TL.joinL, List.mem_append] at hc
          rcases hc with hc | hc | hc
          · exact hall x (by simp) c hc
          · exact hl c hc
          · exact ih (fun m hm => hall m (by simp [hm])) c hc) (fun d dy d' h => by
    cases d <;> try cases h
    exact ⟨_, rfl⟩) ha hb fun ha hb => pe_m1 PySem.F.slot_str_join PySem.F.type_str_join (hK ▸ mt_join) ha hb hs hbase hline
end
end
end Mi

end
section
set_option Elab.async false
set_option autoImplicit false
set_option linter.all false
set_option maxRecDepth 100000
set_option maxHeartbeats 1000000
/-! Mi, 15: comparisons as tests. -/
namespace Mi
open PySem L2
section
variable {g : DX} {W : WX} {fx : List Nat} {X : Cx} {k : Nat} {e a b c : Expr} {fa fb fc : M D} {pos p : Pos} {x : Str}
/-- a test that is a value: reading of a value, then its truth -/
theorem tTest_of {te : TE} {m : M D} (h : ∀ σ H Q, rdV g W m σ H Q → te σ H Q) : ∀ σ H Q, rdT g W (bnd m asB) σ H Q → tTest te σ H Q := fun σ H Q ⟨ρ, F, B, E, p⟩ => h σ H _ (rdV.go E (p.bnd.mono fun d ρ1 q v F1 H1 B1 E1 r s => by
  cases r <;> try exact q.elim
  exact ⟨_, rfl, q F1 H1 B1 E1 s⟩))
theorem rd_op2 {f : D → D → Option D} {r : R2} (hr : Op2 g f r) : ∀ σ H Q, rdV g W (op2 f fa fb) σ H Q → tOp r (rdV g W fa) (rdV g W fb) σ H Q := fun σ H Q ⟨ρ, F, B, E, p⟩ => rdV.go E (p.bnd.mono fun x ρ1 q v F1 H1 B1 E1 rx s => by
  refine rdV.go E1 (((q.step s).bnd).mono fun y ρ2 q2 v2 F2 H2 B2 E2 ry s2 => ?_)
  obtain ⟨d, hd, p3⟩ := PostV.opt q2
  exact hr F2 H2 v v2 x y d Q E2.sub (rx.mono s2.ff) ry hd fun v3 F3 H3 l r3 => p3 v3 F3 H3 B2 (l.env E2) r3 (s2.trans l.step))
theorem dt_op2 {f : D → D → Option D} {r : R2} {op : CmpOp} (hr : Op2 g f r) (ho : OpR X (compareOp op) r) (ha : DV g W X a fa) (hb : DV g W X b fb) (hm : behindInMarks op b = false) : DT g W X (.Compare a [op] [b] pos) (bnd (op2 f fa fb) asB) :=
  PTmono (pt_cmpR ho ha hb hm) (tTest_of (rd_op2 hr))
theorem dt_lt (ha : DV g W X a fa) (hb : DV g W X b fb) : DT g W X (.Compare a [.Lt] [b] pos) (bnd (op2 (fCmp fun i j => decide (i < j)) fa fb) asB) := dt_op2 (op2_II0 fun _ _ _ => .bl) op_lt ha hb (nomark _)
theorem dt_le (ha : DV g W X a fa) (hb : DV g W X b fb) : DT g W X (.Compare a [.LtE] [b] pos) (bnd (op2 (fCmp fun i j => decide (i ≤ j)) fa fb) asB) := dt_op2 (op2_II0 fun _ _ _ => .bl) op_le ha hb (nomark _)
theorem dt_gt (ha : DV g W X a fa) (hb : DV g W X b fb) : DT g W X (.Compare a [.Gt] [b] pos) (bnd (op2 (fCmp fun i j => decide (j < i)) fa fb) asB) := dt_op2 (op2_II0 fun _ _ _ => .bl) op_gt ha hb (nomark _)
theorem dt_ge (ha : DV g W X a fa) (hb : DV g W X b fb) : DT g W X (.Compare a [.GtE] [b] pos) (bnd (op2 (fCmp fun i j => decide (j ≤ i)) fa fb) asB) := dt_op2 (op2_II0 fun _ _ _ => .bl) op_ge ha hb (nomark _)
theorem dt_eq (ha : DV g W X a fa) (hb : DV g W X b fb) (hK : X.K = g.K) (hu : X.A.units + 65 < cLine) : DT g W X (.Compare a [.Eq] [b] pos) (bnd (op2 fEq fa fb) asB) := dt_op2 op2_eq (hK ▸ op_eqD (by omega)) ha hb (nomark _)
theorem dt_ne (ha : DV g W X a fa) (hb : DV g W X b fb) (hK : X.K = g.K) (hu : X.A.units + 65 < cLine) : DT g W X (.Compare a [.NotEq] [b] pos) (bnd (op2 fNe fa fb) asB) := dt_op2 op2_ne (hK ▸ op_neD (by omega)) ha hb (nomark _)
theorem dt_in (ha : DV g W X a fa) (hb : DV g W X b fb) (hK : X.K = g.K) (hu : X.A.units + 65 < cLine) (hm : behindInMarks .In b = false := by rfl) : DT g W X (.Compare a [.In] [b] pos) (bnd (op2 (fIn false) fa fb) asB) :=
  dt_op2 (Op2.or (op2_inC false) (Op2.or (op2_inL false) (op2_inT false))) (OpR.or (op_inC false) (OpR.or (hK ▸ op_inDL false hu) (hK ▸ op_inDT false hu))) ha hb hm
theorem dt_notin (ha : DV g W X a fa) (hb : DV g W X b fb) (hK : X.K = g.K) (hu : X.A.units + 65 < cLine) (hm : behindInMarks .NotIn b = false := by rfl) : DT g W X (.Compare a [.NotIn] [b] pos) (bnd (op2 (fIn true) fa fb) asB) :=
  dt_op2 (Op2.or (op2_inC true) (Op2.or (op2_inL true) (op2_inT true))) (OpR.or (op_inC true) (OpR.or (hK ▸ op_inDL true hu) (hK ▸ op_inDT true hu))) ha hb hm
theorem rd_op3 {r r' : R2} {f f' : D → D → Option D} (hf : Op2 g f r) (hf' : Op2 g f' r') (hs : ∀ x y d, f x y = some d → ∃ b, d = .bl b) : ∀ σ H Q, rdV g W (op3 f f' fa fb fc) σ H Q → tChain r r' (rdV g W fa) (rdV g W fb) (rdV g W fc) σ H Q := fun σ H Q ⟨ρ, F, B, E, p⟩ => rdV.go E (p.bnd.mono fun dx ρ1 q v F1 H1 B1 E1 rx s1 => by
  refine rdV.go E1 (((q.step s1).bnd).mono fun dy ρ2 q v2 F2 H2 B2 E2 ry s2 => ?_)
  have q := q.step s2
  cases z : f dx dy with
  | none => unfold bnd at q; simp only [z] at q; exact q.elim
  | some d =>
    obtain ⟨bo, rfl⟩ := hs _ _ _ z
    refine hf F2 H2 v v2 dx dy _ _ E2.sub (rx.mono s2.ff) ry z fun v3 F3 H3 l r3 => ?_
    cases r3
    refine ⟨bo, rfl, ?_⟩
    have q : PostV g W σ F2 H2 (AllB B2) Q ((if bo then bnd fc fun dz => opt (f' dy dz) else pur (.bl false)) ρ2) := by
      unfold bnd at q; simp only [z] at q; exact q
    have q := q.step (l.step (A := AllB B2))
    have E3 := l.env E2
    cases bo with
    | false => exact q _ F3 H3 B2 E3 .bl Step.refl
    | true =>
      refine rdV.go E3 (q.bnd.mono fun dz ρ4 q v4 F4 H4 B4 E4 rz s4 => ?_)
      obtain ⟨d, hd, p5⟩ := PostV.opt q
      exact hf' F4 H4 v2 v4 dy dz d Q E4.sub ((ry.mono l.ff).mono s4.ff) rz hd fun v5 F5 H5 l5 r5 => p5 v5 F5 H5 B4 (l5.env E4) r5 (s4.trans l5.step))
theorem dt_le_le (ha : DV g W X a fa) (hb : DV g W X b fb) (hc : DV g W X c fc) (hm : lastMarks [.LtE, .LtE] [b, c] = false := by with_unfolding_all rfl) : DT g W X (.Compare a [.LtE, .LtE] [b, c] pos) (bnd (op3 cLe cLe fa fb fc) asB) := PTmono (pt_chain op_le op_le ha hb hc hm) (tTest_of (rd_op3 (op2_II0 fun _ _ _ => .bl) (op2_II0 fun _ _ _ => .bl) fCmp_bl))
theorem dt_le_lt (ha : DV g W X a fa) (hb : DV g W X b fb) (hc : DV g W X c fc) (hm : lastMarks [.LtE, .Lt] [b, c] = false := by with_unfolding_all rfl) : DT g W X (.Compare a [.LtE, .Lt] [b, c] pos) (bnd (op3 cLe cLt fa fb fc) asB) := PTmono (pt_chain op_le op_lt ha hb hc hm) (tTest_of (rd_op3 (op2_II0 fun _ _ _ => .bl) (op2_II0 fun _ _ _ => .bl) fCmp_bl))
theorem dt_eq_eq (O : Ok g k X) (ha : DV g W X a fa) (hb : DV g W X b fb) (hc : DV g W X c fc) (hm : lastMarks [.Eq, .Eq] [b, c] = false := by with_unfolding_all rfl) : DT g W X (.Compare a [.Eq, .Eq] [b, c] pos) (bnd (op3 fEq fEq fa fb fc) asB) :=
  have hu := O.hu
  PTmono (pt_chain (O.K ▸ op_eqD (by omega)) (O.K ▸ op_eqD (by omega)) ha hb hc hm) (tTest_of (rd_op3 op2_eq op2_eq fEq_bl))
end
end Mi

end
section
set_option Elab.async false
set_option autoImplicit false
set_option linter.all false
set_option maxRecDepth 100000
set_option maxHeartbeats 1000000
/-! Mi, 16: dicts. -/
namespace Mi
open PySem L2

/-! ### keys -/
def keyK : D → Option Key
  | .int i => some (.inl i)
  | .str l => some (.inr (S l))
  | _ => none
def keysK : List D → Option (List Key)
  | [] => some []
  | d :: ds => match keyK d with
    | none => none
    | some k => match keysK ds with
      | none => none
      | some ks => some (k :: ks)
/-- the key that d is, in a dict of ints and texts (t = false) or of tuples of these -/
def dKey (t : Bool) (d : D) : Option (List Key) :=
  match t, d with
  | false, d => (match keyK d with | some k => some [k] | none => none)
  | true, .tup ds => keysK ds
  | _, _ => none
theorem keyK_kD (k : Key) : keyK (kD k) = some k := by
  cases k with
  | inl i => rfl
  | inr x => show some (Sum.inr (S x.cps.toList)) = _; rw [S_of]
theorem keyK_some {d : D} {k : Key} (h : keyK d = some k) : d = kD k := by
  cases d <;> simp only [keyK] at h <;> cases h <;> rfl
theorem keysK_kD : ∀ ks : List Key, keysK (ks.map kD) = some ks
  | [] => rfl
  | k :: ks => by rw [List.map_cons, keysK, keyK_kD, keysK_kD ks]
theorem keysK_some : ∀ {ds : List D} {ks : List Key}, keysK ds = some ks → ds = ks.map kD
  | [], ks, h => by cases h; rfl
  | d :: ds, ks, h => by
    rw [keysK] at h
    cases q : keyK d with
    | none => rw [q] at h; cases h
    | some k =>
      rw [q] at h
      cases r : keysK ds with
      | none => rw [r] at h; cases h
      | some kr =>
        rw [r] at h; cases h
        rw [List.map_cons, ← keyK_some q, ← keysK_some r]
def lookA {α : Type} (t : Bool) (kts : List (D × α)) (k : List Key) : Option α := (kts.find? fun p => decide (dKey t p.1 = some k)).map (·.2)
def putA {α : Type} (t : Bool) (kts : List (D × α)) (q : D) (k : List Key) (x : α) : List (D × α) :=
  if (kts.any fun p => decide (dKey t p.1 = some k)) = true then kts.map (fun p => if dKey t p.1 = some k then (p.1, x) else p) else kts ++ [(q, x)]

section
variable {K : PySem.W.Frag} {F H : Hp} {v y : V} {d q : D} {t : Bool} {k : List Key}
theorem rep_keyK {k : Key} (r : Rep K F y q) (h : keyK q = some k) : y = kV k := by
  cases r <;> simp only [keyK] at h <;> cases h <;> rfl
theorem reps_keysK : ∀ {vs : List V} {ds : List D} {ks : List Key}, vs.length = ds.length → (∀ (i : Nat) v d, vs[i]? = some v → ds[i]? = some d → Rep K F v d) → keysK ds = some ks → vs = ks.map kV
  | [], [], ks, _, _, h => by cases h; rfl
  | [], _ :: _, _, h, _, _ => by cases h
  | _ :: _, [], _, h, _, _ => by cases h
  | v :: vs, d :: ds, ks, hl, hr, h => by
    rw [keysK] at h
    cases q : keyK d with
    | none => rw [q] at h; cases h
    | some k =>
      rw [q] at h
      cases r : keysK ds with
      | none => rw [r] at h; cases h
      | some kr =>
        rw [r] at h; cases h
        rw [List.map_cons, rep_keyK (hr 0 v d rfl rfl) q, ← reps_keysK (by simpa using hl) (fun i v d h1 h2 => hr (i + 1) v d (by simpa using h1) (by simpa using h2)) r]
/-- found, or not -/
def Got {α : Type} (R : V → α → Prop) : Option α → Option V → Prop
  | none, o => o = none
  | some e, o => ∃ w, o = some w ∧ R w e
/-- a dict's lists at κ-keys: raw ones and data -/
theorem look_at {κ α : Type} [DecidableEq κ] {R : V → α → Prop} (enc : κ → List Key) (inj : ∀ a b, enc a = enc b → a = b) : ∀ {kvs : List (κ × V)} {ds : List (D × α)}, kvs.length = ds.length → (∀ (i : Nat) k v d e, kvs[i]? = some (k, v) → ds[i]? = some (d, e) → dKey t d = some (enc k)) →
    (∀ (i : Nat) k v d e, kvs[i]? = some (k, v) → ds[i]? = some (d, e) → R v e) → ∀ k, Got R (lookA t ds (enc k)) (valV kvs k)
  | [], [], _, _, _, k => valV_nil
  | [], _ :: _, h, _, _, _ => by cases h
  | _ :: _, [], h, _, _, _ => by cases h
  | (k0, v0) :: kvs, (d0, e0) :: ds, hl, hk, hr, k => by
    have h0 := hk 0 k0 v0 d0 e0 rfl rfl
    have ih := look_at enc inj (kvs := kvs) (ds := ds) (by simpa using hl) (fun i k v d e h1 h2 => hk (i + 1) k v d e (by simpa using h1) (by simpa using h2)) (fun i k v d e h1 h2 => hr (i + 1) k v d e (by simpa using h1) (by simpa using h2)) k
    by_cases e : k0 = k
    · subst e
      have z : lookA t ((d0, e0) :: ds) (enc k0) = some e0 := by simp [lookA, List.find?_cons, h0]
      rw [z]
      exact ⟨v0, valV_pos rfl, hr 0 k0 v0 d0 e0 rfl rfl⟩
    · have ne : ¬ enc k0 = enc k := fun z => e (inj _ _ z)
      have z : lookA t ((d0, e0) :: ds) (enc k) = lookA t ds (enc k) := by simp [lookA, List.find?_cons, h0, ne]
      rw [z, valV_neg (p := (k0, v0)) e]
      exact ih
theorem any_at {κ α : Type} [DecidableEq κ] (enc : κ → List Key) (inj : ∀ a b, enc a = enc b → a = b) : ∀ {kvs : List (κ × V)} {ds : List (D × α)}, kvs.length = ds.length → (∀ (i : Nat) k v d e, kvs[i]? = some (k, v) → ds[i]? = some (d, e) → dKey t d = some (enc k)) →
    ∀ k, (kvs.any fun kv => decide (kv.1 = k)) = ds.any fun p => decide (dKey t p.1 = some (enc k))
  | [], [], _, _, k => rfl
  | [], _ :: _, h, _, _ => by cases h
  | _ :: _, [], h, _, _ => by cases h
  | (k0, v0) :: kvs, (d0, e0) :: ds, hl, hk, k => by
    have h0 := hk 0 k0 v0 d0 e0 rfl rfl
    have ih := any_at enc inj (kvs := kvs) (ds := ds) (by simpa using hl) (fun i k v d e h1 h2 => hk (i + 1) k v d e (by simpa using h1) (by simpa using h2)) k
    rw [List.any_cons, List.any_cons, ih, h0]
    congr 1
    refine decide_eq_decide.mpr ⟨fun z => by rw [show k0 = k from z], fun z => inj _ _ (Option.some.inj z)⟩
theorem kD_key (k : Key) : dKey false (kD k) = some [k] := by unfold dKey; simp only [keyK_kD]
theorem kDs_key (ks : List Key) : dKey true (.tup (ks.map kD)) = some ks := by unfold dKey; exact keysK_kD ks
theorem inj1 (a b : Key) (h : ([a] : List Key) = [b]) : a = b := by cases h; rfl
/-- what a shared dict holds at a key -/
theorem rep_get {ds : List (D × D)} (s : Ex F H) (r : Rep K F v (.dct t ds)) (ry : Rep K F y q) (hk : dKey t q = some k) :
    ∃ a, v = .ref a ∧ ∃ o, DGet H a y o ∧ Got (Rep K F) (lookA t ds k) o := by
  cases r with
  | @dK a kvs _ rd hl h1 h2 =>
    unfold dKey at hk
    cases z : keyK q with
    | none => simp only [z] at hk; cases hk
    | some k0 =>
      simp only [z] at hk; cases hk
      have l := look_at (t := false) (R := Rep K F) (fun k => [k]) inj1 hl (fun i k v d e a b => by rw [h1 i k v d e a b]; exact kD_key k) h2 k0
      refine ⟨a, rfl, valV kvs k0, .inl ⟨kvs, k0, s.rdD trivial rd, rep_keyK ry z, rfl⟩, ?_⟩
      exact l
  | @dT a kvs _ rd hl h1 h2 =>
    unfold dKey at hk
    cases ry with
    | @tup b vs es hb hle he =>
      simp only at hk
      have l := look_at (t := true) (R := Rep K F) (fun k => k) (fun _ _ h => h) hl (fun i k v d e a b => by rw [h1 i k v d e a b]; exact kDs_key k) h2 k
      have e := reps_keysK hle he hk
      subst e
      exact ⟨a, rfl, valV kvs k, .inr ⟨kvs, k, b, s.rdD trivial rd, rfl, ex_t s hb, rfl⟩, l⟩
    | _ => cases hk
/-- what an own dict holds at a key -/
theorem own_get {kts : List (D × T)} {C : Addr → Prop} (s : Ex F H) (o : Own K F H v (.dct t kts) C) (ry : Rep K F y q) (hk : dKey t q = some k) :
    ∃ a, v = .ref a ∧ ∃ o, DGet H a y o ∧ Got (fun w e => ∃ B, Own K F H w e B) (lookA t kts k) o := by
  cases o with
  | @dK a kvs _ _ B hf hh hl h1 h2 hd hn hA =>
    unfold dKey at hk
    cases z : keyK q with
    | none => simp only [z] at hk; cases hk
    | some k0 =>
      simp only [z] at hk; cases hk
      have l := look_at (t := false) (R := fun w e => ∃ B, Own K F H w e B) (fun k => [k]) inj1 hl (fun i k v d e a b => by rw [h1 i k v d e a b]; exact kD_key k) (fun i k v d e a b => ⟨_, h2 i k v d e a b⟩) k0
      exact ⟨a, rfl, valV kvs k0, .inl ⟨kvs, k0, .inl hh, rep_keyK ry z, rfl⟩, l⟩
  | @dT a kvs _ _ B hf hh hl h1 h2 hd hn hA =>
    unfold dKey at hk
    cases ry with
    | @tup b vs es hb hle he =>
      simp only at hk
      have l := look_at (t := true) (R := fun w e => ∃ B, Own K F H w e B) (fun k => k) (fun _ _ h => h) hl (fun i k v d e a b => by rw [h1 i k v d e a b]; exact kDs_key k) (fun i k v d e a b => ⟨_, h2 i k v d e a b⟩) k
      have e := reps_keysK hle he hk
      subst e
      exact ⟨a, rfl, valV kvs k, .inr ⟨kvs, k, b, .inl hh, rfl, ex_t s hb, rfl⟩, l⟩
    | _ => cases hk
end

/-! ### reading -/
/-- the dict that a slot holds, of its own or shared -/
def shT (p : D × D) : D × T := (p.1, .sh p.2)
def viewD : T → Option (Bool × List (D × T))
  | .sh (.dct t ds) => some (t, ds.map shT)
  | .dct t kts => some (t, kts)
  | _ => none
theorem lookA_sh {t : Bool} {k : List Key} : ∀ ds : List (D × D), lookA t (ds.map shT) k = (lookA t ds k).map .sh
  | [] => rfl
  | p :: ds => by
    by_cases h : dKey t p.1 = some k
    · simp [lookA, shT, List.find?_cons, h]
    · have := lookA_sh (t := t) (k := k) ds
      unfold lookA at this ⊢
      rw [List.map_cons, List.find?_cons, List.find?_cons]
      simp only [shT, h, decide_false]
      exact this
section
variable {K : PySem.W.Frag} {Tb : List (Addr × Str)} {F H : Hp} {σ : L2.St} {ρ : Env} {B : Nat → Addr → Prop} {v y : V} {q : D} {t : Bool} {k : List Key} {kts : List (D × T)} {u : T} {C : Addr → Prop}
theorem view_get (s : Ex F H) (o : Own K F H v u C) (hv : viewD u = some (t, kts)) (ry : Rep K F y q) (hk : dKey t q = some k) :
    ∃ a, v = .ref a ∧ ∃ o, DGet H a y o ∧ Got (fun w u => ∀ e, u = .sh e → Rep K F w e) (lookA t kts k) o := by
  unfold viewD at hv
  split at hv
  rotate_left
  rotate_left
  · cases hv
  · rename_i t0 ds
    simp only [Option.some.injEq, Prod.mk.injEq] at hv
    obtain ⟨e1, e2⟩ := hv
    subst e2
    subst e1
    cases o with
    | sh r n =>
      obtain ⟨a, e, o, g, l⟩ := rep_get s r ry hk
      refine ⟨a, e, o, g, ?_⟩
      rw [lookA_sh]
      cases z : lookA t0 ds k with
      | none => rw [z] at l; exact l
      | some e =>
        rw [z] at l
        obtain ⟨w, e1, r⟩ := l
        exact ⟨w, e1, fun e' he => by cases he; exact r⟩
  · simp only [Option.some.injEq, Prod.mk.injEq] at hv
    obtain ⟨e1, e2⟩ := hv
    subst e2
    subst e1
    obtain ⟨a, e, o, g, l⟩ := own_get s o ry hk
    refine ⟨a, e, o, g, ?_⟩
    cases z : lookA _ _ k with
    | none => rw [z] at l; exact l
    | some e =>
      rw [z] at l
      obtain ⟨w, e1, B, o⟩ := l
      refine ⟨w, e1, fun e' he => ?_⟩
      subst he
      cases o with | sh r _ => exact r
end
/-- asks u at the key q -/
def fLook (u : T) (q : D) : Option (Option T) :=
  match viewD u with
  | some (t, kts) => (match dKey t q with | some k => some (lookA t kts k) | none => none)
  | none => none
theorem look_get {K : PySem.W.Frag} {F H : Hp} {v y : V} {q : D} {u : T} {C : Addr → Prop} {r : Option T} (s : Ex F H) (o : Own K F H v u C) (ry : Rep K F y q) (h : fLook u q = some r) :
    ∃ a, v = .ref a ∧ ∃ o, DGet H a y o ∧ Got (fun w u => ∀ e, u = .sh e → Rep K F w e) r o := by
  unfold fLook at h
  split at h
  · rename_i t kts hv
    split at h
    · rename_i k hk
      cases h
      exact view_get s o hv ry hk
    · cases h
  · cases h
def fDget (d q : D) : Option D := match fLook (.sh d) q with | some (some (.sh e)) => some e | _ => none
def fDin (n : Bool) (q d : D) : Option D := match fLook (.sh d) q with | some r => some (.bl (r.isSome != n)) | _ => none
def mDget (i : Nat) (fk : M D) : M D := bnd (isU i) fun _ => bnd fk fun q ρ =>
  match ρ[i]? with
  | some u => (match fLook u q with | some (some (.sh e)) => .ok e ρ | _ => .bad)
  | none => .bad
def mDin (n : Bool) (i : Nat) (fk : M D) : M D := bnd fk fun q => bnd (isU i) fun _ ρ =>
  match ρ[i]? with
  | some u => (match fLook u q with | some r => .ok (.bl (r.isSome != n)) ρ | _ => .bad)
  | none => .bad
def mDget2 (i : Nat) (fk fx : M D) : M D := bnd (isU i) fun _ => bnd fk fun q => bnd fx fun x ρ =>
  match ρ[i]? with
  | some u => (match fLook u q with | some none => .ok x ρ | some (some (.sh e)) => .ok e ρ | _ => .bad)
  | none => .bad
section
variable {g : DX} {W : WX} {X : Cx} {a b c : Expr} {fa fb fc : M D} {k : Nat} {x : Str} {p pos : Pos}
theorem dv_dget (O : Ok g k X) (ha : DV g W X a fa) (hb : DV g W X b fb) (hs : NoSl b := by intro _ _; rfl) : DV g W X (.Subscript a b pos) (op2 fDget fa fb) := by
  refine PEmono (pe_dget O.hu1 ha hb hs) fun σ H Q ⟨ρ, F, B, E, p⟩ => rdV.go E (p.bnd.mono fun d ρ1 q v F1 H1 B1 E1 rv s => ?_)
  refine rdV.go E1 (((q.step s).bnd).mono fun e ρ2 q2 y F2 H2 B2 E2 ry s2 => ?_)
  obtain ⟨r, hr, p3⟩ := PostV.opt q2
  unfold fDget at hr
  split at hr
  · rename_i e' he
    cases hr
    obtain ⟨a, ea, o, gt, w, eo, rw_⟩ := look_get (C := fun _ => False) E2.sub.ex (.sh (rv.mono s2.ff) fun _ h => h) ry he
    have rw_ := rw_ _ rfl
    subst eo
    exact ⟨a, w, ea, gt, p3 w F2 H2 B2 E2 rw_ s2⟩
  · cases hr
theorem dv_dgetP (i : Nat) (hb : DV g W X b fb) (O : Ok g k X) (hs : NoSl b := by intro _ _; rfl) (hN : X.N[i]? = some x := by rfl) (hv : Vis X.env.scope x := by first | exact Or.inl rfl | exact Or.inr (Or.inl rfl) | exact Or.inr (Or.inr rfl)) (hd : (x == ("__debug__" : Str)) = false := by decide) (hcd : (x == ("__classdict__" : Str)) = false := by decide) :
    DV g W X (.Subscript (.Name x p) b pos) (mDget i fb) := by
  refine PEmono (pe_dget O.hu1 (pe_var hN hv hd hcd) hb hs) fun σ H Q ⟨ρ, F, B, E, p⟩ => ?_
  obtain ⟨t, h1, hu, p⟩ := Then.isU p.bnd
  obtain ⟨v, hv, o⟩ := E.at_ i t h1 hu
  refine ⟨v, hv, rdV.go E (p.bnd.mono fun d ρ1 q y F1 H1 B1 E1 ry s => ?_)⟩
  cases h : ρ1[i]? with
  | none => simp only [h] at q; exact q.elim
  | some u =>
    simp only [h] at q
    split at q
    · rename_i e he
      have hu : u ≠ .un := fun z => by subst z; cases he
      obtain ⟨v', hv', o⟩ := E1.at_ i _ h hu
      rw [hv] at hv'; cases hv'
      obtain ⟨a, ea, o, gt, w, eo, rw_⟩ := look_get E1.sub.ex o ry he
      have rw_ := rw_ _ rfl
      subst eo
      exact ⟨a, w, ea, gt, q w F1 H1 B1 E1 rw_ s⟩
    · exact q.elim
theorem dv_dinP (n : Bool) (i : Nat) (ha : DV g W X a fa) (O : Ok g k X) (hN : X.N[i]? = some x := by rfl) (hv : Vis X.env.scope x := by first | exact Or.inl rfl | exact Or.inr (Or.inl rfl) | exact Or.inr (Or.inr rfl)) (hd : (x == ("__debug__" : Str)) = false := by decide) (hcd : (x == ("__classdict__" : Str)) = false := by decide) :
    DV g W X (.Compare a [if n then .NotIn else .In] [.Name x p] pos) (mDin n i fa) := by
  have core : ∀ σ H Q, rdV g W (mDin n i fa) σ H Q → rdV g W fa σ H fun y H1 => ∃ v, σ[i]? = some (some v) ∧ ∃ a o, v = .ref a ∧ DGet H1 a y o ∧ Q (.bl (o.isSome != n)) H1 := fun σ H Q ⟨ρ, F, B, E, p⟩ => by
    refine rdV.go E (p.bnd.mono fun d ρ1 q y F1 H1 B1 E1 ry s => ?_)
    obtain ⟨t, h1, hu, q⟩ := Then.isU q.bnd
    simp only [h1] at q
    obtain ⟨v, hv, o⟩ := E1.at_ i _ h1 hu
    refine ⟨v, hv, ?_⟩
    split at q
    · rename_i r he
      obtain ⟨a, ea, o, gt, l⟩ := look_get E1.sub.ex o ry he
      refine ⟨a, o, ea, gt, ?_⟩
      have e : o.isSome = r.isSome := by
        cases r with
        | none => rw [show o = none from l]; rfl
        | some u => obtain ⟨w, e, _⟩ := l; rw [e]; rfl
      rw [e]
      exact q _ F1 H1 B1 E1 .bl s
    · exact q.elim
  cases n with
  | false => exact PEmono (pe_cmp (pc_din O.hu1 ha (pe_var hN hv hd hcd))) fun σ H Q h => (by
    have := core σ H Q h
    simp only [Bool.bne_false] at this
    exact this)
  | true => exact PEmono (pe_cmp (pc_dnotin O.hu1 ha (pe_var hN hv hd hcd))) fun σ H Q h => (by
    have := core σ H Q h
    simp only [Bool.bne_true] at this
    exact this)
end
end Mi

end
section
set_option Elab.async false
set_option autoImplicit false
set_option linter.all false
set_option maxRecDepth 100000
set_option maxHeartbeats 1000000
/-! Mi, 17: dicts made, written, copied. -/
namespace Mi
open PySem L2

section
variable {K : PySem.W.Frag} {F H : Hp} {v y : V} {d q : D} {t : Bool}
/-- a written place: the rows behind -/
theorem put_at {κ : Type} [DecidableEq κ] {R : Nat → V → T → Prop} {kD' : κ → D} (enc : κ → List Key) (inj : ∀ a b, enc a = enc b → a = b) (hkd : ∀ k, dKey t (kD' k) = some (enc k)) {kvs : List (κ × V)} {kts : List (D × T)} (hl : kvs.length = kts.length)
    (hk : ∀ (i : Nat) k v d u, kvs[i]? = some (k, v) → kts[i]? = some (d, u) → d = kD' k) (hr : ∀ (i : Nat) k v d u, kvs[i]? = some (k, v) → kts[i]? = some (d, u) → R i v u) (k : κ) (w : V) (e : T) :
    (putK kvs k w).length = (putA t kts (kD' k) (enc k) e).length ∧ kts.length ≤ (putA t kts (kD' k) (enc k) e).length ∧ (putA t kts (kD' k) (enc k) e).length ≤ kts.length + 1 ∧ (∀ (i : Nat) k' v d u, (putK kvs k w)[i]? = some (k', v) → (putA t kts (kD' k) (enc k) e)[i]? = some (d, u) → d = kD' k') ∧
    ∀ (i : Nat) k' v d u, (putK kvs k w)[i]? = some (k', v) → (putA t kts (kD' k) (enc k) e)[i]? = some (d, u) → (k' ≠ k ∧ i < kts.length ∧ kvs[i]? = some (k', v) ∧ kts[i]? = some (d, u) ∧ R i v u) ∨ (k' = k ∧ v = w ∧ u = e) := by
  have han := any_at (t := t) enc inj hl (fun i k v d e a b => by rw [hk i k v d e a b]; exact hkd k) k
  unfold putK putA
  rw [han]
  by_cases a : (kts.any fun p => decide (dKey t p.1 = some (enc k))) = true
  · rw [if_pos a, if_pos a]
    have key : ∀ (i : Nat) k' v d u, (kvs.map fun kv => if kv.1 = k then (kv.1, w) else kv)[i]? = some (k', v) → (kts.map fun p => if dKey t p.1 = some (enc k) then (p.1, e) else p)[i]? = some (d, u) →
        ∃ (v0 : V) (u0 : T), kvs[i]? = some (k', v0) ∧ kts[i]? = some (d, u0) ∧ ((k' ≠ k ∧ v = v0 ∧ u = u0) ∨ (k' = k ∧ v = w ∧ u = e)) := fun i k' v d u h1 h2 => by
      rw [List.getElem?_map] at h1 h2
      cases q1 : kvs[i]? with
      | none => rw [q1] at h1; cases h1
      | some p =>
        obtain ⟨k0, v0⟩ := p
        cases q2 : kts[i]? with
        | none => rw [q2] at h2; cases h2
        | some p2 =>
          obtain ⟨d0, u0⟩ := p2
          rw [q1] at h1; rw [q2] at h2
          have ed := hk i k0 v0 d0 u0 q1 q2
          subst ed
          simp only [Option.map_some, hkd, Option.some.injEq] at h1 h2
          by_cases e0 : k0 = k
          · subst e0
            simp only [if_true] at h1 h2
            cases h1; cases h2
            exact ⟨_, _, rfl, rfl, .inr ⟨rfl, rfl, rfl⟩⟩
          · rw [if_neg e0] at h1
            rw [if_neg (fun z => e0 (inj _ _ z))] at h2
            cases h1; cases h2
            exact ⟨_, _, rfl, rfl, .inl ⟨e0, rfl, rfl⟩⟩
    refine ⟨by simp [hl], by simp, by simp, fun i k' v d u h1 h2 => ?_, fun i k' v d u h1 h2 => ?_⟩
    · obtain ⟨v0, u0, e1, e2, _⟩ := key i k' v d u h1 h2
      exact hk i k' v0 d u0 e1 e2
    · obtain ⟨v0, u0, e1, e2, z⟩ := key i k' v d u h1 h2
      rcases z with ⟨n, rfl, rfl⟩ | z
      · exact .inl ⟨n, (List.getElem?_eq_some_iff.mp e2).1, e1, e2, hr i k' v d u e1 e2⟩
      · exact .inr z
  · rw [if_neg a, if_neg a]
    have nk : ∀ (i : Nat) k' v, kvs[i]? = some (k', v) → k' ≠ k := fun i k' v h z => by
      rw [← han] at a
      exact a (List.any_eq_true.mpr ⟨(k', v), List.mem_of_getElem? h, by simpa using z⟩)
    have key : ∀ (i : Nat) k' v d u, (kvs ++ [(k, w)])[i]? = some (k', v) → (kts ++ [(kD' k, e)])[i]? = some (d, u) → (i < kts.length ∧ kvs[i]? = some (k', v) ∧ kts[i]? = some (d, u)) ∨ (k' = k ∧ v = w ∧ d = kD' k ∧ u = e) := fun i k' v d u h1 h2 => by
      by_cases z : i < kts.length
      · rw [List.getElem?_append_left (by omega)] at h1
        rw [List.getElem?_append_left z] at h2
        exact .inl ⟨z, h1, h2⟩
      · rw [List.getElem?_append_right (by omega)] at h1
        rw [List.getElem?_append_right (by omega)] at h2
        have hi : i - kts.length = 0 := by
          have := (List.getElem?_eq_some_iff.mp h2).1
          simpa using this
        rw [hi] at h2
        rw [hl, hi] at h1
        cases h1; cases h2
        exact .inr ⟨rfl, rfl, rfl, rfl⟩
    refine ⟨by simp [hl], by simp, by simp, fun i k' v d u h1 h2 => ?_, fun i k' v d u h1 h2 => ?_⟩
    · rcases key i k' v d u h1 h2 with ⟨_, e1, e2⟩ | ⟨rfl, rfl, rfl, rfl⟩
      · exact hk i k' v d u e1 e2
      · rfl
    · rcases key i k' v d u h1 h2 with ⟨z, e1, e2⟩ | ⟨rfl, rfl, rfl, rfl⟩
      · exact .inl ⟨nk i k' v e1, z, e1, e2, hr i k' v d u e1 e2⟩
      · exact .inr ⟨rfl, rfl, rfl⟩
/-- what is written with: a place of the dict -/
theorem own_dput {a : Addr} {kts : List (D × T)} {A : Addr → Prop} {w : V} {e : D} {k : List Key} (s : Ex F H) (o : Own K F H (.ref a) (.dct t kts) A) (ry : Rep K F y q) (hk : dKey t q = some k) (rw_ : Rep K F w e) (big : kts.length < sizeLine) :
    ∃ u : HO, Mu u ∧ DPut H a y w (upd H a u) ∧ ∃ A' : Addr → Prop, Own K F (upd H a u) (.ref a) (.dct t (putA t kts q k (.sh e))) A' ∧ ∀ b, A' b → A b := by
  cases o with
  | @dK a kvs _ _ B hf hh hl h1 h2 hd hn hA =>
    unfold dKey at hk
    cases z : keyK q with
    | none => simp only [z] at hk; cases hk
    | some k0 =>
      simp only [z] at hk; cases hk
      have eq := keyK_some z
      subst eq
      obtain ⟨p1, p2, p2', p3, p4⟩ := put_at (t := false) (R := fun i v u => Own K F H v u (B i)) (kD' := kD) (fun k => [k]) inj1 kD_key hl h1 h2 k0 w (.sh e)
      refine ⟨.dK (putK kvs k0 w), .inr (.inl ⟨_, rfl⟩), .inl ⟨kvs, k0, hh, rep_keyK ry z, by omega, rfl⟩, fun b => b = a ∨ ∃ i, i < (putA false kts (kD k0) [k0] (.sh e)).length ∧ (B i b ∧ i < kts.length ∧ ∀ v, (putK kvs k0 w)[i]? ≠ some (k0, v)),
        .dK (fun i b => B i b ∧ i < kts.length ∧ ∀ v, (putK kvs k0 w)[i]? ≠ some (k0, v)) hf upd_same p1 p3 (fun i k' v d u a1 a2 => ?_) (fun i j b x y => hd i j b x.1 y.1) (fun i x => hn i x.1) (fun b => Iff.rfl), fun b hb => ?_⟩
      · rcases p4 i k' v d u a1 a2 with ⟨n, z1, z2, z3, r⟩ | ⟨rfl, rfl, rfl⟩
        · refine (r.kid (hn i)).to fun b => ⟨fun hb => ⟨hb, z1, fun v2 e2 => ?_⟩, fun hb => hb.1⟩
          rw [a1] at e2; cases e2; exact n rfl
        · exact .sh rw_ fun b hb => hb.2.2 v a1
      · rcases hb with rfl | ⟨i, hi, hb, hlt, _⟩
        · exact (hA _).mpr (.inl rfl)
        · exact (hA b).mpr (.inr ⟨i, hlt, hb⟩)
  | @dT a kvs _ _ B hf hh hl h1 h2 hd hn hA =>
    unfold dKey at hk
    cases ry with
    | @tup b vs es hb hle he =>
      simp only at hk
      have ev := reps_keysK hle he hk
      have ee := keysK_some hk
      subst ev
      subst ee
      obtain ⟨p1, p2, p2', p3, p4⟩ := put_at (t := true) (R := fun i v u => Own K F H v u (B i)) (kD' := fun k => .tup (k.map kD)) (fun k => k) (fun _ _ h => h) kDs_key hl h1 h2 k w (.sh e)
      refine ⟨.dT (putK kvs k w), .inr (.inr ⟨_, rfl⟩), .inr ⟨kvs, k, b, hh, rfl, ex_t s hb, by omega, rfl⟩, fun b => b = a ∨ ∃ i, i < (putA true kts (.tup (k.map kD)) k (.sh e)).length ∧ (B i b ∧ i < kts.length ∧ ∀ v, (putK kvs k w)[i]? ≠ some (k, v)),
        .dT (fun i b => B i b ∧ i < kts.length ∧ ∀ v, (putK kvs k w)[i]? ≠ some (k, v)) hf upd_same p1 p3 (fun i k' v d u a1 a2 => ?_) (fun i j b x y => hd i j b x.1 y.1) (fun i x => hn i x.1) (fun b => Iff.rfl), fun b hb => ?_⟩
      · rcases p4 i k' v d u a1 a2 with ⟨n, z1, z2, z3, r⟩ | ⟨rfl, rfl, rfl⟩
        · refine (r.kid (hn i)).to fun b => ⟨fun hb => ⟨hb, z1, fun v2 e2 => ?_⟩, fun hb => hb.1⟩
          rw [a1] at e2; cases e2; exact n rfl
        · exact .sh rw_ fun b hb => hb.2.2 v a1
      · rcases hb with rfl | ⟨i, hi, hb, hlt, _⟩
        · exact (hA _).mpr (.inl rfl)
        · exact (hA b).mpr (.inr ⟨i, hlt, hb⟩)
    | _ => cases hk
end

/-- d[k] = v, d in a slot -/
def mDput (i : Nat) (fv fk : M D) : SM := sbnd fv fun e => sbnd (isU i) fun _ => sbnd fk fun q ρ =>
  match ρ[i]? with
  | some (.dct t kts) => (match dKey t q with | some k => if kts.length < sizeLine then .nx (ρ.set i (.dct t (putA t kts q k (.sh e)))) else .bad | none => .bad)
  | _ => .bad
section
variable {g : DX} {W : WX} {X : Cx} {fx : List Nat} {a b c e : Expr} {fa fb fc fv fk : M D} {k : Nat} {x : Str} {p pos pos' : Pos}
theorem ds_dput (i : Nat) (hv : DV g W X e fv) (hk : DV g W X b fk) (O : Ok g k X) (hfx : i ∉ fx) (hN : X.N[i]? = some x := by rfl) (hvs : Vis X.env.scope x := by first | exact Or.inl rfl | exact Or.inr (Or.inl rfl) | exact Or.inr (Or.inr rfl)) (hd : (x == ("__debug__" : Str)) = false := by decide) (hcd : (x == ("__classdict__" : Str)) = false := by decide)
    (hs : swapsWith e (some (.Subscript (.Name x p) b pos')) pos.line X.env = pure false := by rfl) :
    DS g W fx X (.Assign [.Subscript (.Name x p) b pos'] e pos) (mDput i fv fk) := by
  refine PSmono (ps_dput O.hu1 (pe_var hN hvs hd hcd) hk hv hs) fun D σ H ⟨ρ, F, B, E, p⟩ => rdV.go E (p.sbnd.mono fun d ρ1 q w F1 H1 B1 E1 rw_ s => ?_)
  obtain ⟨t, h1, hu, q⟩ := Then.isU q.sbnd
  obtain ⟨v, hv, o⟩ := E1.at_ i t h1 hu
  refine ⟨v, hv, rdV.go E1 (((PostS.step s (.refl fx σ) q).sbnd).mono fun kd ρ2 q2 y F2 H2 B2 E2 ry s2 => ?_)⟩
  cases h : ρ2[i]? with
  | none => simp only [h] at q2; exact q2.elim
  | some u =>
    cases u with
    | un => simp only [h] at q2; exact q2.elim
    | sh _ => simp only [h] at q2; exact q2.elim
    | lst _ => simp only [h] at q2; exact q2.elim
    | dct t kts =>
      simp only [h] at q2
      cases hk : dKey t kd with
      | none => simp only [hk] at q2; exact q2.elim
      | some k =>
        simp only [hk] at q2
        split at q2
        case isFalse => exact q2.elim
        rename_i big
        obtain ⟨v', hv', o⟩ := E2.at_ i _ h (by simp)
        rw [hv] at hv'; cases hv'
        have o' := o
        obtain ⟨a, rfl⟩ : ∃ a, v = .ref a := by cases o <;> exact ⟨_, rfl⟩
        obtain ⟨u, mu, dp, A', oA, sub⟩ := own_dput E2.sub.ex o ry hk (rw_.mono s2.ff) big
        have ha : B2 i a := by cases o' with | dK B f h l k d r m n => exact (n a).mpr (.inl rfl) | dT B f h l k d r m n => exact (n a).mpr (.inl rfl)
        obtain ⟨_, o0, ho0, mo⟩ := E2.fp ha
        obtain ⟨E3, st⟩ := E2.mut h hv ha ho0 mo mu oA fun b hb => .inl (sub b hb)
        exact ⟨a, _, rfl, dp, q2 σ F2 _ _ E3 (s2.trans (st _ (fun b hb => hb) fun b hb => ⟨i, sub b hb⟩)) (.refl fx σ)⟩
end
end Mi

end
section
set_option Elab.async false
set_option autoImplicit false
set_option linter.all false
set_option maxRecDepth 100000
set_option maxHeartbeats 1000000
/-! Mi, 18: dicts asked with another value at hand, new, copied, displayed. -/
namespace Mi
open PySem L2

section
variable {g : DX} {W : WX} {X : Cx} {a b c e : Expr} {fa fb fc : M D} {k : Nat} {x : Str} {p pos apos cpos : Pos}
theorem look_isD {K : PySem.W.Frag} {F H : Hp} {v : V} {u : T} {C : Addr → Prop} {z : Bool × List (D × T)} (s : Ex F H) (o : Own K F H v u C) (h : viewD u = some z) : ∃ a, v = .ref a ∧ IsD H a := by
  unfold viewD at h
  split at h
  · cases o with
    | sh r n => cases r with
      | dK rd _ _ _ => exact ⟨_, rfl, .inl ⟨_, s.rdD trivial rd⟩⟩
      | dT rd _ _ _ => exact ⟨_, rfl, .inr ⟨_, s.rdD trivial rd⟩⟩
  · cases o with
    | dK B _ hh _ _ _ _ _ _ => exact ⟨_, rfl, .inl ⟨_, .inl hh⟩⟩
    | dT B _ hh _ _ _ _ _ _ => exact ⟨_, rfl, .inr ⟨_, .inl hh⟩⟩
  · cases h
/-- slot i holds a dict -/
def isDi (i : Nat) : M Unit := fun ρ => match ρ[i]? with | some u => (match viewD u with | some _ => .ok () ρ | none => .bad) | none => .bad
def mDgetx (i : Nat) (fk fx : M D) : M D := bnd (isDi i) fun _ => bnd fk fun q => bnd fx fun x ρ =>
  match ρ[i]? with
  | some u => (match fLook u q with | some none => .ok x ρ | some (some (.sh e)) => .ok e ρ | _ => .bad)
  | none => .bad
theorem dv_dgetx (i : Nat) (O : Ok g k X) (hb : DV g W X b fb) (hc : DV g W X c fc) (m : M2 X (.Name x p) "get" apos b c cpos := by exact ⟨rfl, by first | rfl | decide, rfl, rfl⟩) (hN : X.N[i]? = some x := by rfl) (hv : Vis X.env.scope x := by first | exact Or.inl rfl | exact Or.inr (Or.inl rfl) | exact Or.inr (Or.inr rfl)) (hd : (x == ("__debug__" : Str)) = false := by decide) (hcd : (x == ("__classdict__" : Str)) = false := by decide) :
    DV g W X (.Call (.Attribute (.Name x p) "get" apos) [b, c] [] cpos) (mDgetx i fb fc) := by
  refine PEmono (pe_dget2 O.hu1 (pe_var hN hv hd hcd) hb hc m) fun σ H Q ⟨ρ, F, B, E, p⟩ => ?_
  have p := p.bnd
  unfold isDi at p
  cases h1 : ρ[i]? with
  | none => simp only [h1] at p; exact p.elim
  | some u =>
    simp only [h1] at p
    cases h2 : viewD u with
    | none => simp only [h2] at p; exact p.elim
    | some z =>
      simp only [h2] at p
      have hu : u ≠ .un := fun z => by subst z; cases h2
      obtain ⟨v, hv, o⟩ := E.at_ i u h1 hu
      obtain ⟨a, rfl, isd⟩ := look_isD E.sub.ex o h2
      refine ⟨_, hv, a, rfl, isd, rdV.go E ((PostV.bnd p).mono fun q ρ1 p1 y F1 H1 B1 E1 ry s1 => rdV.go E1 (((p1.step s1).bnd).mono fun d ρ2 p2 w F2 H2 B2 E2 rw_ s2 => ?_))⟩
      cases h3 : ρ2[i]? with
      | none => simp only [h3] at p2; exact p2.elim
      | some u2 =>
        simp only [h3] at p2
        split at p2
        · rename_i he
          have hu : u2 ≠ .un := fun z => by subst z; cases he
          obtain ⟨v', hv', o⟩ := E2.at_ i _ h3 hu
          rw [hv] at hv'; cases hv'
          obtain ⟨a', ea, o, gt, l⟩ := look_get E2.sub.ex o (ry.mono s2.ff) he
          cases ea
          rw [show o = none from l] at gt
          exact ⟨_, gt, p2 w F2 H2 B2 E2 rw_ s2⟩
        · rename_i e he
          have hu : u2 ≠ .un := fun z => by subst z; cases he
          obtain ⟨v', hv', o⟩ := E2.at_ i _ h3 hu
          rw [hv] at hv'; cases hv'
          obtain ⟨a', ea, o, gt, w2, eo, re⟩ := look_get E2.sub.ex o (ry.mono s2.ff) he
          cases ea
          subst eo
          exact ⟨_, gt, p2 w2 F2 H2 B2 E2 (re _ rfl) s2⟩
        · exact p2.elim
end

/-! ### new -/
theorem own_newK {K : PySem.W.Frag} {F H : Hp} {p : Addr} {kvs : List (Key × V)} {ds : List (D × D)} (s : Sub F H) (hp : H p = none) (hl : kvs.length = ds.length) (hk : ∀ (i : Nat) k v d e, kvs[i]? = some (k, v) → ds[i]? = some (d, e) → d = kD k) (hr : ∀ (i : Nat) k v d e, kvs[i]? = some (k, v) → ds[i]? = some (d, e) → Rep K F v e) :
    Own K F (upd H p (.dK kvs)) (.ref p) (.dct false (ds.map shT)) (fun a => a = p) := by
  have hf : F p = none := by
    cases q : F p with
    | none => rfl
    | some u => exact absurd hp (s.lv p (by rw [q]; simp))
  have back : ∀ {i : Nat} {d : D} {u : T}, (ds.map shT)[i]? = some (d, u) → ∃ e, ds[i]? = some (d, e) ∧ u = .sh e := fun {i d u} h => by
    rw [List.getElem?_map] at h
    cases q : ds[i]? with
    | none => rw [q] at h; cases h
    | some p => rw [q] at h; cases h; exact ⟨p.2, rfl, rfl⟩
  refine .dK (fun _ _ => False) hf upd_same (by simpa using hl) (fun i k v d u h1 h2 => ?_) (fun i k v d u h1 h2 => ?_) (fun _ _ _ h => h.elim) (fun _ h => h) (fun b => ⟨.inl, fun h => h.elim id fun ⟨_, _, z⟩ => z.elim⟩)
  · obtain ⟨e, h3, _⟩ := back h2
    exact hk i k v d e h1 h3
  · obtain ⟨e, h3, rfl⟩ := back h2
    exact .sh (hr i k v d e h1 h3) fun _ h => h
theorem own_newT0 {K : PySem.W.Frag} {F H : Hp} {p : Addr} (s : Sub F H) (hp : H p = none) : Own K F (upd H p (.dT [])) (.ref p) (.dct true []) (fun a => a = p) := by
  have hf : F p = none := by
    cases q : F p with
    | none => rfl
    | some u => exact absurd hp (s.lv p (by rw [q]; simp))
  exact .dT (fun _ _ => False) hf upd_same rfl (fun i k v d u h1 h2 => by simp at h1) (fun i k v d u h1 h2 => by simp at h1) (fun _ _ _ h => h.elim) (fun _ h => h) (fun b => ⟨.inl, fun h => h.elim id fun ⟨_, _, z⟩ => z.elim⟩)
/-- a new thing of its own, at p -/
theorem EnvR.fresh {g : DX} {F H : Hp} {σ : L2.St} {ρ : Env} {B : Nat → Addr → Prop} {p : Addr} (E : EnvR g.K g.Tb F H σ ρ B) (hp : H p = none) : ∀ a, a = p → ¬ AllB B a := fun a e h => by
  subst e; exact absurd hp (E.live a h)
theorem Laid.stepC {F H F' H' : Hp} {A : Addr → Prop} {p : Addr} (l : Laid F H F' H') (hp : H p = none) : Step F H A F' H' (fun a => A a ∨ a = p) :=
  have s := l.step (A := A)
  ⟨s.ff, s.hx, s.hh, fun a h => h.elim .inl fun e => by subst e; exact .inr hp, s.fz, s.lv⟩
section
variable {g : DX} {W : WX} {X : Cx} {a b c e : Expr} {es : List Expr} {fa fb fc : M D} {m : M (List D)} {k : Nat} {x : Str} {p pos apos cpos : Pos}
theorem de_dnewK : DE g W X (.Dict [] [] pos) (pur (.dct false [])) := by
  refine PEmono pe_dnewK fun σ H Q ⟨ρ, F, B, E, q⟩ p hp => ?_
  have l : Laid F H F (upd H p (.dK [])) := Laid.own E.sub hp
  exact q (.ref p) F _ B (fun a => a = p) (l.env E) (own_newK (ds := []) E.sub hp rfl (fun i k v d e h => by simp at h) fun i k v d e h => by simp at h) (E.fresh hp) (l.stepC hp)
theorem de_dnewT : DE g W X (.Dict [] [] pos) (pur (.dct true [])) := by
  refine PEmono pe_dnewT fun σ H Q ⟨ρ, F, B, E, q⟩ p hp => ?_
  have l : Laid F H F (upd H p (.dT [])) := Laid.own E.sub hp
  exact q (.ref p) F _ B (fun a => a = p) (l.env E) (own_newT0 E.sub hp) (E.fresh hp) (l.stepC hp)
/-- dict(d) -/
def mDictc (m : M (List D)) : M T := bnd m fun ds => match ds with | [.dct false kvs] => pur (.dct false (kvs.map shT)) | _ => bad
theorem de_dictc (O : Ok g k X) (ha : DA g W X (a :: es) m) (hg : Gl X "dict" := by rfl) (he : starEach (a :: es) X.env = (false, eval a X.env) :: starEach es X.env := by rfl) (hpl : (backTo pos (starEach es X.env)).any (·.1) = false := by rfl) : DE g W X (.Call (.Name "dict" p) (a :: es) [] pos) (mDictc m) := by
  refine PEmono (pe_callTy call_dictD hg (O.nob _ (by decide)) (by decide +kernel) ha (he := he) (hpl := hpl)) fun σ H Q ⟨ρ, F, B, E, q⟩ => ?_
  refine rdL.go E (q.bnd.mono fun ds ρ1 q vs F1 H1 B1 E1 hl rs s => ?_)
  match ds, vs, hl, rs, q with
  | [.dct false kvs], [v], _, rs, q =>
    have r := rs 0 v _ rfl rfl
    cases r with
    | @dK a xs _ rd hl h1 h2 =>
      refine ⟨a, xs, rfl, E1.sub.ex.rdD trivial rd, fun p hp => ?_⟩
      have l : Laid F1 H1 F1 (upd H1 p (.dK xs)) := Laid.own E1.sub hp
      exact q (.ref p) F1 _ B1 (fun a => a = p) (l.env E1) (own_newK E1.sub hp hl h1 h2) (E1.fresh hp) (s.trans (l.stepC hp))
end
end Mi

end
section
set_option Elab.async false
set_option autoImplicit false
set_option linter.all false
set_option maxRecDepth 100000
set_option maxHeartbeats 1000000
/-! Mi, 19: dict displays. -/
namespace Mi
open PySem L2

/-- keys and values, from the left -/
def DP (g : DX) (W : WX) (X : Cx) (pos : Pos) (keys : List (Option Expr)) (values : List Expr) (m : M (List (D × D))) : Prop := ∃ trs, PPs X pos keys values trs ∧ ∀ (σ : L2.St) (H : Hp) (Q : List (V × V) → Hp → Prop) (ρ : Env) (F : Hp) (B : Nat → Addr → Prop), EnvR g.K g.Tb F H σ ρ B →
  (Then g W σ F H (AllB B) (m ρ) fun ds ρ1 => ∀ ps F1 H1 B1, EnvR g.K g.Tb F1 H1 σ ρ1 B1 → ps.length = ds.length → (∀ (i : Nat) k v d e, ps[i]? = some (k, v) → ds[i]? = some (d, e) → Rep g.K F1 k d ∧ Rep g.K F1 v e) → Step F H (AllB B) F1 H1 (AllB B1) → Q ps H1) → tPairs trs σ H Q
def consP (a b : M D) (r : M (List (D × D))) : M (List (D × D)) := bnd a fun x => bnd b fun y => bnd r fun ds => pur ((x, y) :: ds)
section
variable {g : DX} {W : WX} {X : Cx} {a b c e : Expr} {keys : List (Option Expr)} {values : List Expr} {fa fb fc : M D} {m : M (List (D × D))} {k : Nat} {x : Str} {p pos apos cpos : Pos}
theorem Then.step {α : Type} {σ : L2.St} {F H F1 H1 : Hp} {A A1 : Addr → Prop} {r : R α} {P : α → Env → Prop} (s : Step F H A F1 H1 A1) (p : Then g W σ F H A r P) : Then g W σ F1 H1 A1 r P := by
  cases r with
  | ok a ρ => exact p
  | exc c ρ => exact PostX.step s p
  | bad => exact p
theorem dp_nil : DP g W X pos [] [] (pur []) := ⟨[], pps_nil, fun σ H Q ρ F B E h => h [] F H B E rfl (fun i k v d e h => by simp at h) Step.refl⟩
theorem dp_cons (ha : DV g W X a fa) (hb : DV g W X b fb) (hr : DP g W X pos keys values m) : DP g W X pos (some a :: keys) (b :: values) (consP fa fb m) := by
  obtain ⟨trs, hp, hq⟩ := hr
  refine ⟨_, pps_cons ha hb hp, fun σ H Q ρ F B E h => ?_⟩
  refine rdV.go E ((Then.bnd h).mono fun d ρ1 h v F1 H1 B1 E1 rv s => rdV.go E1 (Then.step s ((Then.bnd h).mono fun e ρ2 h w F2 H2 B2 E2 rw_ s2 => ?_)))
  refine hq σ H2 _ ρ2 F2 B2 E2 (Then.step (s.trans s2) ((Then.bnd h).mono fun ds ρ3 h ps F3 H3 B3 E3 hl hr s3 => ?_))
  refine h ((v, w) :: ps) F3 H3 B3 E3 (by simp [hl]) (fun i k v' d' e' h1 h2 => ?_) ((s.trans s2).trans s3)
  cases i with
  | zero => cases h1; cases h2; exact ⟨(rv.mono s2.ff).mono s3.ff, rw_.mono s3.ff⟩
  | succ i => exact hr i k v' d' e' (by simpa using h1) (by simpa using h2)
/-- rows put in one behind another -/
def rowsPut (acc : List (D × T)) : List (D × D) → Option (List (D × T))
  | [] => some acc
  | (q, e) :: r => match dKey false q with
    | some k => rowsPut (putA false acc q k (.sh e)) r
    | none => none
def dispD (m : M (List (D × D))) : M T := bnd m fun ds => match rowsPut [] ds with | some kts => if ds.length ≤ 15 then pur (.dct false kts) else bad | none => bad
theorem merge_rows {K : PySem.W.Frag} {F : Hp} : ∀ {ps : List (V × V)} {ds : List (D × D)} {acc : List (Key × V)} {kts res : List (D × T)}, ps.length = ds.length → (∀ (i : Nat) k v d e, ps[i]? = some (k, v) → ds[i]? = some (d, e) → Rep K F k d ∧ Rep K F v e) →
    acc.length = kts.length → (∀ (i : Nat) k v d u, acc[i]? = some (k, v) → kts[i]? = some (d, u) → d = kD k) → (∀ (i : Nat) k v d u, acc[i]? = some (k, v) → kts[i]? = some (d, u) → ∃ e, u = .sh e ∧ Rep K F v e) → rowsPut kts ds = some res →
    ∃ kvs : List (Key × V), ps = kvs.map (fun kv => (kV kv.1, kv.2)) ∧ (mergeK acc kvs).length = res.length ∧ (∀ (i : Nat) k v d u, (mergeK acc kvs)[i]? = some (k, v) → res[i]? = some (d, u) → d = kD k) ∧ (∀ (i : Nat) k v d u, (mergeK acc kvs)[i]? = some (k, v) → res[i]? = some (d, u) → ∃ e, u = .sh e ∧ Rep K F v e)
  | [], [], acc, kts, res, _, _, h1, h2, h3, h => by
    cases h
    exact ⟨[], rfl, h1, h2, h3⟩
  | [], _ :: _, _, _, _, h, _, _, _, _, _ => by cases h
  | _ :: _, [], _, _, _, h, _, _, _, _, _ => by cases h
  | (y, w) :: ps, (q, e) :: ds, acc, kts, res, hl, hr, h1, h2, h3, h => by
    rw [rowsPut] at h
    cases z : keyK q with
    | none => simp only [dKey, z] at h; cases h
    | some k =>
      simp only [dKey, z] at h
      obtain ⟨ry, rw_⟩ := hr 0 y w q e rfl rfl
      have eq := keyK_some z
      subst eq
      obtain ⟨p1, _, _, p3, p4⟩ := put_at (t := false) (R := fun i v u => ∃ e, u = .sh e ∧ Rep K F v e) (kD' := kD) (fun k => [k]) inj1 kD_key h1 h2 h3 k w (.sh e)
      obtain ⟨kvs, e1, e2, e3, e4⟩ := merge_rows (ps := ps) (by simpa using hl) (fun i k v d e a b => hr (i + 1) k v d e (by simpa using a) (by simpa using b)) p1 p3 (fun i k' v d u a b => by
        rcases p4 i k' v d u a b with ⟨_, _, _, _, z⟩ | ⟨_, rfl, rfl⟩
        · exact z
        · exact ⟨e, rfl, rw_⟩) h
      exact ⟨(k, w) :: kvs, by rw [List.map_cons, ← e1, rep_keyK ry z], e2, e3, e4⟩
theorem own_dk {K : PySem.W.Frag} {F H : Hp} {p : Addr} {kvs : List (Key × V)} {kts : List (D × T)} (hf : F p = none) (hh : H p = some (.dK kvs)) (hl : kvs.length = kts.length) (hk : ∀ (i : Nat) k v d e, kvs[i]? = some (k, v) → kts[i]? = some (d, e) → d = kD k)
    (hr : ∀ (i : Nat) k v d u, kvs[i]? = some (k, v) → kts[i]? = some (d, u) → ∃ e, u = .sh e ∧ Rep K F v e) : Own K F H (.ref p) (.dct false kts) (fun a => a = p) := by
  refine .dK (fun _ _ => False) hf hh hl hk (fun i k v d u h1 h2 => ?_) (fun _ _ _ h => h.elim) (fun _ h => h) (fun b => ⟨.inl, fun h => h.elim id fun ⟨_, _, z⟩ => z.elim⟩)
  obtain ⟨e, rfl, r⟩ := hr i k v d u h1 h2
  exact .sh r fun _ h => h
/-- a lone thing of its own, written -/
theorem EnvR.lone {F H : Hp} {σ : L2.St} {ρ : Env} {B : Nat → Addr → Prop} {p : Addr} {u : HO} (E : EnvR g.K g.Tb F H σ ρ B) (hf : F p = none) (hh : ∃ o, H p = some o ∧ Mu o) (hB : ¬ AllB B p) (mu : Mu u := by exact .inr (.inl ⟨_, rfl⟩)) : EnvR g.K g.Tb F (upd H p u) σ ρ B := by
  obtain ⟨o, ho, mo⟩ := hh
  have sub : Sub F (upd H p u) := ⟨fun b x h => by
    rw [upd_ne (fun e => by rw [e, hf] at h; cases h)]; exact E.sub.ex b x h, E.sub.nt, fun b h => by
    by_cases e : b = p
    · subst e; rw [upd_same]; simp
    · rw [upd_ne e]; exact E.sub.lv b h, fun b xs h => by
    by_cases e : b = p
    · subst e; rw [upd_same] at h; exact absurd (Option.some.inj h) (mu.notup xs)
    · rw [upd_ne e] at h; exact E.sub.tp b xs h⟩
  refine ⟨sub, E.len, fun j t hj hu => ?_, E.no, E.dis, tabs_upd E.tabs ho mo⟩
  obtain ⟨x, hx, o2⟩ := E.at_ j t hj hu
  exact ⟨x, hx, o2.mono (Ex.refl F) fun b hb => ⟨(o2.fp b hb).1, upd_ne fun e => hB ⟨j, e ▸ hb⟩⟩⟩
theorem de_disp (h : DP g W X pos keys values m) (hall : keys.all (·.isSome) = true) (hl : keys.length = values.length) (h0 : keys ≠ []) (h15 : keys.length ≤ 15) : DE g W X (.Dict keys values pos) (dispD m) := by
  obtain ⟨trs, hp, hq⟩ := h
  refine PEmono (pe_disp hp hall hl h0 h15) fun σ H Q ⟨ρ, F, B, E, q⟩ p hp => ?_
  have l : Laid F H F (upd H p (.dK [])) := Laid.own E.sub hp
  have E0 := l.env E
  have hf : F p = none := by
    cases q : F p with
    | none => rfl
    | some u => exact absurd hp (E.sub.lv p (by rw [q]; simp))
  have nB := E.fresh hp p rfl
  refine hq σ _ _ ρ F B E0 (Then.step l.step (q.bnd.mono fun ds ρ1 q ps F1 H1 B1 E1 hl hr s => ?_))
  have h1 : H1 p = some (.dK []) := s.hh p _ upd_same (fun _ => by simp) nB hf
  have f1 : F1 p = none := by
    cases q : F1 p with
    | none => rfl
    | some u =>
      rcases s.fz p (by rw [q]; simp) with z | z | z
      · exact absurd hf z
      · exact absurd z nB
      · rw [upd_same] at z; cases z
  have nB1 : ¬ AllB B1 p := fun z => by
    rcases s.fr p z with z | z
    · exact nB z
    · rw [upd_same] at z; cases z
  revert q
  cases z : rowsPut [] ds with
  | none => exact False.elim
  | some kts =>
    intro q
    simp only at q
    split at q
    case isFalse => exact q.elim
    rename_i hz
    obtain ⟨kvs, e1, e2, e3, e4⟩ := merge_rows (acc := []) hl hr rfl (fun i k v d u h => by simp at h) (fun i k v d u h => by simp at h) z
    refine ⟨h1, kvs, e1, ?_, ?_⟩
    · rw [e1, List.length_map] at hl; omega
    have E2 := E1.lone (u := .dK (mergeK [] kvs)) f1 ⟨_, h1, .inr (.inl ⟨_, rfl⟩)⟩ nB1
    refine q (.ref p) F1 _ B1 (fun a => a = p) E2 (own_dk f1 upd_same e2 e3 e4) (fun a e => by subst e; exact nB1) ?_
    have st := l.step.trans s
    refine ⟨st.ff, fun a u r n na => ?_, fun a o r n na f => ?_, fun a h => ?_, st.fz, fun a h => ?_⟩
    · have ne : a ≠ p := fun z => by subst z; rw [hp] at r; cases r
      rw [upd_ne ne]; exact st.hx a u r n na
    · have ne : a ≠ p := fun z => by subst z; rw [hp] at r; cases r
      rw [upd_ne ne]; exact st.hh a o r n na f
    · rcases h with h | rfl
      · exact st.fr a h
      · exact .inr hp
    · by_cases e : a = p
      · subst e; rw [upd_same]; simp
      · rw [upd_ne e]; exact st.lv a h
end
end Mi

end
section
set_option Elab.async false
set_option autoImplicit false
set_option linter.all false
set_option maxRecDepth 100000
set_option maxHeartbeats 1000000
/-! Mi, 20: a dict display that begins with another dict's rows. -/
namespace Mi
open PySem PySem.Spec PyProof.Rows L2
section
variable {prog : Program} {w : World} {κ : Type} [DecidableEq κ] {knd : KeyKind prog w κ} {A : Around} {E : Value → Shared → Prop} {s : Shared}
theorem wp_dictPut {d : Addr} {kvs : List (κ × Value)} {k : κ} {key v : Value} {Q : Unit → Shared → Prop} (hkey : knd.is k key = true) (hm : s.heap.DictOf knd d kvs)
    (hQ : ∀ h', h'.DictOf knd d (stored kvs k v) → Heap.SameBut d s.heap h' → Q () { s with heap := h' }) (hsz : kvs.length ≤ sizeLine) : wpAny (model prog w) A (dictPut d (knd.hash k) key v) Q E s := by
  obtain ⟨o, es, ep, ho, hc, hd, hk, hp, hn⟩ := hm
  have hes : es.size ≤ sizeLine := by have e1 := hp.length; have e2 : es.toList.length = es.size := by simp
                                      omega
  unfold dictPut
  refine wpAny_bind (wpAny_dictFind_of hkey ho hd hk ?_)
  have hidx : (es.findIdx? fun e => knd.is k e.key) = kvs.findIdx? fun kv => decide (kv.1 = k) := by
    rw [← hp.findIdx k]; obtain ⟨l⟩ := es; simp
  cases hi : es.findIdx? fun e => knd.is k e.key with
  | some i =>
    refine wpAny_updateDict ho hd (hQ _ ⟨_, _, ep, Heap.get?_update_self _ ho (Obj.isFreed_of_dict (Obj.data_mapDict hd _)), hc.mapDict _, Obj.data_mapDict hd _, hk.modify _ _, ?_, ?_⟩ (Heap.SameBut.update ..))
    · rw [stored, if_pos (any_of_findIdx_some (hidx ▸ hi))]
      have hl : (es.toList.findIdx? fun e => knd.is k e.key) = some i := by rw [← hi]; obtain ⟨l⟩ := es; simp
      have := hp.modify hn hl v
      obtain ⟨l⟩ := es
      simpa using this
    · rw [stored, if_pos (any_of_findIdx_some (hidx ▸ hi)), keys_map_store]; exact hn
  | none =>
    have hnot : k ∉ kvs.map (·.1) := not_mem_of_findIdx_none (hidx ▸ hi)
    have hany : ¬ (kvs.any fun kv => decide (kv.1 = k)) = true := by
      rw [List.any_eq_true]; rintro ⟨kv, hkv, he⟩
      exact hnot (List.mem_map.mpr ⟨kv, hkv, of_decide_eq_true he⟩)
    refine wpAny_updateDictKeys (hz := hes) ho hd (hQ _ ⟨_, _, ep + 1, Heap.get?_update_self _ ho (Obj.isFreed_of_dict (Obj.data_mapDictKeys hd _)), hc.mapDictKeys _, Obj.data_mapDictKeys hd _, hk.push hkey _, ?_, ?_⟩ (Heap.SameBut.update ..))
    · rw [stored, if_neg hany]
      have := hp.append hkey (knd.hash k) v
      obtain ⟨l⟩ := es
      simpa using this
    · rw [stored, if_neg hany, List.map_append, List.nodup_append]
      refine ⟨hn, by simp, ?_⟩
      intro a ha b hb
      simp only [List.map_cons, List.map_nil, List.mem_singleton] at hb
      subst hb
      exact fun e => hnot (e ▸ ha)
theorem range_split {n : Nat} : ∀ {i x : Nat} {rest : List Nat}, i ≤ n → x :: rest = List.range' i (n - i) → i < n ∧ x = i ∧ rest = List.range' (i + 1) (n - (i + 1)) := fun {i x rest} hi hr => by
  have hlt : i < n := by
    rcases Nat.lt_or_ge i n with h | h
    · exact h
    · rw [Nat.sub_eq_zero_of_le h] at hr; simp at hr
  have e : n - i = (n - (i + 1)) + 1 := by omega
  rw [e, List.range'_succ] at hr
  injection hr with h1 h2
  exact ⟨hlt, h1, h2⟩
theorem wp_merge {d o : Addr} {kvs more : List (κ × Value)} {Q : Unit → Shared → Prop} (hdo : d ≠ o) (hoS : (o == sysModules) = false) (hd : s.heap.DictOf knd d kvs) (ho : s.heap.DictOf knd o more)
    (hQ : ∀ h', h'.DictOf knd d (merged kvs more) → Heap.SameBut d s.heap h' → Q () { s with heap := h' }) (hsz : kvs.length + more.length ≤ sizeLine) : wpAny (model prog w) A (mergeMapping d (.ref o) false) Q E s := by
  have hd0 := hd
  have ho0 := ho
  obtain ⟨od, esd, epd, hod, hcd, hdd, hkd, hpd, hnd⟩ := hd
  obtain ⟨oo, eso, epo, hoo, hco, hdo', hko, hpo, hno⟩ := ho
  have hlen : more.length = eso.size := by rw [← hpo.length]; simp
  unfold mergeMapping
  refine wpAny_bind (wpAny_isInstance ho0.typeIs isSubtype_dict_dict ?_)
  dsimp only
  rw [if_pos rfl]
  refine wpAny_bind (wpAny_specialOf ho0.typeIs F.slot_dict_iter.lookup ?_)
  refine wpAny_bind (wpAny_pure ?_)
  simp only [beq_self_eq_true]
  rw [if_neg (by rw [hoS]; exact Bool.false_ne_true)]
  have main : wpAny (model prog w) A (do
      let l ← dictEntries o
      let epoch ← dictEpoch o
      forIn (List.range l.size) PUnit.unit fun i (_ : PUnit) => (do
        let l' ← dictEntries o
        match l'[i]? with
        | some e => do
          holding [e.key, e.val] (dictPut d e.hash e.key e.val)
          let ep' ← dictEpoch o
          if (ep' != epoch) = true then do
            (unsupported "dict.changed-during-merge" : Sem PUnit)
            pure (ForInStep.yield PUnit.unit)
          else pure (ForInStep.yield PUnit.unit)
        | _ => do
          (unsupported "dict.changed-during-merge" : Sem PUnit)
          pure (ForInStep.yield PUnit.unit) : Sem (ForInStep PUnit))
      pure ()) Q E s := by
    refine wpAny_bind (wpAny_dictEntries hoo hdo' ?_)
    refine wpAny_bind (wpAny_dictEpoch hoo hdo' ?_)
    refine wpAny_bind ?_
    rw [List.range_eq_range']
    refine wpAny_forIn_list _
      (fun rest _ s' => ∃ h' i, s' = { s with heap := h' } ∧ rest = List.range' i (eso.size - i) ∧ i ≤ eso.size ∧ h'.DictOf knd d (merged kvs (more.take i)) ∧ h'.get? o = some oo ∧ Heap.SameBut d s.heap h')
      _ ?_ ?_ _ _ ⟨s.heap, 0, rfl, by simp, Nat.zero_le _, by simpa [merged] using hd0, hoo, Heap.SameBut.refl _ _⟩
    · rintro x rest b s' ⟨h', i, rfl, hr, hi, hd', hoo', hs'⟩
      obtain ⟨hlt, rfl, hrest⟩ := range_split hi hr
      refine wpAny_bind (wpAny_dictEntries hoo' hdo' ?_)
      rw [Array.getElem?_eq_getElem hlt]
      obtain ⟨kv, hkv⟩ : ∃ kv, more[x]? = some kv := ⟨more[x]'(by rw [hlen]; exact hlt), List.getElem?_eq_getElem _⟩
      obtain ⟨k, v⟩ := kv
      obtain ⟨hkey, hval⟩ := hpo.get? (e := eso[x]) (by simp [hlt]) hkv
      obtain ⟨k', hkey', hhash⟩ := hko eso[x] (Array.getElem_mem hlt)
      obtain rfl : k' = k := knd.inj _ _ _ hkey' hkey
      show wpAny _ _ (holding [eso[x].key, eso[x].val] (dictPut d eso[x].hash eso[x].key eso[x].val) >>= _) _ _ _
      rw [hhash, hval]
      have hmx : (merged kvs (more.take x)).length ≤ sizeLine := by
        have e1 := merged_length_le kvs (more.take x)
        have e2 : (more.take x).length ≤ more.length := by rw [List.length_take]; omega
        omega
      refine wpAny_bind (wpAny_holding (wp_dictPut hkey hd' (fun h'' hd'' hs'' => ?_) hmx))
      have hoo'' : h''.get? o = some oo := (hs''.2 o (Ne.symm hdo)).trans hoo'
      refine wpAny_bind (wpAny_dictEpoch hoo'' hdo' ?_)
      rw [if_neg (by simp)]
      exact wpAny_pure ⟨h'', x + 1, rfl, hrest, hlt, by rw [merged_take_succ kvs more x (k', v) hkv]; exact hd'', hoo'', hs'.trans hs''⟩
    · rintro b s' ⟨h', i, rfl, hr, hi, hd', hoo', hs'⟩
      have hin : i = eso.size := by
        rcases Nat.lt_or_ge i eso.size with h | h
        · have e : eso.size - i = (eso.size - (i + 1)) + 1 := by omega
          rw [e, List.range'_succ] at hr; exact nomatch hr
        · exact Nat.le_antisymm hi h
      refine wpAny_pure (hQ h' ?_ hs')
      rw [hin, ← hlen, List.take_length] at hd'; exact hd'
  refine wpAny_bind (wpAny_dictEntries hod hdd ?_)
  split
  · refine wpAny_bind (wpAny_dictEntries hoo hdo' ?_)
    refine wpAny_bind ?_
    rw [← Array.forIn_toList]
    refine wpAny_forIn_list _ (fun rest _ s' => s' = s ∧ ∀ e ∈ rest, e ∈ eso) _ ?_ ?_ _ _ ⟨rfl, fun e he => by simpa using he⟩
    · rintro x rest b s' ⟨rfl, hr⟩
      obtain ⟨k', hkey', hhash⟩ := hko x (hr x (List.mem_cons_self ..))
      have hb := knd.byValue _ _ hkey'
      refine wpAny_of_eq (a := ForInStep.yield PUnit.unit) ?_ ⟨rfl, fun e he => hr e (List.mem_cons_of_mem _ he)⟩
      cases hx : x.key <;> simp only [hx] at hb ⊢
      cases hb
    · rintro b s' ⟨rfl, _⟩
      exact main
  · exact main
end
theorem dd_up (m k v : Sem Value) : dictDisplay [(none, m), (some k, v)] = (do
    let d ← alloc { cls := .type "dict", data := .dict #[] }
    let mv ← holding [.ref d] m
    (((holding [.ref d, mv] (mergeMapping d mv false)).onRaise fun x => do let _ ← holding [.ref d, mv, x] (runValue (.builtin "proto.let_go" {}))).tryCatch fun e => do
        if ← isInstance e (.type "AttributeError") then
          rule "dict.display.not-a-mapping"; raiseError "TypeError" s!"'{← typeNameOf mv}' object is not a mapping"
        throw e).onRaise fun x => do let _ ← holding [.ref d, x] (runValue (.builtin "proto.let_go" {}))
    let sub ← holding [.ref d] (subDict [(k, v)])
    (holding [.ref d, .ref sub] (mergeMapping d (.ref sub) false)).onRaise fun x => do let _ ← holding [.ref d, x] (runValue (.builtin "proto.let_go" {}))
    pure (.ref d)) := by
  unfold dictDisplay
  simp only [List.forIn_cons, List.forIn_nil, pure_bind, bind_assoc, List.isEmpty_nil, if_true, List.nil_append, List.length_singleton, show ((1 : Nat) == 17) = false from rfl, Bool.false_eq_true, if_false, List.isEmpty_cons]
theorem mergeK_fresh : ∀ (more acc : List (Key × V)), (acc.map (·.1) ++ more.map (·.1)).Nodup → mergeK acc more = acc ++ more
  | [], acc, _ => by simp [mergeK]
  | (k, v) :: more, acc, h => by
    have nk : valV acc k = none := by
      cases q : valV acc k with
      | none => rfl
      | some x =>
        have : (acc.any fun kv => decide (kv.1 = k)) = true := by rw [valV_any, q]; rfl
        obtain ⟨p, hp, e⟩ := List.any_eq_true.mp this
        have e := of_decide_eq_true e
        exact absurd e ((List.nodup_append.mp h).2.2 p.1 (List.mem_map.mpr ⟨p, hp, rfl⟩) k (by simp))
    have ih := mergeK_fresh more (acc ++ [(k, v)]) (by simpa using h)
    show mergeK (putK acc k v) more = _
    rw [putK_new v nk, ih]
    simp
def tUp (td tk tv : TE) : TE := fun σ H Q => ∀ p, H p = none → td σ (upd H p (.dK [])) fun x H1 => ∃ (o : Addr) (more : List (Key × V)), x = .ref o ∧ Rd H1 o (.dK more) ∧ H1 p = some (.dK []) ∧ o ≠ p ∧ more.length < sizeLine ∧
  ∀ q, q ≠ p → H1 q = none → tk σ (upd (upd H1 p (.dK more)) q (.dK [])) fun y H3 => tv σ H3 fun z H4 => ∃ k, y = kV k ∧ H4 q = some (.dK []) ∧ H4 p = some (.dK more) ∧
    Q (.ref p) (upd (upd H4 q (.dK [(k, z)])) p (.dK (putK more k z)))
section
variable {X : Cx} {a b c : Expr} {td tk tv : TE} {pos : Pos}
theorem pe_up (ha : PE X a td) (hb : PE X b tk) (hc : PE X c tv) : PE X (.Dict [none, some b] [a, c] pos) (tUp td tk tv) := by
  refine ⟨fun pins s σ H Q I h => ?_⟩
  have hn := I.hok.fresh (Nat.le_refl s.heap.objs.size)
  have I1 := I.laid (a := s.heap.objs.size) (o := .dK []) (h' := s.heap.push { cls := .type "dict", data := .dict #[] }) (t' := s.toks) (fun _ _ q => Heap.get?_push_of_some _ q) (Nat.le_refl _) (dk_empty s.heap I.big)
  rw [arm_eval_Dict]
  refine wpAny_bind (wpAny_standAt ?_)
  show wpAny _ _ (dictDisplay [(none, do let x ← eval a X.env; standAt pos; pure x), (some (eval b X.env), do let x ← eval c X.env; standAt pos; pure x)]) _ _ _
  rw [dd_up]
  refine wpAny_bind (wpAny_alloc ?_)
  refine wpAny_bind (wpAny_holding (wpAny_bind (thn (ha.run pins _ σ _ _ I1 (h _ hn)) fun u s1 ⟨x, H1, I2, rx, o, more, ex, ro, hp, op, hz, q⟩ => wpAny_bind (wpAny_standAt (wpAny_pure ?_)))))
  subst ex
  obtain rfl : u = Value.ref o := rx
  obtain ⟨z1, lo, vs, rel, dd⟩ := dk_rd I2.hok ro
  obtain ⟨z0, l0, vs0, r0, dd0⟩ := dk_of I2.hok hp
  have hno : (more.map (·.1)).Nodup := by
    obtain ⟨_, _, _, _, _, _, _, _, hn⟩ := dd
    rw [rel.keys]; exact hn
  have em : mergeK [] more = more := by simpa using mergeK_fresh more [] (by simpa using hno)
  cases r0
  refine wpAny_bind (wpAny_onRaise (wpAny_tryCatch (wpAny_onRaise (wpAny_holding (wp_merge (Ne.symm op) lo dd0 dd (fun h' dd' hs => ?_) (by rw [← rel.length]; simpa using z1))))))
  have he : ∃ q, h'.get? s.heap.objs.size = some q := let ⟨q, _, _, hq, _⟩ := dd'; ⟨q, hq⟩
  have I3 : Inv X pins σ (upd H1 s.heap.objs.size (.dK more)) { s1 with heap := h' } := d_write I2 (by rw [hp]; exact True.intro) hs he (dk_new z1 l0 (by have := rel.merge (.nil : KV [] []); rwa [em] at this) dd')
  have hn3 := I3.hok.fresh (Nat.le_refl h'.objs.size)
  have hsz : h'.objs.size ≠ s.heap.objs.size := fun e => by
    obtain ⟨q, hq⟩ := he
    exact absurd (Heap.lt_size hq) (by rw [e]; exact Nat.lt_irrefl _)
  have hn1 : H1 h'.objs.size = none := by rw [upd_ne hsz] at hn3; exact hn3
  have I4 := I3.laid (a := h'.objs.size) (o := .dK []) (h' := h'.push { cls := .type "dict", data := .dict #[] }) (t' := s1.toks) (fun _ _ q => Heap.get?_push_of_some _ q) (Nat.le_refl _) (dk_empty h' I3.big)
  refine wpAny_bind (wpAny_holding (wpAny_subDict (knd := mixKind X.prog X.w) (by simp) ?_))
  unfold evalPairs
  refine wpAny_bind (thn (hb.run pins _ σ _ _ I4 (q _ hsz hn1)) fun u2 s2 ⟨y, H3, I5, ry, q2⟩ => ?_)
  refine wpAny_bind (wpAny_holding (wpAny_bind (thn (hc.run pins _ σ _ _ I5 q2) fun u3 s3 ⟨z, H4, I6, rz, k, ey, h1, h2, q3⟩ => wpAny_bind (wpAny_standAt (wpAny_pure ?_)))))
  unfold evalPairs
  refine wpAny_bind (wpAny_holding (wpAny_pure (wpAny_pure ?_)))
  subst ey
  obtain ⟨_, l6, vs6, r6, dd6⟩ := dk_of I6.hok h1
  cases r6
  refine ⟨[(k, u3)], ⟨kV_is ry, rfl, True.intro⟩, dd6, fun h7 dd7 hs7 => ?_⟩
  have e7 : ∃ q, h7.get? h'.objs.size = some q := let ⟨q, _, _, hq, _⟩ := dd7; ⟨q, hq⟩
  have kv1 : KV [(k, z)] [(k, u3)] := .cons ⟨rfl, rz⟩ .nil
  have I7 : Inv X pins σ (upd H4 h'.objs.size (.dK [(k, z)])) { s3 with heap := h7, toks := s3.toks + 1 } := d_write I6 (by rw [h1]; exact True.intro) hs7 e7 (dk_new (by show (1 : Nat) ≤ _; decide) l6 (kv1.merge .nil) dd7)
  have hp7 : (upd H4 h'.objs.size (.dK [(k, z)])) s.heap.objs.size = some (.dK more) := by rw [upd_ne (Ne.symm hsz)]; exact h2
  obtain ⟨z8, l8, vs8, r8, dd8⟩ := dk_of I7.hok hp7
  obtain ⟨z9, l9, vs9, r9, dd9⟩ := dk_of I7.hok (kvs := [(k, z)]) upd_same
  have hz8 : (putK more k z).length ≤ sizeLine := by
    have h1 := length_putK more k z
    omega
  refine wpAny_bind (wpAny_onRaise (wpAny_holding (wp_merge (Ne.symm hsz) l9 dd8 dd9 (fun h9 dd' hs9 => ?_) (by rw [← r8.length, ← r9.length]; show more.length + 1 ≤ _; omega))))
  have e9 : ∃ q, h9.get? s.heap.objs.size = some q := let ⟨q, _, _, hq, _⟩ := dd'; ⟨q, hq⟩
  exact wpAny_pure ⟨.ref s.heap.objs.size, _, d_write I7 (by rw [hp7]; exact True.intro) hs9 e9 (dk_new hz8 l8 (r9.merge r8) dd'), rfl, q3⟩
end
/-- {**d, k: v} -/
def asDk : D → M (List (D × D))
  | .dct false kvs => if kvs.length < sizeLine then pur kvs else bad
  | _ => bad
def mUp (fa fb fc : M D) : M T := bnd (bnd fa asDk) fun kvs => bnd fb fun q => bnd fc fun e => match dKey false q with | some k => pur (.dct false (putA false (kvs.map shT) q k (.sh e))) | none => bad
/-- a lone object of its own stays as it is -/
theorem stay {F H F1 H1 : Hp} {A A1 : Addr → Prop} {p : Addr} {o : HO} (s : Step F H A F1 H1 A1) (hf : F p = none) (hh : H p = some o) (mo : Mu o) (hA : ¬ A p) : H1 p = some o ∧ F1 p = none ∧ ¬ A1 p := by
  refine ⟨s.hh p o hh mo.notbl hA hf, ?_, fun z => ?_⟩
  · cases q : F1 p with
    | none => rfl
    | some u =>
      rcases s.fz p (by rw [q]; simp) with z | z | z
      · exact absurd hf z
      · exact absurd z hA
      · rw [hh] at z; cases z
  · rcases s.fr p z with z | z
    · exact hA z
    · rw [hh] at z; cases z
theorem unseen {F H : Hp} {p : Addr} (s : Sub F H) (hp : H p = none) : F p = none := by
  cases q : F p with
  | none => rfl
  | some u => exact absurd hp (s.lv p (by rw [q]; simp))
theorem step_lone {F H : Hp} {A : Addr → Prop} {p : Addr} {u : HO} (hA : A p) (hl : H p ≠ none) : Step F H A F (upd H p u) A := by
  refine ⟨Ex.refl F, fun a x h _ na => ?_, fun a x h _ na _ => ?_, fun a h => .inl h, fun a h => .inl h, fun a h => ?_⟩
  · exact ⟨x, by rw [upd_ne (fun e => na (by rw [e]; exact hA))]; exact h, .refl x⟩
  · rw [upd_ne (fun e => na (by rw [e]; exact hA))]; exact h
  · by_cases e : a = p
    · subst e; rw [upd_same]; simp
    · rw [upd_ne e]; exact h
/-- own things beside, all along -/
theorem Step.with {F H F1 H1 : Hp} {A A1 : Addr → Prop} (C : Addr → Prop) (s : Step F H A F1 H1 A1) : Step F H (fun a => A a ∨ C a) F1 H1 (fun a => A1 a ∨ C a) := by
  have m := s.more (A' := fun b => A b ∨ C b) fun b h => .inl h
  exact ⟨m.ff, m.hx, m.hh, fun b h => h.elim (fun h => (s.fr b h).imp .inl id) fun h => .inl (.inr h), m.fz, m.lv⟩
theorem Step.narrow {F H F1 H1 : Hp} {A A2 C : Addr → Prop} (s : Step F H (fun a => A a ∨ C a) F1 H1 A2) (hC : ∀ a, C a → H a = none) : Step F H A F1 H1 A2 :=
  ⟨s.ff, fun a u r n na => s.hx a u r n (fun z => z.elim na fun c => (by rw [hC a c] at r; cases r)), fun a o r n na => s.hh a o r n (fun z => z.elim na fun c => (by rw [hC a c] at r; cases r)),
    fun a h => (s.fr a h).elim (fun z => z.elim .inl fun c => .inr (hC a c)) .inr, fun a h => (s.fz a h).elim .inl fun z => z.elim (fun z => z.elim (fun z => .inr (.inl z)) fun c => .inr (.inr (hC a c))) fun z => .inr (.inr z), s.lv⟩
section
variable {g : DX} {W : WX} {X : Cx} {a b c e : Expr} {fa fb fc : M D} {k : Nat} {p pos apos cpos : Pos}
theorem de_up (ha : DV g W X a fa) (hb : DV g W X b fb) (hc : DV g W X c fc) : DE g W X (.Dict [none, some b] [a, c] pos) (mUp fa fb fc) := by
  refine PEmono (pe_up ha hb hc) fun σ H Q ⟨ρ, F, B, E, q⟩ p hp => ?_
  have mo : Mu (.dK []) := .inr (.inl ⟨_, rfl⟩)
  have l : Laid F H F (upd H p (.dK [])) := Laid.own E.sub hp
  have E0 := l.env E
  have hf := unseen E.sub hp
  have nB := E.fresh hp p rfl
  refine rdV.go E0 (Then.step l.step ((Then.bnd q.bnd).mono fun d ρ1 q v F1 H1 B1 E1 rv s => ?_))
  obtain ⟨h1, f1, nB1⟩ := stay s hf upd_same mo nB
  cases d with
  | dct t kvs =>
    cases t with
    | true => exact q.elim
    | false =>
      unfold asDk at q
      simp only at q
      split at q
      case isFalse => exact q.elim
      rename_i hz
      cases rv with
      | @dK o more _ rd hl hk hr' =>
        have sub1 := E1.sub
        have E2 := E1.lone (u := .dK more) f1 ⟨_, h1, mo⟩ nB1
        have op : o ≠ p := fun e => by
          subst e
          rcases rd with rd | ⟨_, rd⟩ <;> rw [f1] at rd <;> cases rd
        refine ⟨o, more, rfl, E1.sub.ex.rdD trivial rd, h1, op, by omega, fun r rp hr0 => ?_⟩
        have l2 : Laid F1 (upd H1 p (.dK more)) F1 (upd (upd H1 p (.dK more)) r (.dK [])) := Laid.own E2.sub (by rw [upd_ne rp]; exact hr0)
        have E3 := l2.env E2
        have fr1 := unseen E1.sub hr0
        have nBr := E1.fresh hr0 r rfl
        have hr : H r = none := by
          cases z : H r with
          | none => rfl
          | some u => exact absurd hr0 (s.lv r (by rw [upd_ne rp, z]; simp))
        have mp : Mu (.dK more) := .inr (.inl ⟨_, rfl⟩)
        have nC : ∀ a, (a = p ∨ a = r) → H a = none := fun a h => h.elim (fun e => e ▸ hp) fun e => e ▸ hr
        have s0 : Step F H (fun b => AllB B b ∨ (b = p ∨ b = r)) F1 H1 (fun b => AllB B1 b ∨ (b = p ∨ b = r)) := (l.step.trans s).with _
        have s2 : Step F1 H1 (fun b => AllB B1 b ∨ (b = p ∨ b = r)) F1 (upd H1 p (.dK more)) (fun b => AllB B1 b ∨ (b = p ∨ b = r)) := step_lone (.inr (.inl rfl)) (by rw [h1]; simp)
        have s3 : Step F1 (upd H1 p (.dK more)) (fun b => AllB B1 b ∨ (b = p ∨ b = r)) F1 (upd (upd H1 p (.dK more)) r (.dK [])) (fun b => AllB B1 b ∨ (b = p ∨ b = r)) := l2.step
        have sA := (s0.trans s2).trans s3
        have sA' : Step F H (AllB B) F1 (upd (upd H1 p (.dK more)) r (.dK [])) (AllB B1) := (sA.narrow nC).less fun a h => .inl h
        replace q := PostE.bnd (show PostE g W σ F H (AllB B) Q (bnd fb _ ρ1) from q)
        refine rdV.go E3 (Then.step sA' (q.mono fun kd ρ2 q y F4 H4 B4 E4 ry s4 => ?_))
        refine rdV.go E4 (Then.step (sA'.trans s4) ((PostE.bnd q).mono fun e ρ3 q z F5 H5 B5 E5 rz s5 => ?_))
        have hp3 : (upd (upd H1 p (.dK more)) r (.dK [])) p = some (.dK more) := by rw [upd_ne (Ne.symm rp), upd_same]
        obtain ⟨p4, fp4, np4⟩ := stay s4 f1 hp3 mp nB1
        obtain ⟨r4, fr4, nr4⟩ := stay s4 fr1 upd_same mo nBr
        obtain ⟨p5, fp5, np5⟩ := stay s5 fp4 p4 mp np4
        obtain ⟨r5, fr5, nr5⟩ := stay s5 fr4 r4 mo nr4
        revert q
        cases hk0 : keyK kd with
        | none => simp only [dKey, hk0]; exact False.elim
        | some k0 =>
          simp only [dKey, hk0]
          intro q
          have ek := keyK_some hk0
          subst ek
          refine ⟨k0, rep_keyK ry hk0, r5, p5, ?_⟩
          have E6 := (E5.lone (u := .dK [(k0, z)]) fr5 ⟨_, r5, mo⟩ nr5).lone (p := p) (u := .dK (putK more k0 z)) fp5 ⟨_, by rw [upd_ne (Ne.symm rp)]; exact p5, mp⟩ np5
          have fx := s4.ff.trans s5.ff
          obtain ⟨q1, _, _, q3, q4⟩ := put_at (t := false) (R := fun i v u => ∃ e, u = .sh e ∧ Rep g.K F5 v e) (kD' := kD) (fun k => [k]) inj1 kD_key (kts := kvs.map shT) (by simpa using hl) (fun i k v d u a b => by
              rw [List.getElem?_map] at b
              cases w : kvs[i]? with
              | none => rw [w] at b; cases b
              | some x => rw [w] at b; cases b; exact hk i k v x.1 x.2 a w) (fun i k v d u a b => by
              rw [List.getElem?_map] at b
              cases w : kvs[i]? with
              | none => rw [w] at b; cases b
              | some x => rw [w] at b; cases b; exact ⟨_, rfl, (hr' i k v x.1 x.2 a w).mono fx⟩) k0 z (.sh e)
          refine q (.ref p) F5 _ B5 (fun a => a = p) E6 (own_dk fp5 upd_same q1 q3 fun i k' v d u a b => ?_) (fun a e => e ▸ np5) ?_
          · rcases q4 i k' v d u a b with ⟨_, _, _, _, w⟩ | ⟨_, rfl, rfl⟩
            · exact w
            · exact ⟨e, rfl, rz⟩
          · have s6 : Step F5 H5 (fun b => AllB B5 b ∨ (b = p ∨ b = r)) F5 (upd H5 r (.dK [(k0, z)])) (fun b => AllB B5 b ∨ (b = p ∨ b = r)) := step_lone (.inr (.inr rfl)) (by rw [r5]; simp)
            have s7 : Step F5 (upd H5 r (.dK [(k0, z)])) (fun b => AllB B5 b ∨ (b = p ∨ b = r)) F5 (upd (upd H5 r (.dK [(k0, z)])) p (.dK (putK more k0 z))) (fun b => AllB B5 b ∨ (b = p ∨ b = r)) := step_lone (.inr (.inl rfl)) (by rw [upd_ne (Ne.symm rp), p5]; simp)
            exact ((((((sA.trans (s4.with _)).trans (s5.with _)).trans s6).trans s7).narrow nC)).less fun a h => h.imp id .inl
  | _ => exact q.elim
end
end Mi

end
section
set_option Elab.async false
set_option autoImplicit false
set_option linter.all false
set_option maxRecDepth 100000
set_option maxHeartbeats 3200000
/-! Mi, 21: sets of ints and texts, by their members. -/
namespace Mi
open PySem PySem.Spec PyProof.Rows L2

def keyV (v : Value) : Key := match v with | .int i _ => .inl i | .str x _ => .inr x | _ => .inl 0
/-- members, each once, in the order in which they came -/
def inK (L : List Key) (k : Key) : Bool := L.any fun j => decide (j = k)
theorem inK_iff {L : List Key} {k : Key} : inK L k = true ↔ k ∈ L := by
  unfold inK
  rw [List.any_eq_true]
  exact ⟨fun ⟨x, h, e⟩ => of_decide_eq_true e ▸ h, fun h => ⟨k, h, decide_eq_true rfl⟩⟩
def addK (L : List Key) (k : Key) : List Key := if inK L k = true then L else L ++ [k]
section
variable {P : Program} {w : World} {A : Around} {E : Value → Shared → Prop} {s : Shared} {a : Addr} {L : List Key} {n : Nat}
def GoodX (P : Program) (w : World) (e : Int × Value) : Prop := ∃ k, (mixKind P w).is k e.2 = true ∧ e.1 = (mixKind P w).hash k
theorem is_keyV {k : Key} {v : Value} (h : (mixKind P w).is k v = true) : keyV v = k ∧ v.scannable = true := by
  rw [mixKind_is] at h
  rcases keyIs_shape h with ⟨i, t, rfl, rfl⟩ | ⟨x, t, rfl, rfl⟩ <;> exact ⟨rfl, rfl⟩
theorem good_isX {e : Int × Value} (g : GoodX P w e) (k : Key) : (mixKind P w).is k e.2 = true ↔ keyV e.2 = k := by
  obtain ⟨k0, h, _⟩ := g
  constructor
  · intro z; exact (is_keyV z).1
  · intro z; rw [← z, (is_keyV h).1]; exact h
theorem good_elemsX {l : List (Int × Value)} (g : ∀ e ∈ l, GoodX P w e) : ElemsOf (mixKind P w) l := fun e he => by
  obtain ⟨k, h1, h2⟩ := g e he
  exact ⟨⟨k, h1, h2⟩, (is_keyV h1).2⟩
/-- the set at a has the members L -/
def SetX (P : Program) (w : World) (h : Heap) (a : Addr) (L : List Key) : Prop :=
  ∃ o es ep t, h.get? a = some o ∧ o.ExactSet ∧ o.data = .set es ep t ∧ (∀ e ∈ es.toList, GoodX P w e) ∧ (es.toList.map fun e => keyV e.2).Perm L ∧ L.Nodup ∧ es.size < scanBound ∧ t.fits es.size = true ∧ Ris t.place.toList ∧ (w.params.followText "set-order" = true ∨ t.led = true)
theorem SetX.at {h h' : Heap} (R : SetX P w h a L) (k : ∀ o, h.get? a = some o → h'.get? a = some o) : SetX P w h' a L := by
  obtain ⟨o, es, ep, t, ho, r⟩ := R
  exact ⟨o, es, ep, t, k o ho, r⟩
theorem SetX.new {h : Heap} (ho : h.get? a = some { cls := .type "set", dict := none, data := .set #[] 0 (.fresh 0 0 (!w.params.followText "set-order")) }) : SetX P w h a [] :=
  ⟨_, #[], 0, _, ho, ⟨rfl, rfl, rfl⟩, rfl, (fun e he => by simp at he), by simp, List.nodup_nil, by decide, by rfl, List.Pairwise.nil, by
    show _ ∨ (!w.params.followText "set-order") = true
    cases w.params.followText "set-order"
    · exact .inr rfl
    · exact .inl rfl⟩
theorem setX_tail {g : Bool → Sem Unit} (hg : ∀ (b : Bool) (s₁ : Shared) (Q' : Unit → Shared → Prop), Q' () s₁ → wpAny (model P w) A (g b) Q' E s₁)
    {o : Obj} {es : Array (Int × Value)} {ep : Nat} {t : SetTable} (ho : s.heap.get? a = some o) (hex : o.ExactSet) (hd : o.data = .set es ep t)
    {es1 : Array (Int × Value)} {t2 : SetTable} (g1 : ∀ e ∈ es1.toList, GoodX P w e) (p1 : (es1.toList.map fun e => keyV e.2).Perm L) (nd1 : L.Nodup)
    (hb1 : es1.size < scanBound) (hf2 : t2.fits es1.size = true) (hr : Ris t2.place.toList) (hl : w.params.followText "set-order" = true ∨ t2.led = true) {wasDummy : Bool} {R : Option Bool → Shared → Prop}
    (hR : ∀ h', Heap.SameBut a s.heap h' → SetX P w h' a L → R (some true) { s with heap := h' }) :
    wpAny (model P w) A (do
        storeSet a es1 t2
        if (!wasDummy && t2.tooFull) = true then do
            g (relayAll t2 es1 (SetTable.grown es1.size)).2.2
            storeSet a (relayAll t2 es1 (SetTable.grown es1.size)).1 (relayAll t2 es1 (SetTable.grown es1.size)).2.1
            pure (some true)
          else pure (some true)) R E s := by
  refine wpAny_bind (wpAny_storeSet_of ho hd ?_ (fits_of_scanBound hb1))
  have ho1 := store_at (es' := es1) (t' := t2) ho hd
  have sb1 := Heap.SameBut.update s.heap a (Obj.putSet es1 t2)
  split
  · have pm := relayAll_perm t2 es1 (SetTable.grown es1.size)
    have hf3 := relayAll_fits t2 es1 (SetTable.grown es1.size)
    have hr3 := relayAll_ris t2 es1 (SetTable.grown es1.size)
    have hl3 := relayAll_led t2 es1 (SetTable.grown es1.size)
    generalize relayAll t2 es1 (SetTable.grown es1.size) = Z at pm hf3 hr3 hl3 ⊢
    obtain ⟨es2, t3, gave⟩ := Z
    dsimp only at pm hf3 hr3 hl3 ⊢
    have hsz : es2.size = es1.size := by rw [← Array.length_toList, pm.length_eq, Array.length_toList]
    have hb2 : es2.size < scanBound := by rw [hsz]; exact hb1
    refine wpAny_bind (hg _ _ _ ?_)
    refine wpAny_bind (wpAny_storeSet_of ho1 rfl ?_ (fits_of_scanBound hb2))
    have ho2 := store_at (es' := es2) (t' := t3) ho1 rfl
    exact wpAny_pure (hR _ (sb1.trans (Heap.SameBut.update _ a _)) ⟨_, es2, _, t3, ho2, hex, rfl, fun e he => g1 e (pm.mem_iff.mp he), (pm.map _).trans p1, nd1, hb2, hf3, hr3, hl.imp id fun z => by rw [hl3]; exact z⟩)
  · exact wpAny_pure (hR _ sb1 ⟨_, es1, _, t2, ho1, hex, rfl, g1, p1, nd1, hb1, hf2, hr, hl⟩)
theorem setX_add {k : Key} {v : Value} {Q : Bool → Shared → Prop} (hkey : (mixKind P w).is k v = true) (R : SetX P w s.heap a L) (room : L.length + 1 < scanBound)
    (hQ : ∀ h', Heap.SameBut a s.heap h' → SetX P w h' a (addK L k) → Q (!inK L k) { s with heap := h' }) : wpAny (model P w) A (setAddHashed a v ((mixKind P w).hash k)) Q E s := by
  obtain ⟨o, es, ep, t, ho, hex, hd, g, pm0, nd, hb, hf, hr, hl⟩ := R
  obtain ⟨hkv, hsc⟩ := is_keyV hkey
  have hel : ElemsOf (mixKind P w) es.toList := good_elemsX g
  unfold setAddHashed setAddHashedIn
  refine wpAny_holding (wpAny_bind (wpAny_setState_of ho hd hf ?_))
  dsimp only
  rw [byScan_of hsc hb hel]
  simp only [↓reduceIte]
  unfold setAddByScan
  refine wpAny_bind ?_
  refine wpAny_bind (wpAny_rule ?_)
  refine wpAny_bind (wpAny_setScan_of hkey ho hd hf hel ?_)
  cases hfi : List.findIdx? (fun e => (mixKind P w).is k e.2) es.toList with
  | some j =>
    dsimp only
    obtain ⟨hj, pj, _⟩ := List.findIdx?_eq_some_iff_getElem.mp hfi
    have hm : k ∈ L := pm0.mem_iff.mp (List.mem_map.mpr ⟨_, List.getElem_mem hj, (is_keyV pj).1⟩)
    refine wpAny_pure (wpAny_pure ?_)
    have q := hQ s.heap (Heap.SameBut.refl a s.heap) (by unfold addK; rw [if_pos (inK_iff.mpr hm)]; exact ⟨o, es, ep, t, ho, hex, hd, g, pm0, nd, hb, hf, hr, hl⟩)
    rw [inK_iff.mpr hm] at q
    exact q
  | none =>
    dsimp only
    have hnk : k ∉ L := fun z => by
      obtain ⟨e, he, q⟩ := List.mem_map.mp (pm0.mem_iff.mpr z)
      have c := List.findIdx?_eq_none_iff.mp hfi e he
      rw [(good_isX (g e he) k).mpr q] at c
      cases c
    have hgw : ∀ (b : Bool) {s₁ : Shared} {Q' : Unit → Shared → Prop}, Q' () s₁ → wpAny (model P w) A (match b with | true => rule "set.scan.the-table-gave-way" | false => pure ()) Q' E s₁ :=
      fun b s₁ Q' q => by cases b <;> first | exact wpAny_pure q | exact wpAny_rule q
    have pm := layNew_perm t es ((mixKind P w).hash k) v
    have hf1 := layNew_fits t es ((mixKind P w).hash k) v
    have hr1 := layNew_ris t es ((mixKind P w).hash k) v hr
    have hl1 := layNew_led t es ((mixKind P w).hash k) v
    generalize layNew t es ((mixKind P w).hash k) v = Z at pm hf1 hr1 hl1 ⊢
    obtain ⟨es1, t1, wasDummy, gave⟩ := Z
    dsimp only at pm hf1 hr1 hl1 ⊢
    rw [Array.toList_push] at pm
    have g1 : ∀ e ∈ es1.toList, GoodX P w e := fun e he => by
      rcases List.mem_append.mp (pm.mem_iff.mp he) with z | z
      · exact g e z
      · rw [List.mem_singleton.mp z]; exact ⟨k, hkey, rfl⟩
    have p1 : (es1.toList.map fun e => keyV e.2).Perm (addK L k) := by
      unfold addK
      rw [if_neg fun z => hnk (inK_iff.mp z)]
      refine (pm.map _).trans ?_
      rw [List.map_append, List.map_singleton]
      dsimp only
      rw [hkv]
      exact pm0.append_right [k]
    have nd1 : (addK L k).Nodup := by
      unfold addK
      rw [if_neg fun z => hnk (inK_iff.mp z)]
      refine List.nodup_append.mpr ⟨nd, by simp, fun x hx y hy e => ?_⟩
      rw [List.mem_singleton] at hy
      exact hnk (by rw [← hy, ← e]; exact hx)
    have hsz : es1.size = L.length + 1 := by
      have q := pm.length_eq
      have q0 := pm0.length_eq
      rw [List.length_append, List.length_singleton, Array.length_toList, Array.length_toList] at q
      rw [List.length_map, Array.length_toList] at q0
      omega
    have hb1 : es1.size < scanBound := by rw [hsz]; exact room
    have hled : w.params.followText "set-order" = true ∨ t1.led = true := hl.imp id fun z => by rw [hl1]; exact z
    have fin : ∀ h', Heap.SameBut a s.heap h' → SetX P w h' a (addK L k) → Q true { s with heap := h' } := fun h' sb r => by
      have q := hQ h' sb r
      rw [show inK L k = false from Bool.eq_false_iff.mpr fun z => hnk (inK_iff.mp z)] at q
      exact q
    refine wpAny_bind (hgw _ ?_)
    split
    · refine wpAny_bind ?_
      rw [hashByValue_scannable 8 hsc]
      refine wpAny_pure ?_
      refine setX_tail ?_ ho hex hd g1 p1 nd1 hb1 ?_ ?_ ?_ ?_
      · intro b s₁ Q' q; cases b <;> first | exact wpAny_pure q | exact wpAny_rule q
      · first | (split <;> first | exact hf1 | exact SetTable.fits_plain_off hf1) | exact hf1
      · first | (split <;> exact hr1) | exact hr1
      · first | (split <;> exact hled) | exact hled
      · intro h' sb r; dsimp only; exact wpAny_pure (fin h' sb r)
    · refine wpAny_bind (wpAny_pure ?_)
      simp only [↓reduceIte]
      refine setX_tail ?_ ho hex hd g1 p1 nd1 hb1 hf1 hr1 hled ?_
      · intro b s₁ Q' q; cases b <;> first | exact wpAny_pure q | exact wpAny_rule q
      · intro h' sb r; dsimp only; exact wpAny_pure (fin h' sb r)
end
end Mi

end
section
set_option Elab.async false
set_option autoImplicit false
set_option linter.all false
set_option maxRecDepth 100000
set_option maxHeartbeats 3200000
/-! Mi, 22: a set of a list or a tuple of ints and texts. -/
namespace Mi
open PySem PySem.Spec PyProof.Rows L2
section
variable {P : Program} {w : World} {A : Around} {E : Value → Shared → Prop} {s : Shared}
def addKs (L : List Key) (ks : List Key) : List Key := ks.foldl addK L
theorem addK_len (L : List Key) (k : Key) : (addK L k).length ≤ L.length + 1 := by
  unfold addK
  split <;> simp
theorem addKs_len : ∀ (ks L : List Key), (addKs L ks).length ≤ L.length + ks.length
  | [], L => by simp [addKs]
  | k :: ks, L => by
    have h1 := addKs_len ks (addK L k)
    have h2 := addK_len L k
    show (addKs (addK L k) ks).length ≤ _
    rw [List.length_cons]; omega
theorem set_update_X {I : Addr} {fp wr : List Addr} {G : Array GenState → Array GenState → Prop} {n : Nat} {Pv : Nat → Value → Prop} {St : Nat → Shared → Prop} {R : Result → Shared → Prop}
    (W : WalksS P w A.in1 I fp wr G n Pv St) (S : Addr) (hSf : S ∉ fp) (ks : List Key) (hn : n = ks.length) (hb : ks.length + 1 < scanBound) (hval : ∀ i v, Pv i v → ∃ k, ks[i]? = some k ∧ (mixKind P w).is k v = true) :
    ∀ (k i : Nat) (s : Shared), n - i = k → i ≤ n → St i s → SetX P w s.heap S (addKs [] (ks.take i)) →
      (∀ s', Moved (S :: wr) G s s' → SetX P w s'.heap S (addKs [] ks) → R (.ok (.ret .none)) s') →
      codeAny (model P w) A (.builtin "set.update.loop" ⟨[.ref S, .ref I], []⟩) R s := by
  have hSw : S ∉ wr := fun h => hSf (W.sub _ h)
  have hsub : ∀ b ∈ wr, b ∈ S :: wr := fun b hb => List.mem_cons_of_mem _ hb
  intro k
  induction k with
  | zero =>
    intro i s hk' hi hst hS hR
    have hin : i = n := by omega
    subst hin
    refine codeAny_builtin F.entry_set_update_loop ?_
    rw [Around.under_plainId F.plain_set_update_loop _]
    show wpAny _ A.in1 (pyNext (.ref I) >>= _) _ _ s
    refine wpAny_bind (W.done s _ _ hst fun s' hm => ?_)
    show wpAny _ A.in1 (ret Value.none) _ _ s'
    have e : ks.take i = ks := List.take_of_length_le (by omega)
    rw [e] at hS
    exact wpAny_pure (hR s' (hm.mono hsub) (hS.at fun o e => hm.heap S o hSw e))
  | succ k ih =>
    intro i s hk' hi hst hS hR
    have hlt : i < n := by omega
    refine codeAny_builtin F.entry_set_update_loop ?_
    rw [Around.under_plainId F.plain_set_update_loop _]
    show wpAny _ A.in1 (pyNext (.ref I) >>= _) _ _ s
    refine wpAny_bind (W.item i s _ _ hlt hst fun v s' hP hst' hm => ?_)
    obtain ⟨z, hz, hv⟩ := hval i v hP
    have hS' : SetX P w s'.heap S (addKs [] (ks.take i)) := hS.at fun o e => hm.heap S o hSw e
    show wpAny _ A.in1 (holding [v] (setAdd S v) >>= _) _ _ s'
    refine wpAny_bind (wpAny_holding ?_)
    unfold setAdd
    refine wpAny_holding ?_
    refine wpAny_bind ((mixKind P w).pyHash (k := z) hv ?_)
    have hlen := addKs_len (ks.take i) []
    rw [List.length_nil, List.length_take] at hlen
    refine setX_add (s := { s' with toks := s'.toks + 1 }) hv hS' (by omega) fun h' hsb hS2 => ?_
    have hS3 : SetX P w h' S (addKs [] (ks.take (i + 1))) := by
      have e : addKs [] (ks.take (i + 1)) = addK (addKs [] (ks.take i)) z := by
        rw [List.take_add_one, hz]
        simp [addKs, List.foldl_append]
      rw [e]; exact hS2
    refine wpAny_pure ⟨plainId_quiet F.plain_set_update_loop _, ih (i + 1) _ (by omega) hlt (W.frame _ s' _ _ hst' (Nat.le_succ _) fun b hb o e => ?_) hS3 fun s'' hm'' hS'' => ?_⟩
    · rw [hsb.2 b (fun h : b = S => hSf (by rw [← h]; exact hb))]; exact e
    · refine hR s'' (Moved.trans W.gtrans ((hm.mono hsub).then_heap (Nat.le_succ _) fun b o hb e => ?_) hm'') hS''
      rw [hsb.2 b (fun h : b = S => hb (by rw [h]; exact List.mem_cons_self))]; exact e
inductive KeysAt (P : Program) (w : World) : List Value → List Key → Prop where
  | nil : KeysAt P w [] []
  | cons {v k vs ks} : (mixKind P w).is k v = true → KeysAt P w vs ks → KeysAt P w (v :: vs) (k :: ks)
theorem KeysAt.length {vs : List Value} {ks : List Key} (h : KeysAt P w vs ks) : vs.length = ks.length := by
  induction h with
  | nil => rfl
  | cons _ _ ih => simp [ih]
theorem KeysAt.at {vs : List Value} {ks : List Key} (h : KeysAt P w vs ks) : ∀ (i : Nat) v, vs[i]? = some v → ∃ k, ks[i]? = some k ∧ (mixKind P w).is k v = true := by
  induction h with
  | nil => intro i v e; simp at e
  | @cons v k vs ks h _ ih =>
    intro i u e
    cases i with
    | zero => cases e; exact ⟨k, rfl, h⟩
    | succ i =>
      obtain ⟨k', h1, h2⟩ := ih i u (by simpa using e)
      exact ⟨k', by simpa using h1, h2⟩
abbrev emptySet (w : World) : Obj := { cls := .type "set", dict := none, data := .set #[] 0 (.fresh 0 0 (!w.params.followText "set-order")) }

theorem call_set_tupK {l : Addr} {items : Array Value} (ks : List Key) {Q : Value → Shared → Prop} (hh : A.handled = none) (hl : s.heap.IsTuple l items) (hit : KeysAt P w items.toList ks) (hb : ks.length + 1 < scanBound)
    (h : ∀ (h' : Heap) (tk : Nat), SetX P w h' s.heap.objs.size (addKs [] ks) → (∀ b o, s.heap.get? b = some o → h'.get? b = some o) → Q (.ref s.heap.objs.size) { s with heap := h', toks := tk }) :
    wpAny (model P w) A (call (.type "set") [.ref l]) Q E s := by
  have hisz : items.size = ks.length := by
    have q := hit.length
    rw [Array.length_toList] at q
    exact q
  obtain ⟨c, tl, hmro⟩ := F.called_set.mro
  have hmade := F.called_set.made
  have hsub := F.called_set.sub
  refine wpAny_call (codeAny_of_tree ?_)
  show wpAny _ _ (callAny (.type "set") _) _ _ _
  refine wpAny_pure ⟨Code.quiet_builtin _ (by decide +kernel), codeAny_builtin F.entry_type_call ?_⟩
  rw [Around.under_plain (weight_type_call_type "set" [.ref l] []) rfl]
  have h1 := F.called_set.notType
  have h2 := F.called_set.canCreate
  have hct := F.typeCall_set_1 (.ref l)
  repeat (any_goals (first | assumption | wp_step))
  refine codeAny_mono (code_set_led1 (.ref l) (E := E) (Q₁ := fun obj s₁ => obj = .ref s.heap.objs.size ∧ s₁ = { s with heap := s.heap.push (emptySet w) }) ⟨rfl, rfl⟩) fun r s₁ hr => ?_
  cases r with
  | error e => exact hr
  | ok fl =>
    cases fl with
    | ret obj =>
      obtain ⟨rfl, rfl⟩ := hr
      have hS : (s.heap.push (emptySet w)).get? s.heap.objs.size = some (emptySet w) := Heap.get?_push_size _ rfl
      have hT : Shared.TypeIs { s with heap := s.heap.push (emptySet w) } (.ref s.heap.objs.size) "set" := ⟨_, hS, rfl⟩
      have hli := F.called_set.init.lookup
      have hbi := F.called_set.init.bind (.ref s.heap.objs.size)
      repeat (any_goals (first | assumption | wp_step))
      refine codeAny_mono (codeAny_call_builtin (R := wants (fun r s₂ => r = .none ∧ ∃ h' tk, s₂ = { s with heap := h', toks := tk } ∧ SetX P w h' s.heap.objs.size (addKs [] ks) ∧
          (∀ b o, s.heap.get? b = some o → h'.get? b = some o)) E) F.called_set.init.plain F.entry_set_init (check_set_init_1 hT ?_)) fun r₂ s₂ hr₂ => ?_
      · obtain ⟨ol, hol, hcl, nl, hdl⟩ := hl
        obtain ⟨ocls, odict, odata, oslots⟩ := ol
        simp only at hcl hdl
        subst hcl; subst hdl
        have hol' : (s.heap.push (emptySet w)).get? l = some { cls := .type "tuple", dict := odict, data := .seq items nl, slots := oslots } := Heap.get?_push_of_some _ hol
        have hsls := F.sub_tuple_set
        have hslf := F.sub_tuple_frozenset
        have hne : (Value.type "tuple" == Value.type "dict") = false := by decide
        have hl1 : (s.heap.push (emptySet w)).IsTuple l items := ⟨_, hol', rfl, nl, rfl⟩
        unfold Builtin.«set.__init__» noKeywords Builtin.Frozenset.updateFrom
        generalize hPI : pyIter = PI
        wp_walk
        subst hPI
        refine wpAny_pyIter_tuple hl1 ?_
        refine wpAny_bind (wpAny_runValue ?_)
        have hlS : l < s.heap.objs.size := Heap.lt_size hol
        have hh3 : A.in1.in1.in1.handled = none := by simp [hh]
        have hneI : l ≠ (s.heap.push (emptySet w)).objs.size := by
          rw [Heap.size_push]; exact Nat.ne_of_lt (Nat.lt_succ_of_lt hlS)
        have hSf : s.heap.objs.size ∉ [(s.heap.push (emptySet w)).objs.size, l] := by
          rw [Heap.size_push]; simp only [List.mem_cons, List.mem_singleton, List.not_mem_nil, or_false, not_or]
          exact ⟨Nat.ne_of_lt (Nat.lt_succ_self _), Nat.ne_of_gt hlS⟩
        have hval : ∀ (i : Nat) (v : Value), items[i]? = some v → ∃ k, ks[i]? = some k ∧ (mixKind P w).is k v = true := fun i v hv => hit.at i v (by rw [Array.getElem?_toList]; exact hv)
        refine set_update_X ((Walks.tuple hh3 _ l hneI items).toS) s.heap.objs.size
          hSf ks hisz hb hval (items.size - 0) 0 _ (by omega) (Nat.zero_le _)
          ⟨⟨_, Heap.get?_push_size _ rfl, rfl, rfl⟩, (hl1.push _)⟩ ?hS0 ?hR
        case hS0 => exact SetX.new (Heap.get?_push_of_some _ hS)
        case hR =>
          intro s' hm hS'
          obtain ⟨h', g2, d', tk', os'⟩ := s'
          have eg : g2 = s.gens := hm.gens
          have ed : d' = s.drawn := hm.drawn
          have eo : os' = s.os := hm.os
          subst eg; subst ed; subst eo
          show wpAny _ _ _ _ _ _
          refine wpAny_pure ?_
          show wpAny _ _ (ret Value.none) _ _ _
          refine wpAny_pure ⟨rfl, h', tk', rfl, hS', fun b o e => ?_⟩
          have hb0 : b < s.heap.objs.size := Heap.lt_size e
          have hb1 : b ≠ s.heap.objs.size := Nat.ne_of_lt hb0
          have hb2 : b ≠ (s.heap.push (emptySet w)).objs.size := by
            rw [Heap.size_push]; exact Nat.ne_of_lt (Nat.lt_succ_of_lt hb0)
          exact hm.heap b o (by simp only [List.mem_cons, List.mem_singleton, List.not_mem_nil, or_false, not_or]; exact ⟨hb1, hb2⟩) (Heap.get?_push_of_some _ (Heap.get?_push_of_some _ e))
      · cases r₂ with
        | error e => exact hr₂
        | ok fl₂ =>
          cases fl₂ with
          | ret r =>
            obtain ⟨rfl, h', tk, rfl, hS', hk'⟩ := hr₂
            repeat (any_goals (first | assumption | wp_step))
            exact h _ _ hS' hk'
          | _ => exact hr₂.elim
    | _ => exact hr.elim

theorem call_set_lstK {l : Addr} {items : Array Value} (ks : List Key) {Q : Value → Shared → Prop} (hh : A.handled = none) (hl : s.heap.IsList l items) (hit : KeysAt P w items.toList ks) (hb : ks.length + 1 < scanBound)
    (h : ∀ (h' : Heap) (tk : Nat), SetX P w h' s.heap.objs.size (addKs [] ks) → (∀ b o, s.heap.get? b = some o → h'.get? b = some o) → Q (.ref s.heap.objs.size) { s with heap := h', toks := tk }) :
    wpAny (model P w) A (call (.type "set") [.ref l]) Q E s := by
  have hisz : items.size = ks.length := by
    have q := hit.length
    rw [Array.length_toList] at q
    exact q
  obtain ⟨c, tl, hmro⟩ := F.called_set.mro
  have hmade := F.called_set.made
  have hsub := F.called_set.sub
  refine wpAny_call (codeAny_of_tree ?_)
  show wpAny _ _ (callAny (.type "set") _) _ _ _
  refine wpAny_pure ⟨Code.quiet_builtin _ (by decide +kernel), codeAny_builtin F.entry_type_call ?_⟩
  rw [Around.under_plain (weight_type_call_type "set" [.ref l] []) rfl]
  have h1 := F.called_set.notType
  have h2 := F.called_set.canCreate
  have hct := F.typeCall_set_1 (.ref l)
  repeat (any_goals (first | assumption | wp_step))
  refine codeAny_mono (code_set_led1 (.ref l) (E := E) (Q₁ := fun obj s₁ => obj = .ref s.heap.objs.size ∧ s₁ = { s with heap := s.heap.push (emptySet w) }) ⟨rfl, rfl⟩) fun r s₁ hr => ?_
  cases r with
  | error e => exact hr
  | ok fl =>
    cases fl with
    | ret obj =>
      obtain ⟨rfl, rfl⟩ := hr
      have hS : (s.heap.push (emptySet w)).get? s.heap.objs.size = some (emptySet w) := Heap.get?_push_size _ rfl
      have hT : Shared.TypeIs { s with heap := s.heap.push (emptySet w) } (.ref s.heap.objs.size) "set" := ⟨_, hS, rfl⟩
      have hli := F.called_set.init.lookup
      have hbi := F.called_set.init.bind (.ref s.heap.objs.size)
      repeat (any_goals (first | assumption | wp_step))
      refine codeAny_mono (codeAny_call_builtin (R := wants (fun r s₂ => r = .none ∧ ∃ h' tk, s₂ = { s with heap := h', toks := tk } ∧ SetX P w h' s.heap.objs.size (addKs [] ks) ∧
          (∀ b o, s.heap.get? b = some o → h'.get? b = some o)) E) F.called_set.init.plain F.entry_set_init (check_set_init_1 hT ?_)) fun r₂ s₂ hr₂ => ?_
      · obtain ⟨ol, hol, hcl, nl, hdl⟩ := hl
        obtain ⟨ocls, odict, odata, oslots⟩ := ol
        simp only at hcl hdl
        subst hcl; subst hdl
        have hol' : (s.heap.push (emptySet w)).get? l = some { cls := .type "list", dict := odict, data := .seq items nl, slots := oslots } := Heap.get?_push_of_some _ hol
        have hsls := F.sub_list_set
        have hslf := F.sub_list_frozenset
        have hne : (Value.type "list" == Value.type "dict") = false := by decide
        have hl1 : (s.heap.push (emptySet w)).IsList l items := ⟨_, hol', rfl, nl, rfl⟩
        unfold Builtin.«set.__init__» noKeywords Builtin.Frozenset.updateFrom
        generalize hPI : pyIter = PI
        wp_walk
        subst hPI
        refine wpAny_pyIter_list hl1 ?_
        refine wpAny_bind (wpAny_runValue ?_)
        have hlS : l < s.heap.objs.size := Heap.lt_size hol
        have hh3 : A.in1.in1.in1.handled = none := by simp [hh]
        have hneI : l ≠ (s.heap.push (emptySet w)).objs.size := by
          rw [Heap.size_push]; exact Nat.ne_of_lt (Nat.lt_succ_of_lt hlS)
        have hSf : s.heap.objs.size ∉ [(s.heap.push (emptySet w)).objs.size, l] := by
          rw [Heap.size_push]; simp only [List.mem_cons, List.mem_singleton, List.not_mem_nil, or_false, not_or]
          exact ⟨Nat.ne_of_lt (Nat.lt_succ_self _), Nat.ne_of_gt hlS⟩
        have hval : ∀ (i : Nat) (v : Value), items[i]? = some v → ∃ k, ks[i]? = some k ∧ (mixKind P w).is k v = true := fun i v hv => hit.at i v (by rw [Array.getElem?_toList]; exact hv)
        refine set_update_X ((Walks.list hh3 _ l hneI items).toS) s.heap.objs.size
          hSf ks hisz hb hval (items.size - 0) 0 _ (by omega) (Nat.zero_le _)
          ⟨⟨_, Heap.get?_push_size _ rfl, rfl, rfl⟩, (hl1.push _)⟩ ?hS0 ?hR
        case hS0 => exact SetX.new (Heap.get?_push_of_some _ hS)
        case hR =>
          intro s' hm hS'
          obtain ⟨h', g2, d', tk', os'⟩ := s'
          have eg : g2 = s.gens := hm.gens
          have ed : d' = s.drawn := hm.drawn
          have eo : os' = s.os := hm.os
          subst eg; subst ed; subst eo
          show wpAny _ _ _ _ _ _
          refine wpAny_pure ?_
          show wpAny _ _ (ret Value.none) _ _ _
          refine wpAny_pure ⟨rfl, h', tk', rfl, hS', fun b o e => ?_⟩
          have hb0 : b < s.heap.objs.size := Heap.lt_size e
          have hb1 : b ≠ s.heap.objs.size := Nat.ne_of_lt hb0
          have hb2 : b ≠ (s.heap.push (emptySet w)).objs.size := by
            rw [Heap.size_push]; exact Nat.ne_of_lt (Nat.lt_succ_of_lt hb0)
          exact hm.heap b o (by simp only [List.mem_cons, List.mem_singleton, List.not_mem_nil, or_false, not_or]; exact ⟨hb1, hb2⟩) (Heap.get?_push_of_some _ (Heap.get?_push_of_some _ e))
      · cases r₂ with
        | error e => exact hr₂
        | ok fl₂ =>
          cases fl₂ with
          | ret r =>
            obtain ⟨rfl, h', tk, rfl, hS', hk'⟩ := hr₂
            repeat (any_goals (first | assumption | wp_step))
            exact h _ _ hS' hk'
          | _ => exact hr₂.elim
    | _ => exact hr.elim
end
end Mi

end
section
set_option Elab.async false
set_option autoImplicit false
set_option linter.all false
set_option maxRecDepth 100000
set_option maxHeartbeats 1000000
/-! Mi, 23: sorted, of what can be collected. -/
namespace Mi
open PySem PySem.Spec PyProof.Rows L2 PySem.W
section
variable {prog : Program} {w : World} {A : Around} {E : Value → Shared → Prop} {s : Shared}
theorem kdl_raw {d : Addr} {es : Array DictEntry} {ep : Nat} (lo : (d == sysModules) = false) : KdlSrc prog w "dict" d d es.size (fun i v => ∃ hi : i < es.size, v = es[i].key) (fun h => h.DictRaw d es ep) where
  type := fun _ hm => hm.typeIs
  there := fun _ hm => ⟨let ⟨_, ho, _⟩ := hm; Heap.lt_size ho, let ⟨_, ho, _⟩ := hm; Heap.lt_size ho⟩
  keep := fun _ _ hm hk => hm.at fun o e => hk d (.inl rfl) o e
  notList := by decide
  notTuple := by decide
  hint := fun _ _ _ _ hm hq => kdl_hint_dict hm.typeIs hq
  iter := fun _ _ hh hm => ⟨_, _, (fun _ _ hq => wpAny_pyIter_dict_raw lo hm hq), Walks.rawKeys hh _ d (let ⟨_, ho, _⟩ := hm; Nat.ne_of_lt (Heap.lt_size ho)) es ep, ⟨⟨_, Heap.get?_push_size _ rfl, rfl, rfl⟩, hm.at fun o e => Heap.get?_push_of_some _ e⟩⟩
theorem wp_collect {T : String} {r d : Addr} {n : Nat} {P : Nat → Value → Prop} {OK : Heap → Prop} {R : List Value → Shared → Prop} (K : KdlSrc prog w T r d n P OK) (hh : A.handled = none) (hok : OK s.heap) (hn : n ≤ sizeLine)
    (h : ∀ (h' : Heap) (tk : Nat) (acc : Array Value), (∀ b o, s.heap.get? b = some o → h'.get? b = some o) → s.heap.objs.size < h'.objs.size → ItemsOf P acc n → R acc.toList { s with heap := h', toks := tk }) :
    wpAny (model prog w) A (collect (.ref r)) R E s := by
  obtain ⟨hr, hd⟩ := K.there _ hok
  unfold collect
  refine wpAny_bind (wpAny_runValue (codeAny_builtin entry_proto_collect' ?_))
  rw [Around.under_plainId PySem.F.plain_proto_collect _]
  show wpAny _ A.in1 (newList [] >>= fun l => again (.builtin "list.__iadd__" ⟨[l, .ref r], []⟩)) _ _ s
  refine wpAny_bind (wpAny_newObj_type ?_)
  refine wpAny_pure ⟨plainId_quiet PySem.F.plain_list_iadd _, codeAny_builtin entry_list_iadd' ?_⟩
  rw [Around.under_plainId PySem.F.plain_list_iadd _]
  have hS₁ : (s.heap.push { cls := .type "list", data := .seq ([] : List Value).toArray }).get? s.heap.objs.size = some { cls := .type "list", data := .seq #[] } := Heap.get?_push_size _ rfl
  show wpAny _ A.in1 (Builtin.List.listExtendWith (.ref s.heap.objs.size) (.ref r) (.ref s.heap.objs.size)) _ _ _
  have key := kdl_extend (prog := prog) (w := w) (A := A) (s := { s with heap := s.heap.push { cls := .type "list", data := .seq ([] : List Value).toArray } }) K
    (R := fun (q : Result) (s' : Shared) => ∃ (h' : Heap) (tk : Nat) (acc' : Array Value) (c' : Nat), q = .ok (.ret (.ref s.heap.objs.size)) ∧ s' = { s with heap := h', toks := tk } ∧
      (∀ b o, s.heap.get? b = some o → h'.get? b = some o) ∧ h'.get? s.heap.objs.size = some { cls := .type "list", dict := none, data := .seq acc' c', slots := #[] } ∧ ItemsOf P acc' n)
    hh (K.keep _ _ hok fun b _ o e => Heap.get?_push_of_some _ e) s.heap.objs.size (Nat.ne_of_gt hr) (Nat.ne_of_gt hd) (.ref s.heap.objs.size) 0 hS₁
    (fun h' tk acc' c' hk hS' hacc => ⟨h', tk, acc', c', rfl, rfl, fun b o e => hk b o (Nat.ne_of_lt (Heap.lt_size e)) (Heap.get?_push_of_some _ e), hS', hacc⟩) hn
  refine wpAny_mono key (fun fin s' x => ?_) fun e s' x => ?_
  · cases fin with
    | done f =>
      obtain ⟨h', tk, acc', c', e, rfl, hk, hS', hacc⟩ := x
      cases e
      show wpAny _ A (load s.heap.objs.size >>= _) _ _ _
      refine wpAny_bind (wpAny_load hS' ?_)
      exact wpAny_pure (h h' tk acc' hk (Heap.lt_size hS') hacc)
    | again c₁ =>
      refine ⟨x.1, codeAny_mono x.2 fun q s₂ y => ?_⟩
      obtain ⟨h', tk, acc', c', rfl, rfl, hk, hS', hacc⟩ := y
      show wpAny _ A (load s.heap.objs.size >>= _) _ _ _
      refine wpAny_bind (wpAny_load hS' ?_)
      exact wpAny_pure (h h' tk acc' hk (Heap.lt_size hS') hacc)
  · obtain ⟨_, _, _, _, e', _⟩ := x
    cases e'
/-- a list or a tuple collected -/
theorem wp_collect_seq {T : String} {l : Addr} {vs : Array Value} {R : List Value → Shared → Prop} (hT : T = "list" ∨ T = "tuple") (ho : ∃ o, s.heap.get? l = some o ∧ o.cls = .type T ∧ ∃ n, o.data = .seq vs n) (hz : vs.size ≤ sizeLine)
    (h : ∀ (h' : Heap), (∀ b o, s.heap.get? b = some o → h'.get? b = some o) → s.heap.objs.size < h'.objs.size → R vs.toList { s with heap := h' }) : wpAny (model prog w) A (collect (.ref l)) R E s := by
  obtain ⟨o, ho, hc, n, hd⟩ := ho
  unfold collect
  refine wpAny_bind (wpAny_runValue (codeAny_builtin entry_proto_collect' ?_))
  show wpAny _ _ (do again (.builtin "list.__iadd__" ⟨[← newList [], .ref l], []⟩)) _ _ s
  refine wpAny_bind (wpAny_newList (wpAny_pure ⟨Code.quiet_builtin _ (by decide +kernel), codeAny_builtin entry_list_iadd' ?_⟩))
  show wpAny _ _ (Builtin.List.listExtendWith (.ref s.heap.objs.size) (.ref l) (.ref s.heap.objs.size)) _ _ { s with heap := s.heap.push (seqObj "list" #[] 0) }
  unfold Builtin.List.listExtendWith
  have ho' : (s.heap.push (seqObj "list" #[] 0)).get? l = some o := Heap.get?_push_of_some _ ho
  refine wpAny_bind (wpAny_typeOf (T := T) ⟨o, ho', hc⟩ ?_)
  have ht : ((Value.type T == Value.type "list") || (Value.type T == Value.type "tuple")) = true := by rcases hT with rfl | rfl <;> rfl
  rw [if_pos (by rw [Bool.or_assoc, ht, Bool.or_true])]
  refine wpAny_bind (listItems_at ho' hd ?_)
  refine wpAny_bind (listItems_at (xs := #[]) (n := 0) (Heap.get?_push_size _ rfl) rfl ?_)
  rw [if_neg (by simp)]
  refine wpAny_bind (listUpdate_at (xs := #[]) (n := 0) (Heap.get?_push_size _ rfl) rfl ?_ (Nat.zero_le _) (by show (#[] ++ vs).size ≤ sizeLine + 1; simp only [Array.size_append, List.size_toArray, List.length_nil]; omega))
  refine wpAny_pure ?_
  show wpAny (model prog w) A (do
      let o ← load s.heap.objs.size
      match o.data with
      | .seq xs _ => pure xs.toList
      | _ => unsupported "internal:collect") R E { s with heap := (s.heap.push (seqObj "list" #[] 0)).update s.heap.objs.size (Obj.mapSeq (· ++ vs)) }
  refine wpAny_bind (wpAny_load (get?_update_seq (Heap.get?_push_size _ rfl) _) ?_)
  show wpAny _ _ (pure ((#[] : Array Value) ++ vs).toList) R E _
  rw [show ((#[] : Array Value) ++ vs).toList = vs.toList by simp]
  refine wpAny_pure (h _ (fun b o e => ?_) ?_)
  · rw [Heap.get?_update_ne _ _ _ _ (Nat.ne_of_lt (Heap.lt_size e))]
    exact Heap.get?_push_of_some _ e
  · rw [Heap.size_update, Heap.size_push]; exact Nat.lt_succ_self _
/-- as the kit's Sortable, or the empty tuple alone -/
def SortableX (ds : List PyData) : Prop := Sortable ds ∨ ds = [.tuple []]
theorem sortsAt_x {vs : List Value} {ds : List PyData} (e : EachIs (fun v d => ∃ as, Reads s.heap v d as) vs ds) (hal : AllAlike ds) (hk : SortableX ds) (hu : ∀ d, d ∈ ds → A.units + d.depth < cLine) : SortsAt prog w A s (dataKind s.heap ds) vs := by
  rcases hk with hk | rfl
  · exact SortsAt.data e hal hk hu
  refine ⟨fun v hv => ?_, tuples' true, ?_, fun h2 => ?_⟩
  · obtain ⟨d, hd, as, r⟩ := e.left v hv
    exact ⟨_, dataKind_some hal hd r⟩
  · intro E x y a b Q ha hb hq
    obtain ⟨d, as, hd, ra, rfl⟩ := dataKind_inv ha
    obtain ⟨d', as', hd', rb, rfl⟩ := dataKind_inv hb
    have hroom := hu d hd
    obtain rfl := List.mem_singleton.mp hd
    obtain rfl := List.mem_singleton.mp hd'
    have hq' : Q (dataLt (.tuple []) (.tuple [])) s := hq
    rw [dataLt_tuple] at hq'
    cases ra with
    | @tuple l o xs n _ _ h1 h2 h3 h4 =>
      cases rb with
      | @tuple l' o' xs' n' _ _ k1 k2 k3 k4 =>
        have n1 : xs.size = ([] : List PyData).length := by simpa using SeqAt.ReadsAll.length _ _ _ h4
        have n2 : xs'.size = ([] : List PyData).length := by simpa using SeqAt.ReadsAll.length _ _ _ k4
        refine kat_lt h1 h3 k1 k3 (katLex_alike [] [] 0 _ _ _ _ h4 k4 rfl ?_ (fun hb _ x r t ex => by cases ex) (by rw [n1, n2]) hq')
        have q : A.units < cLine := by omega
        simpa [PyData.depthAll] using q
  · have := e.length
    rw [this] at h2
    exact absurd h2 (by decide)
/-- sorted(x): what is collected, sorted -/
theorem wp_sorted {β : Type} {enc : β → PyData} {R : Value → β → Prop} {v : Value} {Q : Value → Shared → Prop} (hc : wpAny (model prog w) A.in1 (collect v) (fun vs s1 => vs.length ≤ sizeLine ∧ ∃ bs : List β, EachIs R vs bs ∧ EachIs (fun v b => ∃ as, Reads s1.heap v (enc b) as) vs bs ∧
      AllAlike (bs.map enc) ∧ SortableX (bs.map enc) ∧ (∀ b, b ∈ bs → A.units + 2 + (enc b).depth < cLine) ∧
      ∀ (h' : Heap) (out : List Value) (n : Nat), (∀ b o, s1.heap.get? b = some o → h'.get? b = some o) → h'.get? s1.heap.objs.size = some (seqObj "list" out.toArray n) → out.length = bs.length → EachIs R out (bs.mergeSort (dataLe false enc)) → Q (.ref s1.heap.objs.size) { s1 with heap := h' }) E s) :
    wpAny (model prog w) A (call (.builtin "sorted") [v]) Q E s := by
  refine Calls.call_function_entry kind_sorted plain_sorted entry_sorted (args_sorted1 _) ?_
  unfold Builtin.«sorted»
  refine wpAny_bind (m := checkCount "sorted" 1 1 _) (wpAny_pure ?_)
  refine wpAny_bind (wpAny_mono hc (fun vs s1 h => ?_) fun _ _ e => e)
  obtain ⟨hL, bs, e, er, hal, hk, hu, q⟩ := h
  refine wpAny_bind (wpAny_newList ?_ hL)
  have hoL : (s1.heap.push (seqObj "list" vs.toArray 0)).get? s1.heap.objs.size = some (seqObj "list" vs.toArray 0) := Heap.get?_push_size _ rfl
  have keep : ∀ b o, s1.heap.get? b = some o → (sortingHeap (s1.heap.push (seqObj "list" vs.toArray 0)) s1.heap.objs.size vs).get? b = some o := fun b o z =>
    sortingHeap_old (Nat.ne_of_lt (Heap.lt_size z)) (Heap.get?_push_of_some _ z)
  have er' : EachIs (fun v b => ∃ as, Reads (sortingHeap (s1.heap.push (seqObj "list" vs.toArray 0)) s1.heap.objs.size vs) v (enc b) as) vs bs := er.mono fun _ _ ⟨as, r⟩ => ⟨as, PyProof.Rows.Reads.keeps (fun b o => keep b o) r⟩
  have S := sortsAt_x (prog := prog) (w := w) (A := A.in1.in1) (s := { s1 with heap := sortingHeap (s1.heap.push (seqObj "list" vs.toArray 0)) s1.heap.objs.size vs }) (each_map (R := fun v d => ∃ as, Reads (sortingHeap (s1.heap.push (seqObj "list" vs.toArray 0)) s1.heap.objs.size vs) v d as) enc er') hal hk (bound_map hu)
  refine wpAny_bind (wpAny_holding (wpAny_call_entry slot_list_sort ⟨_, hoL, rfl⟩ entry_list_sort ?body (args_list_sort _)))
  case body =>
    refine list_sort_vals (s := { s1 with heap := s1.heap.push (seqObj "list" vs.toArray 0) }) (κ := dataKind (sortingHeap (s1.heap.push (seqObj "list" vs.toArray 0)) s1.heap.objs.size vs) (bs.map enc)) hoL S hL ⟨_, rfl, ?_⟩
    obtain ⟨n, hn⟩ := sortedHeap_at (out := (sortVals (dataKind (sortingHeap (s1.heap.push (seqObj "list" vs.toArray 0)) s1.heap.objs.size vs) (bs.map enc)) false vs vs).toArray) hoL
    refine wpAny_pure ⟨_, rfl, q _ _ n (fun b o z => ?_) hn (by rw [sortVals_length false rfl]; exact e.length) (sortVals_data false e er' hal)⟩
    have hlt := Heap.lt_size z
    rw [sortedHeap_old (Nat.ne_of_lt hlt) (by rw [size_push']; exact Nat.lt_succ_of_lt hlt)]
    exact Heap.get?_push_of_some _ z
end
end Mi

end
section
set_option Elab.async false
set_option autoImplicit false
set_option linter.all false
set_option maxRecDepth 100000
set_option maxHeartbeats 1000000
/-! Mi, 24: sorted. -/
namespace Mi
open PySem PySem.Spec PyProof.Rows L2 PySem.W

def leD : D → D → Bool := dataLe false D.py
def sortD (ds : List D) : List D := ds.mergeSort leD
def isT1 : D → Bool
  | .tup (_ :: _) => true
  | _ => false
def isNT : D → Bool
  | .bl _ => true
  | .int _ => true
  | .str _ => true
  | .lst _ => true
  | _ => false
def isU1 : List D → Bool
  | [.tup []] => true
  | _ => false
/-- they can be sorted -/
def okSort (ds : List D) : Bool := decide (ds.length ≤ sizeLine) && ds.all (fun d => d.lay 60) && (ds.all fun d => ds.all fun e => alike d.py e.py) && (ds.all isT1 || (ds.all isNT || isU1 ds))
theorem okSort_out {ds : List D} (h : okSort ds = true) : ds.length ≤ sizeLine ∧ (∀ d ∈ ds, d.lay 60 = true) ∧ AllAlike (ds.map D.py) ∧ SortableX (ds.map D.py) := by
  unfold okSort at h
  simp only [Bool.and_eq_true, decide_eq_true_eq, List.all_eq_true, Bool.or_eq_true] at h
  obtain ⟨⟨⟨h1, h2⟩, h3⟩, h4⟩ := h
  refine ⟨h1, h2, fun d hd e he => ?_, ?_⟩
  · obtain ⟨x, hx, rfl⟩ := List.mem_map.mp hd
    obtain ⟨y, hy, rfl⟩ := List.mem_map.mp he
    exact h3 x hx y hy
  · rcases h4 with h | h | h
    · refine .inl (.inl fun d hd => ?_)
      obtain ⟨x, hx, rfl⟩ := List.mem_map.mp hd
      have q := h x hx
      unfold isT1 at q
      split at q
      · rw [D.py, D.pys]; exact ⟨_, _, rfl⟩
      · cases q
    rotate_left
    · unfold isU1 at h
      split at h
      · exact .inr rfl
      · cases h
    · refine .inl (.inr fun d hd => ?_)
      obtain ⟨x, hx, rfl⟩ := List.mem_map.mp hd
      have q := h x hx
      cases x <;> first | (simp [isNT] at q; done) | (refine ⟨fun z => ?_, fun xs z => ?_⟩ <;> (rw [D.py] at z; cases z))
/-- signs that are signs -/
def okC : D → Bool
  | .str l => l.all fun c => decide (c < 1114112)
  | .tup ds => ds.all fun d => match d with | .str l => l.all fun c => decide (c < 1114112) | _ => true
  | _ => true
theorem okC_str {l : List Nat} (h : (l.all fun c => decide (c < 1114112)) = true) : ∀ c ∈ l, c < 1114112 := fun c hc => of_decide_eq_true (List.all_eq_true.mp h c hc)
theorem rep_key {K : PySem.W.Frag} {F : Hp} (k : Key) (h : okC (kD k) = true) : Rep K F (kV k) (kD k) := by
  cases k with
  | inl i => exact .int
  | inr x =>
    have e : V.str x = V.str (S x.cps.toList) := by rw [S_of]
    show Rep K F (.str x) (.str x.cps.toList)
    rw [e]
    exact .str (okC_str h)
theorem rep_keyT {K : PySem.W.Frag} {F : Hp} {b : Addr} {ks : List Key} (hb : F b = some (.tup (ks.map kV))) (h : okC (.tup (ks.map kD)) = true) : Rep K F (.ref b) (.tup (ks.map kD)) := by
  refine .tup hb (by simp) fun i v d h1 h2 => ?_
  rw [List.getElem?_map] at h1 h2
  cases q : ks[i]? with
  | none => rw [q] at h1; cases h1
  | some k =>
    rw [q] at h1 h2; cases h1; cases h2
    refine rep_key k ?_
    have := List.all_eq_true.mp h (kD k) (List.mem_map.mpr ⟨k, List.mem_of_getElem? q, rfl⟩)
    cases k with
    | inl i => rfl
    | inr x => exact this
theorem rel_kV {P : Program} {w : World} {k : Key} {v : Value} (h : (mixKind P w).is k v = true) : RelV (kV k) v := by
  rw [mixKind_is] at h
  rcases keyIs_shape h with ⟨i, t, rfl, rfl⟩ | ⟨x, t, rfl, rfl⟩
  · exact ⟨t, rfl⟩
  · exact ⟨t, rfl⟩
/-- what a walk over x gives, all told -/
inductive Collects (K : PySem.W.Frag) (F H : Hp) : V → List D → Prop where
  | seq {a : Addr} {xs : List V} {ds : List D} : (SqL K H a xs ∨ SqT K H a xs) → xs.length = ds.length → (∀ (i : Nat) v d, xs[i]? = some v → ds[i]? = some d → Rep K F v d) → Collects K F H (.ref a) ds
  | dK {a : Addr} {kvs : List (Key × V)} : Rd H a (.dK kvs) → (∀ p ∈ kvs, okC (kD p.1) = true) → Collects K F H (.ref a) (kvs.map fun p => kD p.1)
  | dT {a : Addr} {kvs : List (List Key × V)} : Rd H a (.dT kvs) → (∀ p ∈ kvs, okC (.tup (p.1.map kD)) = true) → Collects K F H (.ref a) (kvs.map fun p => .tup (p.1.map kD))
def rSorted (K : PySem.W.Frag) : List V → Hp → VK → Prop := fun vs H Q => ∃ (F : Hp) (x : V) (ds : List D), Sub F H ∧ vs = [x] ∧ Collects K F H x ds ∧ okSort ds = true ∧
  ∀ (ys : List V) (p : Addr), H p = none → ys.length = (sortD ds).length → (∀ (i : Nat) v d, ys[i]? = some v → (sortD ds)[i]? = some d → Rep K F v d) → Q (.ref p) (upd H p (.lst ys))

section
variable {X : Cx} {pins : List (Addr × Obj)} {σ : L2.St} {H : Hp} {s : Shared} {F : Hp}
theorem eachIs_of {β : Type} {R : Value → β → Prop} : ∀ {vs : List Value} {bs : List β}, vs.length = bs.length → (∀ (i : Nat) v b, vs[i]? = some v → bs[i]? = some b → R v b) → EachIs R vs bs
  | [], [], _, _ => .nil
  | [], _ :: _, h, _ => by cases h
  | _ :: _, [], h, _ => by cases h
  | v :: vs, b :: bs, h, q => .cons (q 0 v b rfl rfl) (eachIs_of (by simpa using h) fun i v b h1 h2 => q (i + 1) v b (by simpa using h1) (by simpa using h2))
theorem eachIs_get {β : Type} {R : Value → β → Prop} : ∀ {vs : List Value} {bs : List β}, EachIs R vs bs → ∀ (i : Nat) v b, vs[i]? = some v → bs[i]? = some b → R v b
  | _, _, .nil, i, v, b, h, _ => by simp at h
  | _, _, .cons r e, i, v, b, h1, h2 => by
    cases i with
    | zero => cases h1; cases h2; exact r
    | succ i => exact eachIs_get e i v b (by simpa using h1) (by simpa using h2)
/-- a pair of what stands there and what it says -/
abbrev VD := V × D
theorem vals_fst : ∀ {out : List Value} {bs : List VD} {R : Value → VD → Prop}, (∀ v b, R v b → RelV b.1 v) → EachIs R out bs → Vals (bs.map (·.1)) out
  | _, _, _, _, .nil => .nil
  | _, _, _, h, .cons r e => .cons (h _ _ r) (vals_fst h e)
theorem rep_reads (I : Inv X pins σ H s) (sub : Sub F H) {v : V} {u : Value} {d : D} (r : Rep X.K F v d) (ru : RelV v u) {n : Nat} (hl : d.lay n = true) : (∃ as, Reads s.heap u d.py as) ∧ d.py.depth ≤ n := by
  obtain ⟨h1, _, h3⟩ := (r.mono sub.ex).dp n hl
  exact ⟨Dp.reads I _ _ _ h1 ru, h3⟩
theorem pairsT {K : PySem.W.Frag} : ∀ {us : List Value} {kvs : List (List Key × V)}, us.length = kvs.length → (∀ i (hi : i < kvs.length), ∃ b, us[i]? = some (Value.ref b) ∧ F b = some (.tup (kvs[i].1.map kV))) → (∀ p ∈ kvs, okC (.tup (p.1.map kD)) = true) →
    ∃ bs : List VD, bs.map (·.2) = (kvs.map fun p => .tup (p.1.map kD)) ∧ (∀ b ∈ bs, Rep K F b.1 b.2) ∧ EachIs (fun w b => RelV b.1 w) us bs
  | [], [], _, _, _ => ⟨[], rfl, fun _ h => by simp at h, .nil⟩
  | [], _ :: _, h, _, _ => by cases h
  | _ :: _, [], h, _, _ => by cases h
  | u :: us, p :: kvs, hl, ha, hk => by
    obtain ⟨bs, b1, b2, b3⟩ := pairsT (K := K) (us := us) (kvs := kvs) (by simpa using hl) (fun i hi => by
      obtain ⟨b, e1, e2⟩ := ha (i + 1) (by simpa using hi)
      exact ⟨b, by simpa using e1, by simpa using e2⟩) fun q hq => hk q (List.mem_cons_of_mem _ hq)
    obtain ⟨b, e1, e2⟩ := ha 0 (by simp)
    cases e1
    refine ⟨(.ref b, .tup (p.1.map kD)) :: bs, by rw [List.map_cons, List.map_cons, b1], fun x hx => ?_, .cons rfl b3⟩
    rcases List.mem_cons.mp hx with rfl | hx
    · exact rep_keyT e2 (hk p (List.mem_cons_self ..))
    · exact b2 x hx
/-- collected, in D -/
theorem collects_run (hc : X.calm = true) {v : V} {u : Value} {ds : List D} {E : Value → Shared → Prop} {Q : List Value → Shared → Prop} (I : Inv X pins σ H s) (sub : Sub F H) (c : Collects X.K F H v ds) (hz : ds.length ≤ sizeLine) (ru : RelV v u) {A : Around} (hA : A.handled = none)
    (h : ∀ (h' : Heap) (tk : Nat) (bs : List VD) (us : List Value), (∀ b o, s.heap.get? b = some o → h'.get? b = some o) → s.heap.objs.size < h'.objs.size → bs.map (·.2) = ds → (∀ b ∈ bs, Rep X.K F b.1 b.2) → EachIs (fun w b => RelV b.1 w) us bs → Q us { s with heap := h', toks := tk }) :
    wpAny (model X.prog X.w) A (collect u) Q E s := by
  cases c with
  | @seq a xs ds hs hl hr =>
    obtain rfl : u = Value.ref a := ru
    have key : ∀ (its : Array Value) (n : Nat) (T : String), (T = "list" ∨ T = "tuple") → (∃ o, s.heap.get? a = some o ∧ o.cls = .type T ∧ o.data = .seq its n) → Vals xs its.toList → wpAny (model X.prog X.w) A (collect (.ref a)) Q E s := fun its n T hT ho rv => by
      obtain ⟨o, ho, hcl, hd⟩ := ho
      have hil : its.size = ds.length := by rw [← hl, ← Array.length_toList, ← rv.length]
      refine wp_collect_seq hT ⟨o, ho, hcl, n, hd⟩ (by rw [hil]; exact hz) fun h' k1 k2 => h h' s.toks (xs.zip ds) its.toList k1 k2 (List.map_snd_zip (by omega)) (fun b hb => ?_) (eachIs_of (by rw [List.length_zip, Array.length_toList]; omega) fun i w b h1 h2 => ?_)
      · obtain ⟨i, hi, rfl⟩ := List.getElem_of_mem hb
        rw [List.length_zip] at hi
        rw [List.getElem_zip]
        exact hr i _ _ (List.getElem?_eq_getElem (by omega)) (List.getElem?_eq_getElem (by omega))
      · have hi := (List.getElem?_eq_some_iff.mp h2).1
        rw [List.length_zip] at hi
        rw [List.getElem?_eq_getElem (by rw [List.length_zip]; omega), List.getElem_zip] at h2
        cases h2
        obtain ⟨u, e, r⟩ := rv.get (List.getElem?_eq_getElem (show i < xs.length by omega))
        rw [h1] at e; cases e
        exact r
    rcases hs with hs | hs
    · obtain ⟨its, rv, hl', hz'⟩ := I.list hs
      obtain ⟨o, ho, hcl, n, hd⟩ := hl'.isList
      exact key its.toArray n "list" (.inl rfl) ⟨o, ho, hcl, hd⟩ (by simpa using rv)
    · obtain ⟨its, rv, ⟨o, ho, hcl, n, hd⟩, hz'⟩ := I.tuple hs
      exact key its.toArray n "tuple" (.inr rfl) ⟨o, ho, hcl, hd⟩ (by simpa using rv)
  | @dK a kvs hd hok =>
    obtain rfl : u = Value.ref a := ru
    obtain ⟨z, lo, vs, rel, dd⟩ := dk_rd I.hok hd
    obtain ⟨es, ep, raw, hsz, hat⟩ := dd.raw
    have hlen := rel.length
    refine wp_collect (kdl_raw lo) hA raw (by omega) fun h' tk acc k1 k2 it => h h' tk (kvs.map fun p => (kV p.1, kD p.1)) acc.toList k1 k2 (by rw [List.map_map]; rfl) (fun b hb => ?_) (eachIs_of (by rw [Array.length_toList, it.1, List.length_map]; omega) fun i w b h1 h2 => ?_)
    · obtain ⟨p, hp, rfl⟩ := List.mem_map.mp hb
      exact rep_key p.1 (hok p hp)
    · rw [Array.getElem?_toList] at h1
      obtain ⟨hi, rfl⟩ := it.2 i w h1
      rw [List.getElem?_map] at h2
      cases q : kvs[i]? with
      | none => rw [q] at h2; cases h2
      | some p =>
        rw [q] at h2; cases h2
        obtain ⟨⟨k, x⟩, hq, ee⟩ : ∃ y, vs[i]? = some y ∧ y.1 = p.1 := by
          have := congrArg (fun l => l[i]?) rel.keys
          simp only [List.getElem?_map, q, Option.map_some] at this
          cases w : vs[i]? with
          | none => rw [w] at this; cases this
          | some q => rw [w] at this; exact ⟨q, rfl, (Option.some.inj this).symm⟩
        have hk := (hat i hi k x hq).1
        rw [show k = p.1 from ee] at hk
        exact rel_kV hk
  | @dT a kvs hd hok =>
    obtain rfl : u = Value.ref a := ru
    obtain ⟨z, lo, xs, rel, dd⟩ := dt_rd I.hok hd
    obtain ⟨es, ep, raw, hsz, hat⟩ := dd.raw
    have hlen : kvs.length = xs.length := Paired.length rel
    -- the keys' addresses
    have ad : ∀ i (hi : i < kvs.length), ∃ b, es[i]?.map (·.key) = some (.ref b) ∧ H b = some (.tup (kvs[i].1.map kV)) := fun i hi => by
      obtain ⟨y, hy, e1, e2, _⟩ := hat i (by omega)
      obtain ⟨p, hp, z1, z2, z3⟩ := L2.DX.pget rel hy
      rw [List.getElem?_eq_getElem hi] at hp; cases hp
      refine ⟨y.2.1, by rw [Array.getElem?_eq_getElem (by omega)]; simp [e1], ?_⟩
      rw [z1]; rw [z1] at z2; exact z2
    refine wp_collect (kdl_raw lo) hA raw (by omega) fun h' tk acc k1 k2 it => ?_
    have it2 : ∀ i (hi : i < kvs.length), ∃ b, acc.toList[i]? = some (Value.ref b) ∧ F b = some (.tup (kvs[i].1.map kV)) := fun i hi => by
      obtain ⟨b, e1, e2⟩ := ad i hi
      have hia : i < acc.size := by rw [it.1]; omega
      obtain ⟨hj, e3⟩ := it.2 i acc[i] (Array.getElem?_eq_getElem hia)
      rw [Array.getElem?_eq_getElem hj] at e1
      have e4 : es[i].key = Value.ref b := Option.some.inj e1
      refine ⟨b, ?_, sub.tp b _ e2⟩
      rw [Array.getElem?_toList, Array.getElem?_eq_getElem hia, e3, e4]
    have hal : acc.toList.length = kvs.length := by rw [Array.length_toList, it.1]; omega
    obtain ⟨bs, b1, b2, b3⟩ := pairsT (K := X.K) hal it2 hok
    exact h h' tk bs acc.toList k1 k2 b1 b2 b3
end
end Mi

end
section
set_option Elab.async false
set_option autoImplicit false
set_option linter.all false
set_option maxRecDepth 100000
set_option maxHeartbeats 1000000
/-! Mi, 25: sorted, and sets, as rules. -/
namespace Mi
open PySem PySem.Spec PyProof.Rows L2 PySem.W

theorem leD_total : TotalLe leD := sortLe_total (listOrd itemOrd) false fun d => keyToks (D.py d)
theorem leD_int (i j : Int) : leD (.int i) (.int j) = decide (i ≤ j) := by
  show (!dataLt (D.py (.int j)) (D.py (.int i))) = _
  rw [D.py, D.py, dataLt_int]
  exact not_lt_int i j
theorem leD_str (l m : List Nat) : leD (.str l) (.str m) = decide (l ≤ m) := by
  show (!dataLt (D.py (.str m)) (D.py (.str l))) = _
  rw [D.py, D.py, dataLt_str]
  exact not_lt_str l m
theorem leD_key {a b : Key} (h : alike (kD a).py (kD b).py = true) (h1 : leD (kD a) (kD b) = true) (h2 : leD (kD b) (kD a) = true) : a = b := by
  cases a with
  | inl i => cases b with
    | inl j =>
      simp only [kD, leD_int, decide_eq_true_eq] at h1 h2
      rw [Int.le_antisymm h1 h2]
    | inr y => simp only [kD, D.py] at h; exact absurd h (by simp [alike])
  | inr x => cases b with
    | inl j => simp only [kD, D.py] at h; exact absurd h (by simp [alike])
    | inr y =>
      simp only [kD, leD_str, decide_eq_true_eq] at h1 h2
      have e := List.le_antisymm h1 h2
      rw [← S_of x, ← S_of y, e]
theorem sort_keys {L M : List Key} (p : L.Perm M) (h : AllAlike ((M.map kD).map D.py)) : sortD (L.map kD) = sortD (M.map kD) := by
  have p1 : (sortD (L.map kD)).Perm (M.map kD) := (List.mergeSort_perm _ _).trans (p.map kD)
  have p2 : (sortD (M.map kD)).Perm (M.map kD) := List.mergeSort_perm _ _
  refine List.Perm.eq_of_pairwise (le := fun a b => leD a b = true) (fun a b ha hb h1 h2 => ?_) (sort_pairwise leD_total _) (sort_pairwise leD_total _) (p1.trans p2.symm)
  obtain ⟨x, hx, rfl⟩ := List.mem_map.mp (p1.mem_iff.mp ha)
  obtain ⟨y, hy, rfl⟩ := List.mem_map.mp (p2.mem_iff.mp hb)
  rw [leD_key (h _ (List.mem_map.mpr ⟨_, List.mem_map.mpr ⟨x, hx, rfl⟩, rfl⟩) _ (List.mem_map.mpr ⟨_, List.mem_map.mpr ⟨y, hy, rfl⟩, rfl⟩)) h1 h2]
theorem sort_snd {bs : List VD} : (bs.mergeSort (dataLe false fun b => b.2.py)).map (·.2) = sortD (bs.map (·.2)) := sort_maps (fun b : VD => b.2) fun _ _ _ _ => rfl

section
variable {X : Cx}
/-- the end of a sort -/
theorem sorted_fin {pins : List (Addr × Obj)} {σ : L2.St} {H : Hp} {s s1 : Shared} {F : Hp} {bs : List VD} {out : List Value} {h' : Heap} {p n : Nat} {Q : VK} (I : Inv X pins σ H s) (k : ∀ b o, s.heap.get? b = some o → h'.get? b = some o) (hp : s.heap.objs.size ≤ p) (hz : bs.length ≤ sizeLine)
    (hn : h'.get? p = some (seqObj "list" out.toArray n)) (e : EachIs (fun w b => RelV b.1 w) out (bs.mergeSort (dataLe false fun b => b.2.py))) (hr : ∀ b ∈ bs, Rep X.K F b.1 b.2) (g : s1.gens = s.gens) (os : s1.os = s.os)
    (q : ∀ (ys : List V) (p : Addr), H p = none → ys.length = (sortD (bs.map (·.2))).length → (∀ (i : Nat) v d, ys[i]? = some v → (sortD (bs.map (·.2)))[i]? = some d → Rep X.K F v d) → Q (.ref p) (upd H p (.lst ys))) :
    EP X pins σ Q (.ref p) { s1 with heap := h' } := by
  have hl : (bs.mergeSort (dataLe false fun b => b.2.py)).length = bs.length := (List.mergeSort_perm _ _).length_eq
  have hN : H p = none := I.hok.fresh hp
  have vv := vals_fst (fun _ _ r => r) e
  have J : Inv X pins σ (upd H p (.lst ((bs.mergeSort (dataLe false fun b => b.2.py)).map (·.1)))) { s with heap := h', gens := s1.gens, drawn := s1.drawn, toks := s1.toks } :=
    I.call (ch := []) (Un.laid k hp hN) (I.hok.laid k hp ⟨by rw [List.length_map, hl]; exact hz, out, n, vv, hn⟩) (by rw [g]; exact I.bare) (fun _ z => nomatch z)
  have e1 : { s1 with heap := h' } = { s with heap := h', gens := s1.gens, drawn := s1.drawn, toks := s1.toks } := by
    cases s1; cases s; cases os; rfl
  rw [e1]
  refine ⟨.ref p, _, J, rfl, q _ p hN (by rw [← sort_snd, List.length_map, List.length_map]) ?_⟩
  intro i v d h1 h2
  rw [← sort_snd, List.getElem?_map] at h2
  rw [List.getElem?_map] at h1
  cases z : (bs.mergeSort (dataLe false fun b => b.2.py))[i]? with
  | none => rw [z] at h1; cases h1
  | some b =>
    rw [z] at h1 h2; cases h1; cases h2
    exact hr b ((List.mergeSort_perm _ _).mem_iff.mp (List.mem_of_getElem? z))
theorem cr_sortedD (hc : X.calm = true) (hu : X.A.units + 65 < cLine) : CallR X (.builtin "sorted") (rSorted X.K) := by
  intro pins s σ H vs us Q I r h
  obtain ⟨F, x, ds, sub, rfl, col, ok, q⟩ := h
  obtain ⟨u, rfl, ru⟩ := vals1 r
  obtain ⟨hz, hlay, hal, hso⟩ := okSort_out ok
  refine wp_sorted (enc := fun b : VD => b.2.py) (R := fun w b => RelV b.1 w) (collects_run hc I sub col hz ru (A := X.A.in1) (by simpa using I.ok.hd hc) fun h' tk bs us k1 k2 b1 b2 b3 => ⟨?_, bs, b3, ?_, ?_, ?_, ?_, fun h2 out n k3 hn ho e => ?_⟩)
  · rw [b3.length, ← List.length_map (·.2), b1]; exact hz
  · have I2 : Inv X pins σ H { s with heap := h', toks := tk } := I.kept fun b o z => k1 b o z
    refine eachIs_of b3.length fun i w b z1 z2 => ?_
    have hb := List.mem_of_getElem? z2
    exact (rep_reads I2 sub (b2 b hb) (eachIs_get b3 i w b z1 z2) (hlay b.2 (by rw [← b1]; exact List.mem_map.mpr ⟨b, hb, rfl⟩))).1
  · rw [show bs.map (fun b => b.2.py) = ds.map D.py by rw [← b1, List.map_map]; rfl]; exact hal
  · rw [show bs.map (fun b => b.2.py) = ds.map D.py by rw [← b1, List.map_map]; rfl]; exact hso
  · intro b hb
    have := ((b2 b hb).mono sub.ex).dp 60 (hlay b.2 (by rw [← b1]; exact List.mem_map.mpr ⟨b, hb, rfl⟩))
    have := this.2.2
    omega
  · have e1 := sorted_fin (s1 := { s with heap := h', toks := tk }) (Q := Q) I (fun b o z => k3 b o (k1 b o z)) (Nat.le_of_lt k2) (by rw [← List.length_map (·.2), b1]; exact hz) hn e b2 rfl rfl (by rw [b1]; exact q)
    exact e1
/-! ### sets -/
def SetXO (P : Program) (w : World) (a : Addr) (L : List Key) : HO := .ext fun h => SetX P w h a L
theorem setXO_new {w : World} {P : Program} {H : Hp} {h : Heap} {a : Addr} {L : List Key} (R : SetX P w h a L) : ObjOk P w H h a (SetXO P w a L) := by
  have ⟨o, _, _, _, ho, _⟩ := R
  exact ⟨R, ⟨o, ho⟩, fun h1 h2 p k => SetX.at p k⟩
/-- set(x), x a list or a tuple of ints and texts -/
def rSetX (K : PySem.W.Frag) (P : Program) (w : World) : List V → Hp → VK → Prop := fun vs H Q => ∃ (a : Addr) (ks : List Key), vs = [.ref a] ∧ (SqL K H a (ks.map kV) ∨ SqT K H a (ks.map kV)) ∧ ks.length + 1 < scanBound ∧
  ∀ p, H p = none → Q (.ref p) (upd H p (SetXO P w p (addKs [] ks)))
theorem keysAt_of {P : Program} {w : World} : ∀ {ks : List Key} {us : List Value}, Vals (ks.map kV) us → KeysAt P w us ks
  | [], _, r => by rw [List.map_nil] at r; cases r; exact .nil
  | k :: ks, _, r => by
    rw [List.map_cons] at r
    cases r with
    | cons h t => exact .cons (kV_is h) (keysAt_of t)
theorem cr_setX (hc : X.calm = true) : CallR X (.type "set") (rSetX X.K X.prog X.w) := by
  intro pins s σ H vs us Q I r h
  obtain ⟨a, ks, rfl, hs, hb, q⟩ := h
  obtain ⟨u, rfl, ru⟩ := vals1 r
  obtain rfl : u = Value.ref a := ru
  have fin : ∀ (h' : Heap) (tk : Nat), SetX X.prog X.w h' s.heap.objs.size (addKs [] ks) → (∀ b o, s.heap.get? b = some o → h'.get? b = some o) → EP X pins σ Q (.ref s.heap.objs.size) { s with heap := h', toks := tk } := fun h' tk R k =>
    ⟨.ref s.heap.objs.size, _, I.laid k (Nat.le_refl _) (setXO_new R), rfl, q _ (I.hok.fresh (Nat.le_refl _))⟩
  rcases hs with hs | hs
  · obtain ⟨its, rv, hl, hz⟩ := I.list hs
    exact call_set_lstK ks (I.ok.hd hc) hl.isList (by simpa using keysAt_of rv) hb fin
  · obtain ⟨its, rv, hl, hz⟩ := I.tuple hs
    exact call_set_tupK ks (I.ok.hd hc) hl (by simpa using keysAt_of rv) hb fin
/-- sorted(s) -/
def rSortedX (K : PySem.W.Frag) (P : Program) (w : World) : List V → Hp → VK → Prop := fun vs H Q => ∃ (a : Addr) (F : Hp) (L : List Key), vs = [.ref a] ∧ H a = some (SetXO P w a L) ∧ okSort (L.map kD) = true ∧ (∀ k ∈ L, okC (kD k) = true) ∧
  ∀ (ys : List V) (p : Addr), H p = none → ys.length = (sortD (L.map kD)).length → (∀ (i : Nat) v d, ys[i]? = some v → (sortD (L.map kD))[i]? = some d → Rep K F v d) → Q (.ref p) (upd H p (.lst ys))
theorem cr_sortedX (hc : X.calm = true) (hu : X.A.units + 65 < cLine) : CallR X (.builtin "sorted") (rSortedX X.K X.prog X.w) := by
  intro pins s σ H vs us Q I r h
  obtain ⟨a, F, L, rfl, ha, ok, okc, q⟩ := h
  obtain ⟨u, rfl, ru⟩ := vals1 r
  obtain rfl : u = Value.ref a := ru
  obtain ⟨hz, hlay, hal, hso⟩ := okSort_out ok
  obtain ⟨o, es, ep, t, ho, hex, hd, gd, pm, nd, hb, hf, hr, hl⟩ : SetX X.prog X.w s.heap a L := (I.hok a _ ha).1
  have keyVal : ∀ e ∈ es.toList, RelV (kV (keyV e.2)) e.2 := fun e he => by
    obtain ⟨k, h1, _⟩ := gd e he
    rw [(is_keyV h1).1]; exact rel_kV h1
  refine wp_sorted (enc := fun b : VD => b.2.py) (R := fun w b => RelV b.1 w) (collect_set (A := X.A.in1) (by simpa using I.ok.hd hc) ⟨o, ho, hex.1, hd⟩ hf hb hr hl fun s1 us k1 hz1 g1 o1 po => ?_)
  have M : (us.map keyV).Perm L := ((po.map keyV).trans (by rw [List.map_map]; exact List.Perm.refl _)).trans pm
  have hul : us.length = L.length := by rw [← M.length_eq, List.length_map]
  have rel : ∀ w ∈ us, RelV (kV (keyV w)) w := fun w hw => by
    obtain ⟨e, he, rfl⟩ := List.mem_map.mp (po.mem_iff.mp hw)
    exact keyVal e he
  have b3 : EachIs (fun w (b : VD) => RelV b.1 w) us (us.map fun w => (kV (keyV w), kD (keyV w))) := eachIs_of (by simp) fun i w b z1 z2 => by
    rw [List.getElem?_map, z1] at z2; cases z2; exact rel w (List.mem_of_getElem? z1)
  have b1 : (us.map fun w => (kV (keyV w), kD (keyV w))).map (fun b : VD => b.2.py) = ((us.map keyV).map kD).map D.py := by simp [List.map_map, Function.comp_def]
  have b1' : (us.map fun w => ((kV (keyV w), kD (keyV w)) : VD)).map (·.2) = (us.map keyV).map kD := by simp [List.map_map, Function.comp_def]
  have mem : ∀ d, d ∈ (us.map keyV).map kD → d ∈ L.map kD := fun d hd => ((M.map kD).mem_iff).mp hd
  have hal' : AllAlike (((us.map keyV).map kD).map D.py) := fun d hd e he => by
    obtain ⟨x, hx, rfl⟩ := List.mem_map.mp hd
    obtain ⟨y, hy, rfl⟩ := List.mem_map.mp he
    exact hal _ (List.mem_map.mpr ⟨x, mem x hx, rfl⟩) _ (List.mem_map.mpr ⟨y, mem y hy, rfl⟩)
  have hso' : SortableX (((us.map keyV).map kD).map D.py) := .inl (by
   refine (hso.resolve_right fun z => ?_).imp (fun h d hd => ?_) fun h d hd => ?_
   · cases L with
     | nil => cases z
     | cons k ks =>
       have z := (List.cons.inj z).1
       cases k <;> (simp only [kD, D.py] at z; cases z)
   all_goals
    (obtain ⟨x, hx, rfl⟩ := List.mem_map.mp hd
     exact h _ (List.mem_map.mpr ⟨x, mem x hx, rfl⟩)))
  have b2 : ∀ b ∈ (us.map fun w => ((kV (keyV w), kD (keyV w)) : VD)), Rep X.K F b.1 b.2 := fun b hb => by
    obtain ⟨w, hw, rfl⟩ := List.mem_map.mp hb
    exact rep_key _ (okc _ (M.mem_iff.mp (List.mem_map.mpr ⟨w, hw, rfl⟩)))
  refine ⟨by rw [hul, ← List.length_map kD]; exact hz, _, b3, ?_, by rw [b1]; exact hal', by rw [b1]; exact hso', ?_, fun h2 out n k3 hn ho' e => ?_⟩
  · refine eachIs_of b3.length fun i w b z1 z2 => ?_
    rw [List.getElem?_map, z1] at z2; cases z2
    obtain ⟨k0, hk0, _⟩ : ∃ k, (mixKind X.prog X.w).is k w = true ∧ True := by
      obtain ⟨e, he, rfl⟩ := List.mem_map.mp (po.mem_iff.mp (List.mem_of_getElem? z1))
      obtain ⟨k, h1, _⟩ := gd e he
      exact ⟨k, h1, trivial⟩
    rw [mixKind_is] at hk0
    rcases keyIs_shape hk0 with ⟨j, t, rfl, rfl⟩ | ⟨x, t, rfl, rfl⟩
    · exact ⟨[], by show Reads _ _ (D.py (.int j)) _; rw [D.py]; exact .int _ _⟩
    · exact ⟨[], by show Reads _ _ (D.py (.str x.cps.toList)) _; rw [D.py, S_of]; exact .str _ _⟩
  · intro b hb
    obtain ⟨w, hw, rfl⟩ := List.mem_map.mp hb
    have : (kD (keyV w)).py.depth = 0 := by cases keyV w <;> simp [kD, D.py, PyData.depth]
    show X.A.units + 2 + (kD (keyV w)).py.depth < cLine
    omega
  · refine sorted_fin (Q := Q) I (fun b o z => k3 b o (k1 b o z)) hz1 (by rw [List.length_map, hul, ← List.length_map kD]; exact hz) hn e b2 g1 o1 ?_
    rw [b1', sort_keys M hal]
    exact q
end
end Mi

end
section
set_option Elab.async false
set_option autoImplicit false
set_option linter.all false
set_option maxRecDepth 100000
set_option maxHeartbeats 1000000
/-! Mi, 26: rules: sorted, sets, items. -/
namespace Mi
open PySem PySem.Spec PyProof.Rows L2 PySem.W

def keyish (t : Bool) (d : D) : Bool := (dKey t d).isSome
def collD : D → Option (List D)
  | .lst ds => some ds
  | .tup ds => some ds
  | .dct t kvs => if (kvs.all fun p => okC p.1) = true then some (kvs.map (·.1)) else none
  | _ => none
def fSorted (d : D) : Option D := match collD d with | some ds => if okSort ds = true then some (.lst (sortD ds)) else none | none => none
theorem rep_collects {K : PySem.W.Frag} {F H : Hp} {v : V} {d : D} {ds : List D} (s : Sub F H) (r : Rep K F v d) (h : collD d = some ds) : Collects K F H v ds := by
  cases r with
  | lst q hl hr => cases h; exact .seq (.inl (SqL.of (s.ex.lst q))) hl hr
  | tup q hl hr => cases h; exact .seq (.inr (SqT.of (ex_t s.ex q))) hl hr
  | @dK a kvs ds' q hl hk hr =>
    unfold collD at h
    simp only at h
    split at h
    case isFalse => cases h
    rename_i hc
    cases h
    have e : ds'.map (·.1) = kvs.map fun p => kD p.1 := by
      refine List.ext_getElem (by simp [hl]) fun i h1 h2 => ?_
      rw [List.getElem_map, List.getElem_map]
      rw [List.length_map] at h1 h2
      exact hk i kvs[i].1 kvs[i].2 ds'[i].1 ds'[i].2 (List.getElem?_eq_getElem h2) (List.getElem?_eq_getElem h1)
    rw [e]
    refine .dK (s.ex.rdD trivial q) fun p hp => ?_
    have : kD p.1 ∈ ds'.map (·.1) := by rw [e]; exact List.mem_map.mpr ⟨p, hp, rfl⟩
    obtain ⟨x, hx, e2⟩ := List.mem_map.mp this
    rw [← e2]; exact List.all_eq_true.mp hc x hx
  | @dT a kvs ds' q hl hk hr =>
    unfold collD at h
    simp only at h
    split at h
    case isFalse => cases h
    rename_i hc
    cases h
    have e : ds'.map (·.1) = kvs.map fun p => .tup (p.1.map kD) := by
      refine List.ext_getElem (by simp [hl]) fun i h1 h2 => ?_
      rw [List.getElem_map, List.getElem_map]
      rw [List.length_map] at h1 h2
      exact hk i kvs[i].1 kvs[i].2 ds'[i].1 ds'[i].2 (List.getElem?_eq_getElem h2) (List.getElem?_eq_getElem h1)
    rw [e]
    refine .dT (s.ex.rdD trivial q) fun p hp => ?_
    have : D.tup (p.1.map kD) ∈ ds'.map (·.1) := by rw [e]; exact List.mem_map.mpr ⟨p, hp, rfl⟩
    obtain ⟨x, hx, e2⟩ := List.mem_map.mp this
    rw [← e2]; exact List.all_eq_true.mp hc x hx
  | _ => cases h
section
variable {g : DX} {W : WX} {X : Cx} {a b c e : Expr} {es : List Expr} {fa fb fc : M D} {m : M (List D)} {k : Nat} {p p2 pos q : Pos}
theorem dv_sorted (O : Ok g k X) (ha : DA g W X (a :: es) m) (hg : Gl X "sorted" := by rfl) (he : starEach (a :: es) X.env = (false, eval a X.env) :: starEach es X.env := by rfl) (hpl : (backTo pos (starEach es X.env)).any (·.1) = false := by rfl) : DV g W X (.Call (.Name "sorted" p) (a :: es) [] pos) (opL (on1 fSorted) m) :=
  dv_opL (r := rSorted g.K) (OpL.of1 fun F H x dx d Q s rx e k => by
    unfold fSorted at e
    cases hc : collD dx with
    | none => simp only [hc] at e; cases e
    | some ds =>
      simp only [hc] at e
      split at e
      case isFalse => cases e
      rename_i ok
      cases e
      refine ⟨F, x, ds, s, rfl, rep_collects s rx hc, ok, fun ys p hp hl hr => ?_⟩
      obtain ⟨l, r⟩ := rep_newL s hp hl hr
      exact k _ _ _ l r) ha fun ha => pe_callB (O.K ▸ cr_sortedD O.calm O.hu) hg (O.nob _ (by decide)) (by decide +kernel) ha (he := he) (hpl := hpl)
/-! ### sets of a list -/
def seqD : D → Option (List D)
  | .lst ds => some ds
  | .tup ds => some ds
  | _ => none
def setK (d : D) : Option (List Key) := match seqD d with | some ds => (match keysK ds with | some ks => if ks.length + 1 < scanBound then some (addKs [] ks) else none | none => none) | none => none
def fSortSet (d : D) : Option D := match setK d with | some L => if okSort (L.map kD) = true ∧ (L.all fun k => okC (kD k)) = true then some (.lst (sortD (L.map kD))) else none | none => none
def fLenSet (d : D) : Option D := match setK d with | some L => some (.int L.length) | none => none
theorem rep_setK {K : PySem.W.Frag} {F H : Hp} {v : V} {d : D} {L : List Key} (s : Sub F H) (r : Rep K F v d) (h : setK d = some L) : ∃ a ks, v = .ref a ∧ L = addKs [] ks ∧ ks.length + 1 < scanBound ∧ (SqL K H a (ks.map kV) ∨ SqT K H a (ks.map kV)) := by
  unfold setK at h
  cases hs : seqD d with
  | none => rw [hs] at h; cases h
  | some ds =>
    simp only [hs] at h
    cases hk : keysK ds with
    | none => rw [hk] at h; cases h
    | some ks =>
      simp only [hk] at h
      split at h
      case isFalse => cases h
      rename_i hz
      cases h
      cases r with
      | lst q hl hr => cases hs; exact ⟨_, ks, rfl, rfl, hz, .inl (by rw [← reps_keysK hl hr hk]; exact SqL.of (s.ex.lst q))⟩
      | tup q hl hr => cases hs; exact ⟨_, ks, rfl, rfl, hz, .inr (by rw [← reps_keysK hl hr hk]; exact SqT.of (ex_t s.ex q))⟩
      | _ => cases hs
theorem call_lenX {X : Cx} : CallR X (.builtin "len") (fun xs H Q => ∃ a L, xs = [.ref a] ∧ H a = some (SetXO X.prog X.w a L) ∧ Q (.int L.length) H) := by
  intro pins s σ H xs us Q I r h
  obtain ⟨a, L, rfl, ha, q⟩ := h
  obtain ⟨u, rfl, ru⟩ := vals1 r
  obtain rfl : u = Value.ref a := ru
  obtain ⟨o, es, ep, t, ho, hex, hd, gd, pm, nd, hb, hf, hr, hl⟩ : SetX X.prog X.w s.heap a L := (I.hok a _ ha).1
  have hn : es.size = L.length := by rw [← pm.length_eq, List.length_map, Array.length_toList]
  have hs : scanBound ≤ 16777216 := by decide
  refine call_len_set ho hex hd hf (by omega) ⟨.int L.length, H, I.tok _, ⟨_, by rw [hn]⟩, q⟩
theorem dv_sortedSet (O : Ok g k X) (ha : DV g W X a fa) (hg : Gl X "sorted" := by rfl) (hg2 : Gl X "set" := by rfl) (na : starEach [a] X.env = (false, eval a X.env) :: starEach [] X.env := by rfl)
    (na2 : starEach [.Call (.Name "set" p2) [a] [] q] X.env = (false, eval (.Call (.Name "set" p2) [a] [] q) X.env) :: starEach [] X.env := by rfl) :
    DV g W X (.Call (.Name "sorted" p) [.Call (.Name "set" p2) [a] [] q] [] pos) (op1 fSortSet fa) := by
  have h1 := pe_callTy (pos := q) (p := p2) (cr_setX O.calm) hg2 (O.nob _ (by decide)) (by decide +kernel) (pa_cons ha pa_nil na) (he := na) (hpl := rfl)
  refine PEmono (pe_callB (cr_sortedX O.calm O.hu) hg (O.nob _ (by decide)) (by decide +kernel) (pa_cons h1 pa_nil na2) (he := na2) (hpl := rfl)) fun σ H Q ⟨ρ, F, B, E, pp⟩ => rdV.go E (pp.bnd.mono fun x ρ1 qq v F1 H1 B1 E1 rx s => ?_)
  obtain ⟨d, hd, p3⟩ := PostV.opt qq
  unfold fSortSet at hd
  cases hc : setK x with
  | none => rw [hc] at hd; cases hd
  | some L =>
    simp only [hc] at hd
    split at hd
    case isFalse => cases hd
    rename_i ok
    cases hd
    obtain ⟨a, ks, rfl, eL, hb, hs⟩ := rep_setK E1.sub rx hc
    refine ⟨a, ks, rfl, by rw [O.K]; exact hs, hb, fun r hr => ?_⟩
    have l1 : Laid F1 H1 F1 (upd H1 r (SetXO X.prog X.w r L)) := Laid.own E1.sub hr (by intro _ h; unfold SetXO at h; cases h)
    rw [← eL]
    refine ⟨r, F1, L, rfl, upd_same, ok.1, fun k hk => List.all_eq_true.mp ok.2 k hk, fun ys p hp hl hr => ?_⟩
    rw [O.K] at hr
    obtain ⟨l, r⟩ := rep_newL l1.sub hp hl hr
    exact p3 _ _ _ B1 ((l1.trans l).env E1) r (s.trans (l1.trans l).step)
theorem dv_lenSet (O : Ok g k X) (ha : DV g W X a fa) (hg : Gl X "len" := by rfl) (hg2 : Gl X "set" := by rfl) (na : starEach [a] X.env = (false, eval a X.env) :: starEach [] X.env := by rfl)
    (na2 : starEach [.Call (.Name "set" p2) [a] [] q] X.env = (false, eval (.Call (.Name "set" p2) [a] [] q) X.env) :: starEach [] X.env := by rfl) :
    DV g W X (.Call (.Name "len" p) [.Call (.Name "set" p2) [a] [] q] [] pos) (op1 fLenSet fa) := by
  have h1 := pe_callTy (pos := q) (p := p2) (cr_setX O.calm) hg2 (O.nob _ (by decide)) (by decide +kernel) (pa_cons ha pa_nil na) (he := na) (hpl := rfl)
  refine PEmono (pe_callB call_lenX hg (O.nob _ (by decide)) (by decide +kernel) (pa_cons h1 pa_nil na2) (he := na2) (hpl := rfl)) fun σ H Q ⟨ρ, F, B, E, pp⟩ => rdV.go E (pp.bnd.mono fun x ρ1 qq v F1 H1 B1 E1 rx s => ?_)
  obtain ⟨d, hd, p3⟩ := PostV.opt qq
  unfold fLenSet at hd
  cases hc : setK x with
  | none => rw [hc] at hd; cases hd
  | some L =>
    simp only [hc] at hd
    cases hd
    obtain ⟨a, ks, rfl, eL, hb, hs⟩ := rep_setK E1.sub rx hc
    refine ⟨a, ks, rfl, by rw [O.K]; exact hs, hb, fun r hr => ?_⟩
    have l1 : Laid F1 H1 F1 (upd H1 r (SetXO X.prog X.w r L)) := Laid.own E1.sub hr (by intro _ h; unfold SetXO at h; cases h)
    rw [← eL]
    exact ⟨r, L, rfl, upd_same, p3 _ _ _ B1 (l1.env E1) .int (s.trans l1.step)⟩
end
end Mi

end
section
set_option Elab.async false
set_option autoImplicit false
set_option linter.all false
set_option maxRecDepth 100000
set_option maxHeartbeats 1000000
/-! Mi, 27: a dict's entries; sorted(d.items()). -/
namespace Mi
open PySem PySem.Spec PyProof.Rows L2 PySem.W
theorem pickL {α : Type} {P : Nat → α → Prop} : ∀ {n : Nat}, (∀ j, j < n → ∃ z, P j z) → ∃ zs : List α, zs.length = n ∧ ∀ j z, zs[j]? = some z → P j z
  | 0, _ => ⟨[], rfl, fun j z h => by simp at h⟩
  | n + 1, h => by
    obtain ⟨zs, h1, h2⟩ := pickL (n := n) fun j hj => h j (by omega)
    obtain ⟨z, hz⟩ := h n (by omega)
    refine ⟨zs ++ [z], by simp [h1], fun j w hw => ?_⟩
    by_cases q : j < zs.length
    · rw [List.getElem?_append_left q] at hw; exact h2 j w hw
    · rw [List.getElem?_append_right (by omega)] at hw
      have e : j - zs.length = 0 := by
        have := (List.getElem?_eq_some_iff.mp hw).1
        simpa using this
      rw [e] at hw
      cases hw
      rw [show j = n by omega]; exact hz
section
variable {X : Cx} {pins : List (Addr × Obj)} {σ : L2.St} {H : Hp} {s : Shared} {F : Hp}
/-- the entries of a told dict -/
theorem rep_entries (I : Inv X pins σ H s) (sub : Sub F H) {v : V} {t : Bool} {ds : List (D × D)} (r : Rep X.K F v (.dct t ds)) (hc : (ds.all fun p => okC p.1) = true) : ∃ a es ep, v = .ref a ∧ (a == sysModules) = false ∧ es.size ≤ sizeLine ∧ s.heap.DictRaw a es ep ∧ es.size = ds.length ∧
    ∀ (i : Nat) (d e : D), ds[i]? = some (d, e) → ∃ en x y, es[i]? = some en ∧ RelV x en.key ∧ RelV y en.val ∧ Rep X.K F x d ∧ Rep X.K F y e := by
  cases r with
  | @dK a kvs _ hd hl hk hr =>
    obtain ⟨z, lo, vs, rel, dd⟩ := dk_rd I.hok (sub.ex.rdD trivial hd)
    obtain ⟨es, ep, raw, hsz, hat⟩ := dd.raw
    have hlen : kvs.length = vs.length := Paired.length rel
    refine ⟨a, es, ep, rfl, lo, by omega, raw, by omega, fun i d e hi => ?_⟩
    have il := (List.getElem?_eq_some_iff.mp hi).1
    obtain ⟨⟨k, u⟩, hu⟩ : ∃ q, vs[i]? = some q := ⟨vs[i]'(by omega), List.getElem?_eq_getElem (by omega)⟩
    obtain ⟨p, hp, e1, e2⟩ := L2.DX.pget rel hu
    obtain ⟨h1, h2⟩ := hat i (by omega) k u hu
    have ed := hk i p.1 p.2 d e hp hi
    refine ⟨es[i]'(by omega), kV p.1, p.2, Array.getElem?_eq_getElem (by omega), ?_, ?_, ?_, hr i p.1 p.2 d e hp hi⟩
    · rw [show p.1 = k from e1]; exact rel_kV h1
    · rw [h2]; exact e2
    · rw [ed]; exact rep_key p.1 (by rw [← ed]; exact List.all_eq_true.mp hc (d, e) (List.mem_of_getElem? hi))
  | @dT a kvs _ hd hl hk hr =>
    obtain ⟨z, lo, vs, rel, dd⟩ := dt_rd I.hok (sub.ex.rdD trivial hd)
    obtain ⟨es, ep, raw, hsz, hat⟩ := dd.raw
    have hlen : kvs.length = vs.length := Paired.length rel
    refine ⟨a, es, ep, rfl, lo, by omega, raw, by omega, fun i d e hi => ?_⟩
    have il := (List.getElem?_eq_some_iff.mp hi).1
    obtain ⟨y, hy, h1, h2, _⟩ := hat i (by omega)
    obtain ⟨p, hp, e1, e2, e3⟩ := L2.DX.pget rel hy
    have ed := hk i p.1 p.2 d e hp hi
    refine ⟨es[i]'(by omega), .ref y.2.1, p.2, Array.getElem?_eq_getElem (by omega), ?_, ?_, ?_, hr i p.1 p.2 d e hp hi⟩
    · rw [h1]; rfl
    · rw [h2]; exact e3
    · rw [ed]; exact rep_keyT (sub.tp _ _ e2) (by rw [← ed]; exact List.all_eq_true.mp hc (d, e) (List.mem_of_getElem? hi))
/-- new tuples, already laid, are told -/
theorem lay_tups {h' : Heap} {tk : Nat} (I0 : Inv X pins σ H s) : ∀ (L : List (Addr × List V)) (F1 H1 : Hp), Sub F1 H1 → Inv X pins σ H1 { s with heap := h', toks := tk } → (L.map (·.1)).Nodup → (∀ x ∈ L, s.heap.objs.size ≤ x.1 ∧ H1 x.1 = none ∧ ∀ H2, ObjOk X.prog X.w H2 h' x.1 (.tup x.2)) →
    ∃ F2 H2, Laid F1 H1 F2 H2 ∧ Inv X pins σ H2 { s with heap := h', toks := tk } ∧ ∀ x ∈ L, F2 x.1 = some (.tup x.2)
  | [], F1, H1, s1, I1, _, _ => ⟨F1, H1, Laid.refl s1, I1, fun _ h => by simp at h⟩
  | x :: L, F1, H1, s1, I1, nd, h => by
    obtain ⟨hb, hn, ok⟩ := h x (List.mem_cons_self ..)
    rw [List.map_cons, List.nodup_cons] at nd
    have l1 : Laid F1 H1 (upd F1 x.1 (.tup x.2)) (upd H1 x.1 (.tup x.2)) := Laid.new s1 hn (fun ps => by simp)
    have I2 : Inv X pins σ (upd H1 x.1 (.tup x.2)) { s with heap := h', toks := tk } := I1.take (h' := h') (t' := tk) (fun b ob _ e => e) (I0.fpOk hb hn) (ok _)
    obtain ⟨F2, H2, l2, I3, q⟩ := lay_tups I0 L _ _ l1.sub I2 nd.2 fun y hy => by
      obtain ⟨a1, a2, a3⟩ := h y (List.mem_cons_of_mem _ hy)
      exact ⟨a1, by rw [upd_ne (fun z => nd.1 (List.mem_map.mpr ⟨y, hy, z⟩))]; exact a2, a3⟩
    refine ⟨F2, H2, l1.trans l2, I3, fun y hy => ?_⟩
    rcases List.mem_cons.mp hy with rfl | hy
    · exact ex_t l2.ff upd_same
    · exact q y hy
def itemsD : D → Option (List D)
  | .dct _ kvs => if (kvs.all fun p => okC p.1) = true then some (kvs.map fun p => .tup [p.1, p.2]) else none
  | _ => none
def rSortItems (K : PySem.W.Frag) : List V → Hp → VK → Prop := fun vs H Q => ∃ (F : Hp) (p a : Addr) (d : D) (ds : List D), Sub F H ∧ vs = [.ref p] ∧ H p = some (L2.DX.itemsO p a) ∧ Rep K F (.ref a) d ∧ itemsD d = some ds ∧ okSort ds = true ∧
  ∀ v F' H', Laid F H F' H' → Rep K F' v (.lst (sortD ds)) → Q v H'
theorem cr_sortItems (hc : X.calm = true) (hu : X.A.units + 65 < cLine) : CallR X (.builtin "sorted") (rSortItems X.K) := by
  intro pins s σ H vs us Q I r h
  obtain ⟨F, p, a, d, ds, sub, rfl, hp, rd, hds, ok, q⟩ := h
  obtain ⟨u, rfl, ru⟩ := vals1 r
  obtain rfl : u = Value.ref p := ru
  have view : s.heap.IsItemsView p a := (show ObjOk X.prog X.w H s.heap p (L2.DX.itemsO p a) from I.hok p _ hp).1
  cases d <;> try cases hds
  rename_i t kvs
  unfold itemsD at hds
  simp only at hds
  split at hds
  case isFalse => cases hds
  rename_i hkc
  cases hds
  obtain ⟨a', es, ep, ea, lo, hz, raw, hsz, hat⟩ := rep_entries I sub rd hkc
  cases ea
  obtain ⟨hz2, hlay, hal, hso⟩ := okSort_out ok
  have hh : X.A.in1.handled = none := by simpa using I.ok.hd hc
  refine wp_sorted (enc := fun b : VD => b.2.py) (R := fun w b => RelV b.1 w) (DT.collectI (es := es) (ep := ep) hh view raw hz fun h' tk as k hlt hl hG => ?_)
  have nd : as.Nodup := List.Pairwise.imp (fun h => Nat.ne_of_lt h) hG.rise
  have hla : as.length = kvs.length := by omega
  have I1 : Inv X pins σ H { s with heap := h', toks := tk } := I.kept fun b o z => k b o z
  -- what the tuples hold
  have each : ∀ j (hj : j < as.length), ∃ x y : V, Rep X.K F x (kvs[j]'(by omega)).1 ∧ Rep X.K F y (kvs[j]'(by omega)).2 ∧ ∀ H2, ObjOk X.prog X.w H2 h' as[j] (.tup [x, y]) := fun j hj => by
    obtain ⟨en, x, y, h1, r1, r2, p1, p2⟩ := hat j (kvs[j]'(by omega)).1 (kvs[j]'(by omega)).2 (List.getElem?_eq_getElem (by omega))
    obtain ⟨en', h2, h3⟩ := hG.pairs j as[j] (List.getElem?_eq_getElem hj)
    rw [h1] at h2; cases h2
    exact ⟨x, y, p1, p2, fun H2 => ⟨by rw [sizeLine_eq]; show (2 : Nat) ≤ _; decide, [en.key, en.val], .cons r1 (.cons r2 .nil), ⟨_, h3, rfl, 0, rfl⟩⟩⟩
  obtain ⟨L, hL, hP⟩ := pickL (n := as.length) (P := fun j (z : Addr × List V) => ∃ (hj : j < as.length) (x y : V), z = (as[j], [x, y]) ∧ Rep X.K F x (kvs[j]'(by omega)).1 ∧ Rep X.K F y (kvs[j]'(by omega)).2 ∧ ∀ H2, ObjOk X.prog X.w H2 h' as[j] (.tup [x, y])) fun j hj => by
    obtain ⟨x, y, h1, h2, h3⟩ := each j hj
    exact ⟨(as[j], [x, y]), hj, x, y, rfl, h1, h2, h3⟩
  have hLa : L.map (·.1) = as := List.ext_getElem (by simp [hL]) fun j h1 h2 => by
    rw [List.getElem_map]
    obtain ⟨hj, x, y, e, _⟩ := hP j _ (List.getElem?_eq_getElem (by simpa using h1))
    rw [e]
  obtain ⟨F2, H2, l2, I2, told⟩ := lay_tups I L F H sub I1 (by rw [hLa]; exact nd) fun z hz => by
    obtain ⟨j, hj, rfl⟩ := List.getElem_of_mem hz
    obtain ⟨hj2, x, y, e, h1, h2, h3⟩ := hP j _ (List.getElem?_eq_getElem hj)
    rw [e]
    have hlo := hG.above as[j] (List.getElem_mem hj2)
    exact ⟨Nat.le_of_lt hlo, I.hok.fresh (Nat.le_of_lt hlo), h3⟩
  have b1 : (L.zip kvs).map (fun z => ((.ref z.1.1, .tup [z.2.1, z.2.2]) : VD)) = (L.zip kvs).map (fun z => ((.ref z.1.1, .tup [z.2.1, z.2.2]) : VD)) := rfl
  generalize hbs : (L.zip kvs).map (fun z => ((.ref z.1.1, .tup [z.2.1, z.2.2]) : VD)) = bs at b1
  have hbl : bs.length = kvs.length := by rw [← hbs, List.length_map, List.length_zip]; omega
  have bat : ∀ j (hj : j < kvs.length), bs[j]? = some (.ref (as[j]'(by rw [hla]; exact hj)), .tup [kvs[j].1, kvs[j].2]) := fun j hj => by
    rw [← hbs, List.getElem?_map, List.getElem?_eq_getElem (by rw [List.length_zip]; omega), List.getElem_zip]
    obtain ⟨hj2, x, y, e, _⟩ := hP j L[j] (List.getElem?_eq_getElem (by omega))
    simp only [Option.map_some]
    rw [e]
  have bsnd : bs.map (·.2) = kvs.map fun p => .tup [p.1, p.2] := List.ext_getElem? fun j => by
    rw [List.getElem?_map, List.getElem?_map]
    by_cases hj : j < kvs.length
    · rw [bat j hj, List.getElem?_eq_getElem hj]; rfl
    · rw [List.getElem?_eq_none (by omega), List.getElem?_eq_none (by omega)]; rfl
  have b3 : EachIs (fun w (b : VD) => RelV b.1 w) (as.map Value.ref) bs := eachIs_of (by simp; omega) fun j w b z1 z2 => by
    have hj := (List.getElem?_eq_some_iff.mp z2).1
    rw [bat j (by omega)] at z2
    cases z2
    rw [List.getElem?_map, List.getElem?_eq_getElem (by omega)] at z1
    cases z1; rfl
  have b2 : ∀ b ∈ bs, Rep X.K F2 b.1 b.2 := fun b hb => by
    obtain ⟨j, hj, rfl⟩ := List.getElem_of_mem hb
    have e := bat j (by omega)
    rw [List.getElem?_eq_getElem hj] at e
    rw [Option.some.inj e]
    obtain ⟨hj2, x, y, e2, h1, h2, _⟩ := hP j L[j] (List.getElem?_eq_getElem (by omega))
    have ht := told L[j] (List.getElem_mem (by omega))
    rw [e2] at ht
    refine .tup ht rfl fun i v d z1 z2 => ?_
    match i with
    | 0 => cases z1; cases z2; exact h1.mono l2.ff
    | 1 => cases z1; cases z2; exact h2.mono l2.ff
    | (i + 2) => simp at z1
  refine ⟨by simp; omega, bs, b3, ?_, by rw [show bs.map (fun b => b.2.py) = (kvs.map fun p => D.tup [p.1, p.2]).map D.py by rw [← bsnd, List.map_map]; rfl]; exact hal, by rw [show bs.map (fun b => b.2.py) = (kvs.map fun p => D.tup [p.1, p.2]).map D.py by rw [← bsnd, List.map_map]; rfl]; exact hso, fun b hb => ?_, fun h2 out n k3 hn ho e => ?_⟩
  · refine eachIs_of b3.length fun i w b z1 z2 => ?_
    have hb := List.mem_of_getElem? z2
    exact (rep_reads I2 l2.sub (b2 b hb) (eachIs_get b3 i w b z1 z2) (hlay b.2 (by rw [← bsnd]; exact List.mem_map.mpr ⟨b, hb, rfl⟩))).1
  · have := (((b2 b hb).mono l2.sub.ex).dp 60 (hlay b.2 (by rw [← bsnd]; exact List.mem_map.mpr ⟨b, hb, rfl⟩))).2.2
    omega
  · refine sorted_fin (s := { s with heap := h', toks := tk }) (s1 := { s with heap := h', toks := tk }) (Q := Q) I2 k3 (Nat.le_refl _) (by omega) hn e b2 rfl rfl fun ys r hr hl2 hr2 => ?_
    have l3 : Laid F2 H2 (upd F2 r (.lst ys)) (upd H2 r (.lst ys)) := Laid.new l2.sub hr (fun ps => by simp)
    have r3 : Rep X.K (upd F2 r (.lst ys)) (.ref r) (.lst (sortD (bs.map (·.2)))) := .lst upd_same hl2 (fun i v d a b => (hr2 i v d a b).mono l3.ff)
    rw [bsnd] at r3
    exact q _ _ _ (l2.trans l3) r3
end
/-! d.items() -/
def tItems (to : TE) : TE := fun σ H Q => to σ H fun x H1 => ∃ a, x = .ref a ∧ IsD H1 a ∧ ∀ p, H1 p = none → Q (.ref p) (upd H1 p (L2.DX.itemsO p a))
theorem isD_raw {X : Cx} {pins : List (Addr × Obj)} {σ : L2.St} {H : Hp} {s : Shared} {a : Addr} (I : Inv X pins σ H s) (d : IsD H a) : ∃ es ep, DT.Raw s.heap a es ep := by
  rcases d with ⟨kvs, e⟩ | ⟨kvs, e⟩
  · obtain ⟨_, hd, vs, _, o, es, ep, ho, hx, hdat, _⟩ := dk_rd I.hok e
    exact ⟨es, ep, o, ho, hx, hdat⟩
  · obtain ⟨_, hd, vs, _, o, es, ep, ho, hx, hdat, _⟩ := dt_rd I.hok e
    exact ⟨es, ep, o, ho, hx, hdat⟩
theorem pe_items {X : Cx} {o : Expr} {to : TE} {apos cpos : Pos} (ho : PE X o to) (hbase : attributeBase o "items" X.env (eval o X.env) = eval o X.env := by rfl) (hline : (apos.endLine == cpos.line) = true := by rfl) : PE X (.Call (.Attribute o "items" apos) [] [] cpos) (tItems to) := by
  refine ⟨fun pins s σ H Q I h => ?_⟩
  refine wpAny_Call_method0_late hbase hline (thn (ho.run pins s σ H _ I h) fun v s1 ⟨x, H1, I1, r1, a, ex, isd, q1⟩ => ?_)
  subst ex
  obtain rfl : v = Value.ref a := r1
  obtain ⟨h1, h2, hd⟩ := isD_at I1 isd
  obtain ⟨es, ep, raw⟩ := isD_raw I1 isd
  refine ⟨"dict", "dict.items", PySem.F.plainAttrs_dict, PySem.F.slot_dict_items, PySem.F.type_dict_items, h1, h2, Calls.callWith_builtin rfl (PySem.evalArgs_none (DT.callItems (es := es) (ep := ep) hd raw ?_))⟩
  exact ⟨.ref s1.heap.objs.size, upd H1 s1.heap.objs.size (L2.DX.itemsO s1.heap.objs.size a), I1.laid (t' := s1.toks) (fun b u e => Heap.get?_push_of_some _ e) (Nat.le_refl _) (L2.DX.itemsO_ok (Heap.get?_push_size _ rfl)), rfl, q1 _ (I1.hok.fresh (Nat.le_refl _))⟩
def fSortItems (d : D) : Option D := match itemsD d with | some ds => if okSort ds = true then some (.lst (sortD ds)) else none | none => none
section
variable {g : DX} {W : WX} {X : Cx} {a : Expr} {fa : M D} {k : Nat} {p p2 pos q apos : Pos}
theorem dv_sortItems (O : Ok g k X) (ha : DV g W X a fa) (hg : Gl X "sorted" := by rfl) (hbase : attributeBase a "items" X.env (eval a X.env) = eval a X.env := by rfl) (hline : (apos.endLine == q.line) = true := by rfl)
    (na2 : starEach [.Call (.Attribute a "items" apos) [] [] q] X.env = (false, eval (.Call (.Attribute a "items" apos) [] [] q) X.env) :: starEach [] X.env := by rfl) :
    DV g W X (.Call (.Name "sorted" p) [.Call (.Attribute a "items" apos) [] [] q] [] pos) (op1 fSortItems fa) := by
  have h1 := pe_items (cpos := q) (apos := apos) ha hbase hline
  refine PEmono (pe_callB (cr_sortItems O.calm O.hu) hg (O.nob _ (by decide)) (by decide +kernel) (pa_cons h1 pa_nil na2) (he := na2) (hpl := rfl)) fun σ H Q ⟨ρ, F, B, E, pp⟩ => rdV.go E (pp.bnd.mono fun x ρ1 qq v F1 H1 B1 E1 rx s => ?_)
  obtain ⟨d, hd, p3⟩ := PostV.opt qq
  unfold fSortItems at hd
  cases hc : itemsD x with
  | none => rw [hc] at hd; cases hd
  | some ds =>
    simp only [hc] at hd
    split at hd
    case isFalse => cases hd
    rename_i ok
    cases hd
    have isd : ∃ a, v = .ref a ∧ IsD H1 a := by
      cases x <;> try cases hc
      cases rx with
      | dK rd _ _ _ => exact ⟨_, rfl, .inl ⟨_, E1.sub.ex.rdD trivial rd⟩⟩
      | dT rd _ _ _ => exact ⟨_, rfl, .inr ⟨_, E1.sub.ex.rdD trivial rd⟩⟩
    obtain ⟨a, rfl, isd⟩ := isd
    refine ⟨a, rfl, isd, fun r hr => ?_⟩
    have l1 : Laid F1 H1 F1 (upd H1 r (L2.DX.itemsO r a)) := Laid.own E1.sub hr (by intro _ h; unfold L2.DX.itemsO at h; cases h)
    refine ⟨F1, r, a, x, ds, l1.sub, rfl, upd_same, by rw [O.K]; exact rx, hc, ok, fun v F' H' l r => ?_⟩
    rw [O.K] at r
    exact p3 _ _ _ B1 ((l1.trans l).env E1) r (s.trans (l1.trans l).step)
end
end Mi

end
section
set_option Elab.async false
set_option autoImplicit false
set_option linter.all false
set_option maxRecDepth 100000
set_option maxHeartbeats 1000000
/-! Mi, 28: repr(a) == repr(b). -/
namespace Mi
open PySem PySem.Spec PyProof.Rows L2 PySem.W
/-- what can be shown -/
def okRepr (d : D) : Bool := d.lay 60 && d.py.showable && !d.py.hasDict && decide (d.py.shown.length ≤ sizeLine) && (match d with | .lst _ => true | _ => false)
def rRepr (K : PySem.W.Frag) : List V → Hp → VK → Prop := fun vs H Q => ∃ (F : Hp) (v : V) (d : D), Sub F H ∧ vs = [v] ∧ Rep K F v d ∧ okRepr d = true ∧ Q (.str d.py.shown) H
theorem cr_repr {X : Cx} (hu : X.A.units + 65 < cLine) (hg : X.A.guards = some []) : CallR X (.builtin "repr") (rRepr X.K) := by
  intro pins s σ H vs us Q I r h
  obtain ⟨F, v, d, sub, rfl, rd, ok, q⟩ := h
  obtain ⟨u, rfl, ru⟩ := vals1 r
  unfold okRepr at ok
  simp only [Bool.and_eq_true, decide_eq_true_eq, Bool.not_eq_true'] at ok
  obtain ⟨⟨⟨⟨h1, h2⟩, h3⟩, h4⟩, h5⟩ := ok
  obtain ⟨⟨as, rs⟩, hd⟩ := rep_reads I sub rd ru h1
  cases d <;> try cases h5
  cases rd
  rename_i a vs _ _ _
  obtain rfl : u = Value.ref a := ru
  exact repr_of_reads' rs h2 (PyData.noDict_hsm h3) hg (by omega) (fun _ _ e => e) (fun h' u tk hk => ⟨.str _, H, I.kept fun b o z => hk b o z, ⟨u, rfl⟩, q⟩) h4
def asR (d : D) : M D := if okRepr d = true then pur d else bad
def mReprEq (fa fb : M D) : M D := bnd (bnd fa asR) fun d => bnd fb fun e => opt (if okRepr e = true then some (.bl (decide (d.py.shown = e.py.shown))) else none)
section
variable {g : DX} {W : WX} {X : Cx} {a b : Expr} {fa fb : M D} {k : Nat} {p p2 pos q q2 : Pos}
theorem dv_reprEq (O : Ok g k X) (ha : DV g W X a fa) (hb : DV g W X b fb) (hg : Gl X "repr" := by rfl) (na : starEach [a] X.env = (false, eval a X.env) :: starEach [] X.env := by rfl) (nb : starEach [b] X.env = (false, eval b X.env) :: starEach [] X.env := by rfl) :
    DV g W X (.Compare (.Call (.Name "repr" p) [a] [] q) [.Eq] [.Call (.Name "repr" p2) [b] [] q2] pos) (mReprEq fa fb) := by
  have cr := cr_repr (X := X) O.hu O.roomG.2
  have h1 := pe_callB (pos := q) (p := p) cr hg (O.nob _ (by decide)) (by decide +kernel) (pa_cons ha pa_nil na) (he := na) (hpl := rfl)
  have h2 := pe_callB (pos := q2) (p := p2) cr hg (O.nob _ (by decide)) (by decide +kernel) (pa_cons hb pa_nil nb) (he := nb) (hpl := rfl)
  refine PEmono (pe_cmpR op_eq h1 h2 (by first | exact nobehind _ (by decide) (by decide) | rfl)) fun σ H Q ⟨ρ, F, B, E, pp⟩ => rdV.go E ((Then.bnd pp.bnd).mono fun x ρ1 qq v F1 H1 B1 E1 rx s => ?_)
  unfold asR at qq
  split at qq
  case isFalse => exact qq.elim
  rename_i ok1
  replace qq := PostV.bnd (show PostV g W σ F H (AllB B) Q (bnd fb _ ρ1) from qq)
  refine ⟨F1, v, x, E1.sub, rfl, by rw [O.K]; exact rx, ok1, rdV.go E1 (Then.step s (qq.mono fun y ρ2 qq v2 F2 H2 B2 E2 ry s2 => ?_))⟩
  obtain ⟨d, hd, p3⟩ := PostV.opt qq
  split at hd
  case isFalse => cases hd
  rename_i ok2
  cases hd
  refine ⟨F2, v2, y, E2.sub, rfl, by rw [O.K]; exact ry, ok2, rfl, ?_⟩
  have e : decide (V.str x.py.shown = V.str y.py.shown) = decide (x.py.shown = y.py.shown) := decide_eq_decide.mpr ⟨fun h => by injection h, fun h => by rw [h]⟩
  rw [e]
  exact p3 _ F2 H2 B2 E2 .bl (s.trans s2)
end
end Mi

end
section
set_option Elab.async false
set_option autoImplicit false
set_option linter.all false
set_option maxRecDepth 100000
set_option maxHeartbeats 1000000
/-! Mi, 29: texts cut by a sign, a sign's place. -/
namespace Mi
open PySem PySem.Spec PyProof.Rows L2 PySem.W
def fSplit2 : D → D → Option D
  | .str x, .str y => if y.all (fun c => decide (c < 256)) = true ∧ y ≠ [] ∧ x.length + 2 ≤ 16777216 ∧ ((TL.spl y 0 [] x).all fun p => p.all fun c => decide (c < 1114112)) = true then some (.lst ((TL.spl y 0 [] x).map .str)) else none
  | _, _ => none
def fIndex : D → D → Option D
  | .str x, .str [c] => if c ∈ x then some (.int (x.idxOf c)) else none
  | _, _ => none
theorem at_one {x : List Nat} {c i : Nat} : StrLaws.At (S x) (S [c]) (S x).length i ↔ x[i]? = some c := by
  unfold StrLaws.At
  rw [S_length, S_length]
  show (i + 1 ≤ x.length ∧ Builtin.Str.subAt (S x) (S [c]) i = true) ↔ _
  unfold Builtin.Str.subAt
  rw [S_length, beq_iff_eq]
  constructor
  · rintro ⟨h1, h2⟩
    have h3 := congrArg Array.toList h2
    rw [show ((S x).cps.extract i (i + [c].length)).toList = (x.drop i).take 1 by simp [S, Array.toList_extract, List.extract_eq_drop_take]] at h3
    rw [List.getElem?_eq_getElem (by omega)]
    rw [List.drop_eq_getElem_cons (show i < x.length by omega)] at h3
    have h4 : [x[i]] = [c] := h3
    injection h4 with h4
    rw [h4]
  · intro h
    obtain ⟨hi, e⟩ := List.getElem?_eq_some_iff.mp h
    refine ⟨hi, ?_⟩
    have h3 : ((S x).cps.extract i (i + [c].length)).toList = [c] := by
      rw [show ((S x).cps.extract i (i + [c].length)).toList = (x.drop i).take 1 by simp [S, Array.toList_extract, List.extract_eq_drop_take]]
      rw [List.drop_eq_getElem_cons hi, e]; rfl
    exact Array.toList_inj.mp h3
theorem idx_le {c : Nat} : ∀ (l : List Nat) (i : Nat), l[i]? = some c → l.idxOf c ≤ i
  | [], i, h => by simp at h
  | x :: l, i, h => by
    rw [List.idxOf_cons]
    cases q : x == c with
    | true => simp
    | false =>
      cases i with
      | zero => cases h; simp at q
      | succ i =>
        have := idx_le l i (by simpa using h)
        simp only [cond_false]; omega
section
variable {g : DX} {W : WX} {X : Cx} {a b : Expr} {fa fb : M D} {k : Nat} {pos apos : Pos}
theorem dv_split (ha : DV g W X a fa) (hb : DV g W X b fb) (hs : starEach [b] X.env = [(false, eval b X.env)] := by rfl) (hbase : attributeBase a "split" X.env (eval a X.env) = eval a X.env := by rfl) (hline : (apos.endLine == pos.line) = true := by rfl) :
    DV g W X (.Call (.Attribute a "split" apos) [b] [] pos) (mth1 fSplit2 fa fb) :=
  dv_m1 (fun F H l y dy d Q s hl ry e k => by
    cases dy <;> try cases e
    rename_i m
    unfold fSplit2 at e
    simp only at e
    split at e
    case isFalse => cases e
    rename_i h
    obtain ⟨h1, h2, h3, h4⟩ := h
    cases e
    cases ry
    have sz : sizeLine = 16777216 := sizeLine_eq
    refine ⟨S l, S m, rfl, rfl, ?_, by rw [S_length, sz]; omega, fun p hp => ?_⟩
    · rw [S_length]
      cases m with
      | nil => exact absurd rfl h2
      | cons _ _ => rfl
    · have es : Txt.split (S l) (S m) = (TL.spl m 0 [] l).map S := SX.split_S h2 (by
        rw [List.all_eq_true] at h1 ⊢
        intro c hc
        exact decide_eq_true (of_decide_eq_true (h1 c hc)))
      rw [es, List.map_map]
      have q := rep_newL (g := g) (vs := (TL.spl m 0 [] l).map (V.str ∘ S)) (ds := (TL.spl m 0 [] l).map .str) s hp (by simp) fun i v d a b => by
        rw [List.getElem?_map] at a b
        cases z : (TL.spl m 0 [] l)[i]? with
        | none => rw [z] at a; cases a
        | some w =>
          rw [z] at a b; cases a; cases b
          exact .str fun c hc => of_decide_eq_true (List.all_eq_true.mp (List.all_eq_true.mp h4 w (List.mem_of_getElem? z)) c hc)
      exact k _ _ _ q.1 q.2)
    (fun d dy d' h => by cases d <;> first | exact ⟨_, rfl⟩ | (simp [fSplit2] at h))
    ha hb fun ha hb => pe_split ha hb hs hbase hline
theorem dv_index (ha : DV g W X a fa) (hb : DV g W X b fb) (hs : starEach [b] X.env = [(false, eval b X.env)] := by rfl) (hbase : attributeBase a "index" X.env (eval a X.env) = eval a X.env := by rfl) (hline : (apos.endLine == pos.line) = true := by rfl) :
    DV g W X (.Call (.Attribute a "index" apos) [b] [] pos) (mth1 fIndex fa fb) :=
  dv_m1 (fun F H l y dy d Q s hl ry e k => by
    cases dy <;> try cases e
    rename_i m
    match m with
    | [] => simp [fIndex] at e
    | _ :: _ :: _ => simp [fIndex] at e
    | [c] =>
      unfold fIndex at e
      simp only at e
      split at e
      case isFalse => cases e
      rename_i hc
      cases e
      cases ry
      have hi : l.idxOf c < l.length := List.idxOf_lt_length_iff.mpr hc
      rcases StrLaws.occ_head (S l) (S [c]) 1 (Nat.le_refl _) with ⟨_, hn⟩ | ⟨i, r, h1, h2, h3⟩
      · exact absurd (at_one.mpr (by rw [List.getElem?_eq_getElem hi, List.getElem_idxOf hi])) (hn (l.idxOf c))
      · have e1 := at_one.mp h2
        have e2 : i = l.idxOf c := by
          rcases Nat.lt_trichotomy i (l.idxOf c) with z | z | z
          · exact absurd (idx_le l i e1) (by omega)
          · exact z
          · exact absurd (at_one.mpr (by rw [List.getElem?_eq_getElem hi, List.getElem_idxOf hi])) (h3 _ z)
        exact ⟨S l, S [c], i, r, rfl, rfl, h1, by rw [e2]; exact k _ _ _ (Laid.refl s) .int⟩)
    (fun d dy d' h => by cases d <;> first | exact ⟨_, rfl⟩ | (simp [fIndex] at h))
    ha hb fun ha hb => pe_m1 PySem.F.slot_str_index PySem.F.type_str_index L2.mt_sindex ha hb hs hbase hline
end
end Mi

end
section
set_option Elab.async false
set_option autoImplicit false
set_option linter.all false
set_option maxRecDepth 100000
set_option maxHeartbeats 1000000
/-! Mi, 30: membership asked of slots, as tests too. -/
namespace Mi
open PySem L2
/-- x in y, y the list in slot i -/
def mInP (n : Bool) (i : Nat) (fa : M D) : M D := bnd fa fun q => bnd (isU i) fun _ ρ =>
  match ρ[i]? with
  | some (.sh d) => opt (fIn n q d) ρ
  | some (.lst ts) => (match fInL q (.lst (T.strips ts)) with | some b => .ok (.bl (if n then !b else b)) ρ | none => .bad)
  | _ => .bad
section
variable {g : DX} {W : WX} {X : Cx} {a b c : Expr} {fa fb fc : M D} {k : Nat} {x : Str} {p pos : Pos}
theorem rd_inP (n : Bool) (i : Nat) (hK : X.K = g.K) : ∀ σ H Q, rdV g W (mInP n i fa) σ H Q → rdV g W fa σ H fun y H1 => ∃ v, σ[i]? = some (some v) ∧ ((rInC n) y v H1 Q ∨ (rInDL X.K n) y v H1 Q ∨ (rInDT X.K n) y v H1 Q) := fun σ H Q ⟨ρ, F, B, E, p⟩ => by
  refine rdV.go E (p.bnd.mono fun d ρ1 q y F1 H1 B1 E1 ry s => ?_)
  obtain ⟨t, h1, hu, q⟩ := Then.isU q.bnd
  simp only [h1] at q
  obtain ⟨v, hv, o⟩ := E1.at_ i _ h1 hu
  refine ⟨v, hv, ?_⟩
  cases t with
  | un => exact absurd rfl hu
  | dct _ _ => exact q.elim
  | sh e =>
    obtain ⟨r, hr, p3⟩ := PostV.opt q
    cases o with
    | sh re _ =>
      have := (Op2.or (op2_inC (g := g) n) (Op2.or (op2_inL n) (op2_inT n))) F1 H1 y v d e r Q E1.sub ry re hr fun v3 F3 H3 l r3 => p3 v3 F3 H3 B1 (l.env E1) r3 (s.trans l.step)
      rw [hK]; exact this
  | lst ts =>
    simp only at q
    cases z : fInL d (.lst (T.strips ts)) with
    | none => rw [z] at q; exact q.elim
    | some bb =>
      rw [z] at q
      obtain ⟨h2, rfl⟩ := ifSome z
      simp only [Bool.and_eq_true] at h2
      have rv : Rep g.K H1 v (T.lst ts).strip := o.rep E1.sub.ex fun _ _ => rfl
      rw [T.strip] at rv
      have rx' := ry.mono E1.sub.ex
      have hy : (D.lst (T.strips ts)).lay 64 = true := h2.2
      rw [hK]
      refine .inr (.inl ⟨_, D.pys (T.strips ts), (rx'.dp 64 h2.1).1, (rv.dp 64 hy).1, shaped_of rx' h2.1 (Nat.le_refl _), shaped_of rv hy (Nat.le_refl _), ?_⟩)
      rw [any_py]
      have q := q _ F1 H1 B1 E1 .bl s
      cases n <;> exact q
theorem dv_inP (n : Bool) (i : Nat) (ha : DV g W X a fa) (O : Ok g k X) (hm : behindInMarks (if n then .NotIn else .In) (.Name x p) = false := by rfl) (hN : X.N[i]? = some x := by rfl) (hv : Vis X.env.scope x := by first | exact Or.inl rfl | exact Or.inr (Or.inl rfl) | exact Or.inr (Or.inr rfl)) (hd : (x == ("__debug__" : Str)) = false := by decide) (hcd : (x == ("__classdict__" : Str)) = false := by decide) :
    DV g W X (.Compare a [if n then .NotIn else .In] [.Name x p] pos) (mInP n i fa) :=
  PEmono (pe_cmpR (OpR.or (op_inC n) (OpR.or (op_inDL n O.hu) (op_inDT n O.hu))) ha (pe_var hN hv hd hcd) hm) (rd_inP n i O.K)
theorem dt_inP (n : Bool) (i : Nat) (ha : DV g W X a fa) (O : Ok g k X) (hm : behindInMarks (if n then .NotIn else .In) (.Name x p) = false := by rfl) (hN : X.N[i]? = some x := by rfl) (hv : Vis X.env.scope x := by first | exact Or.inl rfl | exact Or.inr (Or.inl rfl) | exact Or.inr (Or.inr rfl)) (hd : (x == ("__debug__" : Str)) = false := by decide) (hcd : (x == ("__classdict__" : Str)) = false := by decide) :
    DT g W X (.Compare a [if n then .NotIn else .In] [.Name x p] pos) (bnd (mInP n i fa) asB) :=
  PTmono (pt_cmpR (OpR.or (op_inC n) (OpR.or (op_inDL n O.hu) (op_inDT n O.hu))) ha (pe_var hN hv hd hcd) hm) (tTest_of (rd_inP n i O.K))
/-! a dict asked, as a test -/
theorem rd_dinP (n : Bool) (i : Nat) : ∀ σ H Q, rdV g W (mDin n i fa) σ H Q → rdV g W fa σ H fun y H1 => ∃ v, σ[i]? = some (some v) ∧ ∃ a o, v = .ref a ∧ DGet H1 a y o ∧ Q (.bl (o.isSome != n)) H1 := fun σ H Q ⟨ρ, F, B, E, p⟩ => by
  refine rdV.go E (p.bnd.mono fun d ρ1 q y F1 H1 B1 E1 ry s => ?_)
  obtain ⟨t, h1, hu, q⟩ := Then.isU q.bnd
  simp only [h1] at q
  obtain ⟨v, hv, o⟩ := E1.at_ i _ h1 hu
  refine ⟨v, hv, ?_⟩
  split at q
  · rename_i r he
    obtain ⟨a, ea, o, gt, l⟩ := look_get E1.sub.ex o ry he
    refine ⟨a, o, ea, gt, ?_⟩
    have e : o.isSome = r.isSome := by
      cases r with
      | none => rw [show o = none from l]; rfl
      | some u => obtain ⟨w, e, _⟩ := l; rw [e]; rfl
    rw [e]
    exact q _ F1 H1 B1 E1 .bl s
  · exact q.elim
theorem dt_dinP (n : Bool) (i : Nat) (ha : DV g W X a fa) (O : Ok g k X) (hN : X.N[i]? = some x := by rfl) (hv : Vis X.env.scope x := by first | exact Or.inl rfl | exact Or.inr (Or.inl rfl) | exact Or.inr (Or.inr rfl)) (hd : (x == ("__debug__" : Str)) = false := by decide) (hcd : (x == ("__classdict__" : Str)) = false := by decide) :
    DT g W X (.Compare a [if n then .NotIn else .In] [.Name x p] pos) (bnd (mDin n i fa) asB) := by
  have conv : ∀ σ H Q, rdT g W (bnd (mDin n i fa) asB) σ H Q → rdV g W (mDin n i fa) σ H fun v H1 => ∃ b, v = .bl b ∧ Q b H1 := fun σ H Q ⟨ρ, F, B, E, p⟩ => rdV.go E (p.bnd.mono fun d ρ1 q v F1 H1 B1 E1 r s => by
    cases r <;> try exact q.elim
    exact ⟨_, rfl, q F1 H1 B1 E1 s⟩)
  cases n with
  | false => exact PTmono (pt_cmp (pc_din O.hu1 ha (pe_var hN hv hd hcd))) fun σ H Q h => (by
    have := rd_dinP false i σ H _ (conv σ H Q h)
    simp only [Bool.bne_false] at this
    exact this)
  | true => exact PTmono (pt_cmp (pc_dnotin O.hu1 ha (pe_var hN hv hd hcd))) fun σ H Q h => (by
    have := rd_dinP true i σ H _ (conv σ H Q h)
    simp only [Bool.bne_true] at this
    exact this)
end
end Mi

end
section
set_option Elab.async false
set_option autoImplicit false
set_option linter.all false
set_option maxRecDepth 100000
set_option maxHeartbeats 1000000
/-! Mi, 31: try: .. except x: .. -/
namespace Mi
open PySem L2
/-- f says which exceptions are caught -/
def sTry (f : Exc → Option Bool) (mb mh : SM) : SM := fun ρ => match mb ρ with
  | .exc c ρ' => (match f c with | some true => mh ρ' | some false => .exc c ρ' | none => .bad)
  | r => r
theorem Ok.tr {g : DX} {X : Cx} {k : Nat} (O : Ok g k X) (pn : List (Addr × Obj)) (xe : Value → Shared → Prop) : Ok g k (X.tr pn xe) := ⟨O.K, O.calm, O.roomG, O.nd, O.nob⟩
section
variable {g : DX} {W : WX} {fx : List Nat} {X : Cx} {k : Nat} {x : Str} {cv : Value} {body suite : List Stmt} {b0 : Stmt} {np pos pos' : Pos} {f : Exc → Option Bool} {mb mh : SM}
theorem ds_try1 (O : Ok g k X) (tk : L2N.Takes X W) (hm : X.mg x = some cv) (hx : ∀ c b, f c = some b → PySem.W.exmOne g.K (g.cl c) cv = some b) (hb : ∀ (W' : WX) (pn : List (Addr × Obj)) (xe : Value → Shared → Prop), L2N.Takes (X.tr pn xe) W' → PassesOwn (model X.prog X.w) X.A X.env xe → DSs g W' fx (X.tr pn xe) body mb)
    (hh : ∀ (a : Addr) (pn : List (Addr × Obj)), DSs g W fx (X.suite a pn) (b0 :: suite) mh) (hld : ∀ c, f c = some true → c.load = none) (hs : X.stack = X.env :: X.outer := by rfl) (hf : X.env.frame = some X.env.locals := by rfl) (hg : Gl X x := by rfl) (hdb : (x == ("__debug__" : Str)) = false := by decide) :
    DS g W fx X (.Try body [.ExceptHandler (some (.Name x np)) none (b0 :: suite) pos'] [] [] pos) (sTry f mb mh) := by
  refine PSmono (L2N.ps_try_many (l := [(cv, fun _ _ _ => rdS g W fx mh)]) (Wout := W) (tb := fun W' => rdS g W' fx mb) hs hf tk (fun W' pn xe t p => hb W' pn xe t p) (.cons ⟨hg, hdb, .inl hm⟩ (fun a oe cls d pn _ _ => hh a _) .nil)) fun D σ H ⟨ρ, F, B, E, p⟩ => ⟨ρ, F, B, E, ?_⟩
  unfold sTry at p
  revert p
  cases mb ρ with
  | nx ρ' => exact id
  | bk ρ' => exact id
  | ct ρ' => exact id
  | rt t ρ' => exact id
  | bad => exact id
  | exc c ρ' =>
    intro p
    simp only at p
    have hit : ∀ (b : Bool), f c = some b → (b = true → ∀ σ' F' H' B', EnvR g.K g.Tb F' H' σ' ρ' B' → Step F H (AllB B) F' H' (AllB B') → Fix fx σ σ' → rdS g W fx mh D σ' H') →
        (b = false → PostS g W fx σ F H (AllB B) D (.exc c ρ')) → PostS g (wMany X.K W D [(cv, fun _ _ _ => rdS g W fx mh)]) fx σ F H (AllB B) D (.exc c ρ') := by
      intro b hb h1 h2 σ' F' H' B' E' st fxx
      have ex := hx c b hb
      unfold Wx
      cases hl : c.load with
      | none =>
        refine ⟨b, by rw [O.K]; exact ex, fun e a _ => h1 e σ' F' H' B' E' st fxx, fun e => ?_⟩
        have q := h2 e σ' F' H' B' E' st fxx
        unfold Wx at q
        simp only [hl] at q
        exact q
      | some pr =>
        intro d hd
        cases b with
        | true => exact absurd (hld c hb) (by rw [hl]; simp)
        | false =>
          refine ⟨false, by rw [O.K]; exact ex, fun e => (by cases e), fun e => ?_⟩
          have q := h2 rfl σ' F' H' B' E' st fxx
          unfold Wx at q
          simp only [hl] at q
          exact q d hd
    cases hc : f c with
    | none => rw [hc] at p; exact p.elim
    | some b =>
      rw [hc] at p
      cases b with
      | true =>
        refine hit true hc (fun _ σ' F' H' B' E' st fxx => ⟨ρ', F', B', E', PostS.step st fxx p⟩) fun e => by cases e
      | false => exact hit false hc (fun e => by cases e) fun _ => p
end
end Mi

end
section
set_option Elab.async false
set_option autoImplicit false
set_option linter.all false
set_option maxRecDepth 100000
set_option maxHeartbeats 1000000
/-! Mi, 32: a list comprehension over a range, run while an exception is handled. -/
namespace Mi
open PySem PySem.Spec PyProof.Rows L2 HotX
structure TurnK (P : Program) (w : World) (K : PySem.W.Frag) (x1 : Addr) (tg : Expr) (J : It) (fp : List Addr) (it : Addr) (tn : Nat → Heap → Prop) : Prop where
  mem : it ∈ fp
  obj : ∀ i h, tn i h → ∀ b ∈ fp, ∃ o, h.get? b = some o ∧ ∀ v, o.data ≠ .cell v
  keep : ∀ i h h', tn i h → (∀ b ∈ fp, ∀ o, h.get? b = some o → h'.get? b = some o) → tn i h'
  item : ∀ (X : Cx), X.prog = P → X.w = w → X.K = K → ∀ (i : Nat) (pins : List (Addr × Obj)) (s : Shared) (σ : L2.St) (H : Hp) (E : Value → Shared → Prop), Inv X pins σ H s → (∀ b ∈ fp, FpOk X pins H b) → tn i s.heap → J.go i H →
    wpAny (model P w) X.A (pyNext (.ref it)) (fun r s1 => ∃ u, r = some u ∧
      wpAny (model P w) X.A (letOwnedTupleGo tg (.ref it) u) (fun _ s2 => ∃ x H', Inv X pins σ H' s2 ∧ RelV x u ∧ J.yld i H x H' ∧ tn (i + 1) s2.heap ∧ ∀ b ∈ fp, H' b = none) E s1) E s
  done : ∀ (X : Cx), X.prog = P → X.w = w → X.K = K → ∀ {s : Shared}, HotAt X.A x1 s.heap → ∀ (i : Nat) (pins : List (Addr × Obj)) (σ : L2.St) (H : Hp) (E : Value → Shared → Prop), Inv X pins σ H s → (∀ b ∈ fp, FpOk X pins H b) → tn i s.heap → J.stop i H →
    wpAny (model P w) X.A (pyNext (.ref it)) (fun r s1 => r = none ∧ Inv X pins σ H s1) E s
  self : ∀ (A : Around) (i : Nat) (s : Shared) (Q : Value → Shared → Prop) (E : Value → Shared → Prop), tn i s.heap → Q (.ref it) s → wpAny (model P w) A (pyIter (.ref it)) Q E s
theorem turn_rangeK {P : Program} {w : World} {K : PySem.W.Frag} {x1 : Addr} {tg : Expr} (it : Addr) (lo : Int) (n : Nat) : TurnK P w K x1 tg (Itr lo n) [it] it (fun i h => IsRangeIter h it (lo + (i : Nat) * 1) ((n : Int) - (i : Nat)) 1) where
  mem := (L2H.turn_rangeH (P := P) (w := w) (K := K) (tg := tg) it lo n).mem
  obj := (L2H.turn_rangeH (P := P) (w := w) (K := K) (tg := tg) it lo n).obj
  keep := (L2H.turn_rangeH (P := P) (w := w) (K := K) (tg := tg) it lo n).keep
  item := by
    intro X hP hw hK i pins s σ H E I hf st hg
    subst hP hw hK
    obtain ⟨f0, f1, f2, f3, f4, f5⟩ := hf it (by simp)
    have hlt : i < n := hg
    refine wpAny_pyNext_range_item st (by omega) fun h' st' sb => ?_
    have st2 : IsRangeIter h' it (lo + ((i + 1 : Nat) : Int) * 1) ((n : Int) - ((i + 1 : Nat) : Int)) 1 := by
      have e1 : lo + ((i : Nat) : Int) * 1 + 1 = lo + ((i + 1 : Nat) : Int) * 1 := by omega
      have e2 : (n : Int) - ((i : Nat) : Int) - 1 = (n : Int) - ((i + 1 : Nat) : Int) := by omega
      rw [← e1, ← e2]
      exact st'
    have I1 : Inv X pins σ H { s with heap := h', toks := s.toks + 1 } := I.turned (fun b o hb e => (sb.2 b hb).trans e) f0 f1 f3 f4 f5
    refine ⟨_, rfl, go_of (s := { s with heap := h', toks := s.toks + 1 }) (n := "range_iterator") st2 rfl rfl (by decide) ⟨.int (lo + i), H, I1, ⟨s.toks, ?_⟩, ⟨rfl, rfl⟩, st2, fun b hb => (hf b hb).1⟩⟩
    rw [Int.mul_one]
  done := by
    intro X hP hw hK s hot i pins σ H E I hf st hg
    subst hP hw hK
    obtain ⟨f0, f1, f2, f3, f4, f5⟩ := hf it (by simp)
    exact pyNext_range_end_hot hot st (by have : n ≤ i := hg; omega) fun h' eb => ⟨rfl, I.turned (t' := s.toks) (fun b o _ e => eb b o e) f0 f1 f3 f4 f5⟩
  self := fun _ _ _ _ _ st h => wpAny_pyIter_rangeiter st h
def PIEK (X : Cx) (x1 : Addr) (pins : List (Addr × Obj)) (σ : L2.St) (tg : Expr) (R : It → Hp → Prop) (itv : Value) (s2 : Shared) : Prop :=
  ∃ (it : Addr) (fp : List Addr) (tn : Nat → Heap → Prop) (J : It) (H' : Hp), itv = .ref it ∧ Inv X pins σ H' s2 ∧ TurnK X.prog X.w X.K x1 tg J fp it tn ∧ tn 0 s2.heap ∧ (∀ b ∈ fp, FpOk X pins H' b) ∧ R J H'
structure PIK (X : Cx) (x1 : Addr) (tg iter : Expr) (wi : TI) : Prop where
  run : ∀ (pins : List (Addr × Obj)) (s : Shared) (σ : L2.St) (H : Hp) (R : It → Hp → Prop), Inv X pins σ H s → wi σ H R →
    wpAny (model X.prog X.w) X.A (eval iter X.env) (fun v s1 => wpAny (model X.prog X.w) X.A (pyIter v) (PIEK X x1 pins σ tg R) X.xe s1) X.xe s
section
variable {X : Cx} {tg : Expr} {x1 : Addr}
theorem range_itK {pins : List (Addr × Obj)} {σ : L2.St} {H : Hp} {s : Shared} {R : It → Hp → Prop} {E : Value → Shared → Prop} {lo hi : Int} {t u v : Tok} {tk : Nat} (I : Inv X pins σ H s) (h1 : -(2 ^ 62) ≤ lo) (h2 : lo < 2 ^ 62) (h3 : -(2 ^ 62) ≤ hi) (h4 : hi < 2 ^ 62)
    (q : R (Itr lo (hi - lo).toNat) H) : wpAny (model X.prog X.w) X.A (pyIter (.ref s.heap.objs.size)) (PIEK X x1 pins σ tg R) E { s with heap := s.heap.push { cls := .type "range", data := .fields #[.int lo t, .int hi u, .int 1 v] }, toks := tk } := by
  refine wpAny_pyIter_range (IsRange.new ..) (small_one h1 h2 h3 h4) ?_
  have I1 : Inv X pins σ H { s with heap := s.heap.push { cls := .type "range", data := .fields #[.int lo t, .int hi u, .int 1 v] }, toks := tk } := I.kept fun b o e => Heap.get?_push_of_some _ e
  refine ⟨(s.heap.push { cls := .type "range", data := .fields #[.int lo t, .int hi u, .int 1 v] }).objs.size, [(s.heap.push { cls := .type "range", data := .fields #[.int lo t, .int hi u, .int 1 v] }).objs.size], _, _, H, rfl,
    I1.kept (t' := tk) fun b o e => Heap.get?_push_of_some _ e, turn_rangeK _ lo (hi - lo).toNat, ?_, fun b hb => ?_, q⟩
  · have e1 : lo + ((0 : Nat) : Int) * 1 = lo := by simp
    have e2 : (((hi - lo).toNat : Nat) : Int) - ((0 : Nat) : Int) = Builtin.Range.rangeSize lo hi 1 := by rw [rangeSize_one]; split <;> omega
    show IsRangeIter _ _ (lo + ((0 : Nat) : Int) * 1) ((((hi - lo).toNat : Nat) : Int) - ((0 : Nat) : Int)) 1
    rw [e1, e2]
    exact Heap.get?_push_size _ rfl
  · have e : b = (s.heap.push { cls := .type "range", data := .fields #[.int lo t, .int hi u, .int 1 v] }).objs.size := by simpa using hb
    subst e
    exact I1.fpOk (Nat.le_refl _) (I1.hok.fresh (Nat.le_refl _))
theorem pi_range1K {a : Expr} {ta : TA} {p pos : Pos} (hg : Gl X "range") (hm : X.mg "range" = none) (ha : PA X [a] ta) (hs : starEach [a] X.env = [(false, eval a X.env)] := by rfl) : PIK X x1 tg (.Call (.Name "range" p) [a] [] pos) (iRng1 ta) := by
  refine ⟨fun pins s σ H R I h => ?_⟩
  refine Call_ (ld_blt I hg hm boot_range (PyProof.Rows.callWith_type1 (thn (ha.run pos pins s σ H _ I h) fun us s1 ⟨vs, H1, I1, r1, q1⟩ => ?_) hs rfl))
  obtain ⟨j, e, q1, q2, q⟩ := q1
  subst e
  cases r1 with
  | cons r rr =>
    cases rr
    obtain ⟨t, rfl⟩ := r
    exact call_range_1 (range_itK I1 (by omega) (by omega) q1 q2 (by simpa using q))
end
section
variable {X : Cx}
theorem lc_hot {x1 : Addr} {oe : Obj} {pins : List (Addr × Obj)} {s : Shared} {σ : L2.St} {H : Hp} {Q : VK} {elt tg iter : Expr} {ifs : List Expr} {scope : Scope} {own : List (Str × Nat)} {pos pos' : Pos} {wi : TI} {g : TG} {tt : TT} {te : TE} {use : Option (Value → Sem Unit)} {Qf : Value → Shared → Prop}
    (hc : X.A.handled = some (.ref x1)) (hcn : ∃ vs : Array Value, oe.data = .fields vs ∧ vs[2]? = some .none) (hpn : (x1, oe) ∈ X.pn) (hN : X.N.Nodup) (I : Inv X pins σ H s) (hi : PIK X x1 tg iter wi) (ok : BlkOk X.N X.env.scope scope own)
    (hg : ∀ (s : Shared) (H : Hp) (C : Addr) (cl : List (Str × Addr)) (fp : List Addr), PG (X.blk s H scope (compEnvC scope cl C X.env) fp) tg g) (ht : ∀ (s : Shared) (H : Hp) (C : Addr) (cl : List (Str × Addr)) (fp : List Addr), PTs (X.blk s H scope (compEnvC scope cl C X.env) fp) ifs tt)
    (he : ∀ (s : Shared) (H : Hp) (C : Addr) (cl : List (Str × Addr)) (fp : List Addr), PE (X.blk s H scope (compEnvC scope cl C X.env) fp) elt te) (hs : ∀ x, foldedSetIterable iter X.env x = pure x)
    (h : tLc wi g tt te (own.map (·.2)) σ H Q)
    (hRR : ∀ D C s' m H', Inv X pins σ H' s' → Q (.ref D) H' → s'.heap.Ns C m → FpOk X pins H' C → compPost (model X.prog X.w) X.A X.xe use Qf (.ref D) C (.ok .next) s') :
    wpAny (model X.prog X.w) X.A (comprehension (.ListComp elt [⟨tg, iter, ifs, 0⟩] scope pos) scope X.env pos' (newList []) false (eval iter X.env) use) Qf X.xe s := by
  have hfree : ∀ y ∈ scope.names, y.2 = .free → ∃ c, X.env.cells.lookup y.1 = some c := fun y hy e => by
    rcases ok.free y hy e with k | k
    · exact I.ok.has _ (.inl k)
    · exact I.ok.has _ (.inr k)
  refine wpAny_comprehension_free (use := use) rfl hs (closure_ok hfree) ok.kind (fun y hy e => by rw [ok.uniq y hy, e])
    (thn (hi.run pins s σ H _ I h) fun xv s1 hx => thn hx fun itv s2 h2 => ?_)
  obtain ⟨it, fp, tn, J, H2, e, I2, T, st2, f2, q⟩ := h2
  subst e
  refine wpAny_newObj_type (newEnv_comp ?_) (by show 0 ≤ sizeLine; decide)
  generalize hD : s2.heap.objs.size = D
  have hDn : H2 D = none := I2.hok.fresh (Nat.le_of_eq hD)
  obtain ⟨W, ⟨m0, w0⟩, turn⟩ := q D hDn
  -- the new list
  generalize hs3 : ({ s2 with heap := s2.heap.push { cls := .type "list", data := .seq ([] : List Value).toArray } } : Shared) = s3
  have I3 : Inv X pins σ (upd H2 D (.lst [])) s3 := by
    rw [← hs3]
    refine I2.laid (t' := s2.toks) (fun b o e => Heap.get?_push_of_some _ e) (Nat.le_of_eq hD) ⟨Nat.zero_le _, [], 0, .nil, ?_⟩
    rw [← hD]
    exact Heap.get?_push_size _ rfl
  have h3 : s3.heap = s2.heap.push { cls := .type "list", data := .seq ([] : List Value).toArray } := by rw [← hs3]
  have sz : ∀ b ∈ fp, b < s2.heap.objs.size := fun b hb => by
    obtain ⟨o, e, _⟩ := T.obj _ _ st2 b hb
    exact Heap.lt_size e
  have f3 : ∀ b ∈ fp, FpOk X pins (upd H2 D (.lst [])) b ∧ b < s3.heap.objs.size := fun b hb => by
    have hlt := sz b hb
    refine ⟨⟨?_, (f2 b hb).2⟩, by rw [h3, Heap.size_push]; exact Nat.lt_succ_of_lt hlt⟩
    rw [upd_ne (by rw [← hD]; exact Nat.ne_of_lt hlt)]
    exact (f2 b hb).1
  have st3 : tn 0 s3.heap := T.keep _ _ _ st2 fun b _ o e => by rw [h3]; exact Heap.get?_push_of_some _ e
  have I4 := block_start I3 ok hN f3
  have pg := hg s3 (upd H2 D (.lst [])) s3.heap.objs.size (cellsFrom (s3.heap.objs.size + 1) scope.names (cloFrom X.env.cells scope.names [])) fp
  have pt := ht s3 (upd H2 D (.lst [])) s3.heap.objs.size (cellsFrom (s3.heap.objs.size + 1) scope.names (cloFrom X.env.cells scope.names [])) fp
  have pe := he s3 (upd H2 D (.lst [])) s3.heap.objs.size (cellsFrom (s3.heap.objs.size + 1) scope.names (cloFrom X.env.cells scope.names [])) fp
  show codeAny _ _ (.compStart (.ListComp elt [⟨tg, iter, ifs, 0⟩] scope pos) 0 (.ref it) (.ref D) (compEnvC scope (cellsFrom (s3.heap.objs.size + 1) scope.names (cloFrom X.env.cells scope.names [])) s3.heap.objs.size X.env)) (compPost (model X.prog X.w) X.A X.xe use Qf (.ref D) s3.heap.objs.size) { s3 with heap := pushCells (s3.heap.push { cls := .type "dict", data := .dict #[] }) scope.names }
  have nfp : ∀ b ∈ fp, (upd H2 D (.lst [])) b = none := fun b hb => (f3 b hb).1.1
  generalize hce : compEnvC scope (cellsFrom (s3.heap.objs.size + 1) scope.names (cloFrom X.env.cells scope.names [])) s3.heap.objs.size X.env = ce at I4 pg pt pe ⊢
  have cL : ce.locals = s3.heap.objs.size := by subst hce; rfl
  generalize hH3 : upd H2 D (.lst []) = H3 at I3 I4 pg pt pe w0 nfp f3
  generalize hs4 : ({ s3 with heap := pushCells (s3.heap.push { cls := .type "dict", data := .dict #[] }) scope.names } : Shared) = s4 at I4 ⊢
  have st4 : tn 0 s4.heap := T.keep _ _ _ st3 fun b _ o e => by rw [← hs4]; exact pushCells_keeps _ _ _ _ (Heap.get?_push_of_some _ e)
  have stat : ∀ {σ' : L2.St} {H' : Hp} {s' : Shared}, Inv (X.blk s3 H3 scope ce fp) [] σ' H' s' → (∀ b ∈ fp, H' b = none) → ∀ b ∈ fp, FpOk (X.blk s3 H3 scope ce fp) [] H' b := fun {σ' H' s'} I' hn b hb =>
    ⟨hn b hb, (I'.ok.exf b hb).1, I'.ok.exfs b hb, .inl hb, fun x c e => (I'.ok.exf b hb).2 x c e, fun p hp => absurd (show p ∈ ([] : List (Addr × Obj)) ++ [] from hp) (by simp)⟩
  have hot : ∀ {σ' : L2.St} {H' : Hp} {s' : Shared}, Inv (X.blk s3 H3 scope ce fp) [] σ' H' s' → HotAt X.A x1 s'.heap := fun {σ' H' s'} I' => by
    obtain ⟨vs1, e1, e2⟩ := hcn
    obtain ⟨p1, p2, p3, p4, _⟩ := I3.pin (x1, oe) (List.mem_append_left _ hpn)
    refine ⟨hc, oe, vs1, I'.base.keep x1 oe p1 p2 (fun z => ?_) (fun z => ?_), e1, e2⟩
    · exact (List.mem_cons.mp (I3.stkSub x1 z)).elim p3 p4
    · exact (f3 x1 z).1.2.2.2.2.2 (x1, oe) (List.mem_append_left _ hpn) rfl
  have loop : codeAny (model X.prog X.w) X.A (.compLoop (.ListComp elt [⟨tg, iter, ifs, 0⟩] scope pos) 0 (.ref it) (.ref D) ce) (compPost (model X.prog X.w) X.A X.xe use Qf (.ref D) s3.heap.objs.size) s4 := by
    refine compLoop_any (fun n s' => ∃ i H', Inv (X.blk s3 H3 scope ce fp) [] (wipe σ (own.map (·.2))) H' s' ∧ tn i s'.heap ∧ (∀ b ∈ fp, H' b = none) ∧ W i n H') ?_ m0 ⟨0, H3, I4, st4, nfp, w0⟩
    rintro n s5 ⟨i, H5, I5, st5, n5, w5⟩
    rcases turn i n H5 w5 with ⟨stop, qq⟩ | ⟨go, Nx, hNx, step⟩
    · have td := T.done (X.blk s3 H3 scope ce fp) rfl rfl rfl (hot I5) i [] _ H5 (fun _ _ => False) I5 (stat I5 n5) st5 stop
      refine thnF td fun r s6 ⟨hr, I6⟩ => ?_
      subst hr
      -- back in the def's context
      have I7 : Inv X pins σ H5 s6 := I3.call' (ch := fp) I6.os I6.base I6.hok I6.bare fun b hb => ⟨(f3 b hb).1.2.2.2.1, (f3 b hb).1.2.1, (f3 b hb).1.2.2.2.2.1, (f3 b hb).1.2.2.2.2.2⟩
      have nC : H5 s3.heap.objs.size = none := by
        have z : H5 ce.locals = none := I6.free
        rw [cL] at z
        exact z
      obtain ⟨m, hn, _⟩ := I6.loc
      have hn : s6.heap.Ns ce.locals m := hn
      rw [cL] at hn
      exact hRR D s3.heap.objs.size s6 m H5 I7 qq hn (I3.fpOk (Nat.le_refl _) nC)
    · have ti := T.item (X.blk s3 H3 scope ce fp) rfl rfl rfl i [] s5 _ H5 (fun _ _ => False) I5 (stat I5 n5) st5 go
      refine thnF ti fun r s6 ⟨u, hr, h6⟩ => ?_
      subst hr
      refine thnF h6 fun _ s7 ⟨x, H7, I7, r7, y7, st7, n7⟩ => ?_
      have I7' := I7.pinned (stat I7 n7) (T.obj _ _ st7)
      refine thnF (pg.run _ s7 _ H7 x u _ I7' r7 (step x H7 y7)) fun _ s8 ⟨σ8, H8, I8, hw8, q8⟩ => ?_
      refine thnF (pt.run _ s8 σ8 H8 _ I8 q8) fun b s9 ⟨H9, I9, q9⟩ => ?_
      -- the turn's end
      have fin : ∀ {s' : Shared} {H' : Hp}, Inv (X.blk s3 H3 scope ce fp) ([] ++ pinsAt fp s7.heap) σ8 H' s' → Nx H' → ∃ m, m < n ∧ ∃ i H', Inv (X.blk s3 H3 scope ce fp) [] (wipe σ (own.map (·.2))) H' s' ∧ tn i s'.heap ∧ (∀ b ∈ fp, H' b = none) ∧ W i m H' := fun {s' H'} I' nx => by
        obtain ⟨m', hm, w'⟩ := hNx H' nx
        have pin' : ∀ b ∈ fp, ∀ o, s7.heap.get? b = some o → s'.heap.get? b = some o ∧ H' b = none := fun b hb o e =>
          let z := I'.pin (b, o) (List.mem_append_right _ (List.mem_append_right _ (mem_pinsAt hb e)))
          ⟨z.1, z.2.1⟩
        have hl : (wipe σ (own.map (·.2))).length = σ8.length := by rw [← hw8, wipe_length]
        refine ⟨m', hm, i + 1, H', (I'.unpinned (pins := [])).weak hl (fun j v e => ?_), T.keep _ _ _ st7 fun b hb o e => (pin' b hb o e).1, fun b hb => ?_, w'⟩
        · rw [← hw8] at e
          exact (wipe_some e).1
        · obtain ⟨o, e, _⟩ := T.obj _ _ st7 b hb
          exact (pin' b hb o e).2
      cases b with
      | false =>
        simp only [Bool.false_eq_true, if_false] at q9 ⊢
        exact fin I9 q9
      | true =>
        simp only [if_true] at q9 ⊢
        refine thnF (pe.run _ s9 σ8 H9 _ I9 q9) fun z s10 ⟨yv, H10, I10, r10, acc, hD10, hz10, nx⟩ => ?_
        exact app_ok (X := X.blk s3 H3 scope ce fp) I10 hD10 hz10 r10 fun s11 I11 => fin I11 nx
  exact codeAny_compStart_list loop (T.self X.A 0 _ _ _ st4 loop)
end
end Mi

end
section
set_option Elab.async false
set_option autoImplicit false
set_option linter.all false
set_option maxRecDepth 100000
set_option maxHeartbeats 1000000
/-! Mi, 33: a lambda made, with a default or without. -/
namespace Mi
open PySem PySem.Spec PySem.Calls PyProof.Rows PySem.W L2
abbrev lfn (dfl : Value) (name qual : Str) (params : Arguments) (body : Expr) (scope : Scope) (cl : List (Str × Addr)) (pm cdv ct : Value) : FuncData :=
  { name, qualname := qual, params, body := .expr body, scope, globals := mainGlobals, closure := cl, defaults := dfl, kwdefaults := .none, doc := .none, pyModule := pm, annotations := none, code := cdv, closureTuple := ct, builtins := builtinsNs }
abbrev lobj (dfl : Value) (name qual : Str) (params : Arguments) (body : Expr) (scope : Scope) (clos : List (Str × Addr)) (pm : Value) (c' : Addr) (ctv : Value) : Obj :=
  { cls := .type "function", data := .func (lfn dfl name qual params body scope clos pm (.ref c') ctv) }
section
variable {M : Model} {A : Around} {E : Value → Shared → Prop} {s : Shared} {dfl : Value} {name qual : Str} {params : Arguments} {body : Expr} {scope : Scope} {env : PySem.Env} {c P : Addr} {ps : Array Value} {pos : Pos} {firstLine : Nat} {mg : Str → Option Value}
  {clos : List (Str × Addr)} {Q : Value → Shared → Prop}
theorem lam_tail (hcl : closureFor scope env = pure clos) (hge0 : env.globals = mainGlobals) (hg : s.heap.Ns mainGlobals mg) (hcode : env.code = .ref c) (C : CodeHd s.heap c P) (hP : s.heap.get? P = some (tabObj ps)) (ht : TriplesOk ps.toList)
    (hnf : codeAmong pos ps.toList = none) (hgP : mainGlobals ≠ P) (hb : s.heap.BuiltinsAt mg P)
    (h : ∀ c' ctv h' tk, Heap.ExtBut P s.heap h' → s.heap.objs.size ≤ c' → c' < h'.objs.size → h'.CodeRec (.ref c') qual → h'.get? P = some (tabObj (ps ++ #[rawInt pos.line, rawInt pos.col, .ref c'])) →
      Q (.ref h'.objs.size) { s with heap := h'.push (lobj dfl name qual params body scope clos ((mg "__name__").getD .none) c' ctv), toks := tk }) :
    wpAny M A (makeTail name qual params (.expr body) scope env dfl .none none pos firstLine) Q E s := by
  obtain ⟨bm, ob, hbm, hne0, _, hneP, hbo, hcls, hdict, hdata⟩ := hb
  unfold makeTail
  rw [hcl, hge0]
  refine wpAny_bind (wpAny_pure ?_)
  cases clos with
  | nil =>
    simp only [List.isEmpty_nil, if_true]
    refine wpAny_bind (wpAny_pure ?_)
    refine wpAny_bind (wpAny_functionCodeX hcode (C.code hP ht) (C.tab hP) hnf fun c' h' tk hx hge hlt _ hrec htb _ => ?_)
    have hg' := hg.extBut hx hgP
    refine wpAny_bind (wpAny_builtinsFor hg' hbm hne0 (hx _ _ hneP hbo) hcls hdict hdata ?_)
    refine wpAny_bind (wpAny_nsGet hg' ?_)
    exact wpAny_bind (wpAny_pure (wpAny_newObj_type (h c' .none h' tk hx hge hlt hrec htb.2) (by size_fits)))
  | cons q r =>
    simp only [List.isEmpty_cons, Bool.false_eq_true, if_false]
    refine wpAny_bind (wpAny_newTextTuple ?_)
    refine wpAny_bind (wpAny_functionCodeX hcode ((C.keeps fun b o e => Heap.get?_push_of_some _ e).code (Heap.get?_push_of_some _ hP) ht) ((C.keeps fun b o e => Heap.get?_push_of_some _ e).tab (Heap.get?_push_of_some _ hP)) hnf fun c' h' tk hx hge hlt _ hrec htb _ => ?_)
    have hg' := (hg.push _).extBut hx hgP
    have hx' : Heap.ExtBut P s.heap h' := fun b o hb' e => hx b o hb' (Heap.get?_push_of_some _ e)
    have hge' : s.heap.objs.size ≤ c' := Nat.le_trans (by rw [Heap.size_push]; omega) hge
    refine wpAny_bind (wpAny_builtinsFor hg' hbm hne0 (hx' _ _ hneP hbo) hcls hdict hdata ?_)
    refine wpAny_bind (wpAny_nsGet hg' ?_)
    exact wpAny_bind (wpAny_pure (wpAny_newObj_type (h c' _ h' tk hx' hge' hlt hrec htb.2) (by size_fits)))
theorem lam_tailHit {cv : Value} (hcl : closureFor scope env = pure clos) (hge0 : env.globals = mainGlobals) (hg : s.heap.Ns mainGlobals mg) (hcode : env.code = .ref c) (C : CodeHd s.heap c P) (hP : s.heap.get? P = some (tabObj ps)) (ht : TriplesOk ps.toList)
    (hf : codeAmong pos ps.toList = some cv) (hb : s.heap.BuiltinsAt mg P)
    (h : ∀ (ctv : Value) (h' : Heap) (tk : Tok), (∀ b o, s.heap.get? b = some o → h'.get? b = some o) → s.heap.objs.size ≤ h'.objs.size →
      Q (.ref h'.objs.size) { s with heap := h'.push { cls := .type "function", data := .func (lfn dfl name qual params body scope clos ((mg "__name__").getD .none) cv ctv) }, toks := tk }) :
    wpAny M A (makeTail name qual params (.expr body) scope env dfl .none none pos firstLine) Q E s := by
  obtain ⟨bm, ob, hbm, hne0, _, hneP, hbo, hcls, hdict, hdata⟩ := hb
  unfold makeTail
  rw [hcl, hge0]
  refine wpAny_bind (wpAny_pure ?_)
  cases clos with
  | nil =>
    simp only [List.isEmpty_nil, if_true]
    refine wpAny_bind (wpAny_pure ?_)
    refine wpAny_bind (wpAny_functionCode_hit hcode (C.code hP ht) hf ?_)
    refine wpAny_bind (wpAny_builtinsFor hg hbm hne0 hbo hcls hdict hdata ?_)
    refine wpAny_bind (wpAny_nsGet hg ?_)
    exact wpAny_bind (wpAny_pure (wpAny_newObj_type (h .none s.heap s.toks (fun _ _ e => e) (Nat.le_refl _)) (by size_fits)))
  | cons q r =>
    simp only [List.isEmpty_cons, Bool.false_eq_true, if_false]
    refine wpAny_bind (wpAny_newTextTuple ?_)
    refine wpAny_bind (wpAny_functionCode_hit hcode ((C.keeps fun b o e => Heap.get?_push_of_some _ e).code (Heap.get?_push_of_some _ hP) ht) hf ?_)
    refine wpAny_bind (wpAny_builtinsFor (hg.push _) hbm hne0 (Heap.get?_push_of_some _ hbo) hcls hdict hdata ?_)
    refine wpAny_bind (wpAny_nsGet (hg.push _) ?_)
    have hsz : ∀ oT : Obj, s.heap.objs.size ≤ (s.heap.push oT).objs.size := fun oT => by rw [Heap.size_push]; omega
    exact wpAny_bind (wpAny_pure (wpAny_newObj_type (h _ _ s.toks (fun b o e => Heap.get?_push_of_some _ e) (hsz _)) (by size_fits)))
end
end Mi

end
section
set_option Elab.async false
set_option autoImplicit false
set_option linter.all false
set_option maxRecDepth 100000
set_option maxHeartbeats 1000000
/-! Mi, 34: a lambda made, its default. -/
namespace Mi
open PySem PySem.Spec PySem.Calls PyProof.Rows L2 LamX

/-- what stands for the defaults: nothing, or one int -/
def DflOk (X : Cx) (nm : Option (Str × Int)) (dfl : Value) (s : Shared) (H : Hp) : Prop :=
  match nm with
  | none => dfl = .none
  | some p => ∃ d t, dfl = .ref d ∧ s.heap.get? d = some { cls := .type "tuple", data := .seq #[Value.int p.2 t] } ∧ H d = none ∧ d ∉ frs X.stack
/-- the parameters of such a lambda -/
def ParOk (nm : Option (Str × Int)) (params : Arguments) : Prop :=
  match nm with
  | none => params = ⟨[], [], none, [], [], none, []⟩
  | some p => ∃ an ps k po, params = ⟨[], [⟨p.1, an, ps⟩], none, [], [], none, [.Constant (.int p.2) k po]⟩
section
variable {X : Cx} {pins : List (Addr × Obj)} {σ : L2.St} {H : Hp} {s : Shared}
theorem bind_lam {prog : Program} {w : World} {A : Around} {nm : Option (Str × Int)} {dfl : Value} {name qual : Str} {params : Arguments} {body : Expr} {scope : Scope} {cl : List (Str × Addr)} {pm cv ct : Value} {E : Value → Shared → Prop} {Q : List (Str × Value) → Shared → Prop} (hp : ParOk nm params) (hd : DflOk X nm dfl s H)
    (h : ∀ bs, (match nm with | none => bs = [] | some p => ∃ t, bs = [(p.1, Value.int p.2 t)]) → Q bs s) : wpAny (model prog w) A (bindArgs (lfn dfl name qual params body scope cl pm cv ct) ⟨[], []⟩) Q E s := by
  cases nm with
  | none =>
    have hp : params = ⟨[], [], none, [], [], none, []⟩ := hp
    have hd : dfl = .none := hd
    subst hp hd
    have e : bindArgs (lfn .none name qual ⟨[], [], none, [], [], none, []⟩ body scope cl pm cv ct) ⟨[], []⟩ = (do let _ ← seqItems? Value.none; pure []) := by
      unfold bindArgs
      rfl
    rw [e]
    exact wpAny_bind (m := seqItems? Value.none) (wpAny_pure (wpAny_pure (h [] rfl)))
  | some p =>
    obtain ⟨an, ps, k, po, hp⟩ := hp
    obtain ⟨d, t, hd, ho, _⟩ := hd
    subst hp hd
    unfold bindArgs
    dsimp only
    simp only [List.map_nil, List.map_cons, List.nil_append, List.length_nil, List.length_cons, List.zip_nil_right, List.forIn_nil, pure_bind]
    refine wpAny_bind ?_
    unfold seqItems?
    dsimp only
    refine wpAny_bind (wpAny_load ho ?_)
    refine wpAny_pure ?_
    have e1 : (List.lookup p.1 ([] : List (Str × Value))) = none := rfl
    have e2 : (p.1 == p.1) = true := beq_self_eq_true _
    simp only [Option.getD_some, List.length_cons, List.length_nil, Nat.zero_add, Nat.sub_self, List.drop_zero, List.take_zero, List.filter_nil, List.isEmpty_nil, Bool.not_true, Bool.false_eq_true, if_false, decide_false, Bool.false_and, gt_iff_lt, Nat.not_lt_zero, List.zip_cons_cons, List.zip_nil_right, List.forIn_cons, List.forIn_nil, pure_bind, e1, Option.isNone_none, if_true, List.nil_append, List.append_nil, List.filterMap_cons, List.filterMap_nil, List.lookup_cons, e2, Option.map_some]
    exact wpAny_pure (h _ ⟨t, rfl⟩)
theorem lam_evalD {nm : Option (Str × Int)} {params : Arguments} {body : Expr} {scope : Scope} {pos : Pos} {E : Value → Shared → Prop} {Q : Value → Shared → Prop} (I : Inv X pins σ H s) (hp : ParOk nm params)
    (h : ∀ dfl s0, Inv X pins σ H s0 → s.heap.objs.size ≤ s0.heap.objs.size → (∀ b o, s.heap.get? b = some o → s0.heap.get? b = some o) → DflOk X nm dfl s0 H → wpAny (model X.prog X.w) X.A (makeTail "<lambda>" (X.env.qual ++ "<lambda>") params (.expr body) scope X.env dfl .none none pos pos.line) Q E s0) :
    wpAny (model X.prog X.w) X.A (eval (.Lambda params body scope pos) X.env) Q E s := by
  cases nm with
  | none =>
    have hp : params = ⟨[], [], none, [], [], none, []⟩ := hp
    subst hp
    refine PySem.W.kla_eval rfl ?_
    rw [makeFunction_eq]
    simp only [List.zip_nil_right, List.filterMap_nil, List.isEmpty_nil, if_true, pure_bind]
    exact h .none s I (Nat.le_refl _) (fun _ _ e => e) rfl
  | some p =>
    obtain ⟨an, ps, k, po, hp⟩ := hp
    subst hp
    rw [arm_eval_Lambda]
    show wpAny (model X.prog X.w) X.A (do let dv ← evalAll [eval (.Constant (.int p.2) k po) X.env]; let kdv ← holding dv (evalAllOpt []); makeFunction "<lambda>" (X.env.qual ++ "<lambda>") ⟨[], [⟨p.1, an, ps⟩], none, [], [], none, [.Constant (.int p.2) k po]⟩ (.expr body) scope X.env dv kdv [] pos pos.line) Q E s
    refine wpAny_bind ?_
    unfold evalAll
    refine wpAny_bind (wpAny_Constant_int (wpAny_bind (wpAny_holding ?_)))
    unfold evalAll
    refine wpAny_pure (wpAny_pure ?_)
    refine wpAny_bind (wpAny_holding (wpAny_pure ?_))
    rw [makeFunction_eq]
    simp only [List.zip_nil_right, List.filterMap_nil, List.isEmpty_nil, List.isEmpty_cons, Bool.false_eq_true, if_false, if_true, pure_bind]
    refine wpAny_bind (wpAny_newTextTuple ?_)
    have I1 : Inv X pins σ H { s with heap := s.heap.push { cls := .type "tuple", data := .seq #[Value.int p.2 s.toks] }, toks := s.toks + 1 } := I.kept fun b o e => Heap.get?_push_of_some _ e
    refine h _ _ I1 (by rw [Heap.size_push]; exact Nat.le_succ _) (fun b o e => Heap.get?_push_of_some _ e) ⟨s.heap.objs.size, s.toks, rfl, Heap.get?_push_size _ rfl, I.hok.fresh (Nat.le_refl _), fun z => ?_⟩
    rcases List.mem_cons.mp (I.stkSub _ z) with e | e
    · have h1 := I.lt
      rw [← e] at h1
      exact Nat.lt_irrefl _ h1
    · exact I.nofs (Nat.le_refl _) e
theorem DflOk.to {nm : Option (Str × Int)} {dfl : Value} {s' : Shared} {H' : Hp} (h : DflOk X nm dfl s H) (k : ∀ d t, s.heap.get? d = some { cls := .type "tuple", data := .seq #[Value.int (nm.map (·.2) |>.getD 0) t] } → H d = none → d ∉ frs X.stack → s'.heap.get? d = some { cls := .type "tuple", data := .seq #[Value.int (nm.map (·.2) |>.getD 0) t] } ∧ H' d = none) : DflOk X nm dfl s' H' := by
  cases nm with
  | none => exact h
  | some p =>
    obtain ⟨d, t, h1, h2, h3, h4⟩ := h
    obtain ⟨k1, k2⟩ := k d t h2 h3 h4
    exact ⟨d, t, h1, k1, k2, h4⟩
/-- all but the tables stay, no new tuple -/
structure ExtT (H H1 : Hp) : Prop where
  ext : ExtN H H1
  tp : ∀ a xs, H1 a = some (.tup xs) → H a = some (.tup xs)
  lv : ∀ a, H a ≠ none → H1 a ≠ none
theorem lam_make {T : List (Addr × Str)} {c P : Addr} {nm : Option (Str × Int)} {params : Arguments} {body : Expr} {scope : Scope} {pos : Pos} {E : Value → Shared → Prop} {Q : Value → Shared → Prop} (I0 : Inv X pins σ H s) (TB : LamX.TabB X.base X.mg c P) (hcode : X.env.code = .ref c)
    (hm : (P, X.env.qual ++ "<lambda>") ∈ T) (hu : ∀ p ∈ T, p.1 = P → p.2 = X.env.qual ++ "<lambda>") (hT : Tabs T H) (hp : ParOk nm params) (hfree : ∀ y ∈ scope.names, y.2 = .free → ∃ c, X.env.cells.lookup y.1 = some c)
    (h : ∀ (f c' : Addr) (dfl pm ctv : Value) (H1 : Hp) (s' : Shared), Inv X pins σ H1 s' → ExtT H H1 → Tabs T H1 →
      s'.heap.get? f = some (lobj dfl "<lambda>" (X.env.qual ++ "<lambda>") params body scope (cloFrom X.env.cells scope.names []) pm c' ctv) → H1 f = none → f ∉ frs X.stack → H1 c' = some (CodeO c' (X.env.qual ++ "<lambda>")) → DflOk X nm dfl s' H1 → Q (.ref f) s') :
    wpAny (model X.prog X.w) X.A (eval (.Lambda params body scope pos) X.env) Q E s := by
  obtain ⟨ps, hP, ht, ha⟩ := hT _ hm
  refine lam_evalD I0 hp fun dfl s I hsz0 hk0 hdf => ?_
  have bP : s.heap.BuiltinsAt X.mg P := TB.bm.keeps I.bk
  have hP' : s.heap.get? P = some { cls := .none, data := .fields ps } := I.hok P _ hP
  have nofr : ∀ f, s.heap.objs.size ≤ f → f ∉ frs X.stack := fun f hf z => by
    rcases List.mem_cons.mp (I.stkSub _ z) with e | e
    · have h1 := I.lt
      rw [← e] at h1
      exact Nat.lt_irrefl _ (Nat.lt_of_lt_of_le h1 hf)
    · exact I.nofs hf e
  cases hc : codeAmong pos ps.toList with
  | none =>
    refine lam_tail (mg := X.mg) (c := c) (P := P) (ps := ps) (closure_ok hfree) I.ok.glob (I.mod.glob.keeps I.bk) hcode (TB.code.keeps I.bk) hP' ht hc TB.gP bP fun c' ctv h' tk hx hge hlt hrec htb => ?_
    obtain ⟨c2, oc, vs, t, e2, hoc, hd, hv⟩ := hrec
    cases e2
    have hsz : s.heap.objs.size ≤ h'.objs.size := Nat.le_trans hge (Nat.le_of_lt hlt)
    have nC : H c' = none := I.hok.fresh hge
    have I1 := inv_table (t' := tk) (more := #[rawInt pos.line, rawInt pos.col, .ref c']) (h' := h'.push (lobj dfl "<lambda>" (X.env.qual ++ "<lambda>") params body scope (cloFrom X.env.cells scope.names []) ((X.mg "__name__").getD .none) c' ctv)) I hP
      (fun b o hb e => Heap.get?_push_of_some _ (hx b o hb e)) (Heap.get?_push_of_some _ htb) hge ⟨oc, vs, t, Heap.get?_push_of_some _ hoc, hd, hv⟩
    have hE : ExtN H (upd (upd H P (.tbl (ps ++ #[rawInt pos.line, rawInt pos.col, .ref c']))) c' (CodeO c' (X.env.qual ++ "<lambda>"))) := fun b o e n => by
      rw [upd_ne (ne_of_none e nC), upd_ne (fun z => n ps (Option.some.inj (e.symm.trans (by rw [z]; exact hP))))]
      exact e
    have eL : (ps ++ #[rawInt pos.line, rawInt pos.col, .ref c']).toList = ps.toList ++ [rawInt pos.line, rawInt pos.col, .ref c'] := by simp
    refine h h'.objs.size c' dfl ((X.mg "__name__").getD .none) ctv _ _ I1 ⟨hE, fun a xs q => ?_, fun a q => ?_⟩ (fun p hp => ?_) (Heap.get?_push_size _ rfl) ?_ (nofr _ hsz) upd_same (hdf.to fun d t e n _ => ?_)
    · by_cases h1 : a = c'
      · subst h1; rw [upd_same] at q; exact absurd (Option.some.inj q) (by unfold CodeO; intro z; cases z)
      · rw [upd_ne h1] at q
        by_cases h2 : a = P
        · subst h2; rw [upd_same] at q; cases q
        · rw [upd_ne h2] at q; exact q
    · by_cases h1 : a = c'
      · subst h1; rw [upd_same]; simp
      · rw [upd_ne h1]
        by_cases h2 : a = P
        · subst h2; rw [upd_same]; simp
        · rw [upd_ne h2]; exact q
    · by_cases hb : p.1 = P
      · rw [hu p hp hb, hb]
        refine ⟨_, by rw [upd_ne (ne_of_none hP nC), upd_same], by rw [eL]; exact PySem.TriplesOk_snoc _ _ _ _ ht, fun p' cv hcv => ?_⟩
        rw [eL] at hcv
        rcases among_app _ ht hcv with z | z
        · obtain ⟨c0, e1, e2⟩ := ha p' cv z
          exact ⟨c0, e1, hE _ _ e2 codeO_ne⟩
        · exact ⟨c', z, upd_same⟩
      · obtain ⟨ps', a1, a2, a3⟩ := hT p hp
        refine ⟨ps', by rw [upd_ne (ne_of_none a1 nC), upd_ne hb]; exact a1, a2, fun p' cv hcv => ?_⟩
        obtain ⟨c0, e1, e2⟩ := a3 p' cv hcv
        exact ⟨c0, e1, hE _ _ e2 codeO_ne⟩
    · have n1 : h'.objs.size ≠ c' := Nat.ne_of_gt hlt
      have n2 : h'.objs.size ≠ P := Nat.ne_of_gt (Nat.lt_of_lt_of_le (Heap.lt_size hP') hsz)
      rw [upd_ne n1, upd_ne n2]
      exact I.hok.fresh hsz
    · have nP : d ≠ P := fun z => by rw [z, hP'] at e; cases e
      have nc : d ≠ c' := Nat.ne_of_lt (Nat.lt_of_lt_of_le (Heap.lt_size e) hge)
      exact ⟨Heap.get?_push_of_some _ (hx d _ nP e), by rw [upd_ne nc, upd_ne nP]; exact n⟩
  | some cv =>
    obtain ⟨c', e, hco⟩ := ha pos cv hc
    subst e
    refine lam_tailHit (mg := X.mg) (c := c) (P := P) (ps := ps) (closure_ok hfree) I.ok.glob (I.mod.glob.keeps I.bk) hcode (TB.code.keeps I.bk) hP' ht hc bP fun ctv h' tk hx hsz => ?_
    have I1 : Inv X pins σ H { s with heap := h'.push (lobj dfl "<lambda>" (X.env.qual ++ "<lambda>") params body scope (cloFrom X.env.cells scope.names []) ((X.mg "__name__").getD .none) c' ctv), toks := tk } := I.kept fun b o e => Heap.get?_push_of_some _ (hx b o e)
    exact h h'.objs.size c' dfl ((X.mg "__name__").getD .none) ctv H _ I1 ⟨ExtN.refl H, fun _ _ h => h, fun _ h => h⟩ hT (Heap.get?_push_size _ rfl) (I.hok.fresh hsz) (nofr _ hsz) hco (hdf.to fun d t e n _ => ⟨Heap.get?_push_of_some _ (hx d _ e), n⟩)
end
end Mi

end
section
set_option Elab.async false
set_option autoImplicit false
set_option linter.all false
set_option maxRecDepth 100000
set_option maxHeartbeats 1000000
/-! Mi, 35: a lambda called. -/
namespace Mi
open PySem PySem.Spec PySem.Calls PyProof.Rows L2 LamX
/-- names captured, globals, and a parameter with a default that the maker does not know -/
structure LamD (sc scope : Scope) (N : List Str) (sl : List Nat) : Prop where
  kind : scope.kind = .function
  co : scope.isCoroutine = false
  gen : scope.isGenerator = false
  own : ∀ y ∈ scope.names, y.2 ≠ .cell ∧ (y.2 = .local → ∀ i, N[i]? = some y.1 → i ∈ sl)
  free : ∀ y ∈ scope.names, y.2 = .free → sc.names.lookup y.1 = some .cell ∨ sc.names.lookup y.1 = some .free
def lamDB (sc scope : Scope) (N : List Str) (sl : List Nat) : Bool :=
  decide (scope.kind = .function) && !scope.isCoroutine && !scope.isGenerator && scope.names.all fun y => !decide (y.2 = .cell) && (!decide (y.2 = .local) || (List.range N.length).all fun i => !decide (N[i]? = some y.1) || decide (i ∈ sl)) && (!decide (y.2 = .free) || decide (sc.names.lookup y.1 = some .cell) || decide (sc.names.lookup y.1 = some .free))
theorem lamD_by {sc scope : Scope} {N : List Str} {sl : List Nat} (h : lamDB sc scope N sl = true) : LamD sc scope N sl := by
  unfold lamDB at h
  simp only [Bool.and_eq_true, Bool.or_eq_true, Bool.not_eq_true', decide_eq_true_eq, decide_eq_false_iff_not, List.all_eq_true] at h
  obtain ⟨⟨⟨h1, h2⟩, h3⟩, h4⟩ := h
  refine ⟨h1, h2, h3, fun y hy => ⟨(h4 y hy).1.1, fun e => ?_⟩, fun y hy e => ?_⟩
  · rcases (h4 y hy).1.2 with z | z
    · exact absurd e z
    · intro i hi
      exact (z i (List.mem_range.mpr (List.getElem?_eq_some_iff.mp hi).1)).resolve_left fun n => n hi
  · rcases (h4 y hy).2 with (z | z) | z
    · exact absurd e z
    · exact .inl z
    · exact .inr z
theorem LamD.has {X : Cx} {scope : Scope} {sl : List Nat} (L : LamD X.env.scope scope X.N sl) (ok : X.Ok) : ∀ y ∈ scope.names, y.2 = .free → ∃ c, X.env.cells.lookup y.1 = some c := fun y hy e => by
  rcases L.free y hy e with k | k
  · exact ok.has _ (.inl k)
  · exact ok.has _ (.inr k)
/-- the context of the lambda's body, entered at s from the frames outer -/
def lamCxN (X : Cx) (A : Around) (outer : List PySem.Env) (s : Shared) (H : Hp) (E : XK) (scope : Scope) (f c' : Addr) : Cx where
  prog := X.prog
  w := X.w
  K := X.K
  mg := X.mg
  base := X.base
  A := A.deeper (lamEnv X scope s.heap.objs.size f c')
  N := X.N
  s_0 := s
  H_0 := H
  env := lamEnv X scope s.heap.objs.size f c'
  outer := outer
  stack := lamEnv X scope s.heap.objs.size f c' :: outer
  ex := []
  fn := fun _ => false
  calm := true
  pn := []
  xe := fun e s' => wpAny (model X.prog X.w) (A.deeper (lamEnv X scope s.heap.objs.size f c')) (leaving (lamEnv X scope s.heap.objs.size f c') e) (fun _ s'' => L2N.CX X.prog X.w outer H s E e s'') (fun e' s'' => L2N.CX X.prog X.w outer H s E e' s'') s'
section
variable {X : Cx} {pins : List (Addr × Obj)} {σ : L2.St} {H HZ : Hp} {s s1 : Shared} {sl : List Nat}
theorem lam_start {A : Around} {outer : List PySem.Env} {E : XK} {scope : Scope} {f c' : Addr} {h₁ : Heap} {tk : Nat} (I : Inv X pins σ H s) {bs : List (Str × Value)} (L : LamD X.env.scope scope X.N sl) (e0 : Env0 X.prog X.w X.K X.mg X.base A outer s1 HZ) (hd : A.handled = none)
    (un : Un (frs X.stack) [] H HZ s.heap s1.heap) (hns : h₁.Ns s1.heap.objs.size fun y => bs.reverse.lookup y) (kp : ∀ b o, s1.heap.get? b = some o → h₁.get? b = some o) :
    Inv (lamCxN X A outer s1 HZ E scope f c') [] (wipe σ sl) HZ { s1 with heap := h₁, toks := tk } := by
  have hfree := L.has I.ok
  have cm : ∀ {y c}, (cloFrom X.env.cells scope.names []).lookup y = some c → X.env.cells.lookup y = some c := fun {y c} e => by
    rcases cloFrom_mem (PySem.mem_of_lookup e) with hm | ⟨h1, h2⟩
    · cases hm
    · obtain ⟨c1, hc⟩ := hfree _ h1 rfl
      have hc : X.env.cells.lookup y = some c1 := hc
      have e2 : c = c1 := by
        rw [h2, hc] <;> rfl
      rw [e2]
      exact hc
  have look : ∀ {y}, scope.names.lookup y = some .free → ∃ c, (cloFrom X.env.cells scope.names []).lookup y = some c := fun {y} hl => by
    have hy : (y, NameKind.free) ∈ scope.names := PySem.mem_of_lookup hl
    exact mem_lookup (cloFrom_has (cells := X.env.cells) (acc := []) hy)
  have cellK : ∀ {c : Addr} {v : Option Value}, H c = none → s.heap.IsCell c v → h₁.IsCell c v := fun {c v} n ⟨o, ho, hd⟩ => by
    obtain ⟨sl, q⟩ := un.any ho n (by simp)
    exact ⟨_, kp _ _ q, hd⟩
  have noA : ∀ b : Addr, b ∉ (lamCxN X A outer s1 HZ E scope f c').ex := fun b z => absurd (show b ∈ ([] : List Addr) from z) (by simp)
  refine ⟨⟨e0.mod, L.kind, rfl, rfl, Nat.le_refl _, fun y z c e1 e2 => I.ok.inj y z c (cm e1) (cm e2), fun y hy => ?_, fun y c z _ => ?_, fun _ => hd, Around.frames_deeper e0.frames, .inr ⟨rfl, rfl⟩, fun b z => absurd z (noA b), e0.bs, e0.bsz, fun b _ _ => noA b,
      fun b z => absurd z (noA b), e0.funs, e0.frf⟩,
    rfl, e0.bare, Un.kept kp, ⟨_, hns, fun i y v e1 e2 e3 => ?_⟩, fun y c e => ?_, e0.hok.fresh (Nat.le_refl _), fun y c e => ?_, fun q hq => absurd (show q ∈ ([] : List (Addr × Obj)) ++ [] from hq) (by simp), e0.hok.kept kp, (wipe_length _ _).trans I.len⟩
  · have hy : scope.names.lookup y = some .cell ∨ scope.names.lookup y = some .free := hy
    rcases hy with hy | hy
    · exact absurd rfl (L.own _ (PySem.mem_of_lookup hy)).1
    · exact look hy
  · have z : false = true := z
    cases z
  · have e3 : Vis scope y := e3
    rcases e3 with k | k | k
    · exact absurd ((L.own _ (PySem.mem_of_lookup k)).2 rfl i e1) (wipe_some e2).2
    · exact absurd rfl (L.own _ (PySem.mem_of_lookup k)).1
    · obtain ⟨m, hn, hl⟩ := I.loc
      have hvis : Vis X.env.scope y := (L.free _ (PySem.mem_of_lookup k) rfl).elim (fun k => .inr (.inl k)) (fun k => .inr (.inr k))
      obtain ⟨w', r, q⟩ := hl i y v e1 (wipe_some e2).1 hvis
      obtain ⟨c2, h2⟩ := look k
      refine ⟨w', r, .inr ⟨.inr k, c2, h2, ?_⟩⟩
      have c1 := cm h2
      rcases q with ⟨k', _⟩ | ⟨_, c3, e', z⟩
      · have k' : X.env.scope.names.lookup y = some .local := k'
        rcases L.free _ (PySem.mem_of_lookup k) rfl with k2 | k2 <;> rw [show X.env.scope.names.lookup y = _ from k2] at k' <;> cases k'
      · rw [c1] at e'
        cases e'
        exact cellK (I.freeC y _ c1) z
  · obtain ⟨w', z⟩ := I.cell y c (cm e)
    exact ⟨w', cellK (I.freeC y c (cm e)) z⟩
  · obtain ⟨v, o, ho, hd⟩ := I.cell y c (cm e)
    exact un.free c o ho (I.freeC y c (cm e)) (by simp)
theorem pe_actD {CXg : CXT} {nm : Option (Str × Int)} {dfl : Value} {Eg : XK} {Ng : List Str} {qg : Str} {sg : Scope} {g f c' : Addr} {cdg pm ctv : Value} {params : Arguments} {body : Expr} {scope : Scope} {k i : Nat} {a : Str} {pn : List (Addr × Obj)} {xe : Value → Shared → Prop} {W : WX} {E : XK} {tb : TE} {p1 p2 : Pos}
    (I : Inv X pins σ H s) (L : LamD X.env.scope scope X.N sl) (hnl : ∀ p, nm = some p → scope.names.lookup p.1 = some .local) (hf : s.heap.get? f = some (lobj dfl "<lambda>" (X.env.qual ++ "<lambda>") params body scope (cloFrom X.env.cells scope.names []) pm c' ctv)) (hfn : H f = none) (hfr : f ∉ frs X.stack)
    (hp : ParOk nm params) (hdf : DflOk X nm dfl s H)
    (tk : L2N.Takes ((cxOf CXg X.prog X.w X.K X.mg X.base Ng qg sg g cdg X.A X.stack s H Eg).tr pn xe) W) (hr : RoomG (k + 1) (X.A.deeper (envOfC qg sg s.heap.objs.size g cdg)))
    (hbody : ∀ (A : Around) (outer : List PySem.Env) (s : Shared) (H : Hp), RoomG k (A.deeper (lamEnv X scope s.heap.objs.size f c')) → PE (lamCxN X A outer s H E scope f c') body tb)
    (hN : Ng[i]? = some a) (hv : Vis sg a) (hd : (a == ("__debug__" : Str)) = false := by decide) (hcd : (a == ("__classdict__" : Str)) = false := by decide) :
    PE ((cxOf CXg X.prog X.w X.K X.mg X.base Ng qg sg g cdg X.A X.stack s H Eg).tr pn xe) (.Call (.Name a p1) [] [] p2)
      (fun σZ HZ Q => σZ[i]? = some (some (.ref f)) ∧ HZ c' = some (CodeO c' (X.env.qual ++ "<lambda>")) ∧ (∀ cls d H', E cls d H' → W cls d σZ H') ∧ tb (wipe σ sl) HZ Q) := by
  refine ⟨fun pinsZ sZ σZ HZ Q IZ h => ?_⟩
  obtain ⟨hs, hc, hW, ht⟩ := h
  refine wpAny_Call_Name_kw (thn ((pe_var (pos := p1) (i := i) hN hv hd hcd).run pinsZ sZ σZ HZ (fun v H1 => v = .ref f ∧ H1 = HZ) IZ ⟨.ref f, hs, rfl, rfl⟩) fun u s1 ⟨v, H1, I1, r1, q1⟩ => ?_)
  obtain ⟨ev, eH⟩ := q1
  subst ev
  rw [eH] at I1
  obtain rfl : u = Value.ref f := r1
  have of1 : s1.heap.get? f = some (lobj dfl "<lambda>" (X.env.qual ++ "<lambda>") params body scope (cloFrom X.env.cells scope.names []) pm c' ctv) := I1.base.keep f _ hf hfn hfr (fun z => nomatch (show f ∈ ([] : List Addr) from z))
  refine PySem.W.callWith_F0 ⟨_, _, _, _, of1⟩ ?_
  have un : Un (frs X.stack) [] H HZ s.heap s1.heap := I1.base
  obtain ⟨⟨oc, vs, t, hoc, hdc, hvc⟩, _, _⟩ := I1.hok c' _ hc
  have rc : codeAny (model X.prog X.w) (X.A.deeper (envOfC qg sg s.heap.objs.size g cdg)) (.call (.ref f) ⟨[], []⟩) (CR (L2N.CX X.prog X.w) (envOfC qg sg s.heap.objs.size g cdg :: X.stack) X.prog X.w HZ s1 Q E) s1 := by
    refine PySem.W.kla_callFunE hr.1.depth of1 rfl L.co L.gen rfl ⟨c', oc, vs, t, rfl, hoc, hdc, hvc⟩ ?_
    refine bind_lam (s := s1) (H := HZ) hp (hdf.to fun d t e n nf => ⟨un.keep d _ e n nf (by simp), un.free d _ e n (by simp)⟩) fun bs hbs => ?_
    refine wpAny_newFunctionEnv (fun y hy => (L.own y hy).1) (fun y hy => ?_) (fun h₁ hns hsb => ⟨I1.nolimit.fresh _ hsb, ?_⟩) L.kind
    · cases nm with
      | none => rw [show bs = [] from hbs] at hy; simp at hy
      | some p =>
        obtain ⟨t, hb⟩ := hbs
        rw [hb] at hy
        rw [List.mem_singleton.mp hy]
        exact hnl p rfl
    show codeAny _ _ (.expr body (lamEnv X scope s1.heap.objs.size f c')) _ _
    have kp : ∀ b o, s1.heap.get? b = some o → h₁.get? b = some o := fun b o e => hsb.extBut b o (Nat.ne_of_lt (Heap.lt_size e)) (Heap.get?_push_of_some _ e)
    have J : Inv (lamCxN X (X.A.deeper (envOfC qg sg s.heap.objs.size g cdg)) (envOfC qg sg s.heap.objs.size g cdg :: X.stack) s1 HZ E scope f c') [] (wipe σ sl) HZ { s1 with heap := h₁, toks := s1.toks + bs.length } :=
      lam_start I L I1.env0 hr.1.hd un hns kp
    refine PySem.W.kla_codeExpr (wpAny_mono ((hbody _ _ s1 HZ (hr.deeper _)).run [] _ _ HZ Q J ht) (fun v s' hq => ?_) fun e s' hq => hq)
    obtain ⟨w', H', J', rv, q⟩ := hq
    exact ⟨w', H', J'.os, J'.bare, J'.base, J'.hok, rv, q⟩
  refine wpAny_call (codeAny_mono rc fun r s' hq => ?_)
  cases r with
  | error e => exact tk e s' (L2N.XE.of_call I1 hW hq)
  | ok fl =>
    cases fl with
    | ret u => exact I1.after hq
    | next => exact False.elim hq
    | brk => exact False.elim hq
    | cont => exact False.elim hq
end
end Mi

end
section
set_option Elab.async false
set_option autoImplicit false
set_option linter.all false
set_option maxRecDepth 100000
set_option maxHeartbeats 1000000
/-! Mi, 36: name = [..] on one line; the same while an exception is handled. -/
namespace Mi
open PySem PySem.Spec PyProof.Rows L2
section
variable {X : Cx}
theorem ps_setLcK {x1 : Addr} {oe : Obj} {i : Nat} {y : Str} {py : Pos} {elt tg iter : Expr} {ifs : List Expr} {scope : Scope} {own : List (Str × Nat)} {pos spos : Pos} {wi : TI} {g : TG} {tt : TT} {te : TE} (hc : X.A.handled = some (.ref x1)) (hcn : ∃ vs : Array Value, oe.data = .fields vs ∧ vs[2]? = some .none) (hpn : (x1, oe) ∈ X.pn) (hN : X.N.Nodup) (hy : X.N[i]? = some y) (hyl : X.env.scope.names.lookup y = some .local)
    (hsw : swapsWith (.ListComp elt [⟨tg, iter, ifs, 0⟩] scope pos) (some (.Name y py)) spos.line X.env = pure true) (hi : PIK X x1 tg iter wi) (ok : BlkOk X.N X.env.scope scope own)
    (hg : ∀ (s : Shared) (H : Hp) (C : Addr) (cl : List (Str × Addr)) (fp : List Addr), PG (X.blk s H scope (compEnvC scope cl C X.env) fp) tg g) (ht : ∀ (s : Shared) (H : Hp) (C : Addr) (cl : List (Str × Addr)) (fp : List Addr), PTs (X.blk s H scope (compEnvC scope cl C X.env) fp) ifs tt)
    (he : ∀ (s : Shared) (H : Hp) (C : Addr) (cl : List (Str × Addr)) (fp : List Addr), PE (X.blk s H scope (compEnvC scope cl C X.env) fp) elt te) (hs : ∀ x, foldedSetIterable iter X.env x = pure x := by intro _; rfl) :
    PS X (.Assign [.Name y py] (.ListComp elt [⟨tg, iter, ifs, 0⟩] scope pos) spos) (tAsg (tLc wi g tt te (own.map (·.2))) (gName i)) := by
  refine ⟨fun pins s σ H D I h => ?_⟩
  rw [exec_Assign_Name_used _ _ _ _ hsw]
  refine wpAny_bind (wpAny_standAt (wpAny_bind ?_))
  show wpAny _ X.A (do let _ ← comprehension (.ListComp elt [⟨tg, iter, ifs, 0⟩] scope pos) scope X.env (firstIterPos [⟨tg, iter, ifs, 0⟩] pos) (newList []) false (eval iter X.env) (some (assign (.Name y py) X.env))) _ _ s
  have h : tLc wi g tt te (own.map (·.2)) σ H (fun x H1 => gName i x σ H1 D.nx) := h
  refine wpAny_bind (thn (lc_hot (Qf := fun _ s' => SP X pins D .next s') hc hcn hpn hN I hi ok hg ht he hs h fun L C s' m H' I' q hn f => ?_) fun _ s' hq => wpAny_pure (wpAny_pure hq))
  show wpAny _ _ (assign (.Name y py) X.env (.ref L)) _ _ _
  refine wpAny_assign_Name (store_ok2 (v := V.ref L) I' hN hy (.inl hyl) rfl (fun s2 I2 ⟨a, sb, ha⟩ => ?_) (.inr hyl))
  obtain ⟨f0, f1, f2, f3, f4, f5⟩ := f
  have haC : C ≠ a := by
    rcases ha with z | z
    · rw [z]; exact f1
    · exact fun e => f4 y a z e.symm
  refine ⟨m, hn.sameBut sb haC, fun h3 sb3 => ?_⟩
  exact ⟨_, H', I2.turned (t' := s2.toks) (fun b o hb e => (sb3.2 b hb).trans e) f0 f1 f3 f4 f5, q⟩
end
section
variable {g : DX} {W : WX} {fx : List Nat} {X : Cx} {k : Nat} {tg iter elt c : Expr} {ifs : List Expr} {scope : Scope} {own : List (Str × Nat)} {pos spos : Pos} {mi : M (List D)} {f : BD} {mc : M Bool} {te : M T} {sl : List Nat} {t : TG}
/-- y = [..] on one line -/
theorem ds_setLc (i : Nat) {y : Str} {py : Pos} (hn : i ∉ fx) (O : Ok g k X) (hi : DI g W X tg iter mi) (ok : BlkOk X.N X.env.scope scope own) (hsl : ∀ i ∈ sl, i ∈ own.map (·.2))
    (hg : ∀ (s : Shared) (H : Hp) (C : Addr) (cl : List (Str × Addr)) (fp : List Addr), DG g sl (X.blk s H scope (compEnvC scope cl C X.env) fp) tg t f)
    (ht : ∀ (s : Shared) (H : Hp) (C : Addr) (cl : List (Str × Addr)) (fp : List Addr), DTs g (X.blk s H scope (compEnvC scope cl C X.env) fp) ifs mc)
    (he : ∀ (s : Shared) (H : Hp) (C : Addr) (cl : List (Str × Addr)) (fp : List Addr), DE g W0 (X.blk s H scope (compEnvC scope cl C X.env) fp) elt te)
    (hy : X.N[i]? = some y := by rfl) (hyl : X.env.scope.names.lookup y = some .local := by rfl) (hsw : swapsWith (.ListComp elt [⟨tg, iter, ifs, 0⟩] scope pos) (some (.Name y py)) spos.line X.env = pure true := by first | exact sw_true rfl rfl rfl rfl | rfl)
    (hs : ∀ x, foldedSetIterable iter X.env x = pure x := by intro _; rfl) : DS g W fx X (.Assign [.Name y py] (.ListComp elt [⟨tg, iter, ifs, 0⟩] scope pos) spos) (sbnd (lcM (own.map (·.2)) mi f mc te) (put i)) := by
  have pg := fun s H C cl fp => (hg s H C cl fp).1
  have kt : Tg g sl t f := (hg X.s_0 (fun _ => none) 0 [] []).2
  refine PSmono (ps_setLc O.calm O.nd hy hyl hsw hi ok pg ht he hs) fun D σ H ⟨ρ, F, B, E, p⟩ => ?_
  exact lc_read (W := W) hsl kt σ H _ (rdE.go E (p.sbnd.mono fun t ρ1 q v F1 H1 B1 C E1 o d s => PostS.put hn q E1 o d s))
theorem dv_lenP' (i : Nat) {x : Str} {p p2 : Pos} (hK : X.K = g.K) (nb : X.mg "len" = none) (hN : X.N[i]? = some x := by rfl) (hv : Vis X.env.scope x := by first | exact Or.inl rfl | exact Or.inr (Or.inl rfl) | exact Or.inr (Or.inr rfl)) (hd : (x == ("__debug__" : Str)) = false := by decide) (hcd : (x == ("__classdict__" : Str)) = false := by decide)
    (hg : Gl X "len" := by rfl) (hs : starEach [.Name x p2] X.env = (false, eval (.Name x p2) X.env) :: starEach [] X.env := by rfl) (hpl : (backTo pos (starEach [] X.env)).any (·.1) = false := by rfl) : DV g W X (.Call (.Name "len" p) [.Name x p2] [] pos) (mLen i) := by
  refine PEmono (pe_callB (hK ▸ call_len) hg nb (by decide +kernel) (pa_cons (pe_var hN hv hd hcd) pa_nil hs) (he := hs) (hpl := hpl)) fun σ H Q ⟨ρ, F, B, E, p⟩ => ?_
  unfold mLen at p
  cases h : ρ[i]? with
  | none => simp only [h] at p; exact p.elim
  | some t1 =>
    cases t1 with
    | un => simp only [h] at p; exact p.elim
    | dct _ _ => simp only [h] at p; exact p.elim
    | sh x =>
      simp only [h] at p
      obtain ⟨d, hd, q⟩ := PostV.opt p
      obtain ⟨v, hv, o⟩ := E.at_ i _ h (by simp)
      cases o with
      | sh r0 n =>
        obtain ⟨n, h1, rfl⟩ := lenV E.sub r0 hd
        exact ⟨v, hv, v, n, rfl, h1, q _ F H B E .int Step.refl⟩
    | lst ts =>
      simp only [h] at p
      obtain ⟨v, hv, o⟩ := E.at_ i _ h (by simp)
      obtain ⟨a, vs, Bk, rfl, hf, hh, hl, hk, hd, hn, hA⟩ := o.lstI
      exact ⟨_, hv, _, ts.length, rfl, .inl ⟨vs, SqL.of hh, hl.symm⟩, p _ F H B E .int Step.refl⟩
theorem dv_intc' {a : Expr} {es : List Expr} {m : M (List D)} {p : Pos} (nb : X.mg "int" = none) (ha : DA g W X (a :: es) m) (hg : Gl X "int" := by rfl) (he : starEach (a :: es) X.env = (false, eval a X.env) :: starEach es X.env := by rfl) (hpl : (backTo pos (starEach es X.env)).any (·.1) = false := by rfl) : DV g W X (.Call (.Name "int" p) (a :: es) [] pos) (opL (on1 fInt) m) :=
  dv_opL (OpL.of1 fun F H x dx d Q s rx e k => by
    cases rx <;> try cases e
    · exact .inr ⟨_, rfl, k _ _ _ (Laid.refl s) .int⟩
    · exact .inl ⟨_, rfl, k _ _ _ (Laid.refl s) .int⟩) ha fun ha => pe_callTy call_int1 hg nb (by decide +kernel) ha (he := he) (hpl := hpl)
end
end Mi

end
section
set_option Elab.async false
set_option autoImplicit false
set_option linter.all false
set_option maxRecDepth 100000
set_option maxHeartbeats 1000000
/-! Mi, 37: what a call tells: its value, or the kind of its refusal. -/
namespace Mi
open PySem PySem.Spec PyProof.Rows L2

/-- the five kinds of a refusal, as told -/
def flags : Exc → List Bool
  | .refused => [true, false, false, false, false]
  | .large => [false, true, false, false, false]
  | .missing => [false, false, true, false, false]
  | .form _ => [false, false, false, true, false]
  | .broken _ => [false, false, false, false, true]
def kindS : Exc → List Nat
  | .refused => [114, 101, 102, 117, 115, 101, 100]
  | .large => [108, 97, 114, 103, 101]
  | .missing => [109, 105, 115, 115, 105, 110, 103]
  | .form _ => [102, 111, 114, 109]
  | .broken _ => [98, 114, 111, 107, 101, 110]
/-- the classes, as a program has them -/
structure Kinds (g : DX) (mg : Str → Option Value) : Prop where
  te : ∃ T : Addr, mg "TermError" = some (.ref T) ∧ ∀ c : Exc, c.load = none → PySem.W.exmOne g.K (g.cl c) (.ref T) = some true
  cl : ∀ c : Exc, c.load = none → ∃ D : Addr, g.cl c = .ref D ∧ ExcC g.K D
  inj : ∀ c c' : Exc, c.load = none → c'.load = none → g.cl c = g.cl c' → c = c'
  is : ∀ (c : Exc) (D : Addr), c.load = none → g.cl c = .ref D → ∀ (i : Nat) (x : Str) (b : Bool), (["NotAllowed", "TooLarge", "Missing", "BadForm", "Broken"] : List Str)[i]? = some x → (flags c)[i]? = some b → ∃ C : Addr, mg x = some (.ref C) ∧ PySem.W.kitOne g.K (.ref D) (.ref C) = some b
def boolsT (bs : List Bool) : T := .lst (bs.map fun b => .sh (.bl b))

section
variable {g : DX} {W : WX} {X : Cx} {a : Addr} {oe : Obj} {pn : List (Addr × Obj)}
theorem PSs.false {ss : List Stmt} : PSs X ss (fun _ _ _ => False) := ⟨fun _ _ _ _ _ _ h => h.elim⟩
/-- isinstance(e, x), of the exception that is handled: slot i is e's -/
theorem pe_isE {i : Nat} {x : Str} {D C : Addr} {b : Bool} {p p2 p3 pos : Pos} (hK : X.K = g.K) (E : ExcC g.K D) (hz : Zc (.ref D) none oe) (hf : ∃ vs, oe.data = .fields vs) (hm : X.mg x = some (.ref C)) (hi : PySem.W.kitOne g.K (.ref D) (.ref C) = some b) (nb : X.mg "isinstance" = none)
    (hN : X.N[i]? = some "e" := by rfl) (hv : Vis X.env.scope "e" := by first | exact Or.inl rfl | exact Or.inr (Or.inl rfl) | exact Or.inr (Or.inr rfl)) (hg : Gl X "isinstance" := by rfl) (hgx : Gl X x := by rfl) (hdx : (x == ("__debug__" : Str)) = false := by decide)
    (he : starEach [.Name "e" p2, .Name x p3] X.env = (false, eval (.Name "e" p2) X.env) :: starEach [.Name x p3] X.env := by rfl) (he2 : starEach [.Name x p3] X.env = (false, eval (.Name x p3) X.env) :: starEach [] X.env := by rfl) (hpl : (backTo pos (starEach [.Name x p3] X.env)).any (·.1) = false := by rfl) :
    PE (X.suite a ((a, oe) :: pn)) (.Call (.Name "isinstance" p) [.Name "e" p2, .Name x p3] [] pos) (fun σ H Q => σ[i]? = some (some (.ref a)) ∧ Q (.bl b) H) := by
  refine PEmono (pe_callB (X := X.suite a ((a, oe) :: pn)) (call_isE (X := X) (a := a) (oe := oe) (pn := pn) (hK ▸ E) hz hf) hg nb (by decide +kernel) (pa_cons (pe_var hN hv (by decide) (by decide)) (pa_cons (pe_glob (v := .ref C) hgx hm rfl hdx) pa_nil he2) he) (he := he) (hpl := hpl)) fun σ H Q ⟨h1, h2⟩ => ?_
  exact ⟨.ref a, h1, .ref C, .ref C, b, rfl, fun u r => r, by rw [hK]; exact hi, h2⟩
end
section
variable {g : DX} {X : Cx} {a : Addr} {oe : Obj} {pn : List (Addr × Obj)} {S1 S2 S3 : Stmt} {c : Exc}
/-- what the suite that tells a refusal does -/
def SuiteOk (g : DX) (Xs : Cx) (ss : List Stmt) (a : Addr) (c : Exc) : Prop := ∃ t, PSs Xs ss t ∧ ∀ (D : Ends) (σ : L2.St) (H F : Hp), σ[1]? = some (some (.ref a)) → σ.length = 5 → Sub F H → LamX.Tabs g.Tb H →
  (∀ v F2 H2, Sub F2 H2 → LamX.Tabs g.Tb H2 → Rep g.K F2 v (.tup [.str (kindS c)]) → Step F H (fun _ => False) F2 H2 (fun _ => False) → D.rt v H2) → t D σ H
theorem envU {F H : Hp} {σ : L2.St} (s : Sub F H) (tb : LamX.Tabs g.Tb H) (hl : σ.length = 5) : EnvR g.K g.Tb F H σ [.un, .un, .un, .un, .un] (fun _ _ => False) := by
  refine ⟨s, by simp [hl], fun i t hi hu => ?_, fun _ _ _ h => h, fun _ _ _ h => h.elim, tb⟩
  match i with
  | 0 => cases hi; exact absurd rfl hu
  | 1 => cases hi; exact absurd rfl hu
  | 2 => cases hi; exact absurd rfl hu
  | 3 => cases hi; exact absurd rfl hu
  | 4 => cases hi; exact absurd rfl hu
  | (i + 5) => simp at hi
theorem allF : AllB (fun _ _ => False) = fun _ => False := funext fun a => propext ⟨fun ⟨_, h⟩ => h, False.elim⟩
theorem suite_ok {Xs : Cx} {m : SM} (h1 : PS Xs S1 (fun D σ H => σ[1]? = some (some (.ref a)) ∧ rdS g W0 [] (sbnd (pur (boolsT (flags c))) (put 2)) D σ H)) (h2 : DSs g W0 [] Xs [S2, S3] m)
    (hm : ∃ ρ', m [.un, .un, boolsT (flags c), .un, .un] = .rt (.sh (.tup [.str (kindS c)])) ρ') : SuiteOk g Xs [S1, S2, S3] a c := by
  refine ⟨_, pss_cons h1 h2, fun D σ H F he hl s tb h => ⟨he, _, F, fun _ _ => False, envU s tb hl, ?_⟩⟩
  intro σ' F1 H1 B1 E1 st1 _
  obtain ⟨ρ', hm⟩ := hm
  refine ⟨_, F1, B1, E1, ?_⟩
  have hm2 : m (([.un, .un, .un, .un, .un] : List T).set 2 (boolsT (flags c))) = .rt (.sh (.tup [.str (kindS c)])) ρ' := hm
  show PostS g W0 [] σ' F1 H1 (AllB B1) D (m (([.un, .un, .un, .un, .un] : List T).set 2 (boolsT (flags c))))
  rw [hm2]
  intro v σ2 F2 H2 B2 C E2 o d st2 _
  cases o with
  | sh r n =>
    rw [allF] at st1
    exact h v F2 H2 E2.sub E2.tabs r ((st1.trans st2).less fun _ h => h.elim)
/-- what becomes of the lambda's reading tl: ('told', v), or (kind,) -/
def TTd (g : DX) : (XK → Hp → VK → Prop) → Hp → VK → Prop := fun tl H Q =>
  tl (fun cls d H1 => ∃ c : Exc, c.load = none ∧ cls = g.cl c ∧ d = none ∧ ∃ F, Sub F H1 ∧ LamX.Tabs g.Tb H1 ∧ ∀ v F2 H2, Sub F2 H2 → LamX.Tabs g.Tb H2 → Rep g.K F2 v (.tup [.str (kindS c)]) → Step F H1 (fun _ => False) F2 H2 (fun _ => False) → Q v H2) H
    (fun v H1 => ([V.str "told", v] : List V).length ≤ sizeLine ∧ ∀ p, H1 p = none → Q (.ref p) (upd H1 p (.tup [.str "told", v])))
abbrev NTold : List Str := ["call", "e", "kinds", "names", "k"]
/-- the def that calls what it got: a calls it; TT: what it makes of the lambda's reading -/
def GivesN (X : Cx) (Ng : List Str) (x : Str) (sg : Scope) (gd : Addr) (cdg : Value) (bg : List Stmt) (a : Str) (q : Str) (TT : (XK → Hp → VK → Prop) → Hp → VK → Prop) : Prop :=
  ∀ (f c' : Addr) (s : Shared) (H : Hp) (Q : VK) (tl : XK → Hp → VK → Prop),
    (∀ (W : WX) (pn : List (Addr × Obj)) (xe : Value → Shared → Prop) (E : XK) (p1 p2 : Pos), L2N.Takes ((cxOf C8.CX0 X.prog X.w X.K X.mg X.base Ng x sg gd cdg X.A X.stack s H C8.E0).tr pn xe) W →
      PE ((cxOf C8.CX0 X.prog X.w X.K X.mg X.base Ng x sg gd cdg X.A X.stack s H C8.E0).tr pn xe) (.Call (.Name a p1) [] [] p2) (fun σZ HZ Q => σZ[0]? = some (some (.ref f)) ∧ HZ c' = some (LamX.CodeO c' q) ∧ (∀ cls d H', E cls d H' → W cls d σZ H') ∧ tl E HZ Q)) →
    H c' = some (LamX.CodeO c' q) → TT tl H Q →
    ∃ t, PSs (cxOf C8.CX0 X.prog X.w X.K X.mg X.base Ng x sg gd cdg X.A X.stack s H C8.E0).nox bg t ∧ t { nx := fun _ H' => Q .non H', rt := Q } (L2.start Ng [.ref f]) H
theorem takesN0 {X : Cx} : L2N.Takes X (fun _ _ _ _ => False) := fun _ _ x => by
  obtain ⟨_, _, _, _, _, _, _, _, _, _, _, _, _, _, _, _, z⟩ := x
  exact z.elim
theorem told_gives {sg : Scope} {gd : Addr} {cdg : Value} {q : Str} {j1 : Nat} {k4 : Nat} {p1 p2 p3 p4 p5 p6 p7 p8 : Pos} (hK : X.K = g.K) (Kd : Kinds g X.mg) (hte : List.lookup ("TermError" : Str) sg.names = some NameKind.globalImplicit) (hle : List.lookup ("e" : Str) sg.names = some NameKind.local)
    (hs : ∀ (f : Addr) (s : Shared) (H : Hp) (a : Addr) (oe : Obj) (pn : List (Addr × Obj)) (c : Exc) (D : Addr), c.load = none → g.cl c = .ref D → ExcC g.K D → L2N.Zn (.ref D) none oe → (∃ vs, oe.data = .fields vs) →
      SuiteOk g (Cx.suite (cxOf C8.CX0 X.prog X.w X.K X.mg X.base NTold "_law_told" sg gd cdg X.A X.stack s H C8.E0).nox a ((a, oe) :: pn)) [S1, S2, S3] a c) :
    GivesN X NTold "_law_told" sg gd cdg [.Try [.Return (some (.Tuple [.Constant (.str "told") j1 p1, .Call (.Name "call" p2) [] [] p3] k4 p4)) p5] [.ExceptHandler (some (.Name "TermError" p6)) (some "e") [S1, S2, S3] p7] [] [] p8] "call" q (TTd g) := by
  obtain ⟨T, hT, hex⟩ := Kd.te
  intro f c' s H Q tl act hc h
  have hgl : Gl (cxOf C8.CX0 X.prog X.w X.K X.mg X.base NTold "_law_told" sg gd cdg X.A X.stack s H C8.E0).nox "TermError" := hte
  -- the suite, whatever the exception
  have hsu : ∀ (a : Addr) (oe : Obj) (cls : Value) (d : Option Addr) (pn : List (Addr × Obj)), L2N.Zn cls d oe → (∃ vs, oe.data = .fields vs) →
      ∃ t, PSs (Cx.suite (cxOf C8.CX0 X.prog X.w X.K X.mg X.base NTold "_law_told" sg gd cdg X.A X.stack s H C8.E0).nox a ((a, oe) :: pn)) [S1, S2, S3] t ∧
        ∀ c : Exc, c.load = none → cls = g.cl c → d = none → ∀ (D : Ends) (σ : L2.St) (H F : Hp), σ[1]? = some (some (.ref a)) → σ.length = 5 → Sub F H → LamX.Tabs g.Tb H →
          (∀ v F2 H2, Sub F2 H2 → LamX.Tabs g.Tb H2 → Rep g.K F2 v (.tup [.str (kindS c)]) → Step F H (fun _ => False) F2 H2 (fun _ => False) → D.rt v H2) → t D σ H := fun a oe cls d pn hz hf => by
    by_cases hgood : ∃ c : Exc, c.load = none ∧ cls = g.cl c ∧ d = none
    · obtain ⟨c0, h1, h2, h3⟩ := hgood
      subst h2 h3
      obtain ⟨D, hD, eD⟩ := Kd.cl c0 h1
      obtain ⟨t, ht, hq⟩ := hs f s H a oe pn c0 D h1 hD eD (by rw [← hD]; exact hz) hf
      refine ⟨t, ht, fun c e1 e2 _ => ?_⟩
      have ec := Kd.inj c0 c h1 e1 e2
      subst ec
      exact hq
    · exact ⟨_, PSs.false, fun c h1 h2 h3 => absurd ⟨c, h1, h2, h3⟩ hgood⟩
  refine ⟨_, pss_one (L2N.ps_try_as (X := (cxOf C8.CX0 X.prog X.w X.K X.mg X.base NTold "_law_told" sg gd cdg X.A X.stack s H C8.E0).nox) (i := 1) (c := .ref T) (n := "e")
      (tb := fun W D σ H => ∃ Ech : XK, σ[0]? = some (some (.ref f)) ∧ H c' = some (LamX.CodeO c' q) ∧ (∀ cls d H', Ech cls d H' → W cls d σ H') ∧ tl Ech H (fun v H1 => ([V.str "told", v] : List V).length ≤ sizeLine ∧ ∀ p, H1 p = none → D.rt (.ref p) (upd H1 p (.tup [.str "told", v]))))
      (ts := fun a cls d D σ H => ∀ (oe : Obj) (pn : List (Addr × Obj)) (hz : L2N.Zn cls d oe) (hf : ∃ vs, oe.data = .fields vs), (hsu a oe cls d pn hz hf).choose D σ H)
      rfl rfl (show NTold.Nodup by decide) rfl ?_ ⟨hgl, by decide, .inl hT⟩ takesN0 (fun W pn xe tk _ => ?_) (fun a oe cls d pn hz hf => ?_)), ?_⟩
  · exact hle
  · refine ⟨fun pins s' σ H' D I h' => ?_⟩
    obtain ⟨Ech, h1, h2, hW, h3⟩ := h'
    have hp := act W pn xe Ech p2 p3 tk
    have hq : PSs _ [.Return (some (.Tuple [.Constant (.str "told") j1 p1, .Call (.Name "call" p2) [] [] p3] k4 p4)) p5] _ := pss_one (ps_ret (pos := p5) (pe_tup (pos := p4) (x1 := k4) (pa_cons (pe_str (pos := p1)) (pa_cons hp pa_nil))))
    exact hq.run pins s' σ H' D I ⟨h1, h2, hW, h3⟩
  · exact PSsmono (hsu a oe cls d pn hz hf).choose_spec.1 fun D σ H h => h oe pn hz hf
  · refine ⟨_, rfl, hc, fun cls d H' hE => ?_, h⟩
    obtain ⟨c, h1, h2, h3, F, sub, tb, hq⟩ := hE
    subst h2 h3
    refine ⟨true, by rw [hK]; exact hex c h1, fun _ a ha oe pn hz hf => ?_, fun e => by cases e⟩
    exact (hsu a oe (g.cl c) none pn hz hf).choose_spec.2 c h1 rfl rfl _ _ H' F rfl rfl sub tb hq
end
end Mi

end
section
set_option Elab.async false
set_option autoImplicit false
set_option linter.all false
set_option maxRecDepth 100000
set_option maxHeartbeats 1000000
/-! Mi, 38: told(lambda ..: e). -/
namespace Mi
open PySem PySem.Spec PyProof.Rows L2 LamX
def tLamN (sl : List Nat) (T : List (Addr × Str)) (TT : (XK → Hp → VK → Prop) → Hp → VK → Prop) (t : XK → TE) : TE := fun σ H Q => Tabs T H ∧ ∀ H1, ExtT H H1 → Tabs T H1 → TT (fun E H' Q' => t E (wipe σ sl) H' Q') H1 Q
section
variable {X : Cx}
theorem pe_toldN {sl : List Nat} {T : List (Addr × Str)} {TT : (XK → Hp → VK → Prop) → Hp → VK → Prop} {x a : Str} {gd c P : Addr} {k : Nat} {pg : Arguments} {bg : List Stmt} {sg : Scope} {dV kV doc pm cdv ct oc : Value} {an od : Option Addr} {osl : Array (Option Value)} {Ng : List Str}
    {nm : Option (Str × Int)} {params : Arguments} {body : Expr} {scope : Scope} {t : XK → TE} {p lpos pos : Pos} (hg : Gl X x) (hm : X.mg x = some (.ref gd)) (hk : PySem.W.keepIn X.K (.ref gd) = true)
    (lk : X.K.lookup gd = some ⟨oc, od, .func (PySem.W.fnOf x x pg bg sg dV kV doc pm an cdv ct), osl⟩) (hcg : PySem.W.codeIn X.K cdv x = true) (hb : L2.Binds X.K (PySem.W.fnOf x x pg bg sg dV kV doc pm an cdv ct) [a] []) (Sg : FnScope Ng [a] sg) (hNg : Ng[0]? = some a) (hva : Vis sg a)
    (hG : GivesN X Ng x sg gd cdv bg a (X.env.qual ++ "<lambda>") TT)
    (TB : TabB X.base X.mg c P) (hcode : X.env.code = .ref c) (hmT : (P, X.env.qual ++ "<lambda>") ∈ T) (hu : ∀ p ∈ T, p.1 = P → p.2 = X.env.qual ++ "<lambda>") (hr : RoomG (k + 2) X.A) (L : LamD X.env.scope scope X.N sl) (hnl : ∀ p, nm = some p → scope.names.lookup p.1 = some .local) (hp : ParOk nm params)
    (hbody : ∀ (A : Around) (outer : List PySem.Env) (s : Shared) (H : Hp) (E : XK) (f c' : Addr), RoomG k (A.deeper (lamEnv X scope s.heap.objs.size f c')) → PE (lamCxN X A outer s H E scope f c') body (t E))
    (hdb : (x == ("__debug__" : Str)) = false := by decide) (hd : (a == ("__debug__" : Str)) = false := by decide) (hcd : (a == ("__classdict__" : Str)) = false := by decide) :
    PE X (.Call (.Name x p) [.Lambda params body scope lpos] [] pos) (tLamN sl T TT t) := by
  refine ⟨fun pins s σ H Q I h => ?_⟩
  obtain ⟨hT, h⟩ := h
  refine wpAny_Call_Name_kw (ld_glob I hg hm ?_ hdb)
  refine PySem.W.callWith_K (h₀ := X.base) I.ok.mod.kin hk ?_ (by rfl) (by rfl)
  show wpAny _ _ (spliced ((false, eval (.Lambda params body scope lpos) X.env) :: backTo pos (starEach [] X.env))) _ _ s
  refine Calls.spliced_cons (lam_make I TB hcode hmT hu hT hp (L.has I.ok) fun f c' dfl pm' ctv H1 s' I1 eN T1 hf hfn hfr hco hdf => ?_)
  refine Calls.spliced_nil ⟨I1.kIn, ?_⟩
  have rc : codeAny (model X.prog X.w) X.A (.call (.ref gd) ⟨[.ref f], []⟩) (CR C8.CX0 X.stack X.prog X.w H1 s' Q C8.E0) s' := by
    refine run_ofS (N := Ng) (ps := [a]) (us := [.ref f]) (vs := [.ref f]) lk hcg Sg hr.1 I1.env0 (hb s' [.ref f] I1.kIn rfl) (.cons rfl .nil) rfl fun hr' => ?_
    obtain ⟨t', ht', hq'⟩ := hG f c' s' H1 Q (fun E H' Q' => t E (wipe σ sl) H' Q') (fun W pn xe E p1 p2 tk => pe_actD (i := 0) I1 L hnl hf hfn hfr hp hdf tk ⟨hr', hr.2⟩ (fun A outer s H hr2 => hbody A outer s H E f c' hr2) hNg hva hd hcd) hco (h H1 eN T1)
    exact ⟨t', ht'.nox, hq'⟩
  refine wpAny_call (codeAny_mono rc fun r s2 hq => ?_)
  cases r with
  | error e => exact (show False from hq).elim
  | ok fl =>
    cases fl with
    | ret u => exact I1.after hq
    | next => exact False.elim hq
    | brk => exact False.elim hq
    | cont => exact False.elim hq
end
def mTold (m : M T) : M D := fun ρ =>
  match m ρ with
  | .ok t ρ' => .ok (.tup [.str [116, 111, 108, 100], t.strip]) ρ'
  | .exc c ρ' => (match c.load with | none => .ok (.tup [.str (kindS c)]) ρ' | some _ => .bad)
  | .bad => .bad
theorem EnvR.extT {g : DX} {F H H1 : Hp} {σ : L2.St} {ρ : Env} {B : Nat → Addr → Prop} (E : EnvR g.K g.Tb F H σ ρ B) (e : ExtT H H1) (tb : Tabs g.Tb H1) : EnvR g.K g.Tb F H1 σ ρ B ∧ Step F H (AllB B) F H1 (AllB B) := by
  have keep : ∀ a u, H a = some u → (∀ ps, u ≠ .tbl ps) → H1 a = some u := fun a u h n => e.ext a u h n
  refine ⟨⟨⟨fun a u r => ?_, E.sub.nt, fun a h => e.lv a (E.sub.lv a h), fun a xs h => E.sub.tp a xs (e.tp a xs h)⟩, E.len, fun i t hi hu => ?_, E.no, E.dis, tb⟩, ⟨Ex.refl F, fun a u r n _ => ⟨u, keep a u r n, .refl u⟩, fun a u r n _ _ => keep a u r n, fun a h => .inl h, fun a h => .inl h, e.lv⟩⟩
  · obtain ⟨u', h1, l⟩ := E.sub.ex a u r
    refine ⟨u', keep a u' h1 fun ps z => ?_, l⟩
    subst z
    rcases l with z | ⟨_, o, z⟩
    · exact E.sub.nt a ps (by rw [r, z])
    · cases z
  · obtain ⟨v, hv, o⟩ := E.at_ i t hi hu
    refine ⟨v, hv, o.mono (Ex.refl F) fun a ha => ?_⟩
    obtain ⟨hf, u, hu, hk⟩ := o.fp a ha
    refine ⟨hf, ?_⟩
    rw [hu]
    refine keep a u hu fun ps z => ?_
    subst z
    rcases hk with ⟨_, q⟩ | ⟨_, q⟩ | ⟨_, q⟩ <;> cases q
theorem told_S : (V.str "told") = V.str (S [116, 111, 108, 100]) := by decide +kernel
def inLam (sl : List Nat) (m : M T) : M T := fun ρ => m (wipeE ρ sl)
theorem EnvR.unwipe {g : DX} {F H : Hp} {σ : L2.St} {ρ : Env} {B : Nat → Addr → Prop} {sl : List Nat} (E : EnvR g.K g.Tb F H (L2.wipe σ sl) ρ B) : EnvR g.K g.Tb F H σ ρ B :=
  ⟨E.sub, by rw [← E.len, wipe_length], fun i t hi hu => by
    obtain ⟨v, hv, o⟩ := E.at_ i t hi hu
    exact ⟨v, (wipe_some hv).1, o⟩, E.no, E.dis, E.tabs⟩
/-- what the reading of the lambda's body gives -/
theorem told_read {g : DX} {m : M T} {sl : List Nat} : ∀ σ H Q, rdV g (fun _ _ _ _ => False) (mTold (inLam sl m)) σ H Q → tLamN sl g.Tb (TTd g) (fun E => rdE g (fun cls d _ H => E cls d H) m) σ H Q := fun σ H Q ⟨ρ, F, B, E, p⟩ => by
  refine ⟨E.tabs, fun H1 ex tb => ?_⟩
  obtain ⟨E1, st⟩ := E.extT ex tb
  have E1 := E1.wipe sl
  have st := st.trans (Step.less (Step.refl : Step F H1 (AllB B) F H1 (AllB B)) (fun a (h : AllB (wipeB B sl) a) => (⟨h.choose, h.choose_spec.2⟩ : AllB B a)))
  refine ⟨wipeE ρ sl, F, wipeB B sl, E1, ?_⟩
  unfold mTold inLam at p
  cases hm : m (wipeE ρ sl) with
  | bad => rw [hm] at p; exact p.elim
  | ok t ρ' =>
    rw [hm] at p
    intro v F2 H2 B2 C E2 o d s2
    refine ⟨by rw [sizeLine_eq]; show (2 : Nat) ≤ _; decide, fun q hq => ?_⟩
    obtain ⟨F3, r, E3, s3⟩ := E2.freezeT o d
    rw [told_S]
    obtain ⟨l, rt⟩ := rep_newT (g := g) (vs := [.str (S [116, 111, 108, 100]), v]) (ds := [.str [116, 111, 108, 100], t.strip]) E3.sub hq rfl fun i w e h1 h2 => by
      match i with
      | 0 => cases h1; cases h2; exact .str (by decide)
      | 1 => cases h1; cases h2; exact r
      | (i + 2) => simp at h1
    exact p _ _ _ B2 (l.env E3.unwipe) rt (((st.trans s2).trans s3).trans l.step)
  | exc c ρ' =>
    rw [hm] at p
    cases hl : c.load with
    | some _ => simp only [hl] at p; exact p.elim
    | none =>
      simp only [hl] at p
      intro F2 H2 B2 E2 s2
      unfold Wx
      rw [hl]
      refine ⟨c, hl, rfl, rfl, F2, E2.sub, E2.tabs, fun v F3 H3 sub3 tb3 r s3 => ?_⟩
      obtain ⟨E3, _, s4⟩ := E2.call sub3 tb3 s3
      exact p v F3 H3 B2 E3.unwipe r ((st.trans s2).trans (s4.less fun a h => .inl h))
section
variable {X : Cx}
theorem DVw {g : DX} {W W' : WX} {e : Expr} {m : M D} (h : DV g W X e m) (hw : ∀ ρ c ρ', m ρ ≠ .exc c ρ') : DV g W' X e m := PEmono h fun σ H Q ⟨ρ, F, B, E, p⟩ => ⟨ρ, F, B, E, by
  cases q : m ρ with
  | ok d ρ' => rw [q] at p; exact p
  | exc c ρ' => exact absurd q (hw ρ c ρ')
  | bad => rw [q] at p; exact p⟩
theorem mTold_ne {m : M T} (ρ : Env) (c : Exc) (ρ' : Env) : mTold m ρ ≠ .exc c ρ' := by
  unfold mTold
  cases m ρ with
  | ok t ρ1 => simp
  | bad => simp
  | exc c1 ρ1 => cases hl : c1.load <;> simp [hl]
theorem dv_told {sl : List Nat} {g : DX} {W : WX} {gd c P : Addr} {k : Nat} {pg : Arguments} {bg : List Stmt} {sg : Scope} {dV kV doc pm cdv ct oc : Value} {an od : Option Addr} {osl : Array (Option Value)}
    {nm : Option (Str × Int)} {params : Arguments} {body : Expr} {scope : Scope} {m : M T} {p lpos pos : Pos} (hK : X.K = g.K) (hg : Gl X "_law_told") (hm : X.mg "_law_told" = some (.ref gd)) (hk : PySem.W.keepIn X.K (.ref gd) = true)
    (lk : X.K.lookup gd = some ⟨oc, od, .func (PySem.W.fnOf "_law_told" "_law_told" pg bg sg dV kV doc pm an cdv ct), osl⟩) (hcg : PySem.W.codeIn X.K cdv "_law_told" = true) (hb : L2.Binds X.K (PySem.W.fnOf "_law_told" "_law_told" pg bg sg dV kV doc pm an cdv ct) ["call"] []) (Sg : FnScope NTold ["call"] sg)
    (hG : GivesN X NTold "_law_told" sg gd cdv bg "call" (X.env.qual ++ "<lambda>") (TTd g))
    (TB : TabB X.base X.mg c P) (hcode : X.env.code = .ref c) (hmT : (P, X.env.qual ++ "<lambda>") ∈ g.Tb) (hu : ∀ p ∈ g.Tb, p.1 = P → p.2 = X.env.qual ++ "<lambda>") (hr : RoomG (k + 2) X.A) (L : LamD X.env.scope scope X.N sl) (hnl : ∀ p, nm = some p → scope.names.lookup p.1 = some .local) (hp : ParOk nm params)
    (hbody : ∀ (A : Around) (outer : List PySem.Env) (s : Shared) (H : Hp) (E : XK) (f c' : Addr), RoomG k (A.deeper (lamEnv X scope s.heap.objs.size f c')) → DE g (fun cls d _ H => E cls d H) (lamCxN X A outer s H E scope f c') body m) (hva : Vis sg "call" := by exact .inl rfl) :
    DV g W X (.Call (.Name "_law_told" p) [.Lambda params body scope lpos] [] pos) (mTold (inLam sl m)) :=
  DVw (PEmono (pe_toldN hg hm hk lk hcg hb Sg rfl hva hG TB hcode hmT hu hr L hnl hp hbody) told_read) mTold_ne
end
end Mi

end
section
set_option Elab.async false
set_option autoImplicit false
set_option linter.all false
set_option maxRecDepth 100000
set_option maxHeartbeats 1000000
/-! Mi, 39: a def that changes its first argument, by its body. -/
namespace Mi
open PySem L2
section
variable {g : DX} {P : Program} {w : World} {mg : Str → Option Value} {base : Heap} {x : Str} {st : Stmt} {N ps : List Str} {sc : Scope} {k : Nat} {sm : SM}
theorem env_startS {F H : Hp} {v0 : V} {t0 : T} {A0 : Addr → Prop} {vs : List V} {ds : List D} (s : Sub F H) (tb : LamX.Tabs g.Tb H) (o : Own g.K F H v0 t0 A0) (hl : vs.length = ds.length) (hr : ∀ (i : Nat) v d, vs[i]? = some v → ds[i]? = some d → Rep g.K F v d) :
    EnvR g.K g.Tb F H (L2.start N (v0 :: vs)) (startS N t0 ds) (fun i a => i = 0 ∧ A0 a) := by
  refine ⟨s, by simp [L2.start, startS, hl], fun i t hi hu => ?_, fun i hi a h => ?_, fun i j a h1 h2 => h1.1.trans h2.1.symm, tb⟩
  · unfold startS at hi
    unfold L2.start
    cases i with
    | zero =>
      cases hi
      exact ⟨v0, rfl, o.to fun a => ⟨fun h => ⟨rfl, h⟩, fun h => h.2⟩⟩
    | succ i =>
      by_cases z : i < ds.length
      · rw [List.getElem?_append_left (by simp; omega), List.getElem?_cons_succ, List.getElem?_map, List.getElem?_eq_getElem z] at hi
        cases hi
        refine ⟨vs[i]'(by omega), ?_, .sh (hr i _ _ (List.getElem?_eq_getElem (by omega)) (List.getElem?_eq_getElem z)) fun a h => by simp at h⟩
        rw [List.getElem?_append_left (by simp; omega), List.getElem?_map, List.getElem?_cons_succ, List.getElem?_eq_getElem (by omega)]
        rfl
      · rw [List.getElem?_append_right (by simp; omega), List.getElem?_replicate] at hi
        split at hi <;> cases hi
        exact absurd rfl hu
  · obtain ⟨rfl, ha⟩ := h
    unfold startS at hi
    rcases hi with hi | hi
    · simp at hi
    · simp at hi
      subst hi
      cases o
theorem defS_of (Tp : Top g mg x st ps) (nb : noBuiltin mg) (hsc : FnScope N ps sc) (hst : defScope st = sc)
    (body : ∀ (cd : Value) (f : Addr) (A : Around) (outer : List PySem.Env) (s : Shared) (H : Hp) (E : XK), Ok g k (cxOf (L2N.CX P w) P w g.K mg base N x sc f cd A outer s H E) → L2N.Takes (cxOf (L2N.CX P w) P w g.K mg base N x sc f cd A outer s H E) (fun cls d _ H => E cls d H) →
      DSs g (fun cls d _ H => E cls d H) [0] (cxOf (L2N.CX P w) P w g.K mg base N x sc f cd A outer s H E) (defBody st) sm)
    (m : T → List D → OutS) (hm : ∀ t ds, ds.length + 1 = ps.length → m t ds ≠ .bad → toOutS (sm (startS N t ds)) = m t ds) (n : Nat) (hn : ps.length = n + 1) : DefS g P w mg base (k + 1) x n m := by
  obtain ⟨f, fd, Fn, hmg, hb⟩ := Tp.ex
  subst hst
  refine ⟨f, fd, ps, fnG_of Fn hsc (fun vs H Q E h => h.1.trans hn.symm) (fun cdv A outer s H vs Q E hr h => ?_), hmg, Fn.kp, hb⟩
  have tk : L2N.Takes (cxOf (L2N.CX P w) P w g.K mg base N x (defScope st) f cdv A outer s H E) (fun cls d _ H => E cls d H) := L2N.takes_of rfl rfl rfl rfl
  refine ⟨_, body cdv f A outer s H E ⟨rfl, rfl, hr, hsc.nd, nb⟩ tk, ?_⟩
  obtain ⟨hlen, F, v0, ws, t0, A0, ds, rfl, sub, tb, o0, hl, hreps, post⟩ := h
  refine ⟨startS N t0 ds, F, fun i a => i = 0 ∧ A0 a, env_startS sub tb o0 hl hreps, ?_⟩
  have e := hm t0 ds (by rw [hn, ← hl]; simpa using hlen)
  have AB : AllB (fun i a => i = 0 ∧ A0 a) = A0 := funext fun a => propext ⟨fun ⟨_, h⟩ => h.2, fun h => ⟨0, rfl, h⟩⟩
  rw [AB]
  have at0 : ∀ {σ' : L2.St} {F' H' : Hp} {ρ' : Env} {B' : Nat → Addr → Prop} {u : T}, EnvR g.K g.Tb F' H' σ' ρ' B' → Fix [0] (L2.start N (v0 :: ws)) σ' → ρ'[0]? = some u → u ≠ .un → Own g.K F' H' v0 u (B' 0) := fun {σ' F' H' ρ' B' u} E' fx hu hne => by
    obtain ⟨v, hv, o⟩ := E'.at_ 0 u hu hne
    have q := fx 0 (by simp)
    rw [hv] at q
    have : v = v0 := by
      have z : (some (some v) : Option (Option V)) = some (some v0) := q
      cases z; rfl
    subst this
    exact o
  have nb' : m t0 ds ≠ .bad := fun q => by rw [q] at post; exact post
  have e2 := e nb'
  cases z : sm (startS N t0 ds) with
  | rt t ρ' =>
    rw [z] at e2
    unfold toOutS at e2
    simp only at e2
    cases h0 : (show List T from ρ')[0]? with
    | none => rw [h0] at e2; exact absurd e2.symm nb'
    | some u =>
      rw [h0] at e2
      by_cases hu : u = .un
      · subst hu; exact absurd e2.symm nb'
      · have e3 : m t0 ds = .ret t u := by
          cases u <;> first | exact absurd rfl hu | exact e2.symm
        rw [e3] at post
        intro v σ' F' H' B' C E' o d s' fx
        exact post v F' H' C (B' 0) E'.sub E'.tabs o (at0 E' fx h0 hu) (fun a ha h => d a ha ⟨0, h⟩) (s'.less fun a h => h.imp (fun h => ⟨0, h⟩) id)
  | nx ρ' =>
    rw [z] at e2
    unfold toOutS at e2
    simp only at e2
    cases h0 : (show List T from ρ')[0]? with
    | none => rw [h0] at e2; exact absurd e2.symm nb'
    | some u =>
      rw [h0] at e2
      by_cases hu : u = .un
      · subst hu; exact absurd e2.symm nb'
      · have e3 : m t0 ds = .ret (.sh .non) u := by
          cases u <;> first | exact absurd rfl hu | exact e2.symm
        rw [e3] at post
        intro σ' F' H' B' E' s' fx
        exact post .non F' H' (fun _ => False) (B' 0) E'.sub E'.tabs (.sh .non fun _ h => h) (at0 E' fx h0 hu) (fun a ha => ha.elim) (s'.less fun a h => h.elim (fun h => ⟨0, h⟩) False.elim)
  | exc c ρ' =>
    rw [z] at e2
    unfold toOutS at e2
    simp only at e2
    cases h0 : (show List T from ρ')[0]? with
    | none => rw [h0] at e2; exact absurd e2.symm nb'
    | some u =>
      rw [h0] at e2
      by_cases hu : u = .un
      · subst hu; exact absurd e2.symm nb'
      · have e3 : m t0 ds = .exc c u := by
          cases u <;> first | exact absurd rfl hu | exact e2.symm
        rw [e3] at post
        intro σ' F' H' B' E' s' fx
        have q := post F' H' (B' 0) E'.sub E'.tabs (at0 E' fx h0 hu) (s'.less fun a h => ⟨0, h⟩)
        exact wxE q fun _ _ h => h
  | bk ρ' => rw [z] at e2; exact absurd e2.symm nb'
  | ct ρ' => rw [z] at e2; exact absurd e2.symm nb'
  | bad => rw [z] at e2; exact absurd e2.symm nb'
end
end Mi

end
section
set_option Elab.async false
set_option autoImplicit false
set_option linter.all false
set_option maxRecDepth 100000
set_option maxHeartbeats 1000000
/-! Mi, 40: a comprehension inside a comprehension; more rules. -/
namespace Mi
open PySem PySem.Spec PyProof.Rows L2
theorem lookup_rel {env : PySem.Env} {x : Str} : ∀ {names : List (Str × NameKind)}, names.lookup x = some .cell ∨ names.lookup x = some .free →
    (names.map fun (n, k) => if (k == NameKind.free && env.scope.kind == .function && env.kindOf n == some .cell) then (n, NameKind.cell) else (n, k)).lookup x = some .cell ∨
    (names.map fun (n, k) => if (k == NameKind.free && env.scope.kind == .function && env.kindOf n == some .cell) then (n, NameKind.cell) else (n, k)).lookup x = some .free
  | [], h => by simp at h
  | (n, k) :: r, h => by
    show List.lookup x ((if (k == NameKind.free && env.scope.kind == .function && env.kindOf n == some .cell) = true then (n, NameKind.cell) else (n, k)) :: _) = _ ∨ List.lookup x ((if (k == NameKind.free && env.scope.kind == .function && env.kindOf n == some .cell) = true then (n, NameKind.cell) else (n, k)) :: _) = _
    cases hx : x == n with
    | true =>
      simp only [List.lookup_cons, hx] at h
      split
      · left; simp only [List.lookup_cons, hx]
      · simp only [List.lookup_cons, hx]; exact h
    | false =>
      simp only [List.lookup_cons, hx] at h
      split
      · simp only [List.lookup_cons, hx]; exact lookup_rel h
      · simp only [List.lookup_cons, hx]; exact lookup_rel h
theorem blkOk_rel {N : List Str} {sc scope : Scope} {env : PySem.Env} {own : List (Str × Nat)} (h : blkC N sc scope own = true) : BlkOk N (relabel sc env) scope own := by
  have b := blkOk_by h
  exact ⟨b.kind, b.uniq, b.ix, fun y hy e => lookup_rel (b.free y hy e), b.own⟩
end Mi

end
section
set_option Elab.async false
set_option autoImplicit false
set_option linter.all false
set_option maxRecDepth 100000
set_option maxHeartbeats 1000000
/-! Mi, 41: what a suite that tells a refusal does. -/
namespace Mi
open PySem PySem.Spec PyProof.Rows L2
section
variable {g : DX} {W : WX} {fx : List Nat} {X : Cx} {k : Nat} {tg iter elt a : Expr} {ifs : List Expr} {scope : Scope} {own : List (Str × Nat)} {p pos spos : Pos} {mi ml : M (List D)} {f : BD} {mc : M Bool} {te : M T} {sl : List Nat} {t : TG} {x1 : Addr} {oe : Obj}
def DIK (g : DX) (W : WX) (X : Cx) (x1 : Addr) (tg iter : Expr) (m : M (List D)) : Prop := PIK X x1 tg iter (rdI g W m)
theorem PIKmono {t t' : TI} (h : PIK X x1 tg iter t) (q : ∀ σ H R, t' σ H R → t σ H R) : PIK X x1 tg iter t' := ⟨fun pins s σ H R I z => h.run pins s σ H R I (q σ H R z)⟩
theorem di_range1K (nb : X.mg "range" = none) (ha : DA g W X [a] ml) (hg : Gl X "range" := by rfl) (hs : starEach [a] X.env = [(false, eval a X.env)] := by rfl) : DIK g W X x1 tg (.Call (.Name "range" p) [a] [] pos) (bnd ml fun ds => opt (rng1 ds)) := by
  refine PIKmono (pi_range1K hg nb ha hs) fun σ H R ⟨ρ, F, B, E, q⟩ => rdL.go E ((Then.bnd q).mono fun ds ρ1 q vs F1 H1 B1 E1 hl hr s => ?_)
  match ds, hl, hr, q with
  | [.int n], hl, hr, q =>
    have hv := one_int hl hr (is := [n]) rfl
    subst hv
    cases z : i62 n with
    | false => simp only [rng1, z] at q; exact q.elim
    | true =>
      simp only [rng1, z, if_true] at q
      obtain ⟨h1, h2⟩ := i62_ok z
      refine ⟨n, rfl, h1, h2, q _ F1 H1 B1 E1 wk_range1 s⟩
theorem ds_setLcK (i : Nat) {y : Str} {py : Pos} (hn : i ∉ fx) (hc : X.A.handled = some (.ref x1)) (hcn : ∃ vs : Array Value, oe.data = .fields vs ∧ vs[2]? = some .none) (hpn : (x1, oe) ∈ X.pn) (hnd : X.N.Nodup) (hi : DIK g W X x1 tg iter mi) (ok : BlkOk X.N X.env.scope scope own) (hsl : ∀ i ∈ sl, i ∈ own.map (·.2))
    (hg : ∀ (s : Shared) (H : Hp) (C : Addr) (cl : List (Str × Addr)) (fp : List Addr), DG g sl (X.blk s H scope (compEnvC scope cl C X.env) fp) tg t f)
    (ht : ∀ (s : Shared) (H : Hp) (C : Addr) (cl : List (Str × Addr)) (fp : List Addr), DTs g (X.blk s H scope (compEnvC scope cl C X.env) fp) ifs mc)
    (he : ∀ (s : Shared) (H : Hp) (C : Addr) (cl : List (Str × Addr)) (fp : List Addr), DE g W0 (X.blk s H scope (compEnvC scope cl C X.env) fp) elt te)
    (hy : X.N[i]? = some y := by rfl) (hyl : X.env.scope.names.lookup y = some .local := by rfl) (hsw : swapsWith (.ListComp elt [⟨tg, iter, ifs, 0⟩] scope pos) (some (.Name y py)) spos.line X.env = pure true := by first | exact sw_true rfl rfl rfl rfl | rfl)
    (hs : ∀ x, foldedSetIterable iter X.env x = pure x := by intro _; rfl) : DS g W fx X (.Assign [.Name y py] (.ListComp elt [⟨tg, iter, ifs, 0⟩] scope pos) spos) (sbnd (lcM (own.map (·.2)) mi f mc te) (put i)) := by
  have pg := fun s H C cl fp => (hg s H C cl fp).1
  have kt : Tg g sl t f := (hg X.s_0 (fun _ => none) 0 [] []).2
  refine PSmono (ps_setLcK hc hcn hpn hnd hy hyl hsw hi ok pg ht he hs) fun D σ H ⟨ρ, F, B, E, p⟩ => ?_
  exact lc_read (W := W) hsl kt σ H _ (rdE.go E (p.sbnd.mono fun t ρ1 q v F1 H1 B1 C E1 o d s => PostS.put hn q E1 o d s))
/-- name = [the told kinds] -/
theorem ps_kinds {i : Nat} {x : Str} {es : List Expr} {ta : TA} {bs : List Bool} {a : Addr} {pl pos' : Pos} (pa : PA X es ta) (ht : ∀ σ H Q, σ[1]? = some (some (.ref a)) → Q (bs.map (V.bl ·)) H → ta σ H Q) (hbs : bs.length ≤ sizeLine) (hn : i ∉ fx) (hnd : X.N.Nodup) (hi : X.N[i]? = some x := by rfl) (hx : Loc X.env.scope x := by first | exact Or.inl rfl | exact Or.inr rfl)
    (hs : swapsWith (.List es pl) (some (.Name x pos')) pos.line X.env = pure false := by rfl) (hf : X.fn x = true ∨ X.env.scope.names.lookup x = some .local := by first | exact .inl rfl | exact .inr rfl) :
    PS X (.Assign [.Name x pos'] (.List es pl) pos) (fun D σ H => σ[1]? = some (some (.ref a)) ∧ rdS g W fx (sbnd (pur (boolsT bs)) (put i)) D σ H) := by
  refine PSmono (ps_set hnd hi hx (pe_lst pa) hs hf) fun D σ H ⟨h1, ρ, F, B, E, p⟩ => ?_
  refine ht σ H _ h1 ⟨by simpa using hbs, fun q hq => ?_⟩
  obtain ⟨l, o⟩ := own_lst (g := g) (vs := bs.map (V.bl ·)) (ds := bs.map (fun b => Mi.D.bl b)) E.sub hq (by simp) fun j v d h1 h2 => by
    rw [List.getElem?_map] at h1 h2
    cases hb : bs[j]? with
    | none => rw [hb] at h1; cases h1
    | some b => rw [hb] at h1 h2; cases h1; cases h2; exact .bl
  have e : (bs.map (fun b => Mi.D.bl b)).map T.sh = bs.map fun b => .sh (.bl b) := by rw [List.map_map]; rfl
  rw [e] at o
  exact PostS.put (t := boolsT bs) hn p (l.env E) o (fresh_apart E hq) (l.stepN fun a e => e ▸ hq)
end
end Mi

end
section
set_option Elab.async false
set_option autoImplicit false
set_option linter.all false
set_option maxRecDepth 100000
set_option maxHeartbeats 1000000
/-! Mi, 42: a def that makes lambdas. -/
namespace Mi
open PySem L2 LamX
section
variable {g : DX} {P : Program} {w : World} {mg : Str → Option Value} {base : Heap} {x : Str} {st : Stmt} {N ps : List Str} {sc : Scope} {k : Nat} {sm : SM} {Pc : Value → Prop}
theorem fnG_ofR {f : Addr} {fd : FuncData} {qual : Str} {sp : Sp} (F : Fun g.K x qual st f fd) (S : FnScope N ps (defScope st)) (len : ∀ vs H Q E, sp vs H Q E → vs.length = ps.length)
    (hcd0 : Pc fd.code) (hbody : ∀ (cdv : Value) (_ : Pc cdv) (A : Around) (outer : List PySem.Env) (s : Shared) (H : Hp) (vs : List V) (Q : VK) (E : XK), RoomG k (A.deeper (PyProof.Rows.envOfC qual (defScope st) s.heap.objs.size f cdv)) → sp vs H Q E →
      ∃ t, PSs (cxOf (L2N.CX P w) P w g.K mg base N qual (defScope st) f cdv A outer s H E) (defBody st) t ∧ t { nx := fun _ H' => Q .non H', rt := Q } (L2.start N vs) H) : FnG P w g.K mg base (L2N.CX P w) (k + 1) f fd ps sp := by
  obtain ⟨oc, od, kV, doc, pm, an, cdv, ct, osl, rfl, lk, hcd⟩ := F.ex
  refine ⟨len, fun A outer s H args us vs Q E hr e0 hb r h => ?_⟩
  exact LamX.run_ofS lk hcd S hr.1 e0 hb r (len _ _ _ _ h) fun hr2 => hbody cdv hcd0 A outer s H vs Q E ⟨hr2, hr.2⟩ h
theorem defP_ofR (T : ∃ (f : Addr) (fd : FuncData), Fun g.K x x st f fd ∧ mg x = some (.ref f) ∧ Binds g.K fd ps [] ∧ Pc fd.code) (nb : noBuiltin mg) (hsc : FnScope N ps sc) (hst : defScope st = sc)
    (body : ∀ (cd : Value) (_ : Pc cd) (f : Addr) (A : Around) (outer : List PySem.Env) (s : Shared) (H : Hp) (E : XK), Ok g k (cxOf (L2N.CX P w) P w g.K mg base N x sc f cd A outer s H E) → L2N.Takes (cxOf (L2N.CX P w) P w g.K mg base N x sc f cd A outer s H E) (fun cls d _ H => E cls d H) →
      DSs g (fun cls d _ H => E cls d H) [] (cxOf (L2N.CX P w) P w g.K mg base N x sc f cd A outer s H E) (defBody st) sm)
    (m : List D → Out) (hm : ∀ ds, ds.length = ps.length → m ds ≠ .bad → toOut (sm (startE N ds)) = m ds) : DefP g P w mg base (k + 1) x ps.length m := by
  obtain ⟨f, fd, Fn, hmg, hb, pc⟩ := T
  subst hst
  refine ⟨f, fd, ps, fnG_ofR Fn hsc (fun vs H Q E h => h.1) pc (fun cdv hpc A outer s H vs Q E hr h => ?_), hmg, Fn.kp, hb⟩
  have tk : L2N.Takes (cxOf (L2N.CX P w) P w g.K mg base N x (defScope st) f cdv A outer s H E) (fun cls d _ H => E cls d H) := L2N.takes_of rfl rfl rfl rfl
  refine ⟨_, body cdv hpc f A outer s H E ⟨rfl, rfl, hr, hsc.nd, nb⟩ tk, ?_⟩
  obtain ⟨hn, F, ds, sub, tb, hl, hreps, post⟩ := h
  refine ⟨startE N ds, F, fun _ _ => False, env_start sub tb hl hreps, ?_⟩
  have e := hm ds (hl.symm.trans hn)
  have AB : AllB (fun _ _ => False) = fun _ => False := funext fun a => propext ⟨fun ⟨_, h⟩ => h, False.elim⟩
  rw [AB]
  cases z : sm (startE N ds) with
  | rt t ρ' =>
    rw [z] at e
    have e2 : m ds = .ret t := by
      by_cases q : m ds = .bad
      · rw [q] at post; exact post.elim
      · exact (e q).symm
    rw [e2] at post
    intro v σ' F' H' B' C E' o d s' _
    exact post v F' H' C E'.sub E'.tabs o (s'.less fun a h => .inr h)
  | nx ρ' =>
    rw [z] at e
    have e2 : m ds = .ret (.sh .non) := by
      by_cases q : m ds = .bad
      · rw [q] at post; exact post.elim
      · exact (e q).symm
    rw [e2] at post
    intro σ' F' H' B' E' s' _
    exact post .non F' H' (fun _ => False) E'.sub E'.tabs (.sh .non fun _ h => h) (s'.less fun a h => h.elim)
  | exc c ρ' =>
    rw [z] at e
    have e2 : m ds = .exc c := by
      by_cases q : m ds = .bad
      · rw [q] at post; exact post.elim
      · exact (e q).symm
    rw [e2] at post
    intro σ' F' H' B' E' s' _
    have q := post F' H' E'.sub E'.tabs (s'.less fun a h => h.elim)
    exact wxE q fun _ _ h => h
  | bk ρ' => rw [z] at e; by_cases q : m ds = .bad <;> first | (rw [q] at post; exact post.elim) | exact absurd (e q).symm q
  | ct ρ' => rw [z] at e; by_cases q : m ds = .bad <;> first | (rw [q] at post; exact post.elim) | exact absurd (e q).symm q
  | bad => rw [z] at e; by_cases q : m ds = .bad <;> first | (rw [q] at post; exact post.elim) | exact absurd (e q).symm q
theorem defS_ofR (Tp : ∃ (f : Addr) (fd : FuncData), Fun g.K x x st f fd ∧ mg x = some (.ref f) ∧ Binds g.K fd ps [] ∧ Pc fd.code) (nb : noBuiltin mg) (hsc : FnScope N ps sc) (hst : defScope st = sc)
    (body : ∀ (cd : Value) (_ : Pc cd) (f : Addr) (A : Around) (outer : List PySem.Env) (s : Shared) (H : Hp) (E : XK), Ok g k (cxOf (L2N.CX P w) P w g.K mg base N x sc f cd A outer s H E) → L2N.Takes (cxOf (L2N.CX P w) P w g.K mg base N x sc f cd A outer s H E) (fun cls d _ H => E cls d H) →
      DSs g (fun cls d _ H => E cls d H) [0] (cxOf (L2N.CX P w) P w g.K mg base N x sc f cd A outer s H E) (defBody st) sm)
    (m : T → List D → OutS) (hm : ∀ t ds, ds.length + 1 = ps.length → m t ds ≠ .bad → toOutS (sm (startS N t ds)) = m t ds) (n : Nat) (hn : ps.length = n + 1) : DefS g P w mg base (k + 1) x n m := by
  obtain ⟨f, fd, Fn, hmg, hb, pc⟩ := Tp
  subst hst
  refine ⟨f, fd, ps, fnG_ofR Fn hsc (fun vs H Q E h => h.1.trans hn.symm) pc (fun cdv hpc A outer s H vs Q E hr h => ?_), hmg, Fn.kp, hb⟩
  have tk : L2N.Takes (cxOf (L2N.CX P w) P w g.K mg base N x (defScope st) f cdv A outer s H E) (fun cls d _ H => E cls d H) := L2N.takes_of rfl rfl rfl rfl
  refine ⟨_, body cdv hpc f A outer s H E ⟨rfl, rfl, hr, hsc.nd, nb⟩ tk, ?_⟩
  obtain ⟨hlen, F, v0, ws, t0, A0, ds, rfl, sub, tb, o0, hl, hreps, post⟩ := h
  refine ⟨startS N t0 ds, F, fun i a => i = 0 ∧ A0 a, env_startS sub tb o0 hl hreps, ?_⟩
  have e := hm t0 ds (by rw [hn, ← hl]; simpa using hlen)
  have AB : AllB (fun i a => i = 0 ∧ A0 a) = A0 := funext fun a => propext ⟨fun ⟨_, h⟩ => h.2, fun h => ⟨0, rfl, h⟩⟩
  rw [AB]
  have at0 : ∀ {σ' : L2.St} {F' H' : Hp} {ρ' : Env} {B' : Nat → Addr → Prop} {u : T}, EnvR g.K g.Tb F' H' σ' ρ' B' → Fix [0] (L2.start N (v0 :: ws)) σ' → ρ'[0]? = some u → u ≠ .un → Own g.K F' H' v0 u (B' 0) := fun {σ' F' H' ρ' B' u} E' fx hu hne => by
    obtain ⟨v, hv, o⟩ := E'.at_ 0 u hu hne
    have q := fx 0 (by simp)
    rw [hv] at q
    have : v = v0 := by
      have z : (some (some v) : Option (Option V)) = some (some v0) := q
      cases z; rfl
    subst this
    exact o
  have nb' : m t0 ds ≠ .bad := fun q => by rw [q] at post; exact post
  have e2 := e nb'
  cases z : sm (startS N t0 ds) with
  | rt t ρ' =>
    rw [z] at e2
    unfold toOutS at e2
    simp only at e2
    cases h0 : (show List T from ρ')[0]? with
    | none => rw [h0] at e2; exact absurd e2.symm nb'
    | some u =>
      rw [h0] at e2
      by_cases hu : u = .un
      · subst hu; exact absurd e2.symm nb'
      · have e3 : m t0 ds = .ret t u := by
          cases u <;> first | exact absurd rfl hu | exact e2.symm
        rw [e3] at post
        intro v σ' F' H' B' C E' o d s' fx
        exact post v F' H' C (B' 0) E'.sub E'.tabs o (at0 E' fx h0 hu) (fun a ha h => d a ha ⟨0, h⟩) (s'.less fun a h => h.imp (fun h => ⟨0, h⟩) id)
  | nx ρ' =>
    rw [z] at e2
    unfold toOutS at e2
    simp only at e2
    cases h0 : (show List T from ρ')[0]? with
    | none => rw [h0] at e2; exact absurd e2.symm nb'
    | some u =>
      rw [h0] at e2
      by_cases hu : u = .un
      · subst hu; exact absurd e2.symm nb'
      · have e3 : m t0 ds = .ret (.sh .non) u := by
          cases u <;> first | exact absurd rfl hu | exact e2.symm
        rw [e3] at post
        intro σ' F' H' B' E' s' fx
        exact post .non F' H' (fun _ => False) (B' 0) E'.sub E'.tabs (.sh .non fun _ h => h) (at0 E' fx h0 hu) (fun a ha => ha.elim) (s'.less fun a h => h.elim (fun h => ⟨0, h⟩) False.elim)
  | exc c ρ' =>
    rw [z] at e2
    unfold toOutS at e2
    simp only at e2
    cases h0 : (show List T from ρ')[0]? with
    | none => rw [h0] at e2; exact absurd e2.symm nb'
    | some u =>
      rw [h0] at e2
      by_cases hu : u = .un
      · subst hu; exact absurd e2.symm nb'
      · have e3 : m t0 ds = .exc c u := by
          cases u <;> first | exact absurd rfl hu | exact e2.symm
        rw [e3] at post
        intro σ' F' H' B' E' s' fx
        have q := post F' H' (B' 0) E'.sub E'.tabs (at0 E' fx h0 hu) (s'.less fun a h => ⟨0, h⟩)
        exact wxE q fun _ _ h => h
  | bk ρ' => rw [z] at e2; exact absurd e2.symm nb'
  | ct ρ' => rw [z] at e2; exact absurd e2.symm nb'
  | bad => rw [z] at e2; exact absurd e2.symm nb'
end
/-- the def of X makes lambdas, and where their code's list lies is known -/
structure Makes (g : DX) (X : Cx) : Prop where
  ex : ∃ c P : Addr, TabB X.base X.mg c P ∧ X.env.code = .ref c ∧ (P, X.env.qual ++ "<lambda>") ∈ g.Tb ∧ ∀ p ∈ g.Tb, p.1 = P → p.2 = X.env.qual ++ "<lambda>"
/-- a code that makes lambdas -/
def MkCode (g : DX) (mg : Str → Option Value) (base : Heap) (q : Str) (cd : Value) : Prop := ∃ c P : Addr, TabB base mg c P ∧ cd = .ref c ∧ (P, q) ∈ g.Tb ∧ ∀ p ∈ g.Tb, p.1 = P → p.2 = q
structure Made (g : DX) (mg : Str → Option Value) (base : Heap) (x : Str) (st : Stmt) (ps : List Str) : Prop where
  ex : ∃ (f : Addr) (fd : FuncData), Fun g.K x x st f fd ∧ mg x = some (.ref f) ∧ Binds g.K fd ps [] ∧ MkCode g mg base ((x ++ ".<locals>.") ++ "<lambda>") fd.code
section
variable {g : DX} {X : Cx} {k k2 : Nat} {A : Around} {outer : List PySem.Env} {s : Shared} {H : Hp} {E : XK} {scope : Scope} {f c' : Addr}
theorem OL (O : Ok g k X) (hr : RoomG k2 (A.deeper (lamEnv X scope s.heap.objs.size f c'))) : Ok g k2 (lamCxN X A outer s H E scope f c') := ⟨O.K, rfl, hr, O.nd, O.nob⟩
theorem takesL : L2N.Takes (lamCxN X A outer s H E scope f c') (fun cls d _ H => E cls d H) := L2N.takes_of rfl rfl rfl rfl
end
end Mi

end
section
set_option Elab.async false
set_option autoImplicit false
set_option linter.all false
set_option maxRecDepth 100000
set_option maxHeartbeats 1000000
/-! Mi, 43: the end, by a promise that knows the guards. -/
namespace Mi
open PySem PySem.Spec PyProof.Rows L2
section
variable {P : Program} {w : World} {K : PySem.W.Frag} {mg mb : Str → Option Value} {s : Shared} {H : Hp} {cs : List (Addr × Addr)}
/-- what is neither a list nor an empty table is not told by H -/
def Quiet (s : Shared) (H : Hp) : Prop := ∀ (b : Addr) (o : Obj), s.heap.get? b = some o → (∀ vs n, o.data ≠ .seq vs n) → o.data ≠ .fields #[] → H b = none
theorem Quiet.ns (q : Quiet s H) {b : Addr} {m : Str → Option Value} (h : s.heap.Ns b m) : (hidT s.heap H).Ns b m := by
  obtain ⟨o, es, ep, e, d, r⟩ := h
  refine ⟨o, es, ep, hidT_get e (q b o e (fun vs n z => ?_) fun z => ?_), d, r⟩ <;> · rw [d] at z; cases z
theorem end_mod (q : Quiet s H) (hK : ∀ b o, K.lookup b = some o → H b = none) (KX : K.In s.heap) (hns : s.heap.Ns mainGlobals mg) (hb : s.heap.Ns builtinsNs mb) (hbb : ∀ x : Str, x ≠ "__name__" → mb x = bootBuiltins x) (hlim : s.heap.NoLimit) : L2.Mod K mg (hidT s.heap H) :=
  ⟨fun b o e => hidT_get (KX b o e) (hK b o e), q.ns hns, ⟨mb, q.ns hb, hbb⟩, let ⟨mc, h1, h2⟩ := hlim; ⟨mc, q.ns h1, h2⟩⟩
theorem end_tab (q : Quiet s H) (hns : s.heap.Ns mainGlobals mg) (hbm : ∃ (bm : Addr) (ob : Obj), mg "__builtins__" = some (.ref bm) ∧ bm ≠ builtinsNs ∧ s.heap.get? bm = some ob ∧ ob.cls = .type "module" ∧ ob.dict = some builtinsNs ∧ ob.data = .plain)
    {c T : Addr} (hT : s.heap.get? T = some { cls := .none, data := .fields #[] }) (C : PySem.W.CodeHd s.heap c T) : LamX.TabB (hidT s.heap H) mg c T := by
  obtain ⟨go, ges, gep, ge, gd, _⟩ := hns
  refine ⟨?_, ?_, fun z => ?_⟩
  · obtain ⟨o, us, file, tf, flags, tg, inF, text, tt, e1, r1, r2, r3, r4, r5, r6, r7, r8, hne⟩ := C
    refine ⟨o, us, file, tf, flags, tg, inF, text, tt, hidT_get e1 (q c o e1 (fun vs n z => ?_) fun z => ?_), r1, r2, r3, r4, r5, r6, r7, r8, hne⟩
    · rw [r2] at z; cases z
    · rw [r2] at z
      cases z
      simp at r3
  · obtain ⟨bm, ob, b1, b2, b3, b4, b5, b6⟩ := hbm
    refine ⟨bm, ob, b1, b2, fun z => ?_, fun z => ?_, hidT_get b3 (q bm ob b3 (fun vs n z => ?_) fun z => ?_), b4, b5, b6⟩
    · rw [z, ge] at b3
      cases b3
      rw [gd] at b6
      cases b6
    · rw [z, hT] at b3
      cases b3
      cases b6
    · rw [b6] at z; cases z
    · rw [b6] at z; cases z
  · rw [z, hT] at ge
    cases ge
    cases gd
/-- behind the call: what was there is there, tables grown -/
theorem end_old {H' : Hp} {s' : Shared} (hT : ∀ p ∈ cs, s.heap.get? p.2 = some { cls := .none, data := .fields #[] }) (C : ∀ p ∈ cs, PySem.W.CodeHd s.heap p.1 p.2) (hH : ∀ p ∈ cs, H p.2 = some (.tbl #[]))
    (hO : ∀ b, H b = none ∨ b ∈ cs.map (·.2) ∨ ∃ o xs, H b = some (.frz o (.lst xs))) (hok : HOk P w H s.heap) (un : Un (frs []) [] H H' s.heap s'.heap) (hok' : HOk P w H' s'.heap) : OldK s.heap s'.heap := by
  have keep : ∀ b o, b ∉ cs.map (·.2) → s.heap.get? b = some o → s'.heap.get? b = some o := fun b o nb e => by
    rcases hO b with z | z | ⟨ob, xs, z⟩
    · exact un.keep b o e z (fun z => nomatch (show b ∈ ([] : List Addr) from z)) (by simp)
    · exact absurd z nb
    · obtain ⟨e1, _⟩ := hok b _ z
      obtain ⟨e2, _⟩ := hok' b _ (un.frzs b ob _ z)
      rw [e] at e1
      cases e1
      exact e2
  have grown : ∀ p ∈ cs, ∃ more : Array Value, s'.heap.get? p.2 = some { cls := .none, data := .fields more } := fun p hp => by
    obtain ⟨more, z⟩ := un.tbls p.2 #[] (hH p hp)
    exact ⟨_, hok' p.2 _ z⟩
  have inT : ∀ b, b ∈ cs.map (·.2) → ∃ p, p ∈ cs ∧ b = p.2 := fun b hb => by
    obtain ⟨p, hp, e⟩ := List.mem_map.mp hb
    exact ⟨p, hp, e.symm⟩
  refine ⟨fun b o e => ?_, fun b o e => ?_⟩ <;> by_cases hb : b ∈ cs.map (·.2)
  · obtain ⟨p, hp, rfl⟩ := inT b hb
    obtain ⟨more, hm⟩ := grown p hp
    rw [hT p hp] at e
    cases e
    exact .inr (.inl ⟨((C p hp).tab (hT p hp)).isCodeTable, rfl, #[], more, rfl, by rw [Array.empty_append]; exact hm⟩)
  · exact .inl (keep b o hb e)
  · obtain ⟨p, hp, rfl⟩ := inT b hb
    obtain ⟨more, hm⟩ := grown p hp
    exact ⟨_, hm⟩
  · exact ⟨o, keep b o hb e⟩
theorem law_callG {CX : CXT} {k : Nat} {fa a : Addr} {sp : Sp} {vs : List Value} {ns : List Int}
    (KX : K.In s.heap) (hns : s.heap.Ns mainGlobals mg) (hb : s.heap.Ns builtinsNs mb) (hbb : ∀ x : Str, x ≠ "__name__" → mb x = bootBuiltins x) (hlim : s.heap.NoLimit) (hg : s.gens = #[])
    (hT : ∀ p ∈ cs, s.heap.get? p.2 = some { cls := .none, data := .fields #[] }) (nT : ∀ p ∈ cs, K.lookup p.2 = none) (C : ∀ p ∈ cs, PySem.W.CodeHd s.heap p.1 p.2)
    (hbm : ∃ (bm : Addr) (ob : Obj), mg "__builtins__" = some (.ref bm) ∧ bm ≠ builtinsNs ∧ s.heap.get? bm = some ob ∧ ob.cls = .type "module" ∧ ob.dict = some builtinsNs ∧ ob.data = .plain)
    (ha : s.heap.get? a = some { cls := .type "list", data := .seq vs.toArray }) (hi : IntsAre vs ns) (hl : ns.length ≤ sizeLine) (hr : RoomG k callerA)
    (F : ∀ base : Heap, K.In base → base.Ns mainGlobals mg → (∀ p ∈ cs, LamX.TabB base mg p.1 p.2) → ∃ fd ps, Binds K fd ps [] ∧ FnG P w K mg base CX k fa fd ps sp)
    (hsp : ∀ H : Hp, (∀ p ∈ cs, H p.2 = some (.tbl #[])) → (∀ b u, H b = some u → (∃ ps, u = .tbl ps) ∨ b = a) → SqL K H a (ns.map V.int) → sp [.ref a] H (fun v _ => v = .bl true) fun _ _ _ => False)
    (hCX : ∀ H e s', CX [] H s (fun _ _ _ => False) e s' → False) :
    codeAny (model P w) callerA (.call (.ref fa) ⟨[.ref a], []⟩) (fun r s' => r = .ok (.ret (.bool true)) ∧ OldK s.heap s'.heap ∧ s'.os = s.os ∧ AllBare s'.gens) s := by
  have isT : ∀ b : Addr, b ∈ cs.map (·.2) → s.heap.get? b = some { cls := .none, data := .fields #[] } := fun b hb => by
    obtain ⟨p, hp, e⟩ := List.mem_map.mp hb
    rw [← e]
    exact hT p hp
  have tK : ∀ b : Addr, b ∈ cs.map (·.2) → K.lookup b = none := fun b hb => by
    obtain ⟨p, hp, e⟩ := List.mem_map.mp hb
    rw [← e]
    exact nT p hp
  have aT : a ∉ cs.map (·.2) := fun z => by
    have q := isT a z
    rw [ha] at q
    have z' : Data.seq vs.toArray _ = Data.fields #[] := congrArg Obj.data (Option.some.inj q)
    cases z'
  have memT : ∀ p ∈ cs, p.2 ∈ cs.map (·.2) := fun p hp => List.mem_map.mpr ⟨p, hp, rfl⟩
  have core : ∀ H : Hp, (∀ p ∈ cs, H p.2 = some (.tbl #[])) → (∀ b u, H b = some u → (b ∈ cs.map (·.2) ∧ u = .tbl #[]) ∨ (b = a ∧ ∃ o xs, u = .frz o (.lst xs))) → (H a ≠ none → K.lookup a = none) → SqL K H a (ns.map V.int) → HOk P w H s.heap →
      codeAny (model P w) callerA (.call (.ref fa) ⟨[.ref a], []⟩) (fun r s' => r = .ok (.ret (.bool true)) ∧ OldK s.heap s'.heap ∧ s'.os = s.os ∧ AllBare s'.gens) s := fun H hH hA hK hS hok => by
    have q : Quiet s H := fun b o e h1 h2 => by
      cases z : H b with
      | none => rfl
      | some u =>
        rcases hA b u z with ⟨e', _⟩ | ⟨e', _⟩
        · rw [isT b e'] at e
          cases e
          exact absurd rfl h2
        · rw [e', ha] at e
          cases e
          exact absurd rfl (h1 _ _)
    have hKn : ∀ b o, K.lookup b = some o → H b = none := fun b o e => by
      cases z : H b with
      | none => rfl
      | some u =>
        rcases hA b u z with ⟨e', _⟩ | ⟨e', _⟩
        · rw [tK b e'] at e
          cases e
        · subst e'
          rw [hK (by rw [z]; simp)] at e
          cases e
    have M := end_mod q hKn KX hns hb hbb hlim
    have e0 : Env0 P w K mg (hidT s.heap H) callerA [] s H := ⟨rfl, M, fun b o e => of_hidT e, Nat.le_of_eq (hidT_size _ _), trivial, fun b hb => absurd (show b ∈ ([] : List Addr) from hb) (by simp), hok, .of_eq hg⟩
    obtain ⟨fd, ps, hbn, hFn⟩ := F _ M.kin (q.ns hns) fun p hp => end_tab q hns hbm (hT p hp) (C p hp)
    have hspH := hsp H hH (fun b u z => (hA b u z).elim (fun h => .inl ⟨_, h.2⟩) fun h => .inr h.1) hS
    refine codeAny_mono (hFn.run callerA [] s H ⟨[.ref a], []⟩ [.ref a] [.ref a] _ _ hr e0 (hbn s [.ref a] KX (hFn.len _ _ _ _ hspH)) (.cons rfl .nil) hspH) fun r s' h => ?_
    cases r with
    | error e => exact (hCX H e s' h).elim
    | ok fl =>
      cases fl with
      | next => exact False.elim h
      | brk => exact False.elim h
      | cont => exact False.elim h
      | ret u =>
        obtain ⟨v, H', os, bare, un, hok', r', q'⟩ := h
        have q' : v = .bl true := q'
        subst q'
        obtain rfl : u = Value.bool true := r'
        refine ⟨rfl, end_old hT C hH (fun b => ?_) hok un hok', os, bare⟩
        cases z : H b with
        | none => exact .inl rfl
        | some u =>
          rcases hA b u z with ⟨e', _⟩ | ⟨_, o, xs, e⟩
          · exact .inr (.inl e')
          · exact .inr (.inr ⟨o, xs, by rw [e]⟩)
  have tb : ∀ {b : Addr} {u : HO}, (if b ∈ cs.map (·.2) then some (HO.tbl #[]) else none) = some u → b ∈ cs.map (·.2) ∧ u = .tbl #[] := fun {b u} z => by
    by_cases hb : b ∈ cs.map (·.2)
    · rw [if_pos hb] at z
      exact ⟨hb, (Option.some.inj z).symm⟩
    · rw [if_neg hb] at z
      cases z
  cases hk : K.lookup a with
  | some o =>
    have e := KX a o hk
    rw [ha] at e
    cases e
    refine core (fun b => if b ∈ cs.map (·.2) then some (.tbl #[]) else none) (fun p hp => if_pos (memT p hp)) (fun b u z => .inl (tb z)) (fun z => absurd (if_neg aT) z) (.inr ⟨_, vs.toArray, _, hk, rfl, rfl, rfl, by rw [List.size_toArray, hi.length]; exact hl, by simpa using vals_ints hi⟩) fun b u z => ?_
    obtain ⟨hb, rfl⟩ := tb z
    exact isT b hb
  | none =>
    refine core (fun b => if b = a then some (.frz { cls := .type "list", data := .seq vs.toArray } (.lst (ns.map V.int))) else if b ∈ cs.map (·.2) then some (.tbl #[]) else none) (fun p hp => ?_) (fun b u z => ?_) (fun _ => hk) (.inl (.inr ⟨_, if_pos rfl⟩)) fun b u z => ?_
    · show (if p.2 = a then _ else _) = _
      rw [if_neg (show ¬ p.2 = a from fun z => aT (by rw [← z]; exact memT p hp)), if_pos (memT p hp)]
    · have z : (if b = a then some (HO.frz { cls := .type "list", data := .seq vs.toArray } (.lst (ns.map V.int))) else if b ∈ cs.map (·.2) then some (HO.tbl #[]) else none) = some u := z
      by_cases hb : b = a
      · rw [if_pos hb] at z
        exact .inr ⟨hb, _, _, (Option.some.inj z).symm⟩
      · rw [if_neg hb] at z
        exact .inl (tb z)
    · have z : (if b = a then some (HO.frz { cls := .type "list", data := .seq vs.toArray } (.lst (ns.map V.int))) else if b ∈ cs.map (·.2) then some (HO.tbl #[]) else none) = some u := z
      by_cases hb : b = a
      · rw [if_pos hb] at z
        cases z
        rw [hb]
        exact ⟨ha, by rw [List.length_map]; exact hl, vs, _, vals_ints hi, ha⟩
      · rw [if_neg hb] at z
        obtain ⟨hb, rfl⟩ := tb z
        exact isT b hb
end
end Mi

end
section
set_option Elab.async false
set_option autoImplicit false
set_option linter.all false
set_option maxRecDepth 100000
set_option maxHeartbeats 1000000
/-! Mi, 44: the walk of a law, from what is known of its promise. -/
namespace Mi
open PySem PySem.Spec PyProof.Rows L2
def LawAtG (l : PySem.W.OpenLaw) (w : World) (K : PySem.W.Frag) (CX : CXT) (k n : Nat) (mg : Str → Option Value) (fa a : Addr) (h : Heap) : Prop :=
  ∃ (cs : List (Addr × Addr)) (sp : Sp), (∀ p ∈ cs, h.get? p.2 = some { cls := .none, data := .fields #[] }) ∧ (∀ p ∈ cs, K.lookup p.2 = none) ∧ (∀ p ∈ cs, PySem.W.CodeHd h p.1 p.2) ∧
    (∀ (H : Hp) (ns : List Int), ns.length ≤ n → (∀ z ∈ ns, Builtin.Int.intBits z ≤ 1048576) → (∀ p ∈ cs, H p.2 = some (.tbl #[])) → (∀ b u, H b = some u → (∃ ps, u = .tbl ps) ∨ b = a) → SqL K H a (ns.map V.int) → sp [.ref a] H (fun v _ => v = .bl true) fun _ _ _ => False) ∧
    ∀ base : Heap, K.In base → base.Ns mainGlobals mg → (∀ p ∈ cs, LamX.TabB base mg p.1 p.2) → ∃ fd ps, Binds K fd ps [] ∧ FnG l.prog w K mg base CX k fa fd ps sp
theorem walk_ofG {l : PySem.W.OpenLaw} {n k : Nat} {q : Program} {loose : List Str} {XP : (Str → Option Value) → Heap → Prop} {YP : World → Heap → Prop} {d : DefRec} {CX : World → CXT}
    (hn : l.most = some n) (hn2 : n ≤ sizeLine) (hdf : d.params.defaults = []) (hr : RoomG k callerA)
    (F : ∀ (w : World) (mg : Str → Option Value) (fa a : Addr) (h : Heap) (vs : List Value), YP w h → h.Ns mainGlobals mg → mg d.name = some (.ref fa) → h.get? a = some { cls := .type "list", data := .seq vs.toArray } → ∃ K : PySem.W.Frag, K.In h ∧ LawAtG l w K (CX w) k n mg fa a h)
    (hCX : ∀ (w : World) (H : Hp) (s : Shared) (e : Value) (s' : Shared), CX w [] H s (fun _ _ _ => False) e s' → False) :
    PySem.W.WalkO q loose XP YP l.row.toRowW d [] (fun f vs => PySem.call f vs) := by
  refine Att.attach_callB hn hdf fun w s₀ s₁ mg mb fa o pm cd doc a vs ns G Y ho hd hcd hmg hobj hints hlen hbits hg => ?_
  obtain ⟨K, KX, cs, sp, hT, nT, C, hsp, hF⟩ := F w mg fa a _ vs Y G.T.g hmg hobj
  exact law_callG KX G.T.g G.T.b G.T.builtins G.T.nolimit hg hT nT C G.T.bmain hobj hints (Nat.le_trans hlen hn2) hr hF (fun H hH hA hS => hsp H ns hlen hbits hH hA hS) fun H e s' => hCX w H s₁ e s'
theorem mem_look {o : Obj} {a : Addr} : ∀ {K : PySem.W.Frag}, K.lookup a = some o → (a, o) ∈ K
  | (b, u) :: K, h => by
    by_cases e : a = b
    · subst e
      simp [List.lookup] at h
      subst h
      exact List.mem_cons_self ..
    · have : (a == b) = false := by simp [e]
      simp only [List.lookup, this] at h
      exact List.mem_cons_of_mem _ (mem_look h)
/-- what is wanted of a law from the meaning of its def -/
theorem lawAt_of {l : PySem.W.OpenLaw} {w : World} {K : PySem.W.Frag} {Tb : List (Addr × Str)} {cl : Exc → Value} {mg : Str → Option Value} {fa a : Addr} {h : Heap} {vs : List Value} {cs : List (Addr × Addr)} {k n : Nat} {m : List D → Out} (KX : K.In h)
    (nl : (K.all fun e => match e.2.cls with | .type t => t != "list" | _ => true) = true) (hobj : h.get? a = some { cls := .type "list", data := .seq vs.toArray })
    (hT : ∀ p ∈ cs, h.get? p.2 = some { cls := .none, data := .fields #[] }) (nT : ∀ p ∈ cs, K.lookup p.2 = none) (C : ∀ p ∈ cs, PySem.W.CodeHd h p.1 p.2) (hTb : ∀ p ∈ Tb, ∃ c, (c, p.1) ∈ cs)
    (hmg : mg "law" = some (.ref fa)) (hm : ∀ (zs : List Int) (d : D), (d = .lst (zs.map .int) ∨ d = .frl (zs.map .int)) → m [d] = .ret (.sh (.bl true)))
    (hF : ∀ base : Heap, K.In base → base.Ns mainGlobals mg → (∀ p ∈ cs, LamX.TabB base mg p.1 p.2) → DefP ⟨K, Tb, cl⟩ l.prog w mg base k "law" 1 m) : LawAtG l w K (L2N.CX l.prog w) k n mg fa a h := by
  refine ⟨cs, spP ⟨K, Tb, cl⟩ m 1, hT, nT, C, fun H ns hl hbits hH hA hS => ?_, fun base b1 b2 b3 => ?_⟩
  · have hR : Rd H a (.lst (ns.map V.int)) := by
      rcases hS with z | ⟨o, its, n', z, hc, _⟩
      · exact z
      · have hmem : (a, o) ∈ K := mem_look z
        have := List.all_eq_true.mp nl _ hmem
        simp [hc] at this
    obtain ⟨d, hd, hrep⟩ : ∃ d : D, (d = .lst (ns.map .int) ∨ d = .frl (ns.map .int)) ∧ ∀ F : Hp, F a = H a → Rep K F (.ref a) d := by
      rcases hR with z | ⟨o, z⟩
      · refine ⟨_, .inl rfl, fun F e => .lst (e.trans z) (by simp) fun i v d h1 h2 => ?_⟩
        rw [List.getElem?_map] at h1 h2
        cases q : ns[i]? with
        | none => rw [q] at h1; cases h1
        | some x => rw [q] at h1 h2; cases h1; cases h2; exact .int
      · refine ⟨_, .inr rfl, fun F e => .frl (e.trans z) (by simp) fun i v d h1 h2 => ?_⟩
        rw [List.getElem?_map] at h1 h2
        cases q : ns[i]? with
        | none => rw [q] at h1; cases h1
        | some x => rw [q] at h1 h2; cases h1; cases h2; exact .int
    have nta : ∀ ps, H a ≠ some (.tbl ps) := fun ps z => by
      rcases hR with q | ⟨o, q⟩ <;> · rw [q] at z; cases z
    have ntp : ∀ xs, H a ≠ some (.tup xs) := fun ps z => by
      rcases hR with q | ⟨o, q⟩ <;> · rw [q] at z; cases z
    refine ⟨rfl, fun b => if b = a then H a else none, [d], ⟨Ex.of fun b o e => ?_, fun b ps => ?_, fun b hb => ?_, fun b xs e => ?_⟩, fun p hp => ?_, rfl, fun i v e h1 h2 => ?_, ?_⟩
    · by_cases z : b = a
      · subst z; simpa using e
      · simp [z] at e
    · by_cases z : b = a
      · subst z; simpa using nta ps
      · simp [z]
    · by_cases z : b = a
      · subst z; simpa using hb
      · simp [z] at hb
    · rcases hA b _ e with ⟨ps, q⟩ | q
      · cases q
      · subst q; exact absurd e (ntp xs)
    · obtain ⟨c, hc⟩ := hTb p hp
      exact ⟨#[], hH _ hc, trivial, fun pos cv z => by cases z⟩
    · match i, h1, h2 with
      | 0, h1, h2 => cases h1; cases h2; exact hrep _ (by simp)
    · rw [hm ns d hd]
      intro v F' H' C' _ _ o _
      cases o with
      | sh r _ => cases r; rfl
  · obtain ⟨f, fd, ps, h1, h2, _, h3⟩ := hF base b1 b2 b3
    rw [hmg] at h2
    cases h2
    exact ⟨fd, ps, h3, h1⟩
end Mi

end
section
set_option Elab.async false
set_option autoImplicit false
set_option linter.all false
set_option maxRecDepth 100000
set_option maxHeartbeats 1000000
/-! Mi, plain side: how meanings are evaluated, step by step. -/
namespace Mi
open PySem L2
section
variable {α β : Type}
def R.go (r : R α) (k : α → M β) : R β := match r with | .ok a ρ => k a ρ | .exc c ρ => .exc c ρ | .bad => .bad
def R.ths (r : R α) (k : α → SM) : SR := match r with | .ok a ρ => k a ρ | .exc c ρ => .exc c ρ | .bad => .bad
def SR.th (r : SR) (k : SM) : SR := match r with | .nx ρ => k ρ | .rt t ρ => .rt t ρ | .bk ρ => .bk ρ | .ct ρ => .ct ρ | .exc c ρ => .exc c ρ | .bad => .bad
@[simp] theorem go_ok (a : α) (ρ : Env) (k : α → M β) : (R.ok a ρ).go k = k a ρ := .trans rfl rfl
@[simp] theorem go_exc (c : Exc) (ρ : Env) (k : α → M β) : (R.exc c ρ).go k = .exc c ρ := .trans rfl rfl
@[simp] theorem go_bad (k : α → M β) : (R.bad : R α).go k = .bad := .trans rfl rfl
@[simp] theorem ths_ok (a : α) (ρ : Env) (k : α → SM) : (R.ok a ρ).ths k = k a ρ := .trans rfl rfl
@[simp] theorem ths_exc (c : Exc) (ρ : Env) (k : α → SM) : (R.exc c ρ).ths k = .exc c ρ := .trans rfl rfl
@[simp] theorem ths_bad (k : α → SM) : (R.bad : R α).ths k = .bad := .trans rfl rfl
@[simp] theorem th_nx (ρ : Env) (k : SM) : (SR.nx ρ).th k = k ρ := .trans rfl rfl
@[simp] theorem th_rt (t : T) (ρ : Env) (k : SM) : (SR.rt t ρ).th k = .rt t ρ := .trans rfl rfl
@[simp] theorem th_bk (ρ : Env) (k : SM) : (SR.bk ρ).th k = .bk ρ := .trans rfl rfl
@[simp] theorem th_ct (ρ : Env) (k : SM) : (SR.ct ρ).th k = .ct ρ := .trans rfl rfl
@[simp] theorem th_exc (c : Exc) (ρ : Env) (k : SM) : (SR.exc c ρ).th k = .exc c ρ := .trans rfl rfl
@[simp] theorem th_bad (k : SM) : (SR.bad).th k = .bad := .trans rfl rfl
def R.selS (r : R Bool) (y z : SM) : SR := match r with | .ok b ρ => (if b then y ρ else z ρ) | .exc c ρ => .exc c ρ | .bad => .bad
def R.selM (r : R Bool) (y z : M α) : R α := match r with | .ok b ρ => (if b then y ρ else z ρ) | .exc c ρ => .exc c ρ | .bad => .bad
def R.selV (r : R D) (y z : M D) : R D := match r with | .ok (.bl b) ρ => (if b then y ρ else z ρ) | .ok _ _ => .bad | .exc c ρ => .exc c ρ | .bad => .bad
def selD (m y z : M D) : M D := fun ρ => (m ρ).selV y z
@[simp] theorem selS_t (ρ : Env) (y z : SM) : (R.ok true ρ).selS y z = y ρ := .trans rfl rfl
@[simp] theorem selS_f (ρ : Env) (y z : SM) : (R.ok false ρ).selS y z = z ρ := .trans rfl rfl
@[simp] theorem selS_exc (c : Exc) (ρ : Env) (y z : SM) : (R.exc c ρ).selS y z = .exc c ρ := .trans rfl rfl
@[simp] theorem selM_t (ρ : Env) (y z : M α) : (R.ok true ρ).selM y z = y ρ := .trans rfl rfl
@[simp] theorem selM_f (ρ : Env) (y z : M α) : (R.ok false ρ).selM y z = z ρ := .trans rfl rfl
@[simp] theorem selM_exc (c : Exc) (ρ : Env) (y z : M α) : (R.exc c ρ : R Bool).selM y z = .exc c ρ := .trans rfl rfl
@[simp] theorem selV_t (ρ : Env) (y z : M D) : (R.ok (.bl true) ρ).selV y z = y ρ := .trans rfl rfl
@[simp] theorem selV_f (ρ : Env) (y z : M D) : (R.ok (.bl false) ρ).selV y z = z ρ := .trans rfl rfl
@[simp] theorem selV_exc (c : Exc) (ρ : Env) (y z : M D) : (R.exc c ρ).selV y z = .exc c ρ := .trans rfl rfl
@[simp] theorem selD_ap (ρ : Env) (m y z : M D) : selD m y z ρ = (m ρ).selV y z := .trans rfl rfl
/-- a choice, looked into late -/
def sel {γ : Type} (b : Bool) (x y : γ) : γ := if b then x else y
@[simp] theorem sel_t {γ : Type} (x y : γ) : sel true x y = x := .trans rfl rfl
@[simp] theorem sel_f {γ : Type} (x y : γ) : sel false x y = y := .trans rfl rfl
theorem sel_ite {γ : Type} (p : Prop) [Decidable p] (x y : γ) : sel (decide p) x y = if p then x else y := by by_cases h : p <;> simp [h]
/-- a test of a number, looked into late -/
def okIf {γ : Type} (p : Prop) [Decidable p] (x : γ) : Option γ := if p then some x else none
theorem okIf_t {γ : Type} {p : Prop} [Decidable p] {x : γ} (h : p) : okIf p x = some x := if_pos h
end

section
variable {α β : Type} {ρ : Env}
@[simp] theorem pur_ap (a : α) : pur a ρ = .ok a ρ := .trans rfl rfl
@[simp] theorem bad_ap : (bad : M α) ρ = .bad := .trans rfl rfl
@[simp] theorem bnd_ap (m : M α) (k : α → M β) : bnd m k ρ = (m ρ).go k := by unfold bnd R.go; cases m ρ <;> rfl
@[simp] theorem opt_sm (a : α) : opt (some a) ρ = .ok a ρ := .trans rfl rfl
@[simp] theorem opt_nn : opt (none : Option α) ρ = .bad := .trans rfl rfl
@[simp] theorem sq_ap (a b : SM) : sq a b ρ = (a ρ).th b := by unfold sq SR.th; cases a ρ <;> rfl
@[simp] theorem sbnd_ap (m : M α) (k : α → SM) : sbnd m k ρ = (m ρ).ths k := by unfold sbnd R.ths; cases m ρ <;> rfl
theorem sel_ap {γ : Type} (b : Bool) (y z : Env → γ) : (if b then y else z) ρ = sel b (y ρ) (z ρ) := by cases b <;> rfl
@[simp] theorem sIf_ap (x : M Bool) (y z : SM) : sIf x y z ρ = (x ρ).selS y z := by
  unfold sIf R.selS; rw [sbnd_ap]; rcases x ρ with ⟨b, _⟩ | _ | _
  · cases b <;> rfl
  · rfl
  · rfl
@[simp] theorem froz_ap (m : M T) : froz m ρ = (m ρ).go fun t => pur t.strip := by unfold froz; rw [bnd_ap]
@[simp] theorem shar_ap (m : M D) : shar m ρ = (m ρ).go fun d => pur (.sh d) := by unfold shar; rw [bnd_ap]
@[simp] theorem op2_ap (f : D → D → Option D) (a b : M D) : op2 f a b ρ = (a ρ).go fun x => bnd b fun y => opt (f x y) := by unfold op2; rw [bnd_ap]
@[simp] theorem op1_ap (f : D → Option D) (a : M D) : op1 f a ρ = (a ρ).go fun x => opt (f x) := by unfold op1; rw [bnd_ap]
@[simp] theorem onS_ap (m : M D) : onS m ρ = (m ρ).go fun d ρ => (match d with | .str l => .ok l ρ | _ => .bad) := by
  unfold onS; rw [bnd_ap]; congr 1; funext d ρ; cases d <;> rfl
@[simp] theorem mth1_ap (f : D → D → Option D) (a b : M D) : mth1 f a b ρ = (onS a ρ).go fun l => bnd b fun dy => opt (f (.str l) dy) := by unfold mth1; rw [bnd_ap]
@[simp] theorem cons1_ap (a : M D) (r : M (List D)) : cons1 a r ρ = (a ρ).go fun d => bnd r fun ds => pur (d :: ds) := by unfold cons1; rw [bnd_ap]
@[simp] theorem opL_ap (f : List D → Option D) (m : M (List D)) : opL f m ρ = (m ρ).go fun ds => opt (f ds) := by unfold opL; rw [bnd_ap]
@[simp] theorem asB_bl (b : Bool) : asB (.bl b) ρ = .ok b ρ := .trans rfl rfl
@[simp] theorem asI_int (i : Int) : asI (.int i) ρ = .ok (some i) ρ := .trans rfl rfl
@[simp] theorem mAnd_ap (x y : M Bool) : mAnd x y ρ = (x ρ).selM y (pur false) := by
  unfold mAnd R.selM; rw [bnd_ap]; rcases x ρ with ⟨b, _⟩ | _ | _
  · cases b <;> rfl
  · rfl
  · rfl
@[simp] theorem mOr_ap (x y : M Bool) : mOr x y ρ = (x ρ).selM (pur true) y := by
  unfold mOr R.selM; rw [bnd_ap]; rcases x ρ with ⟨b, _⟩ | _ | _
  · cases b <;> rfl
  · rfl
  · rfl
@[simp] theorem mNot_ap (x : M Bool) : mNot x ρ = (x ρ).go fun b => pur (!b) := by unfold mNot; rw [bnd_ap]
@[simp] theorem mIte_ap (x : M Bool) (y z : M α) : mIte x y z ρ = (x ρ).selM y z := by
  unfold mIte R.selM; rw [bnd_ap]; rcases x ρ with ⟨b, _⟩ | _ | _
  · cases b <;> rfl
  · rfl
  · rfl
@[simp] theorem vAnd_ap (x y : M D) : vAnd x y ρ = (x ρ).selV y (pur (.bl false)) := by
  unfold vAnd R.selV; rw [bnd_ap]; rcases x ρ with ⟨d, _⟩ | _ | _
  · cases d <;> first | rfl | (rename_i b _; cases b <;> rfl) | (rename_i b; cases b <;> rfl)
  · rfl
  · rfl
@[simp] theorem vOr_ap (x y : M D) : vOr x y ρ = (x ρ).selV (pur (.bl true)) y := by
  unfold vOr R.selV; rw [bnd_ap]; rcases x ρ with ⟨d, _⟩ | _ | _
  · cases d <;> first | rfl | (rename_i b _; cases b <;> rfl) | (rename_i b; cases b <;> rfl)
  · rfl
  · rfl
@[simp] theorem vNot_ap (x : M D) : vNot x ρ = (x ρ).go fun d => bnd (asB d) fun b => pur (.bl (!b)) := by unfold vNot; rw [bnd_ap]
@[simp] theorem op3_ap (f f' : D → D → Option D) (x y z : M D) : op3 f f' x y z ρ = (x ρ).go fun dx => bnd y fun dy => selD (opt (f dx dy)) (bnd z fun dz => opt (f' dy dz)) (pur (.bl false)) := by
  unfold op3; rw [bnd_ap]; congr 1; funext dx ρ; congr 1; funext dy ρ; rw [selD_ap, bnd_ap]; unfold R.selV
  rcases opt (f dx dy) ρ with ⟨d, _⟩ | _ | _
  · cases d <;> first | rfl | (rename_i b _; cases b <;> rfl) | (rename_i b; cases b <;> rfl)
  · rfl
  · rfl
@[simp] theorem ownL_ap (m : M (List D)) : ownL m ρ = (m ρ).go fun ds ρ => sel (big ds.length) (.ok (.lst (ds.map .sh)) ρ) .bad := by
  unfold ownL; rw [bnd_ap]; congr 1; funext ds ρ; exact sel_ap _ _ _
@[simp] theorem sl3_ap (f : D → Option Int → Option Int → Option D) (m : M D) (lo hi : M (Option Int)) : sl3 f m lo hi ρ = (m ρ).go fun d => bnd lo fun l => bnd hi fun h => opt (f d l h) := by unfold sl3; rw [bnd_ap]
@[simp] theorem two_ap (x y : M T) : two x y ρ = (x ρ).go fun t => bnd y fun u => pur (t, u) := by unfold two; rw [bnd_ap]
end

/-! ### slots -/
def getT (ρ : Env) (i : Nat) : Option T → R D
  | some (.sh d) => .ok d ρ
  | some .un => .bad
  | some (.lst ts) => .ok (.lst (T.strips ts)) (ρ.set i (.sh (.lst (T.strips ts))))
  | some (.dct t ks) => .ok (.dct t (T.stripKs ks)) (ρ.set i (.sh (.dct t (T.stripKs ks))))
  | none => .bad
@[simp] theorem get_ap (i : Nat) (ρ : Env) : get i ρ = getT ρ i ρ[i]? := by
  unfold get getT
  rcases ρ[i]? with _ | _ | _ | _ | _ <;> rfl
@[simp] theorem getT_sh (ρ : Env) (i : Nat) (d : D) : getT ρ i (some (.sh d)) = .ok d ρ := .trans rfl rfl
@[simp] theorem getT_lst (ρ : Env) (i : Nat) (ts : List T) : getT ρ i (some (.lst ts)) = .ok (.lst (T.strips ts)) (ρ.set i (.sh (.lst (T.strips ts)))) := .trans rfl rfl
@[simp] theorem getT_dct (ρ : Env) (i : Nat) (t : Bool) (ks : List (D × T)) : getT ρ i (some (.dct t ks)) = .ok (.dct t (T.stripKs ks)) (ρ.set i (.sh (.dct t (T.stripKs ks)))) := .trans rfl rfl
@[simp] theorem put_ap (i : Nat) (t : T) (ρ : Env) : put i t ρ = sel (decide (i < ρ.length)) (.nx (ρ.set i t)) .bad := by unfold put; rw [sel_ite]
@[simp] theorem put2_ap (i j : Nat) (p : T × T) (ρ : Env) : put2 i j p ρ = sel (decide (i < ρ.length ∧ j < ρ.length)) (.nx ((ρ.set i p.1).set j p.2)) .bad := by unfold put2; rw [sel_ite]
@[simp] theorem bName_ap (i : Nat) (d : D) (ρ : Env) : bName i d ρ = sel (decide (i < ρ.length)) (some (ρ.set i (.sh d))) none := by unfold bName; rw [sel_ite]
@[simp] theorem bTup_ap (r : BDs) (ds : List D) (ρ : Env) : bTup r (.tup ds) ρ = r ds ρ := .trans rfl rfl
@[simp] theorem bCons_ap (f : BD) (r : BDs) (d : D) (ds : List D) (ρ : Env) : bCons f r (d :: ds) ρ = (f d ρ).bind (r ds) := .trans rfl rfl
@[simp] theorem bNil_ap (ρ : Env) : bNil [] ρ = some ρ := .trans rfl rfl
@[simp] theorem optS_some (ρ : Env) : optS (some ρ) = .nx ρ := .trans rfl rfl
@[simp] theorem optS_none : optS none = .bad := .trans rfl rfl
def isUR (ρ : Env) : Option T → R Unit
  | some .un => .bad
  | some _ => .ok () ρ
  | none => .bad
@[simp] theorem isU_ap (i : Nat) (ρ : Env) : isU i ρ = isUR ρ ρ[i]? := by unfold isU isUR; rcases ρ[i]? with _ | _ | _ | _ | _ <;> rfl
@[simp] theorem isUR_sh (ρ : Env) (d : D) : isUR ρ (some (.sh d)) = .ok () ρ := .trans rfl rfl
@[simp] theorem isUR_lst (ρ : Env) (d : List T) : isUR ρ (some (.lst d)) = .ok () ρ := .trans rfl rfl
@[simp] theorem isUR_dct (ρ : Env) (t : Bool) (d : List (D × T)) : isUR ρ (some (.dct t d)) = .ok () ρ := .trans rfl rfl
theorem isUR_ne (ρ : Env) {t : T} (h : t ≠ .un) : isUR ρ (some t) = .ok () ρ := by cases t <;> first | rfl | exact absurd rfl h
def isLR (ρ : Env) : Option T → R Unit
  | some (.lst _) => .ok () ρ
  | _ => .bad
@[simp] theorem isL_ap (i : Nat) (ρ : Env) : isL i ρ = isLR ρ ρ[i]? := by unfold isL isLR; rcases ρ[i]? with _ | _ | _ | _ | _ <;> rfl
@[simp] theorem isLR_lst (ρ : Env) (d : List T) : isLR ρ (some (.lst d)) = .ok () ρ := .trans rfl rfl
def moveR (ρ : Env) (i : Nat) : Option T → R T
  | none => .bad
  | some .un => .bad
  | some t => .ok t (ρ.set i .un)
@[simp] theorem mMove_ap (i : Nat) (ρ : Env) : mMove i ρ = moveR ρ i ρ[i]? := by unfold mMove moveR; rcases ρ[i]? with _ | _ | _ | _ | _ <;> rfl
@[simp] theorem moveR_sh (ρ : Env) (i : Nat) (d : D) : moveR ρ i (some (.sh d)) = .ok (.sh d) (ρ.set i .un) := .trans rfl rfl
@[simp] theorem moveR_lst (ρ : Env) (i : Nat) (d : List T) : moveR ρ i (some (.lst d)) = .ok (.lst d) (ρ.set i .un) := .trans rfl rfl
@[simp] theorem moveR_dct (ρ : Env) (i : Nat) (t : Bool) (d : List (D × T)) : moveR ρ i (some (.dct t d)) = .ok (.dct t d) (ρ.set i .un) := .trans rfl rfl
def modR {α : Type} (ρ : Env) (i : Nat) (f : List T → Option (α × List T)) : Option T → R α
  | some (.lst ts) => (match f ts with | some (r, ts') => .ok r (ρ.set i (.lst ts')) | none => .bad)
  | _ => .bad
@[simp] theorem modL_ap {α : Type} (i : Nat) (f : List T → Option (α × List T)) (ρ : Env) : modL i f ρ = modR ρ i f ρ[i]? := by unfold modL modR; rcases ρ[i]? with _ | _ | _ | _ | _ <;> rfl
theorem modR_lst {α : Type} (ρ : Env) (i : Nat) (f : List T → Option (α × List T)) (ts : List T) : modR ρ i f (some (.lst ts)) = match f ts with | some (r, ts') => .ok r (ρ.set i (.lst ts')) | none => .bad := rfl
def appR (ρ : Env) (i : Nat) (t : T) : Option T → R D
  | some (.lst ts) => sel (big (ts.length + 1)) (.ok .non (ρ.set i (.lst (ts ++ [t])))) .bad
  | _ => .bad
@[simp] theorem mAppend_ap (i : Nat) (te : M T) (ρ : Env) : mAppend i te ρ = (te ρ).go fun t ρ => appR ρ i t ρ[i]? := by
  unfold mAppend; rw [bnd_ap]; congr 1; funext t ρ; rw [modL_ap]; unfold modR appR
  rcases ρ[i]? with _ | _ | _ | ts | _ <;> try rfl
  dsimp only
  by_cases h : big (ts.length + 1) = true
  · rw [if_pos h, h]; rfl
  · rw [if_neg h]; simp only [Bool.not_eq_true] at h; rw [h]; rfl
@[simp] theorem appR_lst (ρ : Env) (i : Nat) (t : T) (ts : List T) : appR ρ i t (some (.lst ts)) = sel (big (ts.length + 1)) (.ok .non (ρ.set i (.lst (ts ++ [t])))) .bad := .trans rfl rfl
def extR (ρ : Env) (i : Nat) (d : D) : Option T → R D
  | some (.lst ts) => (match d with | .lst ds => sel (big (ts.length + ds.length)) (.ok .non (ρ.set i (.lst (ts ++ ds.map .sh)))) .bad | _ => .bad)
  | _ => .bad
@[simp] theorem mExtend_ap (i : Nat) (fa : M D) (ρ : Env) : mExtend i fa ρ = (fa ρ).go fun d ρ => extR ρ i d ρ[i]? := by
  unfold mExtend; rw [bnd_ap]; congr 1; funext d ρ; rw [modL_ap]; unfold modR extR
  rcases ρ[i]? with _ | _ | _ | ts | _ <;> try rfl
  cases d <;> try rfl
  rename_i ds
  dsimp only
  by_cases h : big (ts.length + ds.length) = true
  · rw [if_pos h, h]; rfl
  · rw [if_neg h]; simp only [Bool.not_eq_true] at h; rw [h]; rfl
@[simp] theorem extR_lst (ρ : Env) (i : Nat) (ds : List D) (ts : List T) : extR ρ i (.lst ds) (some (.lst ts)) = sel (big (ts.length + ds.length)) (.ok .non (ρ.set i (.lst (ts ++ ds.map .sh)))) .bad := .trans rfl rfl
def popR (ρ : Env) (i : Nat) : Option T → R T
  | some (.lst ts) => (match ts.getLast? with | some t => .ok t (ρ.set i (.lst ts.dropLast)) | none => .bad)
  | _ => .bad
@[simp] theorem mPop_ap (i : Nat) (ρ : Env) : mPop i ρ = popR ρ i ρ[i]? := by
  unfold mPop; rw [modL_ap]; unfold modR popR
  rcases ρ[i]? with _ | _ | _ | ts | _ <;> try rfl
  dsimp only
  cases ts.getLast? <;> rfl
@[simp] theorem popR_app (ρ : Env) (i : Nat) (ts : List T) (t : T) : popR ρ i (some (.lst (ts ++ [t]))) = .ok t (ρ.set i (.lst ts)) := by
  unfold popR; simp
@[simp] theorem popR_one (ρ : Env) (i : Nat) (t : T) : popR ρ i (some (.lst [t])) = .ok t (ρ.set i (.lst [])) := by
  unfold popR; simp
def ixR (ρ : Env) (d : D) : Option T → R D
  | some (.sh x) => opt (fIx x d) ρ
  | some (.lst ts) => (match d with | .int j => (match atI ts j with | some (.sh y) => .ok y ρ | _ => .bad) | _ => .bad)
  | _ => .bad
@[simp] theorem mIx_ap (i : Nat) (fj : M D) (ρ : Env) : mIx i fj ρ = (fj ρ).go fun d ρ => ixR ρ d ρ[i]? := by
  unfold mIx; rw [bnd_ap]; congr 1
@[simp] theorem ixR_sh (ρ : Env) (d x : D) : ixR ρ d (some (.sh x)) = opt (fIx x d) ρ := .trans rfl rfl
theorem ixR_lst (ρ : Env) (j : Int) (ts : List T) {y : D} (h : atI ts j = some (.sh y)) : ixR ρ (.int j) (some (.lst ts)) = .ok y ρ := by unfold ixR; simp only [h]
def lenR (ρ : Env) : Option T → R D
  | some (.sh x) => opt (fLen x) ρ
  | some (.lst ts) => .ok (.int ts.length) ρ
  | _ => .bad
@[simp] theorem mLen_ap (i : Nat) (ρ : Env) : mLen i ρ = lenR ρ ρ[i]? := by unfold mLen lenR; rcases ρ[i]? with _ | _ | _ | _ | _ <;> rfl
@[simp] theorem lenR_sh (ρ : Env) (x : D) : lenR ρ (some (.sh x)) = opt (fLen x) ρ := .trans rfl rfl
@[simp] theorem lenR_lst (ρ : Env) (ts : List T) : lenR ρ (some (.lst ts)) = .ok (.int ts.length) ρ := .trans rfl rfl
@[simp] theorem strips_nil : T.strips [] = [] := .trans rfl rfl
@[simp] theorem strips_cons (t : T) (ts : List T) : T.strips (t :: ts) = t.strip :: T.strips ts := .trans rfl rfl
@[simp] theorem strips_app (ts us : List T) : T.strips (ts ++ us) = T.strips ts ++ T.strips us := by simp [strips_eq]
@[simp] theorem strips_sh (ds : List D) : T.strips (ds.map T.sh) = ds := by
  rw [strips_eq, List.map_map]; exact List.map_id _
@[simp] theorem strips_shf {α : Type} (f : α → D) (ds : List α) : T.strips (ds.map fun x => T.sh (f x)) = ds.map f := by
  rw [strips_eq, List.map_map]; rfl
@[simp] theorem strip_sh (d : D) : (T.sh d).strip = d := .trans rfl rfl
@[simp] theorem strip_lst (ts : List T) : (T.lst ts).strip = .lst (T.strips ts) := .trans rfl rfl
@[simp] theorem strip_dct (t : Bool) (ts : List (D × T)) : (T.dct t ts).strip = .dct t (T.stripKs ts) := .trans rfl rfl
@[simp] theorem stripKs_nil : T.stripKs [] = [] := .trans rfl rfl
@[simp] theorem stripKs_cons (d : D) (t : T) (ts : List (D × T)) : T.stripKs ((d, t) :: ts) = (d, t.strip) :: T.stripKs ts := .trans rfl rfl
@[simp] theorem stripKs_shT (ts : List (D × D)) : T.stripKs (ts.map shT) = ts := by
  rw [stripKs_eq, List.map_map]; exact List.map_id _

theorem ixN_nat' {n k : Nat} (h : k < n) : ixN n (k : Int) = some k := by
  unfold ixN
  rw [if_pos (by omega), if_pos (by omega), Int.toNat_natCast]
def setR (ρ : Env) (i : Nat) (t : T) (d : D) : Option T → SR
  | some (.lst ts) => (match d with | .int j => (match ixN ts.length j with | some n => .nx (ρ.set i (.lst (ts.set n t))) | none => .bad) | _ => .bad)
  | _ => .bad
@[simp] theorem mSetI_ap (i : Nat) (te : M T) (fj : M D) (ρ : Env) : mSetI i te fj ρ = (te ρ).ths fun t => sbnd (isL i) fun _ => sbnd fj fun d ρ => setR ρ i t d ρ[i]? := by
  unfold mSetI; rw [sbnd_ap]; congr 1; funext t ρ; congr 1; funext _ ρ; congr 1; funext d ρ; rw [sbnd_ap, modL_ap]; unfold modR setR
  rcases ρ[i]? with _ | _ | _ | ts | _ <;> try rfl
  cases d <;> try rfl
  rename_i j
  dsimp only
  cases ixN ts.length j <;> rfl
@[simp] theorem setR_lst (ρ : Env) (i : Nat) (t : T) (j : Int) (ts : List T) : setR ρ i t (.int j) (some (.lst ts)) = match ixN ts.length j with | some n => .nx (ρ.set i (.lst (ts.set n t))) | none => .bad := .trans rfl rfl
def atR (ρ : Env) : Option T → R D
  | some (.sh y) => .ok y ρ
  | _ => .bad
@[simp] theorem ixR_at (ρ : Env) (j : Int) (ts : List T) : ixR ρ (.int j) (some (.lst ts)) = atR ρ (atI ts j) := by unfold ixR atR; rfl
@[simp] theorem atR_sh (ρ : Env) (y : D) : atR ρ (some (.sh y)) = .ok y ρ := .trans rfl rfl
@[simp] theorem fIx_lst (ds : List D) (i : Int) : fIx (.lst ds) (.int i) = atI ds i := .trans rfl rfl
@[simp] theorem fIx_tup (ds : List D) (i : Int) : fIx (.tup ds) (.int i) = atI ds i := .trans rfl rfl
theorem fIx_str {l : List Nat} {i : Int} {c : Nat} (h : l.length ≤ 16777216) (e : atI l i = some c) : fIx (.str l) (.int i) = some (.str [c]) := by
  show (if big l.length then (atI l i).map fun c => D.str [c] else none) = _
  rw [show big l.length = true from decide_eq_true h, e]; rfl
@[simp] theorem atI_0 {α : Type} (a : α) (l : List α) : atI (a :: l) 0 = some a := by
  have := ixN_nat' (n := (a :: l).length) (k := 0) (by simp)
  unfold atI; rw [show (0 : Int) = ((0 : Nat) : Int) from rfl, this]; rfl
@[simp] theorem atI_1 {α : Type} (a b : α) (l : List α) : atI (a :: b :: l) 1 = some b := by
  have := ixN_nat' (n := (a :: b :: l).length) (k := 1) (by simp)
  unfold atI; rw [show (1 : Int) = ((1 : Nat) : Int) from rfl, this]; rfl

/-! ### calls -/
def Out.goP (ρ : Env) : Out → R T
  | .ret t => .ok t ρ
  | .exc c => .exc c ρ
  | .bad => .bad
@[simp] theorem callP_ap (m : List D → Out) (a : M (List D)) (ρ : Env) : callP m a ρ = (a ρ).go fun ds ρ => (m ds).goP ρ := by
  unfold callP; rw [bnd_ap]; congr 1
@[simp] theorem goP_ret (t : T) (ρ : Env) : (Out.ret t).goP ρ = .ok t ρ := .trans rfl rfl
@[simp] theorem goP_exc (t : Exc) (ρ : Env) : (Out.exc t).goP ρ = .exc t ρ := .trans rfl rfl
def OutS.goS (ρ : Env) (i : Nat) : OutS → R T
  | .ret t s => .ok t (ρ.set i s)
  | .exc c s => .exc c (ρ.set i s)
  | .bad => .bad
@[simp] theorem goS_ret (t s : T) (ρ : Env) (i : Nat) : (OutS.ret t s).goS ρ i = .ok t (ρ.set i s) := .trans rfl rfl
@[simp] theorem goS_exc (c : Exc) (s : T) (ρ : Env) (i : Nat) : (OutS.exc c s).goS ρ i = .exc c (ρ.set i s) := .trans rfl rfl
def callSR (i : Nat) (m : T → List D → OutS) (ds : List D) (ρ : Env) : Option T → R T
  | none => .bad
  | some .un => .bad
  | some t0 => (m t0 ds).goS ρ i
@[simp] theorem callS_ap (i : Nat) (m : T → List D → OutS) (a : M (List D)) (ρ : Env) : callS i m a ρ = (isU i ρ).go fun _ => bnd a fun ds ρ => callSR i m ds ρ ρ[i]? := by
  unfold callS; rw [bnd_ap]; congr 1; funext _ ρ; congr 1; funext ds ρ; unfold callSR
  rcases ρ[i]? with _ | _ | x | x | x
  · rfl
  · rfl
  · dsimp only; cases m (.sh x) ds <;> rfl
  · dsimp only; cases m (.lst x) ds <;> rfl
  · rename_i ks; dsimp only; cases m (.dct x ks) ds <;> rfl
theorem callSR_ne (i : Nat) (m : T → List D → OutS) (ds : List D) (ρ : Env) {t : T} (h : t ≠ .un) : callSR i m ds ρ (some t) = (m t ds).goS ρ i := by cases t <;> first | rfl | exact absurd rfl h
@[simp] theorem callSR_lst (i : Nat) (m : T → List D → OutS) (ds : List D) (ρ : Env) (t : List T) : callSR i m ds ρ (some (.lst t)) = (m (.lst t) ds).goS ρ i := .trans rfl rfl
@[simp] theorem toOut_rt (t : T) (ρ : Env) : toOut (.rt t ρ) = .ret t := .trans rfl rfl
@[simp] theorem toOut_nx (ρ : Env) : toOut (.nx ρ) = .ret (.sh .non) := .trans rfl rfl
@[simp] theorem toOut_exc (c : Exc) (ρ : Env) : toOut (.exc c ρ) = .exc c := .trans rfl rfl
def atS (k : T → OutS) : Option T → OutS
  | some .un => .bad
  | some s => k s
  | none => .bad
@[simp] theorem toOutS_rt (t : T) (ρ : Env) : toOutS (.rt t ρ) = atS (fun s => .ret t s) ρ[0]? := by unfold toOutS atS <;> dsimp only <;> rcases (show List T from ρ)[0]? with _ | _ | _ | _ | _ <;> rfl
@[simp] theorem toOutS_nx (ρ : Env) : toOutS (.nx ρ) = atS (fun s => .ret (.sh .non) s) ρ[0]? := by unfold toOutS atS <;> dsimp only <;> rcases (show List T from ρ)[0]? with _ | _ | _ | _ | _ <;> rfl
@[simp] theorem toOutS_exc (c : Exc) (ρ : Env) : toOutS (.exc c ρ) = atS (fun s => .exc c s) ρ[0]? := by unfold toOutS atS <;> dsimp only <;> rcases (show List T from ρ)[0]? with _ | _ | _ | _ | _ <;> rfl
theorem atS_ne {k : T → OutS} {t : T} (h : t ≠ .un) : atS k (some t) = k t := by cases t <;> first | rfl | exact absurd rfl h
@[simp] theorem atS_lst {k : T → OutS} (t : List T) : atS k (some (.lst t)) = k (.lst t) := .trans rfl rfl
@[simp] theorem atS_sh {k : T → OutS} (t : D) : atS k (some (.sh t)) = k (.sh t) := .trans rfl rfl
def R.told : R T → R D
  | .ok t ρ' => .ok (.tup [.str [116, 111, 108, 100], t.strip]) ρ'
  | .exc c ρ' => (match c.load with | none => .ok (.tup [.str (kindS c)]) ρ' | some _ => .bad)
  | .bad => .bad
@[simp] theorem mTold_ap (m : M T) (ρ : Env) : mTold m ρ = (m ρ).told := by unfold mTold R.told; cases m ρ <;> rfl
@[simp] theorem told_ok (t : T) (ρ : Env) : (R.ok t ρ).told = .ok (.tup [.str [116, 111, 108, 100], t.strip]) ρ := .trans rfl rfl
@[simp] theorem told_ref (ρ : Env) : (R.exc .refused ρ).told = .ok (.tup [.str [114, 101, 102, 117, 115, 101, 100]]) ρ := .trans rfl rfl
@[simp] theorem told_lar (ρ : Env) : (R.exc .large ρ).told = .ok (.tup [.str [108, 97, 114, 103, 101]]) ρ := .trans rfl rfl
@[simp] theorem told_mis (ρ : Env) : (R.exc .missing ρ).told = .ok (.tup [.str [109, 105, 115, 115, 105, 110, 103]]) ρ := .trans rfl rfl
@[simp] theorem inLam_ap (sl : List Nat) (m : M T) (ρ : Env) : inLam sl m ρ = m (wipeE ρ sl) := .trans rfl rfl
@[simp] theorem wipeE_nil (ρ : Env) : wipeE ρ [] = ρ := .trans rfl rfl
@[simp] theorem wipeE_cons (ρ : Env) (v : Nat) (vs : List Nat) : wipeE ρ (v :: vs) = (wipeE ρ vs).set v .un := .trans rfl rfl
def SR.catch (f : Exc → Option Bool) (mh : SM) : SR → SR
  | .exc c ρ' => (match f c with | some true => mh ρ' | some false => .exc c ρ' | none => .bad)
  | r => r
@[simp] theorem sTry_ap (f : Exc → Option Bool) (mb mh : SM) (ρ : Env) : sTry f mb mh ρ = (mb ρ).catch f mh := by unfold sTry SR.catch; cases mb ρ <;> rfl
@[simp] theorem catch_nx (f : Exc → Option Bool) (mh : SM) (ρ : Env) : (SR.nx ρ).catch f mh = .nx ρ := .trans rfl rfl
@[simp] theorem catch_rt (f : Exc → Option Bool) (mh : SM) (t : T) (ρ : Env) : (SR.rt t ρ).catch f mh = .rt t ρ := .trans rfl rfl
theorem catch_exc (f : Exc → Option Bool) (mh : SM) (c : Exc) (ρ : Env) (h : f c = some true) : (SR.exc c ρ).catch f mh = mh ρ := by unfold SR.catch; simp only [h]

/-! ### operations -/
theorem big_t {n : Nat} (h : n ≤ 16777216) : big n = true := decide_eq_true h
@[simp] theorem fAdd_int (i j : Int) : fAdd (.int i) (.int j) = some (.int (i + j)) := .trans rfl rfl
theorem fAdd_str {a b : List Nat} (h : a.length + b.length ≤ 16777216) : fAdd (.str a) (.str b) = some (.str (a ++ b)) := by
  show (none : Option D).or (((if big (a.length + b.length) then some (D.str (a ++ b)) else none) : Option D).or _) = _
  rw [if_pos (big_t h)]; rfl
theorem fAdd_lst {a b : List D} (h : a.length + b.length ≤ 16777216) : fAdd (.lst a) (.lst b) = some (.lst (a ++ b)) := by
  show (none : Option D).or ((none : Option D).or (((if big (a.length + b.length) then some (D.lst (a ++ b)) else none) : Option D).or _)) = _
  rw [if_pos (big_t h)]; rfl
theorem fAdd_tup {a b : List D} (h : a.length + b.length ≤ 16777216) : fAdd (.tup a) (.tup b) = some (.tup (a ++ b)) := by
  show (none : Option D).or ((none : Option D).or ((none : Option D).or (if big (a.length + b.length) then some (D.tup (a ++ b)) else none))) = _
  rw [if_pos (big_t h)]; rfl
@[simp] theorem fSub_int (i j : Int) : fSub (.int i) (.int j) = some (.int (i - j)) := .trans rfl rfl
theorem fMul_int {i j : Int} (h : (-18446744073709551616 < i ∧ i < 18446744073709551616) ∨ (-18446744073709551616 < j ∧ j < 18446744073709551616)) : fMul (.int i) (.int j) = some (.int (i * j)) := by
  unfold fMul fMulI fII smal
  rcases h with h | h
  · simp only [decide_eq_true h, Bool.true_or, if_true, Option.some_or]
  · simp only [decide_eq_true h, Bool.or_true, if_true, Option.some_or]
theorem fMul_str {l : List Nat} {k : Int} (h1 : -9223372036854775808 ≤ k ∧ k < 9223372036854775808) (h2 : l.length * k.toNat ≤ 16777216) : fMul (.str l) (.int k) = some (.str (List.replicate k.toNat l).flatten) := by
  show (none : Option D).or (((if decide (-9223372036854775808 ≤ k ∧ k < 9223372036854775808) && big (l.length * k.toNat) then some (D.str (List.replicate k.toNat l).flatten) else none) : Option D).or _) = _
  rw [decide_eq_true h1, big_t h2]; rfl
theorem fMul_lst {l : List D} {k : Int} (h1 : -9223372036854775808 ≤ k ∧ k < 9223372036854775808) (h2 : l.length * k.toNat ≤ 16777216) : fMul (.lst l) (.int k) = some (.lst (List.replicate k.toNat l).flatten) := by
  show (none : Option D).or ((none : Option D).or (if decide (-9223372036854775808 ≤ k ∧ k < 9223372036854775808) && big (l.length * k.toNat) then some (D.lst (List.replicate k.toNat l).flatten) else none)) = _
  rw [decide_eq_true h1, big_t h2]; rfl
theorem fDiv_int {i j : Int} (h : j ≠ 0 ∧ j.natAbs < 1073741824) : fDiv (.int i) (.int j) = some (.int (i.fdiv j)) := by
  unfold fDiv fII; simp only [decide_eq_true h, if_true]
theorem fMod_int {i j : Int} (h : j ≠ 0) : fMod (.int i) (.int j) = some (.int (i.fmod j)) := by
  unfold fMod fII; simp only [decide_eq_true h, if_true]
theorem fPow_int {i j : Int} (h : 0 ≤ j ∧ j ≤ 1000000 ∧ i.natAbs < 18446744073709551616) : fPow (.int i) (.int j) = some (.int (i ^ j.toNat)) := by
  unfold fPow fII; simp only [decide_eq_true h, if_true]
@[simp] theorem fNeg_int (i : Int) : fNeg (.int i) = some (.int (-i)) := .trans rfl rfl
@[simp] theorem fCmp_int (p : Int → Int → Bool) (i j : Int) : fCmp p (.int i) (.int j) = some (.bl (p i j)) := .trans rfl rfl
theorem eqv_str (a b : List Nat) : dEq (.str a) (.str b) = decide (a = b) := by
  show PyData.eqv (.str (S a)) (.str (S b)) = _
  by_cases h : a = b
  · subst h; simp [PyData.eqv]
  · have h' : ¬ S a = S b := fun z => h (S_inj.mp z)
    simp [PyData.eqv, h, h']
theorem eqv_int (a b : Int) : dEq (.int a) (.int b) = decide (a = b) := by
  show PyData.eqv (.int a) (.int b) = _
  by_cases h : a = b
  · subst h; simp [PyData.eqv]
  · simp [PyData.eqv, h]
@[simp] theorem fEq_str (a b : List Nat) : fEq (.str a) (.str b) = some (.bl (decide (a = b))) := by rw [← eqv_str]; rfl
@[simp] theorem fEq_int (a b : Int) : fEq (.int a) (.int b) = some (.bl (decide (a = b))) := by rw [← eqv_int]; rfl
@[simp] theorem fNe_str (a b : List Nat) : fNe (.str a) (.str b) = some (.bl (!decide (a = b))) := by rw [← eqv_str]; rfl
@[simp] theorem fNe_int (a b : Int) : fNe (.int a) (.int b) = some (.bl (!decide (a = b))) := by rw [← eqv_int]; rfl
@[simp] theorem fIn_chr (c : Nat) (l : List Nat) : fIn false (.str [c]) (.str l) = some (.bl (decide (c ∈ l))) := .trans rfl rfl
@[simp] theorem fNin_chr (c : Nat) (l : List Nat) : fIn true (.str [c]) (.str l) = some (.bl (!decide (c ∈ l))) := .trans rfl rfl
theorem fLen_str {l : List Nat} (h : l.length ≤ 16777216) : fLen (.str l) = some (.int l.length) := by
  show (if big l.length then some (D.int l.length) else none) = _
  rw [big_t h]; rfl
@[simp] theorem fLen_lst (l : List D) : fLen (.lst l) = some (.int l.length) := .trans rfl rfl
@[simp] theorem fLen_tup (l : List D) : fLen (.tup l) = some (.int l.length) := .trans rfl rfl
@[simp] theorem on1_ap (f : D → Option D) (d : D) : on1 f [d] = f d := .trans rfl rfl
@[simp] theorem on2_ap (f : D → D → Option D) (d e : D) : on2 f [d, e] = f d e := .trans rfl rfl
@[simp] theorem fAbs_int (i : Int) : fAbs (.int i) = some (.int (if i < 0 then -i else i)) := .trans rfl rfl
@[simp] theorem fInt_int (i : Int) : fInt (.int i) = some (.int i) := .trans rfl rfl
@[simp] theorem fInt_bl (b : Bool) : fInt (.bl b) = some (.int (if b then 1 else 0)) := .trans rfl rfl
@[simp] theorem fMax_int (i j : Int) : fMax (.int i) (.int j) = some (.int (if j > i then j else i)) := .trans rfl rfl
@[simp] theorem fMin_int (i j : Int) : fMin (.int i) (.int j) = some (.int (if j < i then j else i)) := .trans rfl rfl
theorem dBls_map {α : Type} (f : α → Bool) (xs : List α) : dBls (xs.map fun x => .bl (f x)) = some (xs.map f) := by
  induction xs with
  | nil => rfl
  | cons x xs ih => simp [dBls, ih]
theorem dInts_map {α : Type} (f : α → Int) (xs : List α) : dInts (xs.map fun x => .int (f x)) = some (xs.map f) := by
  induction xs with
  | nil => rfl
  | cons x xs ih => simp [dInts, ih]
theorem dStrs_map {α : Type} (f : α → List Nat) (xs : List α) : dStrs (xs.map fun x => .str (f x)) = some (xs.map f) := by
  induction xs with
  | nil => rfl
  | cons x xs ih => simp [dStrs, ih]
@[simp] theorem fAll_map {α : Type} (f : α → Bool) (xs : List α) : fAll (.lst (xs.map fun x => .bl (f x))) = some (.bl (xs.all f)) := by
  show (dBls _).map _ = _
  rw [dBls_map]; simp [List.all_map]
@[simp] theorem fAny_map {α : Type} (f : α → Bool) (xs : List α) : fAny (.lst (xs.map fun x => .bl (f x))) = some (.bl (xs.any f)) := by
  show (dBls _).map _ = _
  rw [dBls_map]; simp [List.any_map]
@[simp] theorem fSum_map {α : Type} (f : α → Int) (xs : List α) : fSum (.lst (xs.map fun x => .int (f x))) = some (.int (xs.map f).sum) := by
  show (dInts _).map _ = _
  rw [dInts_map]; rfl
@[simp] theorem fTup_lst (ds : List D) : fTup (.lst ds) = some (.tup ds) := .trans rfl rfl
@[simp] theorem items_lst (ds : List D) : items (.lst ds) = some ds := .trans rfl rfl
@[simp] theorem items_tup (ds : List D) : items (.tup ds) = some ds := .trans rfl rfl
@[simp] theorem items_str (l : List Nat) : items (.str l) = some (l.map fun c => .str [c]) := .trans rfl rfl
theorem rng1_eq {n : Int} (h : -4611686018427387904 ≤ n ∧ n < 4611686018427387904) : rng1 [.int n] = some ((List.range n.toNat).map fun (i : Nat) => .int i) := by
  have : i62 n = true := decide_eq_true h
  simp [rng1, this]
theorem rng2_eq {m n : Int} (h1 : -4611686018427387904 ≤ m ∧ m < 4611686018427387904) (h : -4611686018427387904 ≤ n ∧ n < 4611686018427387904) : rng2 [.int m, .int n] = some ((List.range (n - m).toNat).map fun (i : Nat) => .int (m + i)) := by
  have a : i62 m = true := decide_eq_true h1
  have b : i62 n = true := decide_eq_true h
  simp [rng2, a, b]
theorem rng3_eq {m n : Int} (h1 : -4611686018427387904 ≤ m ∧ m < 4611686018427387904) (h : -4611686018427387904 ≤ n ∧ n < 4611686018427387904) : rng3 [.int m, .int n, .int (-1)] = some ((List.range (m - n).toNat).map fun (i : Nat) => .int (m + i * -1)) := by
  have a : i62 m = true := decide_eq_true h1
  have b : i62 n = true := decide_eq_true h
  simp [rng3, a, b]

/-! ### indices and slices -/
theorem ixN_nat {n k : Nat} (h : k < n) : ixN n (k : Int) = some k := by
  unfold ixN
  rw [if_pos (by omega), if_pos (by omega), Int.toNat_natCast]
theorem ixN_neg {n k : Nat} (h : k < n) : ixN n (-((k : Int) + 1)) = some (n - 1 - k) := by
  unfold ixN
  rw [if_neg (by omega), if_pos (by omega)]
  congr 1; omega
theorem atI_nat {α : Type} {xs : List α} {k : Nat} (h : k < xs.length) : atI xs (k : Int) = some xs[k] := by
  unfold atI; rw [ixN_nat h]; simp [h]
theorem atI_of {α : Type} {xs : List α} {k : Nat} {x : α} (h : xs[k]? = some x) : atI xs (k : Int) = some x := by
  have := (List.getElem?_eq_some_iff.mp h).1
  unfold atI; rw [ixN_nat this]; exact h
theorem cut_take {α : Type} (xs : List α) (k : Nat) : cut xs none (some (k : Int)) = xs.take k := by
  unfold cut; rw [HT.sIx_none, HT.sIx_nat]
  simp only [List.drop_zero, Nat.sub_zero]
  by_cases h : k ≤ xs.length
  · rw [Nat.min_eq_left h]
  · rw [Nat.min_eq_right (by omega), List.take_length, List.take_of_length_le (by omega)]
theorem cut_drop {α : Type} (xs : List α) (k : Nat) : cut xs (some (k : Int)) none = xs.drop k := by
  unfold cut; rw [HT.sIx_none, HT.sIx_nat]
  by_cases h : k ≤ xs.length
  · rw [Nat.min_eq_left h, List.take_of_length_le (by simp)]
  · rw [Nat.min_eq_right (by omega), List.drop_length, List.drop_of_length_le (by omega)]; simp
theorem cut_mid {α : Type} (xs : List α) (j k : Nat) : cut xs (some (j : Int)) (some (k : Int)) = (xs.drop j).take (k - j) := by
  unfold cut; rw [HT.sIx_nat, HT.sIx_nat]
  apply List.ext_getElem?
  intro i
  simp only [List.getElem?_take, List.getElem?_drop]
  by_cases h1 : j ≤ xs.length
  · rw [Nat.min_eq_left h1]
    by_cases h2 : k ≤ xs.length
    · rw [Nat.min_eq_left h2]
    · rw [Nat.min_eq_right (by omega)]
      by_cases h3 : i < xs.length - j
      · rw [if_pos h3, if_pos (by omega)]
      · rw [if_neg h3]
        split
        · rw [List.getElem?_eq_none (by omega)]
        · rfl
  · rw [Nat.min_eq_right (show xs.length ≤ j by omega)]
    have e1 : xs[xs.length + i]? = none := List.getElem?_eq_none (by omega)
    have e2 : xs[j + i]? = none := List.getElem?_eq_none (by omega)
    rw [e1, e2]; simp
theorem fSl_str {l : List Nat} {lo hi : Option Int} (h : l.length ≤ 16777216) : fSl (.str l) lo hi = some (.str (cut l lo hi)) := by
  show (if big l.length then some (D.str (cut l lo hi)) else none) = _
  rw [big_t h]; rfl
@[simp] theorem fSl_lst (l : List D) (lo hi : Option Int) : fSl (.lst l) lo hi = some (.lst (cut l lo hi)) := .trans rfl rfl
@[simp] theorem fSl_frl (l : List D) (lo hi : Option Int) : fSl (.frl l) lo hi = some (.lst (cut l lo hi)) := .trans rfl rfl
@[simp] theorem fSl_tup (l : List D) (lo hi : Option Int) : fSl (.tup l) lo hi = some (.tup (cut l lo hi)) := .trans rfl rfl

@[simp] theorem toList_S (l : List Nat) : (S l).cps.toList = l := .trans rfl rfl
theorem rng1_nat {n : Nat} (h : n < 1000000000) : rng1 [.int (n : Int)] = some ((List.range n).map fun (i : Nat) => .int i) := by
  have := rng1_eq (n := (n : Int)) (by omega)
  rw [Int.toNat_natCast] at this; exact this
theorem rng2_nat {m n : Nat} (h1 : m < 1000000000) (h : n < 1000000000) : rng2 [.int (m : Int), .int (n : Int)] = some ((List.range' m (n - m)).map fun (i : Nat) => .int i) := by
  have := rng2_eq (m := (m : Int)) (n := (n : Int)) (by omega) (by omega)
  rw [this, show ((n : Int) - m).toNat = n - m by omega, List.range'_eq_map_range, List.map_map]
  congr 1
theorem fMod_nat {i j : Nat} (h : j ≠ 0) : fMod (.int (i : Int)) (.int (j : Int)) = some (.int ((i % j : Nat) : Int)) := by
  rw [fMod_int (by omega), ← Int.ofNat_fmod]
theorem fDiv_nat {i j : Nat} (h : j ≠ 0 ∧ j < 1073741824) : fDiv (.int (i : Int)) (.int (j : Int)) = some (.int ((i / j : Nat) : Int)) := by
  rw [fDiv_int (by omega), ← Int.ofNat_fdiv]
theorem fMul_strN {l : List Nat} {k : Nat} (h1 : k < 1000000000) (h2 : l.length * k ≤ 16777216) : fMul (.str l) (.int (k : Int)) = some (.str (List.replicate k l).flatten) := by
  have := fMul_str (l := l) (k := (k : Int)) (by omega) (by rw [Int.toNat_natCast]; exact h2)
  rw [Int.toNat_natCast] at this; exact this

/-! ### loops -/
/-- a loop that returns at the first that p holds of -/
theorem forL_first {α : Type} {f : BD} {mb : SM} (mk : α → D) (p : α → Bool) (J : Env → Prop) (out : α → T) : ∀ (ns : List α) (ρ : Env), J ρ →
    (∀ a ∈ ns, ∀ ρ, J ρ → ∃ ρ1, f (mk a) ρ = some ρ1 ∧ (p a = false → ∃ ρ2, mb ρ1 = .nx ρ2 ∧ J ρ2) ∧ (p a = true → ∃ ρ2, mb ρ1 = .rt (out a) ρ2)) →
    (ns.find? p = none → ∃ ρ', forL f mb (ns.map mk) ρ = .nx ρ' ∧ J ρ') ∧ ∀ a, ns.find? p = some a → ∃ ρ', forL f mb (ns.map mk) ρ = .rt (out a) ρ'
  | [], ρ, h, _ => ⟨fun _ => ⟨ρ, rfl, h⟩, fun d hd => by cases hd⟩
  | d :: ds, ρ, h, k => by
    obtain ⟨ρ1, h1, h2, h3⟩ := k d (List.mem_cons_self ..) ρ h
    have e : forL f mb ((d :: ds).map mk) ρ = loopK (mb ρ1) (forL f mb (ds.map mk)) := by
      show (match f (mk d) ρ with | none => SR.bad | some ρ1 => loopK (mb ρ1) (forL f mb (ds.map mk))) = _
      rw [h1]
    rw [e]
    cases hp : p d with
    | true =>
      have e0 : (d :: ds).find? p = some d := by simp [List.find?_cons, hp]
      rw [e0]
      refine ⟨fun z => (by cases z), fun d' e => ?_⟩
      cases e
      obtain ⟨ρ2, e2⟩ := h3 hp
      exact ⟨ρ2, by rw [e2]; rfl⟩
    | false =>
      obtain ⟨ρ2, e2, j2⟩ := h2 hp
      have e0 : (d :: ds).find? p = ds.find? p := by simp [List.find?_cons, hp]
      rw [e0, e2]
      exact forL_first mk p J out ds ρ2 j2 fun d hd => k d (List.mem_cons_of_mem _ hd)

@[simp] theorem forL_nil (f : BD) (mb : SM) (ρ : Env) : forL f mb [] ρ = .nx ρ := .trans rfl rfl
@[simp] theorem loopK_nx (ρ : Env) (k : SM) : loopK (.nx ρ) k = k ρ := .trans rfl rfl
@[simp] theorem loopK_ct (ρ : Env) (k : SM) : loopK (.ct ρ) k = k ρ := .trans rfl rfl
@[simp] theorem loopK_bk (ρ : Env) (k : SM) : loopK (.bk ρ) k = .nx ρ := .trans rfl rfl
@[simp] theorem loopK_rt (t : T) (ρ : Env) (k : SM) : loopK (.rt t ρ) k = .rt t ρ := .trans rfl rfl
@[simp] theorem loopK_exc (c : Exc) (ρ : Env) (k : SM) : loopK (.exc c ρ) k = .exc c ρ := .trans rfl rfl
theorem forL_cons {f : BD} {mb : SM} {d : D} {ds : List D} {ρ ρ1 : Env} (h : f d ρ = some ρ1) : forL f mb (d :: ds) ρ = loopK (mb ρ1) (forL f mb ds) := by
  show (match f d ρ with | none => SR.bad | some ρ1 => loopK (mb ρ1) (forL f mb ds)) = _
  rw [h]
/-- a loop that runs through: what stands behind it, by a fold -/
theorem forL_fold {f : BD} {mb : SM} {S : Type} (J : S → Env → Prop) (up : S → D → S) : ∀ (ds : List D) (s : S) (ρ : Env), J s ρ →
    (∀ d ∈ ds, ∀ s ρ, J s ρ → ∃ ρ1 ρ2, f d ρ = some ρ1 ∧ (mb ρ1 = .nx ρ2 ∨ mb ρ1 = .ct ρ2) ∧ J (up s d) ρ2) → ∃ ρ', forL f mb ds ρ = .nx ρ' ∧ J (ds.foldl up s) ρ'
  | [], s, ρ, h, _ => ⟨ρ, rfl, h⟩
  | d :: ds, s, ρ, h, k => by
    obtain ⟨ρ1, ρ2, h1, h2, h3⟩ := k d (List.mem_cons_self ..) s ρ h
    obtain ⟨ρ', e, j⟩ := forL_fold J up ds (up s d) ρ2 h3 fun d hd => k d (List.mem_cons_of_mem _ hd)
    refine ⟨ρ', ?_, j⟩
    rw [forL_cons h1]
    rcases h2 with h2 | h2 <;> rw [h2] <;> exact e
/-- a loop that keeps J at each place -/
theorem forL_inv {f : BD} {mb : SM} (J : Nat → Env → Prop) : ∀ (ds : List D) (n : Nat) (ρ : Env), J n ρ →
    (∀ i d, ds[i]? = some d → ∀ ρ, J (n + i) ρ → ∃ ρ1 ρ2, f d ρ = some ρ1 ∧ (mb ρ1 = .nx ρ2 ∨ mb ρ1 = .ct ρ2) ∧ J (n + i + 1) ρ2) → ∃ ρ', forL f mb ds ρ = .nx ρ' ∧ J (n + ds.length) ρ'
  | [], n, ρ, h, _ => ⟨ρ, rfl, h⟩
  | d :: ds, n, ρ, h, k => by
    obtain ⟨ρ1, ρ2, h1, h2, h3⟩ := k 0 d rfl ρ h
    obtain ⟨ρ', e, j⟩ := forL_inv J ds (n + 1) ρ2 h3 fun i d hd ρ q => by
      have := k (i + 1) d (by simpa using hd) ρ (by rw [show n + (i + 1) = n + 1 + i by omega]; exact q)
      rw [show n + (i + 1) + 1 = n + 1 + i + 1 by omega] at this
      exact this
    refine ⟨ρ', ?_, by rw [List.length_cons, show n + (ds.length + 1) = n + 1 + ds.length by omega]; exact j⟩
    rw [forL_cons h1]
    rcases h2 with h2 | h2 <;> rw [h2] <;> exact e
theorem forL_invB {f : BD} {mb : SM} (J : Nat → Env → Prop) (Q : Env → Prop) : ∀ (ds : List D) (n : Nat) (ρ : Env), J n ρ →
    (∀ i d, ds[i]? = some d → ∀ ρ, J (n + i) ρ → ∃ ρ1 ρ2, f d ρ = some ρ1 ∧ ((mb ρ1 = .nx ρ2 ∧ J (n + i + 1) ρ2) ∨ (mb ρ1 = .bk ρ2 ∧ Q ρ2))) → (∀ ρ, J (n + ds.length) ρ → Q ρ) → ∃ ρ', forL f mb ds ρ = .nx ρ' ∧ Q ρ'
  | [], n, ρ, h, _, q => ⟨ρ, rfl, q ρ h⟩
  | d :: ds, n, ρ, h, k, q => by
    obtain ⟨ρ1, ρ2, h1, h2⟩ := k 0 d rfl ρ h
    rw [forL_cons h1]
    rcases h2 with ⟨h2, h3⟩ | ⟨h2, h3⟩
    · obtain ⟨ρ', e, j⟩ := forL_invB J Q ds (n + 1) ρ2 h3 (fun i d hd ρ q => by
        have := k (i + 1) d (by simpa using hd) ρ (by rw [show n + (i + 1) = n + 1 + i by omega]; exact q)
        rw [show n + (i + 1) + 1 = n + 1 + i + 1 by omega] at this
        exact this) fun ρ z => q ρ (by rw [List.length_cons, show n + (ds.length + 1) = n + 1 + ds.length by omega]; exact z)
      exact ⟨ρ', by rw [h2]; exact e, j⟩
    · exact ⟨ρ2, by rw [h2]; rfl, h3⟩
/-- a loop that ends at the first that p holds of -/
theorem forL_find {f : BD} {mb : SM} (J : Env → Prop) (p : D → Bool) (out : D → SR → Prop) : ∀ (ds : List D) (ρ : Env), J ρ →
    (∀ d ∈ ds, ∀ ρ, J ρ → ∃ ρ1, f d ρ = some ρ1 ∧ (p d = false → ∃ ρ2, mb ρ1 = .nx ρ2 ∧ J ρ2) ∧ (p d = true → ∀ k, out d (loopK (mb ρ1) k))) →
    (ds.find? p = none → ∃ ρ', forL f mb ds ρ = .nx ρ' ∧ J ρ') ∧ ∀ d, ds.find? p = some d → out d (forL f mb ds ρ)
  | [], ρ, h, _ => ⟨fun _ => ⟨ρ, rfl, h⟩, fun d hd => by cases hd⟩
  | d :: ds, ρ, h, k => by
    obtain ⟨ρ1, h1, h2, h3⟩ := k d (List.mem_cons_self ..) ρ h
    rw [forL_cons h1]
    cases hp : p d with
    | true =>
      have e0 : (d :: ds).find? p = some d := by simp [List.find?_cons, hp]
      rw [e0]
      refine ⟨fun z => (by cases z), fun d' e => ?_⟩
      cases e
      exact h3 hp _
    | false =>
      obtain ⟨ρ2, e2, j2⟩ := h2 hp
      have e0 : (d :: ds).find? p = ds.find? p := by simp [List.find?_cons, hp]
      rw [e0, e2]
      exact forL_find J p out ds ρ2 j2 fun d hd => k d (List.mem_cons_of_mem _ hd)
theorem whileN_succ {mc : M Bool} {mb : SM} {n : Nat} {ρ ρ1 : Env} {b : Bool} (h : mc ρ = .ok b ρ1) : whileN mc mb (n + 1) ρ = sel b (loopK (mb ρ1) (whileN mc mb n)) (.nx ρ1) := by
  show (match mc ρ with | .ok b ρ1 => if b then loopK (mb ρ1) (whileN mc mb n) else .nx ρ1 | .exc c ρ1 => .exc c ρ1 | .bad => .bad) = _
  rw [h]; cases b <;> rfl

/-! ### comprehensions -/
theorem backE_get (ρ0 ρ : Env) : ∀ (vs : List Nat) (i : Nat), (show List T from backE ρ0 ρ vs)[i]? = if i ∈ vs ∧ i < List.length ρ then some ((show List T from ρ0)[i]?.getD .un) else (show List T from ρ)[i]?
  | [], i => by simp [backE]
  | v :: vs, i => by
    have hl : ∀ (vs : List Nat), List.length (backE ρ0 ρ vs) = List.length ρ := by
      intro vs
      induction vs with
      | nil => rfl
      | cons v vs ih => show List.length (List.set (backE ρ0 ρ vs) v _) = _; rw [List.length_set]; exact ih
    show (List.set (backE ρ0 ρ vs) v _)[i]? = _
    rw [List.getElem?_set]
    by_cases h : v = i
    · subst h
      by_cases hi : v < List.length ρ
      · simp [hi, hl]
      · have : (show List T from ρ)[v]? = none := List.getElem?_eq_none (Nat.le_of_not_lt hi)
        simp [hi, hl, this]
    · rw [if_neg h]
      have := backE_get ρ0 ρ vs i
      simp only [List.mem_cons, show ¬ i = v from fun z => h z.symm, false_or]
      exact this
theorem wipeE_get (ρ : Env) : ∀ (vs : List Nat) (i : Nat), (show List T from wipeE ρ vs)[i]? = if i ∈ vs ∧ i < List.length ρ then some .un else (show List T from ρ)[i]?
  | [], i => by simp [wipeE]
  | v :: vs, i => by
    have hl : ∀ (vs : List Nat), List.length (wipeE ρ vs) = List.length ρ := by
      intro vs
      induction vs with
      | nil => rfl
      | cons v vs ih => show List.length (List.set (wipeE ρ vs) v _) = _; rw [List.length_set]; exact ih
    show (List.set (wipeE ρ vs) v _)[i]? = _
    rw [List.getElem?_set]
    by_cases h : v = i
    · subst h
      by_cases hi : v < List.length ρ
      · simp [hi, hl]
      · have : (show List T from ρ)[v]? = none := List.getElem?_eq_none (Nat.le_of_not_lt hi)
        simp [hi, hl, this]
    · rw [if_neg h]
      have := wipeE_get ρ vs i
      simp only [List.mem_cons, show ¬ i = v from fun z => h z.symm, false_or]
      exact this
theorem wipeE_len (ρ : Env) : ∀ (vs : List Nat), List.length (wipeE ρ vs) = List.length ρ
  | [] => rfl
  | v :: vs => by show List.length (List.set (wipeE ρ vs) v _) = _; rw [List.length_set]; exact wipeE_len ρ vs
theorem back_wipe (ρ : Env) (vs : List Nat) : backE ρ (wipeE ρ vs) vs = ρ := by
  apply List.ext_getElem?
  intro i
  have h1 := backE_get ρ (wipeE ρ vs) vs i
  have h2 := wipeE_get ρ vs i
  refine h1.trans ?_
  rw [wipeE_len]
  by_cases h : i ∈ vs ∧ i < List.length ρ
  · rw [if_pos h]
    have := List.getElem?_eq_getElem h.2
    show some (((show List T from ρ)[i]?).getD .un) = (show List T from ρ)[i]?
    rw [this]; rfl
  · rw [if_neg h]
    refine h2.trans ?_
    rw [if_neg h]
/-- a comprehension that leaves its slots alone -/
theorem lcGo_eq {vs : List Nat} {f : BD} {mc : M Bool} {te : M T} (p : D → Bool) (g : D → T) (ρ : Env) : ∀ (ds : List D) (ts : List T), ts.length + ds.length ≤ 16777216 →
    (∀ d ∈ ds, ∃ ρ1 ρ2, f d ρ = some ρ1 ∧ mc ρ1 = .ok (p d) ρ2 ∧ (p d = false → wipeE ρ2 vs = ρ) ∧ (p d = true → ∃ ρ3, te ρ2 = .ok (g d) ρ3 ∧ wipeE ρ3 vs = ρ)) →
    lcGo vs f mc te ds ts ρ = .ok (ts ++ (ds.filter p).map g) ρ
  | [], ts, _, _ => by simp [lcGo]
  | d :: ds, ts, hl, h => by
    obtain ⟨ρ1, ρ2, h1, h2, h3, h4⟩ := h d (List.mem_cons_self ..)
    have rec_ := fun ts' hl' => lcGo_eq p g ρ ds ts' hl' fun d hd => h d (List.mem_cons_of_mem _ hd)
    simp only [List.length_cons] at hl
    show (match f d ρ with | none => R.bad | some ρ1 => match mc ρ1 with | .ok b ρ2 => if b then (match te ρ2 with | .ok t ρ3 => if big (ts.length + 1) then lcGo vs f mc te ds (ts ++ [t]) (wipeE ρ3 vs) else .bad | _ => .bad) else lcGo vs f mc te ds ts (wipeE ρ2 vs) | _ => .bad) = _
    simp only [h1, h2]
    cases hp : p d with
    | true =>
      obtain ⟨ρ3, e, w⟩ := h4 hp
      simp only [e, if_true, big_t (show ts.length + 1 ≤ 16777216 by omega), w, rec_ (ts ++ [g d]) (by simp; omega)]
      simp [hp]
    | false =>
      simp only [h3 hp, Bool.false_eq_true, if_false, rec_ ts (by omega)]
      simp [hp]
theorem lcM_eq {vs : List Nat} {mi : M (List D)} {f : BD} {mc : M Bool} {te : M T} {ds : List D} {ρ0 ρ : Env} (p : D → Bool) (g : D → T) (hi : mi ρ0 = .ok ds ρ) (hf : flatAt ρ vs = true) (hl : ds.length ≤ 16777216)
    (h : ∀ d ∈ ds, ∃ ρ1 ρ2, f d (wipeE ρ vs) = some ρ1 ∧ mc ρ1 = .ok (p d) ρ2 ∧ (p d = false → wipeE ρ2 vs = wipeE ρ vs) ∧ (p d = true → ∃ ρ3, te ρ2 = .ok (g d) ρ3 ∧ wipeE ρ3 vs = wipeE ρ vs)) :
    lcM vs mi f mc te ρ0 = .ok (.lst ((ds.filter p).map g)) ρ := by
  unfold lcM
  rw [bnd_ap, hi, go_ok]
  rw [if_pos hf]
  rw [lcGo_eq p g (wipeE ρ vs) ds [] (by simpa using hl) h]
  dsimp only
  rw [back_wipe]
  rfl
/-- without a condition -/
theorem lcM_map {vs : List Nat} {mi : M (List D)} {f : BD} {te : M T} {ds : List D} {ρ0 ρ : Env} (g : D → T) (hi : mi ρ0 = .ok ds ρ) (hf : flatAt ρ vs = true) (hl : ds.length ≤ 16777216)
    (h : ∀ d ∈ ds, ∃ ρ1 ρ3, f d (wipeE ρ vs) = some ρ1 ∧ te ρ1 = .ok (g d) ρ3 ∧ wipeE ρ3 vs = wipeE ρ vs) :
    lcM vs mi f (pur true) te ρ0 = .ok (.lst (ds.map g)) ρ := by
  have := lcM_eq (mc := pur true) (fun _ => true) g hi hf hl fun d hd => by
    obtain ⟨ρ1, ρ3, h1, h2, h3⟩ := h d hd
    exact ⟨ρ1, ρ1, h1, rfl, fun z => (by cases z), fun _ => ⟨ρ3, h2, h3⟩⟩
  rw [List.filter_eq_self.mpr (fun _ _ => rfl)] at this
  exact this
end Mi

end
section
set_option Elab.async false
set_option autoImplicit false
set_option linter.all false
set_option maxRecDepth 100000
set_option maxHeartbeats 1000000
/-! Mi, plain side: how long what repr shows is at most. -/
namespace Mi
open PySem L2
mutual
/-- data that repr shows without ado -/
def D.pl : D → Bool
  | .non => true
  | .bl _ => true
  | .int i => decide (i.natAbs.log2 < 1920)
  | .str l => l.all fun c => decide (c < 1114112)
  | .tup xs => D.pls xs
  | .lst xs => D.pls xs
  | .frl _ => false
  | .dct _ _ => false
  | .set _ => false
def D.pls : List D → Bool
  | [] => true
  | x :: xs => D.pl x && D.pls xs
end
mutual
def D.sz : D → Nat
  | .non => 5
  | .bl _ => 5
  | .int i => 1921
  | .str l => 10 * l.length + 2
  | .tup xs => D.szs xs + 3
  | .lst xs => D.szs xs + 2
  | .frl _ => 0
  | .dct _ _ => 0
  | .set _ => 0
def D.szs : List D → Nat
  | [] => 0
  | x :: xs => D.sz x + 2 + D.szs xs
end
theorem pls_eq : ∀ xs : List D, D.pls xs = xs.all D.pl
  | [] => rfl
  | x :: xs => by rw [D.pls, pls_eq xs]; rfl
theorem szs_eq : ∀ xs : List D, D.szs xs = (xs.map fun x => x.sz + 2).sum
  | [] => rfl
  | x :: xs => by rw [D.szs, szs_eq xs]; simp
theorem szs_le {n : Nat} : ∀ xs : List D, (∀ x ∈ xs, x.sz ≤ n) → D.szs xs ≤ xs.length * (n + 2)
  | [], _ => by simp [D.szs]
  | x :: xs, h => by
    have h1 := h x (List.mem_cons_self ..)
    have h2 := szs_le xs fun y hy => h y (List.mem_cons_of_mem _ hy)
    rw [D.szs, List.length_cons, Nat.succ_mul]; omega
theorem listText_len (ts : List Str) : (listText ts).length ≤ piled ts + 2 := by
  cases ts with
  | nil => decide
  | cons t r =>
    have h := textFrom_length_pos r 1 ("[" ++ ("" : String) ++ t) (by decide)
    show ((textFrom 1 (("[" : Str) ++ (if 0 > 0 then ", " else "" : String) ++ t) r) ++ ("]" : Str)).length ≤ _
    rw [strLen_append, show (if 0 > 0 then ", " else "" : String) = "" from rfl, h, strLen_append, strLen_append, piled_cons]
    have e1 : (("[" : String) : Str).length = 1 := rfl
    have e2 : (("" : String) : Str).length = 0 := rfl
    have e3 : (("]" : String) : Str).length = 1 := rfl
    omega
theorem tupleText_len (ts : List Str) : (tupleText ts).length ≤ piled ts + 3 := by
  unfold tupleText
  rw [strLen_append, strLen_append]
  have e1 : ((("(" : String) : Str)).length = 1 := rfl
  have e3 : (((if ts.length == 1 then ",)" else ")" : String) : Str)).length ≤ 2 := by split <;> decide
  by_cases h : ts = []
  · subst h; decide
  · have := join_length_add ts h
    omega
mutual
theorem shown_le : ∀ d : D, d.pl = true → d.py.shown.length ≤ d.sz ∧ d.py.showable = true ∧ d.py.hasDict = false
  | .non, _ => ⟨by decide, by rfl, by rfl⟩
  | .bl b, _ => ⟨by cases b <;> decide, by simp [D.py, PyData.showable], by simp [D.py, PyData.hasDict]⟩
  | .int i, h => by
    have h' : i.natAbs.log2 < 1920 := by simpa [D.pl] using h
    refine ⟨?_, by simp [D.py, PyData.showable, h'], by simp [D.py, PyData.hasDict]⟩
    rw [D.py, PyData.shown]; exact PyProof.Rows.int_text_len_1921 h'
  | .str l, h => by
    refine ⟨?_, by simp [D.py, PyData.showable], by simp [D.py, PyData.hasDict]⟩
    rw [D.py, PyData.shown, D.sz]
    have h' : ∀ c ∈ l, c < 1114112 := by simpa [D.pl] using h
    have := StrLaws.reprText_len (S l) fun c hc => Nat.lt_trans (h' c hc) (by decide)
    rw [S_length] at this; exact this
  | .tup xs, h => by
    obtain ⟨h1, h2, h3⟩ := showns_le xs (by rw [D.pl] at h; exact h)
    refine ⟨?_, by rw [D.py, PyData.showable]; exact h2, by rw [D.py, PyData.hasDict]; exact h3⟩
    rw [D.py, PyData.shown, D.sz]
    exact Nat.le_trans (tupleText_len _) (by omega)
  | .lst xs, h => by
    obtain ⟨h1, h2, h3⟩ := showns_le xs (by rw [D.pl] at h; exact h)
    refine ⟨?_, by rw [D.py, PyData.showable]; exact h2, by rw [D.py, PyData.hasDict]; exact h3⟩
    rw [D.py, PyData.shown, D.sz]
    exact Nat.le_trans (listText_len _) (by omega)
  | .frl xs, h => by simp [D.pl] at h
  | .dct t xs, h => by simp [D.pl] at h
  | .set xs, h => by simp [D.pl] at h
theorem showns_le : ∀ xs : List D, D.pls xs = true → piled (PyData.shownAll (D.pys xs)) ≤ D.szs xs ∧ PyData.showableAll (D.pys xs) = true ∧ PyData.hasDictAll (D.pys xs) = false
  | [], _ => ⟨by decide, by rfl, by rfl⟩
  | x :: xs, h => by
    rw [D.pls, Bool.and_eq_true] at h
    obtain ⟨a1, a2, a3⟩ := shown_le x h.1
    obtain ⟨b1, b2, b3⟩ := showns_le xs h.2
    refine ⟨?_, by rw [D.pys, PyData.showableAll, a2, b2]; rfl, by rw [D.pys, PyData.hasDictAll, a3, b3]; rfl⟩
    rw [D.pys, PyData.shownAll, piled_cons, D.szs]; omega
end
theorem okRepr_of {d : D} (h1 : d.lay 59 = true) (h2 : d.pl = true) (h3 : d.sz ≤ 16000000) : okRepr (.lst [d]) = true := by
  have hp : D.pl (.lst [d]) = true := by rw [D.pl, D.pls, D.pls, h2]; rfl
  obtain ⟨a, b, c⟩ := shown_le (.lst [d]) hp
  have a' : (D.py (.lst [d])).shown.length ≤ sizeLine := by
    rw [D.sz, D.szs, D.szs] at a
    have : sizeLine = 16777216 := rfl
    omega
  unfold okRepr
  have hl : D.lay (.lst [d]) 60 = true := by rw [D.lay, D.lays, D.lays, h1]; rfl
  rw [hl, b, c, decide_eq_true a']; rfl
@[simp] theorem mReprEq_ap (fa fb : M D) (ρ : Env) : mReprEq fa fb ρ = (fa ρ).go fun d => bnd (asR d) fun d => bnd fb fun e => opt (if okRepr e = true then some (.bl (decide (d.py.shown = e.py.shown))) else none) := by
  unfold mReprEq; rw [bnd_ap, bnd_ap]; cases fa ρ <;> rfl
theorem asR_t {d : D} (ρ : Env) (h : okRepr d = true) : asR d ρ = .ok d ρ := by unfold asR; rw [if_pos h]; rfl
end Mi

end
section
set_option Elab.async false
set_option autoImplicit false
set_option linter.all false
set_option maxRecDepth 100000
set_option maxHeartbeats 1000000
/-! Mi, plain side: dicts, texts, sorting. -/
namespace Mi
open PySem L2
section
variable {ρ : Env}
def isDiR (ρ : Env) : Option T → R Unit
  | some u => (match viewD u with | some _ => .ok () ρ | none => .bad)
  | none => .bad
@[simp] theorem isDi_ap (i : Nat) (ρ : Env) : isDi i ρ = isDiR ρ ρ[i]? := by unfold isDi isDiR; rcases ρ[i]? with _ | _ <;> rfl
@[simp] theorem isDiR_sh (t : Bool) (ds : List (D × D)) : isDiR ρ (some (.sh (.dct t ds))) = .ok () ρ := .trans rfl rfl
@[simp] theorem isDiR_own (t : Bool) (ds : List (D × T)) : isDiR ρ (some (.dct t ds)) = .ok () ρ := .trans rfl rfl
def dgR (ρ : Env) (x : R D) : Option (Option T) → R D
  | some none => x
  | some (some (.sh e)) => .ok e ρ
  | _ => .bad
@[simp] theorem dgR_n (x : R D) : dgR ρ x (some none) = x := .trans rfl rfl
@[simp] theorem dgR_s (x : R D) (e : D) : dgR ρ x (some (some (.sh e))) = .ok e ρ := .trans rfl rfl
def dgxR (ρ : Env) (x q : D) : Option T → R D
  | some u => dgR ρ (.ok x ρ) (fLook u q)
  | none => .bad
@[simp] theorem mDgetx_ap (i : Nat) (fk fx : M D) (ρ : Env) : mDgetx i fk fx ρ = (isDi i ρ).go fun _ => bnd fk fun q => bnd fx fun x ρ => dgxR ρ x q ρ[i]? := by
  unfold mDgetx; rw [bnd_ap]
  have : ∀ (x q : D) (ρ : Env), dgxR ρ x q ρ[i]? = match ρ[i]? with | some u => (match fLook u q with | some none => .ok x ρ | some (some (.sh e)) => .ok e ρ | _ => .bad) | none => .bad := fun x q ρ => by
    unfold dgxR dgR
    rcases ρ[i]? with _ | u
    · rfl
    · dsimp only
      try (rcases fLook u q with _ | _ | u <;> first | rfl | (cases u <;> rfl))
  simp only [this] <;> rfl
@[simp] theorem dgxR_s (x q : D) (u : T) : dgxR ρ x q (some u) = dgR ρ (.ok x ρ) (fLook u q) := .trans rfl rfl
def dinR (ρ : Env) (n : Bool) (q : D) : Option T → R D
  | some u => (match fLook u q with | some r => .ok (.bl (r.isSome != n)) ρ | _ => .bad)
  | none => .bad
@[simp] theorem mDin_ap (n : Bool) (i : Nat) (fk : M D) (ρ : Env) : mDin n i fk ρ = (fk ρ).go fun q => bnd (isU i) fun _ ρ => dinR ρ n q ρ[i]? := by
  unfold mDin; rw [bnd_ap]; congr 1
theorem dinR_s {n : Bool} {q : D} {u : T} {r : Option T} (h : fLook u q = some r) : dinR ρ n q (some u) = .ok (.bl (r.isSome != n)) ρ := by unfold dinR; simp only [h]
def dget1R (ρ : Env) (q : D) : Option T → R D
  | some u => dgR ρ .bad (fLook u q)
  | none => .bad
@[simp] theorem mDget_ap (i : Nat) (fk : M D) (ρ : Env) : mDget i fk ρ = (isU i ρ).go fun _ => bnd fk fun q ρ => dget1R ρ q ρ[i]? := by
  unfold mDget; rw [bnd_ap]; congr 1; funext _ ρ; congr 1; funext q ρ; unfold dget1R dgR
  rcases ρ[i]? with _ | u
  · rfl
  · dsimp only; rcases fLook u q with _ | _ | u <;> first | rfl | (cases u <;> rfl)
@[simp] theorem dget1R_s (q : D) (u : T) : dget1R ρ q (some u) = dgR ρ .bad (fLook u q) := .trans rfl rfl
@[simp] theorem mDictc_ap (m : M (List D)) (ρ : Env) : mDictc m ρ = (m ρ).go fun ds ρ => match ds with | [.dct false kvs] => .ok (.dct false (kvs.map shT)) ρ | _ => .bad := by
  unfold mDictc; rw [bnd_ap]; congr 1; funext ds ρ
  rcases ds with _ | ⟨d, _ | ⟨e, es⟩⟩
  · rfl
  · cases d <;> first | rfl | (rename_i t kvs; cases t <;> rfl)
  · cases d <;> first | rfl | (rename_i t kvs; cases t <;> rfl)
def dputR (ρ : Env) (i : Nat) (e q : D) : Option T → SR
  | some (.dct t kts) => (match dKey t q with | some k => sel (decide (kts.length < sizeLine)) (.nx (ρ.set i (.dct t (putA t kts q k (.sh e))))) .bad | none => .bad)
  | _ => .bad
@[simp] theorem mDput_ap (i : Nat) (fv fk : M D) (ρ : Env) : mDput i fv fk ρ = (fv ρ).ths fun e => sbnd (isU i) fun _ => sbnd fk fun q ρ => dputR ρ i e q ρ[i]? := by
  unfold mDput; rw [sbnd_ap]; congr 1; funext e ρ; congr 1; funext _ ρ; congr 1; funext q ρ; unfold dputR
  rcases ρ[i]? with _ | _ | _ | _ | ⟨t, kts⟩ <;> try rfl
  dsimp only
  rcases dKey t q with _ | k
  · rfl
  · dsimp only; rw [sel_ite]
theorem dputR_s {i : Nat} {e q : D} {t : Bool} {kts : List (D × T)} {k : List Key} (h : dKey t q = some k) (hl : kts.length < 16000000) : dputR ρ i e q (some (.dct t kts)) = .nx (ρ.set i (.dct t (putA t kts q k (.sh e)))) := by
  unfold dputR; dsimp only; rw [h]; dsimp only
  have : kts.length < sizeLine := Nat.lt_trans hl (by decide)
  rw [decide_eq_true this]; rfl
@[simp] theorem mUp_ap (fa fb fc : M D) (ρ : Env) : mUp fa fb fc ρ = (fa ρ).go fun d => bnd (asDk d) fun kvs => bnd fb fun q => bnd fc fun e ρ => match dKey false q with | some k => .ok (.dct false (putA false (kvs.map shT) q k (.sh e))) ρ | none => .bad := by
  unfold mUp; rw [bnd_ap, bnd_ap]; cases fa ρ <;> try rfl
  rw [go_ok, go_ok, bnd_ap]; congr 1; funext kvs ρ; congr 1; funext q ρ; congr 1; funext e ρ
  cases dKey false q <;> rfl
theorem asDk_ap {kvs : List (D × D)} (h : kvs.length < 16000000) (ρ : Env) : asDk (.dct false kvs) ρ = .ok kvs ρ := by
  show (if kvs.length < sizeLine then pur kvs else bad) ρ = _
  rw [if_pos (Nat.lt_trans h (by decide : 16000000 < sizeLine))]; rfl
@[simp] theorem consP_ap (a b : M D) (r : M (List (D × D))) : consP a b r ρ = (a ρ).go fun x => bnd b fun y => bnd r fun ds => pur ((x, y) :: ds) := by unfold consP; rw [bnd_ap]
@[simp] theorem dispD_ap (m : M (List (D × D))) : dispD m ρ = (m ρ).go fun ds ρ => match rowsPut [] ds with | some kts => (if ds.length ≤ 15 then .ok (.dct false kts) ρ else .bad) | none => .bad := by
  unfold dispD; rw [bnd_ap]; congr 1; funext ds ρ
  rcases rowsPut [] ds with _ | kts
  · rfl
  · dsimp only; by_cases h : ds.length ≤ 15
    · rw [if_pos h, if_pos h]; rfl
    · rw [if_neg h, if_neg h]; rfl
def inPR (ρ : Env) (n : Bool) (q : D) : Option T → R D
  | some (.sh d) => opt (fIn n q d) ρ
  | some (.lst ts) => (match fInL q (.lst (T.strips ts)) with | some b => .ok (.bl (if n then !b else b)) ρ | none => .bad)
  | _ => .bad
@[simp] theorem mInP_ap (n : Bool) (i : Nat) (fa : M D) (ρ : Env) : mInP n i fa ρ = (fa ρ).go fun q => bnd (isU i) fun _ ρ => inPR ρ n q ρ[i]? := by
  unfold mInP; rw [bnd_ap]; congr 1
theorem inPR_lst {n : Bool} {q : D} {ts : List T} {b : Bool} (h : fInL q (.lst (T.strips ts)) = some b) : inPR ρ n q (some (.lst ts)) = .ok (.bl (if n then !b else b)) ρ := by unfold inPR; simp only [h]
theorem fInL_strs (x : List Nat) (ls : List (List Nat)) : fInL (.str x) (.lst (ls.map .str)) = some (decide (x ∈ ls)) := by
  have h : D.lays (ls.map .str) 63 = true := by rw [lays_eq, List.all_map]; exact List.all_eq_true.mpr fun _ _ => rfl
  show (if D.lay (.str x) 64 && D.lays (ls.map .str) 63 then some ((ls.map D.str).any fun z => dEq z (.str x)) else none) = _
  rw [h]
  show some ((ls.map D.str).any fun z => dEq z (.str x)) = _
  congr 1
  rw [List.any_map, Bool.eq_iff_iff, List.any_eq_true]
  simp only [Function.comp, eqv_str, decide_eq_true_eq]
  exact ⟨fun ⟨z, h1, h2⟩ => h2 ▸ h1, fun h => ⟨x, h, rfl⟩⟩
/-- a comprehension over what k makes of xs -/
theorem lcGo_X {α : Type} {vs : List Nat} {f : BD} {te : M T} (k : α → D) (g : α → T) (ρ : Env) : ∀ (xs : List α) (ts : List T), ts.length + xs.length ≤ 16777216 →
    (∀ x ∈ xs, ∃ ρ1 ρ3, f (k x) ρ = some ρ1 ∧ te ρ1 = .ok (g x) ρ3 ∧ wipeE ρ3 vs = ρ) →
    lcGo vs f (pur true) te (xs.map k) ts ρ = .ok (ts ++ xs.map g) ρ
  | [], ts, _, _ => by simp [lcGo]
  | x :: xs, ts, hl, h => by
    obtain ⟨ρ1, ρ3, h1, h2, h3⟩ := h x (List.mem_cons_self ..)
    simp only [List.length_cons] at hl
    have rec_ := lcGo_X k g ρ xs (ts ++ [g x]) (by simp; omega) fun d hd => h d (List.mem_cons_of_mem _ hd)
    show (match f (k x) ρ with | none => R.bad | some ρ1 => match (pur true : M Bool) ρ1 with | .ok b ρ2 => if b then (match te ρ2 with | .ok t ρ3 => if big (ts.length + 1) then lcGo vs f (pur true) te (xs.map k) (ts ++ [t]) (wipeE ρ3 vs) else .bad | _ => .bad) else lcGo vs f (pur true) te (xs.map k) ts (wipeE ρ2 vs) | _ => .bad) = _
    simp only [h1, pur_ap, if_true, h2, big_t (show ts.length + 1 ≤ 16777216 by omega), h3, rec_]
    simp
theorem lcM_X {α : Type} {vs : List Nat} {mi : M (List D)} {f : BD} {te : M T} {xs : List α} {ρ0 ρ : Env} (k : α → D) (g : α → T) (hi : mi ρ0 = .ok (xs.map k) ρ) (hf : flatAt ρ vs = true) (hl : xs.length ≤ 16777216)
    (h : ∀ x ∈ xs, ∃ ρ1 ρ3, f (k x) (wipeE ρ vs) = some ρ1 ∧ te ρ1 = .ok (g x) ρ3 ∧ wipeE ρ3 vs = wipeE ρ vs) :
    lcM vs mi f (pur true) te ρ0 = .ok (.lst (xs.map g)) ρ := by
  unfold lcM
  rw [bnd_ap, hi, go_ok]
  rw [if_pos hf]
  rw [lcGo_X k g (wipeE ρ vs) xs [] (by simpa using hl) h]
  dsimp only
  rw [back_wipe]
  rfl
/-! sorting -/
theorem leD_eq (d e : D) : leD d e = !PyProof.Rows.lexLt PyProof.Rows.itemOrd (PySem.W.keyToks e.py) (PySem.W.keyToks d.py) := by
  unfold leD PySem.W.dataLe PySem.W.sortLe; simp
theorem leD_trans (a b c : D) (h1 : leD a b = true) (h2 : leD b c = true) : leD a c = true := by
  rw [leD_eq] at *
  simp only [Bool.not_eq_true'] at *
  cases h : PyProof.Rows.lexLt PyProof.Rows.itemOrd (PySem.W.keyToks c.py) (PySem.W.keyToks a.py) with
  | false => rfl
  | true =>
    rcases PyProof.Rows.lex_negTrans _ (PySem.W.keyToks b.py) _ h with z | z
    · rw [h2] at z; cases z
    · rw [h1] at z; cases z
theorem leD_tot (a b : D) : (leD a b || leD b a) = true := by
  rw [leD_eq, leD_eq]
  cases h : PyProof.Rows.lexLt PyProof.Rows.itemOrd (PySem.W.keyToks b.py) (PySem.W.keyToks a.py) with
  | false => rfl
  | true =>
    have := PyProof.Rows.lex_irrefl (O := PyProof.Rows.itemOrd) (PySem.W.keyToks b.py)
    cases h2 : PyProof.Rows.lexLt PyProof.Rows.itemOrd (PySem.W.keyToks a.py) (PySem.W.keyToks b.py) with
    | false => rfl
    | true =>
      have := PyProof.Rows.lex_trans (O := PyProof.Rows.itemOrd) _ _ _ h h2
      rw [PyProof.Rows.lex_irrefl] at this; cases this
theorem leD_tok (a b : D) (h1 : leD a b = true) (h2 : leD b a = true) : PySem.W.keyToks a.py = PySem.W.keyToks b.py := by
  rw [leD_eq] at h1 h2
  simp only [Bool.not_eq_true'] at h1 h2
  exact PyProof.Rows.lex_total _ _ h2 h1
/-- what sorting gives: the one sorted row of the same data -/
theorem sortD_is {ds es : List D} (p : es.Perm ds) (s : es.Pairwise fun a b => leD a b = true) (anti : ∀ a ∈ es, ∀ b ∈ es, PySem.W.keyToks a.py = PySem.W.keyToks b.py → a = b) : sortD ds = es := by
  have s' : (sortD ds).Pairwise fun a b => leD a b = true := List.pairwise_mergeSort (fun a b c => leD_trans a b c) leD_tot ds
  have p' : (sortD ds).Perm es := (List.mergeSort_perm ds leD).trans p.symm
  exact List.Perm.eq_of_pairwise (fun a b ha hb h1 h2 => anti a (p'.mem_iff.mp ha) b hb (leD_tok a b h1 h2)) s' s p'
end
end Mi

end
section
set_option Elab.async false
set_option autoImplicit false
set_option linter.all false
set_option maxRecDepth 100000
set_option maxHeartbeats 1000000
namespace K36
open PySem L2 Mi
def topS (i : Nat) : Stmt := PySem.Challenge.pw_termsalike_k36_whole_words.main.body.getD i (.Pass ⟨0, 0, 0, 0⟩)
def catch_ : Exc → Exc → Option Bool
  | .refused, .refused => some true
  | .large, .large => some true
  | .missing, .missing => some true
  | .refused, .large => some false
  | .refused, .missing => some false
  | .large, .refused => some false
  | .large, .missing => some false
  | .missing, .refused => some false
  | .missing, .large => some false
  | _, _ => none
structure Facts (g : DX) (mg : Str → Option Value) : Prop where
  c_SMALL : ∃ t, mg "SMALL" = some (.str "abcdefghijklmnopqrstuvwxyz" t)
  c_CAPITALS : ∃ t, mg "CAPITALS" = some (.str "ABCDEFGHIJKLMNOPQRSTUVWXYZ" t)
  c_MAX_WORD : ∃ t, mg "MAX_WORD" = some (.int 60 t)
  c_MAX_PATTERN : ∃ t, mg "MAX_PATTERN" = some (.int 12 t)
  c_MAX_MATCHES : ∃ t, mg "MAX_MATCHES" = some (.int 500 t)
  c_MAX_TIMES : ∃ t, mg "MAX_TIMES" = some (.int 1000 t)
  x_NotAllowed : ExcOk g mg "NotAllowed" .refused
  x_TooLarge : ExcOk g mg "TooLarge" .large
  x_Missing : ExcOk g mg "Missing" .missing
  t_check_word : Top g mg "check_word" (topS 14) ["word"]
  t_check_pattern : Top g mg "check_pattern" (topS 15) ["pattern"]
  t_room_for : Top g mg "room_for" (topS 16) ["pattern", "new", "least"]
  t_known_matches : Top g mg "known_matches" (topS 17) ["pattern", "word", "least", "most"]
  t_matches : Top g mg "matches" (topS 18) ["pattern", "word", "least"]
  t_check_least : Top g mg "check_least" (topS 19) ["least"]
  t_is_matched : Top g mg "is_matched" (topS 20) ["pattern", "word", "least"]
  t_count_linear : Top g mg "count_linear" (topS 21) ["pattern", "many", "letters"]
  t_power : Top g mg "power" (topS 22) ["number", "many"]
  t_root_of : Top g mg "root_of" (topS 23) ["word"]
  t_known_root : Top g mg "known_root" (topS 24) ["word"]
  t_commute : Top g mg "commute" (topS 25) ["first", "second"]
  t_turned : Top g mg "turned" (topS 26) ["first", "second"]
  t_between : Top g mg "between" (topS 27) ["first", "second", "most"]
  t_is_between : Top g mg "is_between" (topS 28) ["first", "second", "word"]
  t__law_same : Top g mg "_law_same" (topS 30) ["told", "due"]
  t__law_stream : Top g mg "_law_stream" (topS 31) ["script"]
  t__law_next : Top g mg "_law_next" (topS 32) ["state", "many"]
  t__law_told : Top g mg "_law_told" (topS 33) ["call"]
  t__law_word : Top g mg "_law_word" (topS 34) ["state", "most"]
  t__law_put : Top g mg "_law_put" (topS 35) ["pattern", "row"]
  t__law_unknowns : Top g mg "_law_unknowns" (topS 36) ["pattern"]
  t__law_matches : Top g mg "_law_matches" (topS 37) ["pattern", "word", "least"]
  t__law_all_words : Top g mg "_law_all_words" (topS 38) ["many", "letters"]
  t__law_fits : Top g mg "_law_fits" (topS 39) ["pattern", "word"]
  t__law_turns : Top g mg "_law_turns" (topS 40) ["state"]
  t_law : Top g mg "law" (topS 41) ["script"]
  m_Missing : mg "Missing" = some (g.cl .missing)
  k_Missing : ∀ c b, catch_ .missing c = some b → PySem.W.exmOne g.K (g.cl c) (g.cl .missing) = some b
  nb : noBuiltin mg
  kd : Kinds g mg
abbrev N_power : List Str := ["number", "many", "told", "_"]
abbrev sc_power : Scope := defScope (topS 22)
theorem fs_power : FnScope N_power ["number", "many"] sc_power := ⟨rfl, rfl, rfl, by decide +kernel, rfl, by decide +kernel, by decide +kernel⟩
def l_power_1 : SM := (sbnd (shar (op2 fMul (get 2) (get 0))) (put 2))
def s_power_0_3 : SM := (sbnd (mMove 2) .rt)
def s_power_0_2 : SM := (sq (sbnd (bnd (cons1 (get 1) (pur [])) fun ds => opt (rng1 ds)) (forL (bName 3) l_power_1))
  s_power_0_3)
def b_power : SM := (sq (sbnd (shar (pur (.int 1))) (put 2))
  s_power_0_2)
theorem de_power {g : DX} {P : Program} {w : World} {mg : Str → Option Value} {base : Heap} (F : Facts g mg) (cd : Value) (f : Addr) (A : Around) (outer : List PySem.Env) (s : Shared) (H : Hp) (E : XK)
    (O : Ok g 0 (cxOf (L2N.CX P w) P w g.K mg base N_power "power" sc_power f cd A outer s H E)) (tk : L2N.Takes (cxOf (L2N.CX P w) P w g.K mg base N_power "power" sc_power f cd A outer s H E) (fun cls d _ H => E cls d H)) :
    DSs g (fun cls d _ H => E cls d H) [] (cxOf (L2N.CX P w) P w g.K mg base N_power "power" sc_power f cd A outer s H E) (defBody (topS 22)) b_power :=
  have po : PassesOwn (model P w) ((cxOf (L2N.CX P w) P w g.K mg base N_power "power" sc_power f cd A outer s H E)).A ((cxOf (L2N.CX P w) P w g.K mg base N_power "power" sc_power f cd A outer s H E)).env ((cxOf (L2N.CX P w) P w g.K mg base N_power "power" sc_power f cd A outer s H E)).xe := passes_of rfl
  (dss_cons (ds_set 2 (by decide) (DV.de dv_int) O.nd)
  (dss_cons (ds_for po O (di_range1 O (da_cons (dv_var 1) da_nil)) (dg_name 3 O.nd) (dss_one (ds_set 2 (by decide) (DV.de (dv_mul (dv_var 2) (dv_var 0))) O.nd)))
  (dss_one (ds_ret (de_move 2)))))
def m_power (ds : List D) : Out := toOut (b_power (startE N_power ds))
theorem d_power {g : DX} {P : Program} {w : World} {mg : Str → Option Value} {base : Heap} (F : Facts g mg) : DefP g P w mg base 1 "power" 2 m_power :=
  defP_of F.t_power F.nb fs_power rfl (fun cd f A outer s H E O tk => de_power F cd f A outer s H E O tk) m_power (fun ds _ _ => rfl)
abbrev N_check_word : List Str := ["word", "letter"]
abbrev sc_check_word : Scope := defScope (topS 14)
theorem fs_check_word : FnScope N_check_word ["word"] sc_check_word := ⟨rfl, rfl, rfl, by decide +kernel, rfl, by decide +kernel, by decide +kernel⟩
def t_check_word_1 : M T := (shar (op2 (fIn false) (get 1) (pur (.str [97, 98, 99, 100, 101, 102, 103, 104, 105, 106, 107, 108, 109, 110, 111, 112, 113, 114, 115, 116, 117, 118, 119, 120, 121, 122]))))
def b_check_word : SM := (sIf (mOr (bnd (op2 (fCmp fun i j => decide (j < i)) (mLen 0) (pur (.int 60))) asB) (mNot (bnd (opL (on1 fAll) (cons1 (froz (lcM [1] (bnd (get 0) fun d => opt (items d)) (bName 1) (pur true) t_check_word_1)) (pur []))) asB))) (fun ρ => .exc .refused ρ) SR.nx)
theorem de_check_word {g : DX} {P : Program} {w : World} {mg : Str → Option Value} {base : Heap} (F : Facts g mg) (cd : Value) (f : Addr) (A : Around) (outer : List PySem.Env) (s : Shared) (H : Hp) (E : XK)
    (O : Ok g 0 (cxOf (L2N.CX P w) P w g.K mg base N_check_word "check_word" sc_check_word f cd A outer s H E)) (tk : L2N.Takes (cxOf (L2N.CX P w) P w g.K mg base N_check_word "check_word" sc_check_word f cd A outer s H E) (fun cls d _ H => E cls d H)) :
    DSs g (fun cls d _ H => E cls d H) [] (cxOf (L2N.CX P w) P w g.K mg base N_check_word "check_word" sc_check_word f cd A outer s H E) (defBody (topS 14)) b_check_word :=
  have po : PassesOwn (model P w) ((cxOf (L2N.CX P w) P w g.K mg base N_check_word "check_word" sc_check_word f cd A outer s H E)).A ((cxOf (L2N.CX P w) P w g.K mg base N_check_word "check_word" sc_check_word f cd A outer s H E)).env ((cxOf (L2N.CX P w) P w g.K mg base N_check_word "check_word" sc_check_word f cd A outer s H E)).xe := passes_of rfl
  (dss_one (ds_if (DW.dt (dw_or (dt_gt (dv_lenP 0 O) (dv_gint F.c_MAX_WORD)) (dw_or1 (dt_not (dt_val (dv_all O (da_cons (DE.dv (de_lc (own := [("letter", 1)]) O (di_any (dv_var 0) O.K) (blkOk_by (N := N_check_word) (sc := sc_check_word) (by decide +kernel)) (by decide) (fun _ _ _ _ _ => (dg_name 1 O.blk.nd)) (fun _ _ _ _ _ => dts_nil) (fun _ _ _ _ _ => (DV.de (dv_in (dv_var 1) (dv_gstr F.c_SMALL) O.blk.K O.blk.hu))))) da_nil))))))) (dss_one (ds_raise F.x_NotAllowed O tk)) dss_nil))
def m_check_word (ds : List D) : Out := toOut (b_check_word (startE N_check_word ds))
theorem d_check_word {g : DX} {P : Program} {w : World} {mg : Str → Option Value} {base : Heap} (F : Facts g mg) : DefP g P w mg base 1 "check_word" 1 m_check_word :=
  defP_of F.t_check_word F.nb fs_check_word rfl (fun cd f A outer s H E O tk => de_check_word F cd f A outer s H E O tk) m_check_word (fun ds _ _ => rfl)
abbrev N_check_pattern : List Str := ["pattern", "letter"]
abbrev sc_check_pattern : Scope := defScope (topS 15)
theorem fs_check_pattern : FnScope N_check_pattern ["pattern"] sc_check_pattern := ⟨rfl, rfl, rfl, by decide +kernel, rfl, by decide +kernel, by decide +kernel⟩
def t_check_pattern_1 : M T := (shar (vOr (op2 (fIn false) (get 1) (pur (.str [97, 98, 99, 100, 101, 102, 103, 104, 105, 106, 107, 108, 109, 110, 111, 112, 113, 114, 115, 116, 117, 118, 119, 120, 121, 122]))) (op2 (fIn false) (get 1) (pur (.str [65, 66, 67, 68, 69, 70, 71, 72, 73, 74, 75, 76, 77, 78, 79, 80, 81, 82, 83, 84, 85, 86, 87, 88, 89, 90])))))
def b_check_pattern : SM := (sIf (mOr (bnd (op2 (fCmp fun i j => decide (j < i)) (mLen 0) (pur (.int 12))) asB) (mNot (bnd (opL (on1 fAll) (cons1 (froz (lcM [1] (bnd (get 0) fun d => opt (items d)) (bName 1) (pur true) t_check_pattern_1)) (pur []))) asB))) (fun ρ => .exc .refused ρ) SR.nx)
theorem de_check_pattern {g : DX} {P : Program} {w : World} {mg : Str → Option Value} {base : Heap} (F : Facts g mg) (cd : Value) (f : Addr) (A : Around) (outer : List PySem.Env) (s : Shared) (H : Hp) (E : XK)
    (O : Ok g 0 (cxOf (L2N.CX P w) P w g.K mg base N_check_pattern "check_pattern" sc_check_pattern f cd A outer s H E)) (tk : L2N.Takes (cxOf (L2N.CX P w) P w g.K mg base N_check_pattern "check_pattern" sc_check_pattern f cd A outer s H E) (fun cls d _ H => E cls d H)) :
    DSs g (fun cls d _ H => E cls d H) [] (cxOf (L2N.CX P w) P w g.K mg base N_check_pattern "check_pattern" sc_check_pattern f cd A outer s H E) (defBody (topS 15)) b_check_pattern :=
  have po : PassesOwn (model P w) ((cxOf (L2N.CX P w) P w g.K mg base N_check_pattern "check_pattern" sc_check_pattern f cd A outer s H E)).A ((cxOf (L2N.CX P w) P w g.K mg base N_check_pattern "check_pattern" sc_check_pattern f cd A outer s H E)).env ((cxOf (L2N.CX P w) P w g.K mg base N_check_pattern "check_pattern" sc_check_pattern f cd A outer s H E)).xe := passes_of rfl
  (dss_one (ds_if (DW.dt (dw_or (dt_gt (dv_lenP 0 O) (dv_gint F.c_MAX_PATTERN)) (dw_or1 (dt_not (dt_val (dv_all O (da_cons (DE.dv (de_lc (own := [("letter", 1)]) O (di_any (dv_var 0) O.K) (blkOk_by (N := N_check_pattern) (sc := sc_check_pattern) (by decide +kernel)) (by decide) (fun _ _ _ _ _ => (dg_name 1 O.blk.nd)) (fun _ _ _ _ _ => dts_nil) (fun _ _ _ _ _ => (DV.de (dv_or (dv_in (dv_var 1) (dv_gstr F.c_SMALL) O.blk.K O.blk.hu) (dv_or1 (dv_in (dv_var 1) (dv_gstr F.c_CAPITALS) O.blk.K O.blk.hu))))))) da_nil))))))) (dss_one (ds_raise F.x_NotAllowed O tk)) dss_nil))
def m_check_pattern (ds : List D) : Out := toOut (b_check_pattern (startE N_check_pattern ds))
theorem d_check_pattern {g : DX} {P : Program} {w : World} {mg : Str → Option Value} {base : Heap} (F : Facts g mg) : DefP g P w mg base 1 "check_pattern" 1 m_check_pattern :=
  defP_of F.t_check_pattern F.nb fs_check_pattern rfl (fun cd f A outer s H E O tk => de_check_pattern F cd f A outer s H E O tk) m_check_pattern (fun ds _ _ => rfl)
abbrev N_check_least : List Str := ["least"]
abbrev sc_check_least : Scope := defScope (topS 19)
theorem fs_check_least : FnScope N_check_least ["least"] sc_check_least := ⟨rfl, rfl, rfl, by decide +kernel, rfl, by decide +kernel, by decide +kernel⟩
def b_check_least : SM := (sIf (bnd (op2 (fIn true) (get 0) (opL (fun ds => if big ds.length then some (.tup ds) else none) (cons1 (pur (.int 0)) (cons1 (pur (.int 1)) (pur []))))) asB) (fun ρ => .exc .refused ρ) SR.nx)
theorem de_check_least {g : DX} {P : Program} {w : World} {mg : Str → Option Value} {base : Heap} (F : Facts g mg) (cd : Value) (f : Addr) (A : Around) (outer : List PySem.Env) (s : Shared) (H : Hp) (E : XK)
    (O : Ok g 0 (cxOf (L2N.CX P w) P w g.K mg base N_check_least "check_least" sc_check_least f cd A outer s H E)) (tk : L2N.Takes (cxOf (L2N.CX P w) P w g.K mg base N_check_least "check_least" sc_check_least f cd A outer s H E) (fun cls d _ H => E cls d H)) :
    DSs g (fun cls d _ H => E cls d H) [] (cxOf (L2N.CX P w) P w g.K mg base N_check_least "check_least" sc_check_least f cd A outer s H E) (defBody (topS 19)) b_check_least :=
  have po : PassesOwn (model P w) ((cxOf (L2N.CX P w) P w g.K mg base N_check_least "check_least" sc_check_least f cd A outer s H E)).A ((cxOf (L2N.CX P w) P w g.K mg base N_check_least "check_least" sc_check_least f cd A outer s H E)).env ((cxOf (L2N.CX P w) P w g.K mg base N_check_least "check_least" sc_check_least f cd A outer s H E)).xe := passes_of rfl
  (dss_one (ds_if (dt_notin (dv_var 0) (dv_tup (da_cons dv_int (da_cons dv_int da_nil))) O.K O.hu) (dss_one (ds_raise F.x_NotAllowed O tk)) dss_nil))
def m_check_least (ds : List D) : Out := toOut (b_check_least (startE N_check_least ds))
theorem d_check_least {g : DX} {P : Program} {w : World} {mg : Str → Option Value} {base : Heap} (F : Facts g mg) : DefP g P w mg base 1 "check_least" 1 m_check_least :=
  defP_of F.t_check_least F.nb fs_check_least rfl (fun cd f A outer s H E O tk => de_check_least F cd f A outer s H E O tk) m_check_least (fun ds _ _ => rfl)
abbrev N_commute : List Str := ["first", "second"]
abbrev sc_commute : Scope := defScope (topS 25)
theorem fs_commute : FnScope N_commute ["first", "second"] sc_commute := ⟨rfl, rfl, rfl, by decide +kernel, rfl, by decide +kernel, by decide +kernel⟩
def s_commute_0_3 : SM := (sbnd (shar (op2 fEq (op2 fAdd (get 0) (get 1)) (op2 fAdd (get 1) (get 0)))) .rt)
def s_commute_0_2 : SM := (sq (sbnd (froz (callP m_check_word (cons1 (get 1) (pur [])))) fun _ => .nx)
  s_commute_0_3)
def b_commute : SM := (sq (sbnd (froz (callP m_check_word (cons1 (get 0) (pur [])))) fun _ => .nx)
  s_commute_0_2)
theorem de_commute {g : DX} {P : Program} {w : World} {mg : Str → Option Value} {base : Heap} (F : Facts g mg) (d_check_word : DefP g P w mg base 1 "check_word" 1 m_check_word) (cd : Value) (f : Addr) (A : Around) (outer : List PySem.Env) (s : Shared) (H : Hp) (E : XK)
    (O : Ok g 1 (cxOf (L2N.CX P w) P w g.K mg base N_commute "commute" sc_commute f cd A outer s H E)) (tk : L2N.Takes (cxOf (L2N.CX P w) P w g.K mg base N_commute "commute" sc_commute f cd A outer s H E) (fun cls d _ H => E cls d H)) :
    DSs g (fun cls d _ H => E cls d H) [] (cxOf (L2N.CX P w) P w g.K mg base N_commute "commute" sc_commute f cd A outer s H E) (defBody (topS 25)) b_commute :=
  have po : PassesOwn (model P w) ((cxOf (L2N.CX P w) P w g.K mg base N_commute "commute" sc_commute f cd A outer s H E)).A ((cxOf (L2N.CX P w) P w g.K mg base N_commute "commute" sc_commute f cd A outer s H E)).env ((cxOf (L2N.CX P w) P w g.K mg base N_commute "commute" sc_commute f cd A outer s H E)).xe := passes_of rfl
  (dss_cons (ds_expr (DE.dv (de_call d_check_word O.K (O.roomG.mono (by decide)) tk (da_cons (dv_var 0) da_nil) (hml := (len_cons len_nil)))))
  (dss_cons (ds_expr (DE.dv (de_call d_check_word O.K (O.roomG.mono (by decide)) tk (da_cons (dv_var 1) da_nil) (hml := (len_cons len_nil)))))
  (dss_one (ds_ret (DV.de (dv_eq (dv_add (dv_var 0) (dv_var 1) O.K) (dv_add (dv_var 1) (dv_var 0) O.K) O.K O.hu))))))
def m_commute (ds : List D) : Out := toOut (b_commute (startE N_commute ds))
theorem d_commute {g : DX} {P : Program} {w : World} {mg : Str → Option Value} {base : Heap} (F : Facts g mg) : DefP g P w mg base 2 "commute" 2 m_commute :=
  defP_of F.t_commute F.nb fs_commute rfl (fun cd f A outer s H E O tk => de_commute F (d_check_word F) cd f A outer s H E O tk) m_commute (fun ds _ _ => rfl)
abbrev N_is_between : List Str := ["first", "second", "word"]
abbrev sc_is_between : Scope := defScope (topS 28)
theorem fs_is_between : FnScope N_is_between ["first", "second", "word"] sc_is_between := ⟨rfl, rfl, rfl, by decide +kernel, rfl, by decide +kernel, by decide +kernel⟩
def s_is_between_0_4 : SM := (sbnd (shar (op2 fEq (op2 fAdd (get 0) (get 2)) (op2 fAdd (get 2) (get 1)))) .rt)
def s_is_between_0_3 : SM := (sq (sbnd (froz (callP m_check_word (cons1 (get 2) (pur [])))) fun _ => .nx)
  s_is_between_0_4)
def s_is_between_0_2 : SM := (sq (sbnd (froz (callP m_check_word (cons1 (get 1) (pur [])))) fun _ => .nx)
  s_is_between_0_3)
def b_is_between : SM := (sq (sbnd (froz (callP m_check_word (cons1 (get 0) (pur [])))) fun _ => .nx)
  s_is_between_0_2)
theorem de_is_between {g : DX} {P : Program} {w : World} {mg : Str → Option Value} {base : Heap} (F : Facts g mg) (d_check_word : DefP g P w mg base 1 "check_word" 1 m_check_word) (cd : Value) (f : Addr) (A : Around) (outer : List PySem.Env) (s : Shared) (H : Hp) (E : XK)
    (O : Ok g 1 (cxOf (L2N.CX P w) P w g.K mg base N_is_between "is_between" sc_is_between f cd A outer s H E)) (tk : L2N.Takes (cxOf (L2N.CX P w) P w g.K mg base N_is_between "is_between" sc_is_between f cd A outer s H E) (fun cls d _ H => E cls d H)) :
    DSs g (fun cls d _ H => E cls d H) [] (cxOf (L2N.CX P w) P w g.K mg base N_is_between "is_between" sc_is_between f cd A outer s H E) (defBody (topS 28)) b_is_between :=
  have po : PassesOwn (model P w) ((cxOf (L2N.CX P w) P w g.K mg base N_is_between "is_between" sc_is_between f cd A outer s H E)).A ((cxOf (L2N.CX P w) P w g.K mg base N_is_between "is_between" sc_is_between f cd A outer s H E)).env ((cxOf (L2N.CX P w) P w g.K mg base N_is_between "is_between" sc_is_between f cd A outer s H E)).xe := passes_of rfl
  (dss_cons (ds_expr (DE.dv (de_call d_check_word O.K (O.roomG.mono (by decide)) tk (da_cons (dv_var 0) da_nil) (hml := (len_cons len_nil)))))
  (dss_cons (ds_expr (DE.dv (de_call d_check_word O.K (O.roomG.mono (by decide)) tk (da_cons (dv_var 1) da_nil) (hml := (len_cons len_nil)))))
  (dss_cons (ds_expr (DE.dv (de_call d_check_word O.K (O.roomG.mono (by decide)) tk (da_cons (dv_var 2) da_nil) (hml := (len_cons len_nil)))))
  (dss_one (ds_ret (DV.de (dv_eq (dv_add (dv_var 0) (dv_var 2) O.K) (dv_add (dv_var 2) (dv_var 1) O.K) O.K O.hu)))))))
def m_is_between (ds : List D) : Out := toOut (b_is_between (startE N_is_between ds))
theorem d_is_between {g : DX} {P : Program} {w : World} {mg : Str → Option Value} {base : Heap} (F : Facts g mg) : DefP g P w mg base 2 "is_between" 3 m_is_between :=
  defP_of F.t_is_between F.nb fs_is_between rfl (fun cd f A outer s H E O tk => de_is_between F (d_check_word F) cd f A outer s H E O tk) m_is_between (fun ds _ _ => rfl)
abbrev N_turned : List Str := ["first", "second", "many"]
abbrev sc_turned : Scope := defScope (topS 26)
theorem fs_turned : FnScope N_turned ["first", "second"] sc_turned := ⟨rfl, rfl, rfl, by decide +kernel, rfl, by decide +kernel, by decide +kernel⟩
def l_turned_1 : SM := (sIf (bnd (op2 fEq (op2 fAdd (sl3 fSl (get 0) (bnd (get 2) asI) (pur none)) (sl3 fSl (get 0) (pur none) (bnd (get 2) asI))) (get 1)) asB) (sbnd (shar (opL (fun ds => if big ds.length then some (.tup ds) else none) (cons1 (sl3 fSl (get 0) (pur none) (bnd (get 2) asI)) (cons1 (sl3 fSl (get 0) (bnd (get 2) asI) (pur none)) (pur []))))) .rt) SR.nx)
def s_turned_0_5 : SM := (fun ρ => .exc .missing ρ)
def s_turned_0_4 : SM := (sq (sIf (bnd (op3 fEq fEq (get 0) (get 1) (pur (.str []))) asB) (sbnd (shar (opL (fun ds => if big ds.length then some (.tup ds) else none) (cons1 (pur (.str [])) (cons1 (pur (.str [])) (pur []))))) .rt) SR.nx)
  s_turned_0_5)
def s_turned_0_3 : SM := (sq (sbnd (bnd (cons1 (mLen 0) (pur [])) fun ds => opt (rng1 ds)) (forL (bName 2) l_turned_1))
  s_turned_0_4)
def s_turned_0_2 : SM := (sq (sbnd (froz (callP m_check_word (cons1 (get 1) (pur [])))) fun _ => .nx)
  s_turned_0_3)
def b_turned : SM := (sq (sbnd (froz (callP m_check_word (cons1 (get 0) (pur [])))) fun _ => .nx)
  s_turned_0_2)
theorem de_turned {g : DX} {P : Program} {w : World} {mg : Str → Option Value} {base : Heap} (F : Facts g mg) (d_check_word : DefP g P w mg base 1 "check_word" 1 m_check_word) (cd : Value) (f : Addr) (A : Around) (outer : List PySem.Env) (s : Shared) (H : Hp) (E : XK)
    (O : Ok g 1 (cxOf (L2N.CX P w) P w g.K mg base N_turned "turned" sc_turned f cd A outer s H E)) (tk : L2N.Takes (cxOf (L2N.CX P w) P w g.K mg base N_turned "turned" sc_turned f cd A outer s H E) (fun cls d _ H => E cls d H)) :
    DSs g (fun cls d _ H => E cls d H) [] (cxOf (L2N.CX P w) P w g.K mg base N_turned "turned" sc_turned f cd A outer s H E) (defBody (topS 26)) b_turned :=
  have po : PassesOwn (model P w) ((cxOf (L2N.CX P w) P w g.K mg base N_turned "turned" sc_turned f cd A outer s H E)).A ((cxOf (L2N.CX P w) P w g.K mg base N_turned "turned" sc_turned f cd A outer s H E)).env ((cxOf (L2N.CX P w) P w g.K mg base N_turned "turned" sc_turned f cd A outer s H E)).xe := passes_of rfl
  (dss_cons (ds_expr (DE.dv (de_call d_check_word O.K (O.roomG.mono (by decide)) tk (da_cons (dv_var 0) da_nil) (hml := (len_cons len_nil)))))
  (dss_cons (ds_expr (DE.dv (de_call d_check_word O.K (O.roomG.mono (by decide)) tk (da_cons (dv_var 1) da_nil) (hml := (len_cons len_nil)))))
  (dss_cons (ds_for po O (di_range1 O (da_cons (dv_lenP 0 O) da_nil)) (dg_name 2 O.nd) (dss_one (ds_if (dt_eq (dv_add (dv_slice (dv_var 0) (do_some (dv_var 2)) do_none O.K) (dv_slice (dv_var 0) do_none (do_some (dv_var 2)) O.K) O.K) (dv_var 1) O.K O.hu) (dss_one (ds_ret (DV.de (dv_tup (da_cons (dv_slice (dv_var 0) do_none (do_some (dv_var 2)) O.K) (da_cons (dv_slice (dv_var 0) (do_some (dv_var 2)) do_none O.K) da_nil)))))) dss_nil)))
  (dss_cons (ds_if (dt_eq_eq O (dv_var 0) (dv_var 1) dv_str) (dss_one (ds_ret (DV.de (dv_tup (da_cons dv_str (da_cons dv_str da_nil)))))) dss_nil)
  (dss_one (ds_raise F.x_Missing O tk))))))
def m_turned (ds : List D) : Out := toOut (b_turned (startE N_turned ds))
theorem d_turned {g : DX} {P : Program} {w : World} {mg : Str → Option Value} {base : Heap} (F : Facts g mg) : DefP g P w mg base 2 "turned" 2 m_turned :=
  defP_of F.t_turned F.nb fs_turned rfl (fun cd f A outer s H E O tk => de_turned F (d_check_word F) cd f A outer s H E O tk) m_turned (fun ds _ _ => rfl)
abbrev N_known_root : List Str := ["word", "many"]
abbrev sc_known_root : Scope := defScope (topS 24)
theorem fs_known_root : FnScope N_known_root ["word"] sc_known_root := ⟨rfl, rfl, rfl, by decide +kernel, rfl, by decide +kernel, by decide +kernel⟩
def l_known_root_1 : SM := (sIf (mAnd (bnd (op2 fEq (op2 fMod (mLen 0) (get 1)) (pur (.int 0))) asB) (bnd (op2 fEq (op2 fMul (sl3 fSl (get 0) (pur none) (bnd (get 1) asI)) (op2 fDiv (mLen 0) (get 1))) (get 0)) asB)) (sbnd (shar (opL (fun ds => if big ds.length then some (.tup ds) else none) (cons1 (sl3 fSl (get 0) (pur none) (bnd (get 1) asI)) (cons1 (op2 fDiv (mLen 0) (get 1)) (pur []))))) .rt) SR.nx)
def b_known_root : SM := (sq (sbnd (bnd (cons1 (pur (.int 1)) (cons1 (op2 fAdd (mLen 0) (pur (.int 1))) (pur []))) fun ds => opt (rng2 ds)) (forL (bName 1) l_known_root_1))
  (sbnd (shar (opL (fun ds => if big ds.length then some (.tup ds) else none) (cons1 (get 0) (cons1 (pur (.int 1)) (pur []))))) .rt))
theorem de_known_root {g : DX} {P : Program} {w : World} {mg : Str → Option Value} {base : Heap} (F : Facts g mg) (cd : Value) (f : Addr) (A : Around) (outer : List PySem.Env) (s : Shared) (H : Hp) (E : XK)
    (O : Ok g 0 (cxOf (L2N.CX P w) P w g.K mg base N_known_root "known_root" sc_known_root f cd A outer s H E)) (tk : L2N.Takes (cxOf (L2N.CX P w) P w g.K mg base N_known_root "known_root" sc_known_root f cd A outer s H E) (fun cls d _ H => E cls d H)) :
    DSs g (fun cls d _ H => E cls d H) [] (cxOf (L2N.CX P w) P w g.K mg base N_known_root "known_root" sc_known_root f cd A outer s H E) (defBody (topS 24)) b_known_root :=
  have po : PassesOwn (model P w) ((cxOf (L2N.CX P w) P w g.K mg base N_known_root "known_root" sc_known_root f cd A outer s H E)).A ((cxOf (L2N.CX P w) P w g.K mg base N_known_root "known_root" sc_known_root f cd A outer s H E)).env ((cxOf (L2N.CX P w) P w g.K mg base N_known_root "known_root" sc_known_root f cd A outer s H E)).xe := passes_of rfl
  (dss_cons (ds_for po O (di_range2 O (da_cons dv_int (da_cons (dv_add (dv_lenP 0 O) dv_int O.K) da_nil))) (dg_name 1 O.nd) (dss_one (ds_if (DW.dt (dw_and (dt_eq (dv_mod (dv_lenP 0 O) (dv_var 1)) dv_int O.K O.hu) (dw_and1 (dt_eq (dv_mul (dv_slice (dv_var 0) do_none (do_some (dv_var 1)) O.K) (dv_div (dv_lenP 0 O) (dv_var 1))) (dv_var 0) O.K O.hu)))) (dss_one (ds_ret (DV.de (dv_tup (da_cons (dv_slice (dv_var 0) do_none (do_some (dv_var 1)) O.K) (da_cons (dv_div (dv_lenP 0 O) (dv_var 1)) da_nil)))))) dss_nil)))
  (dss_one (ds_ret (DV.de (dv_tup (da_cons (dv_var 0) (da_cons dv_int da_nil)))))))
def m_known_root (ds : List D) : Out := toOut (b_known_root (startE N_known_root ds))
theorem d_known_root {g : DX} {P : Program} {w : World} {mg : Str → Option Value} {base : Heap} (F : Facts g mg) : DefP g P w mg base 1 "known_root" 1 m_known_root :=
  defP_of F.t_known_root F.nb fs_known_root rfl (fun cd f A outer s H E O tk => de_known_root F cd f A outer s H E O tk) m_known_root (fun ds _ _ => rfl)
abbrev N_root_of : List Str := ["word"]
abbrev sc_root_of : Scope := defScope (topS 23)
theorem fs_root_of : FnScope N_root_of ["word"] sc_root_of := ⟨rfl, rfl, rfl, by decide +kernel, rfl, by decide +kernel, by decide +kernel⟩
def s_root_of_0_3 : SM := (sbnd (callP m_known_root (cons1 (get 0) (pur []))) .rt)
def s_root_of_0_2 : SM := (sq (sIf (bnd (op2 fEq (get 0) (pur (.str []))) asB) (fun ρ => .exc .refused ρ) SR.nx)
  s_root_of_0_3)
def b_root_of : SM := (sq (sbnd (froz (callP m_check_word (cons1 (get 0) (pur [])))) fun _ => .nx)
  s_root_of_0_2)
theorem de_root_of {g : DX} {P : Program} {w : World} {mg : Str → Option Value} {base : Heap} (F : Facts g mg) (d_check_word : DefP g P w mg base 1 "check_word" 1 m_check_word) (d_known_root : DefP g P w mg base 1 "known_root" 1 m_known_root) (cd : Value) (f : Addr) (A : Around) (outer : List PySem.Env) (s : Shared) (H : Hp) (E : XK)
    (O : Ok g 1 (cxOf (L2N.CX P w) P w g.K mg base N_root_of "root_of" sc_root_of f cd A outer s H E)) (tk : L2N.Takes (cxOf (L2N.CX P w) P w g.K mg base N_root_of "root_of" sc_root_of f cd A outer s H E) (fun cls d _ H => E cls d H)) :
    DSs g (fun cls d _ H => E cls d H) [] (cxOf (L2N.CX P w) P w g.K mg base N_root_of "root_of" sc_root_of f cd A outer s H E) (defBody (topS 23)) b_root_of :=
  have po : PassesOwn (model P w) ((cxOf (L2N.CX P w) P w g.K mg base N_root_of "root_of" sc_root_of f cd A outer s H E)).A ((cxOf (L2N.CX P w) P w g.K mg base N_root_of "root_of" sc_root_of f cd A outer s H E)).env ((cxOf (L2N.CX P w) P w g.K mg base N_root_of "root_of" sc_root_of f cd A outer s H E)).xe := passes_of rfl
  (dss_cons (ds_expr (DE.dv (de_call d_check_word O.K (O.roomG.mono (by decide)) tk (da_cons (dv_var 0) da_nil) (hml := (len_cons len_nil)))))
  (dss_cons (ds_if (dt_eq (dv_var 0) dv_str O.K O.hu) (dss_one (ds_raise F.x_NotAllowed O tk)) dss_nil)
  (dss_one (ds_ret (de_call d_known_root O.K (O.roomG.mono (by decide)) tk (da_cons (dv_var 0) da_nil) (hml := (len_cons len_nil)))))))
def m_root_of (ds : List D) : Out := toOut (b_root_of (startE N_root_of ds))
theorem d_root_of {g : DX} {P : Program} {w : World} {mg : Str → Option Value} {base : Heap} (F : Facts g mg) : DefP g P w mg base 2 "root_of" 1 m_root_of :=
  defP_of F.t_root_of F.nb fs_root_of rfl (fun cd f A outer s H E O tk => de_root_of F (d_check_word F) (d_known_root F) cd f A outer s H E O tk) m_root_of (fun ds _ _ => rfl)
abbrev N_between : List Str := ["first", "second", "most", "ahead", "behind", "root", "times", "found", "word"]
abbrev sc_between : Scope := defScope (topS 27)
theorem fs_between : FnScope N_between ["first", "second", "most"] sc_between := ⟨rfl, rfl, rfl, by decide +kernel, rfl, by decide +kernel, by decide +kernel⟩
def w_between_1 : M Bool := (bnd (op2 (fCmp fun i j => decide (i ≤ j)) (mLen 8) (get 2)) asB)
def l_between_1 : SM := (sq (sbnd (bnd (isL 7) fun _ => mAppend 7 (shar (get 8))) fun _ => .nx)
  (sbnd (shar (op2 fAdd (get 5) (get 8))) (put 8)))
def s_between_0_9 : SM := (sbnd (mMove 7) .rt)
def s_between_0_8 : SM := (sq (fun ρ => whileN w_between_1 l_between_1 1000000000000 ρ)
  s_between_0_9)
def s_between_0_7 : SM := (sq (sbnd (two (ownL (pur [])) (shar (get 3))) (put2 7 8))
  s_between_0_8)
def s_between_0_6 : SM := (sq (sbnd (froz (callP m_known_root (cons1 (get 0) (pur [])))) fun d ρ => optS ((bTup (bCons (bName 5) (bCons (bName 6) bNil))) d ρ))
  s_between_0_7)
def s_between_0_5 : SM := (sq (sTry (catch_ .missing) (sbnd (froz (callP m_turned (cons1 (get 0) (cons1 (get 1) (pur []))))) fun d ρ => optS ((bTup (bCons (bName 3) (bCons (bName 4) bNil))) d ρ)) (sbnd (ownL (pur [])) .rt))
  s_between_0_6)
def s_between_0_4 : SM := (sq (sIf (bnd (op2 fEq (get 0) (pur (.str []))) asB) (fun ρ => .exc .refused ρ) SR.nx)
  s_between_0_5)
def s_between_0_3 : SM := (sq (sIf (mNot (bnd (op3 cLe cLe (pur (.int 0)) (get 2) (pur (.int 60))) asB)) (fun ρ => .exc .refused ρ) SR.nx)
  s_between_0_4)
def s_between_0_2 : SM := (sq (sbnd (froz (callP m_check_word (cons1 (get 1) (pur [])))) fun _ => .nx)
  s_between_0_3)
def b_between : SM := (sq (sbnd (froz (callP m_check_word (cons1 (get 0) (pur [])))) fun _ => .nx)
  s_between_0_2)
theorem de_between {g : DX} {P : Program} {w : World} {mg : Str → Option Value} {base : Heap} (F : Facts g mg) (d_check_word : DefP g P w mg base 1 "check_word" 1 m_check_word) (d_known_root : DefP g P w mg base 1 "known_root" 1 m_known_root) (d_turned : DefP g P w mg base 2 "turned" 2 m_turned) (cd : Value) (f : Addr) (A : Around) (outer : List PySem.Env) (s : Shared) (H : Hp) (E : XK)
    (O : Ok g 2 (cxOf (L2N.CX P w) P w g.K mg base N_between "between" sc_between f cd A outer s H E)) (tk : L2N.Takes (cxOf (L2N.CX P w) P w g.K mg base N_between "between" sc_between f cd A outer s H E) (fun cls d _ H => E cls d H)) :
    DSs g (fun cls d _ H => E cls d H) [] (cxOf (L2N.CX P w) P w g.K mg base N_between "between" sc_between f cd A outer s H E) (defBody (topS 27)) b_between :=
  have po : PassesOwn (model P w) ((cxOf (L2N.CX P w) P w g.K mg base N_between "between" sc_between f cd A outer s H E)).A ((cxOf (L2N.CX P w) P w g.K mg base N_between "between" sc_between f cd A outer s H E)).env ((cxOf (L2N.CX P w) P w g.K mg base N_between "between" sc_between f cd A outer s H E)).xe := passes_of rfl
  (dss_cons (ds_expr (DE.dv (de_call d_check_word O.K (O.roomG.mono (by decide)) tk (da_cons (dv_var 0) da_nil) (hml := (len_cons len_nil)))))
  (dss_cons (ds_expr (DE.dv (de_call d_check_word O.K (O.roomG.mono (by decide)) tk (da_cons (dv_var 1) da_nil) (hml := (len_cons len_nil)))))
  (dss_cons (ds_if (dt_not (dt_le_le dv_int (dv_var 2) (dv_gint F.c_MAX_WORD))) (dss_one (ds_raise F.x_NotAllowed O tk)) dss_nil)
  (dss_cons (ds_if (dt_eq (dv_var 0) dv_str O.K O.hu) (dss_one (ds_raise F.x_NotAllowed O tk)) dss_nil)
  (dss_cons (ds_try1 O tk F.m_Missing F.k_Missing (fun W1 pn xe tk1 po1 => have O1 := O.tr pn xe; (dss_one (ds_asg (dg_tup O1.calm O1.K (dgs_cons (dg_name 3 O1.nd) (dgs_cons (dg_name 4 O1.nd) dgs_nil)) (bCons_len (bCons_len bNil_len))) (DE.dv (de_call d_turned O1.K (O1.roomG.mono (by decide)) tk1 (da_cons (dv_var 0) (da_cons (dv_var 1) da_nil)) (hml := (len_cons (len_cons len_nil)))))))) (fun a pn => (dss_one (ds_ret (de_lst da_nil)))) (fun c h => by cases c <;> first | rfl | cases h))
  (dss_cons (ds_asg (dg_tup O.calm O.K (dgs_cons (dg_name 5 O.nd) (dgs_cons (dg_name 6 O.nd) dgs_nil)) (bCons_len (bCons_len bNil_len))) (DE.dv (de_call d_known_root O.K (O.roomG.mono (by decide)) tk (da_cons (dv_var 0) da_nil) (hml := (len_cons len_nil)))))
  (dss_cons (ds_par (i := 7) (j := 8) O (by decide) (by decide) (by decide) (de_lst da_nil) (DV.de (dv_var 3)) (hp := fun ta h => ps_par O.calm O.nd rfl rfl (by decide) rfl rfl h (by rfl)))
  (dss_cons (ds_while (fun _ => 1000000000000) po (dt_le (dv_lenP 8 O) (dv_var 2)) (dss_cons (ds_expr (dv_append 7 (DV.de (dv_var 8)) O.K))
  (dss_one (ds_set 8 (by decide) (DV.de (dv_add (dv_var 5) (dv_var 8) O.K)) O.nd))))
  (dss_one (ds_ret (de_move 7)))))))))))
def m_between (ds : List D) : Out := toOut (b_between (startE N_between ds))
theorem d_between {g : DX} {P : Program} {w : World} {mg : Str → Option Value} {base : Heap} (F : Facts g mg) : DefP g P w mg base 3 "between" 3 m_between :=
  defP_of F.t_between F.nb fs_between rfl (fun cd f A outer s H E O tk => de_between F (d_check_word F) (d_known_root F) (d_turned F) cd f A outer s H E O tk) m_between (fun ds _ _ => rfl)
abbrev N_room_for : List Str := ["pattern", "new", "least", "letter"]
abbrev sc_room_for : Scope := defScope (topS 16)
theorem fs_room_for : FnScope N_room_for ["pattern", "new", "least"] sc_room_for := ⟨rfl, rfl, rfl, by decide +kernel, rfl, by decide +kernel, by decide +kernel⟩
def t_room_for_1 : M T := (shar (mIte (bnd (op2 (fIn false) (get 3) (pur (.str [65, 66, 67, 68, 69, 70, 71, 72, 73, 74, 75, 76, 77, 78, 79, 80, 81, 82, 83, 84, 85, 86, 87, 88, 89, 90]))) asB) (opL (on1 fLen) (cons1 (mDgetx 1 (get 3) (op2 fMul (pur (.str [120])) (get 2))) (pur []))) (pur (.int 1))))
def b_room_for : SM := (sbnd (shar (opL (on1 fSum) (cons1 (froz (lcM [3] (bnd (get 0) fun d => opt (items d)) (bName 3) (pur true) t_room_for_1)) (pur [])))) .rt)
theorem de_room_for {g : DX} {P : Program} {w : World} {mg : Str → Option Value} {base : Heap} (F : Facts g mg) (cd : Value) (f : Addr) (A : Around) (outer : List PySem.Env) (s : Shared) (H : Hp) (E : XK)
    (O : Ok g 0 (cxOf (L2N.CX P w) P w g.K mg base N_room_for "room_for" sc_room_for f cd A outer s H E)) (tk : L2N.Takes (cxOf (L2N.CX P w) P w g.K mg base N_room_for "room_for" sc_room_for f cd A outer s H E) (fun cls d _ H => E cls d H)) :
    DSs g (fun cls d _ H => E cls d H) [] (cxOf (L2N.CX P w) P w g.K mg base N_room_for "room_for" sc_room_for f cd A outer s H E) (defBody (topS 16)) b_room_for :=
  have po : PassesOwn (model P w) ((cxOf (L2N.CX P w) P w g.K mg base N_room_for "room_for" sc_room_for f cd A outer s H E)).A ((cxOf (L2N.CX P w) P w g.K mg base N_room_for "room_for" sc_room_for f cd A outer s H E)).env ((cxOf (L2N.CX P w) P w g.K mg base N_room_for "room_for" sc_room_for f cd A outer s H E)).xe := passes_of rfl
  (dss_one (ds_ret (DV.de (dv_sum O (da_cons (DE.dv (de_lc (own := [("letter", 3)]) O (di_any (dv_var 0) O.K) (blkOk_by (N := N_room_for) (sc := sc_room_for) (by decide +kernel)) (by decide) (fun _ _ _ _ _ => (dg_name 3 O.blk.nd)) (fun _ _ _ _ _ => dts_nil) (fun _ _ _ _ _ => (DV.de (dv_ite (dt_in (dv_var 3) (dv_gstr F.c_CAPITALS) O.blk.K O.blk.hu) (dv_len O.blk (da_cons (dv_dgetx 1 O.blk (dv_var 3) (dv_mul dv_str (dv_var 2))) da_nil)) dv_int))))) da_nil)))))
def m_room_for (ds : List D) : Out := toOut (b_room_for (startE N_room_for ds))
theorem d_room_for {g : DX} {P : Program} {w : World} {mg : Str → Option Value} {base : Heap} (F : Facts g mg) : DefP g P w mg base 1 "room_for" 3 m_room_for :=
  defP_of F.t_room_for F.nb fs_room_for rfl (fun cd f A outer s H E O tk => de_room_for F cd f A outer s H E O tk) m_room_for (fun ds _ _ => rfl)
abbrev N_known_matches : List Str := ["pattern", "word", "least", "most", "done", "line", "place", "at", "new", "letter", "rest", "own", "many"]
abbrev sc_known_matches : Scope := defScope (topS 17)
theorem fs_known_matches : FnScope N_known_matches ["pattern", "word", "least", "most"] sc_known_matches := ⟨rfl, rfl, rfl, by decide +kernel, rfl, by decide +kernel, by decide +kernel⟩
def l_known_matches_1 : SM := (sIf (bnd (op2 (fCmp fun i j => decide (i ≤ j)) (op2 fAdd (get 7) (get 12)) (mLen 1)) asB) (sbnd (bnd (isL 5) fun _ => mAppend 5 (shar (opL (fun ds => if big ds.length then some (.tup ds) else none) (cons1 (op2 fAdd (get 6) (pur (.int 1))) (cons1 (op2 fAdd (get 7) (get 12)) (cons1 (froz (mUp (get 8) (get 9) (sl3 fSl (get 1) (bnd (get 7) asI) (bnd (op2 fAdd (get 7) (get 12)) asI)))) (pur []))))))) fun _ => .nx) SR.nx)
def s_known_matches_1_5 : SM := (sIf (mOr (bnd (op2 (fIn false) (get 9) (pur (.str [97, 98, 99, 100, 101, 102, 103, 104, 105, 106, 107, 108, 109, 110, 111, 112, 113, 114, 115, 116, 117, 118, 119, 120, 121, 122]))) asB) (bnd (mDin false 8 (get 9)) asB)) (sq (sbnd (shar (mDgetx 8 (get 9) (get 9))) (put 11))
  (sIf (bnd (op2 fEq (sl3 fSl (get 1) (bnd (get 7) asI) (bnd (op2 fAdd (get 7) (mLen 11)) asI)) (get 11)) asB) (sbnd (bnd (isL 5) fun _ => mAppend 5 (shar (opL (fun ds => if big ds.length then some (.tup ds) else none) (cons1 (op2 fAdd (get 6) (pur (.int 1))) (cons1 (op2 fAdd (get 7) (mLen 11)) (cons1 (get 8) (pur []))))))) fun _ => .nx) SR.nx)) (sbnd (bnd (cons1 (opL (on2 fMax) (cons1 (get 2) (cons1 (get 10) (pur [])))) (cons1 (op2 fSub (get 2) (pur (.int 1))) (cons1 (op1 fNeg (pur (.int 1))) (pur [])))) fun ds => opt (rng3 ds)) (forL (bName 12) l_known_matches_1)))
def s_known_matches_1_4 : SM := (sq (sbnd (shar (op2 fSub (op2 fSub (mLen 1) (get 7)) (froz (callP m_room_for (cons1 (sl3 fSl (get 0) (bnd (op2 fAdd (get 6) (pur (.int 1))) asI) (pur none)) (cons1 (get 8) (cons1 (get 2) (pur [])))))))) (put 10))
  s_known_matches_1_5)
def s_known_matches_1_3 : SM := (sq (sbnd (shar (bnd (isU 0) fun _ => mIx 0 (get 6))) (put 9))
  s_known_matches_1_4)
def s_known_matches_1_2 : SM := (sq (sIf (bnd (op2 fEq (get 6) (mLen 0)) asB) (sq (sbnd (bnd (isL 4) fun _ => mExtend 4 (mIte (bnd (op2 fEq (get 7) (mLen 1)) asB) (froz (ownL (cons1 (get 8) (pur [])))) (froz (ownL (pur []))))) fun _ => .nx)
  .ct) SR.nx)
  s_known_matches_1_3)
def w_known_matches_1 : M Bool := (mAnd (bnd (op2 (fCmp fun i j => decide (j < i)) (mLen 5) (pur (.int 0))) asB) (bnd (op2 (fCmp fun i j => decide (i ≤ j)) (mLen 4) (get 3)) asB))
def l_known_matches_2 : SM := (sq (sbnd (froz (mPop 5)) fun d ρ => optS ((bTup (bCons (bName 6) (bCons (bName 7) (bCons (bName 8) bNil)))) d ρ))
  s_known_matches_1_2)
def s_known_matches_0_3 : SM := (sbnd (mMove 4) .rt)
def s_known_matches_0_2 : SM := (sq (fun ρ => whileN w_known_matches_1 l_known_matches_2 1000000000000 ρ)
  s_known_matches_0_3)
def b_known_matches : SM := (sq (sbnd (two (ownL (pur [])) (ownL (cons1 (opL (fun ds => if big ds.length then some (.tup ds) else none) (cons1 (pur (.int 0)) (cons1 (pur (.int 0)) (cons1 (froz (pur (.dct false []))) (pur []))))) (pur [])))) (put2 4 5))
  s_known_matches_0_2)
theorem de_known_matches {g : DX} {P : Program} {w : World} {mg : Str → Option Value} {base : Heap} (F : Facts g mg) (d_room_for : DefP g P w mg base 1 "room_for" 3 m_room_for) (cd : Value) (f : Addr) (A : Around) (outer : List PySem.Env) (s : Shared) (H : Hp) (E : XK)
    (O : Ok g 1 (cxOf (L2N.CX P w) P w g.K mg base N_known_matches "known_matches" sc_known_matches f cd A outer s H E)) (tk : L2N.Takes (cxOf (L2N.CX P w) P w g.K mg base N_known_matches "known_matches" sc_known_matches f cd A outer s H E) (fun cls d _ H => E cls d H)) :
    DSs g (fun cls d _ H => E cls d H) [] (cxOf (L2N.CX P w) P w g.K mg base N_known_matches "known_matches" sc_known_matches f cd A outer s H E) (defBody (topS 17)) b_known_matches :=
  have po : PassesOwn (model P w) ((cxOf (L2N.CX P w) P w g.K mg base N_known_matches "known_matches" sc_known_matches f cd A outer s H E)).A ((cxOf (L2N.CX P w) P w g.K mg base N_known_matches "known_matches" sc_known_matches f cd A outer s H E)).env ((cxOf (L2N.CX P w) P w g.K mg base N_known_matches "known_matches" sc_known_matches f cd A outer s H E)).xe := passes_of rfl
  (dss_cons (ds_par (i := 4) (j := 5) O (by decide) (by decide) (by decide) (de_lst da_nil) (de_lst (da_cons (dv_tup (da_cons dv_int (da_cons dv_int (da_cons (DE.dv de_dnewK) da_nil)))) da_nil)) (hp := fun ta h => ps_par O.calm O.nd rfl rfl (by decide) rfl rfl h (by rfl)))
  (dss_cons (ds_while (fun _ => 1000000000000) po (DW.dt (dw_and (dt_gt (dv_lenP 5 O) dv_int) (dw_and1 (dt_le (dv_lenP 4 O) (dv_var 3))))) (dss_cons (ds_asg (dg_tup O.calm O.K (dgs_cons (dg_name 6 O.nd) (dgs_cons (dg_name 7 O.nd) (dgs_cons (dg_name 8 O.nd) dgs_nil))) (bCons_len (bCons_len (bCons_len bNil_len)))) (DE.dv (de_pop 5 O.K)))
  (dss_cons (ds_if (dt_eq (dv_var 6) (dv_lenP 0 O) O.K O.hu) (dss_cons (ds_expr (dv_extend 4 (dv_ite (dt_eq (dv_var 7) (dv_lenP 1 O) O.K O.hu) (DE.dv (de_lst (da_cons (dv_var 8) da_nil))) (DE.dv (de_lst da_nil))) O.K))
  (dss_one ds_continue)) dss_nil)
  (dss_cons (ds_set 9 (by decide) (DV.de (dv_ixP 0 (dv_var 6) O.K)) O.nd)
  (dss_cons (ds_set 10 (by decide) (DV.de (dv_sub (dv_sub (dv_lenP 1 O) (dv_var 7)) (DE.dv (de_call d_room_for O.K (O.roomG.mono (by decide)) tk (da_cons (dv_slice (dv_var 0) (do_some (dv_add (dv_var 6) dv_int O.K)) do_none O.K) (da_cons (dv_var 8) (da_cons (dv_var 2) da_nil))) (hml := (len_cons (len_cons (len_cons len_nil)))))))) O.nd)
  (dss_one (ds_if (DW.dt (dw_or (dt_in (dv_var 9) (dv_gstr F.c_SMALL) O.K O.hu) (dw_or1 (dt_dinP false 8 (dv_var 9) O)))) (dss_cons (ds_set 11 (by decide) (DV.de (dv_dgetx 8 O (dv_var 9) (dv_var 9))) O.nd)
  (dss_one (ds_if (dt_eq (dv_slice (dv_var 1) (do_some (dv_var 7)) (do_some (dv_add (dv_var 7) (dv_lenP 11 O) O.K)) O.K) (dv_var 11) O.K O.hu) (dss_one (ds_expr (dv_append 5 (DV.de (dv_tup (da_cons (dv_add (dv_var 6) dv_int O.K) (da_cons (dv_add (dv_var 7) (dv_lenP 11 O) O.K) (da_cons (dv_var 8) da_nil))))) O.K))) dss_nil))) (dss_one (ds_for po O (di_range3 O (da_cons (dv_max2 O (da_cons (dv_var 2) (da_cons (dv_var 10) da_nil))) (da_cons (dv_sub (dv_var 2) dv_int) (da_cons (dv_neg dv_int) da_nil)))) (dg_name 12 O.nd) (dss_one (ds_if (dt_le (dv_add (dv_var 7) (dv_var 12) O.K) (dv_lenP 1 O)) (dss_one (ds_expr (dv_append 5 (DV.de (dv_tup (da_cons (dv_add (dv_var 6) dv_int O.K) (da_cons (dv_add (dv_var 7) (dv_var 12) O.K) (da_cons (DE.dv (de_up (dv_var 8) (dv_var 9) (dv_slice (dv_var 1) (do_some (dv_var 7)) (do_some (dv_add (dv_var 7) (dv_var 12) O.K)) O.K))) da_nil))))) O.K))) dss_nil)))))))))))
  (dss_one (ds_ret (de_move 4)))))
def m_known_matches (ds : List D) : Out := toOut (b_known_matches (startE N_known_matches ds))
theorem d_known_matches {g : DX} {P : Program} {w : World} {mg : Str → Option Value} {base : Heap} (F : Facts g mg) : DefP g P w mg base 2 "known_matches" 4 m_known_matches :=
  defP_of F.t_known_matches F.nb fs_known_matches rfl (fun cd f A outer s H E O tk => de_known_matches F (d_room_for F) cd f A outer s H E O tk) m_known_matches (fun ds _ _ => rfl)
abbrev N_matches : List Str := ["pattern", "word", "least", "found", "new"]
abbrev sc_matches : Scope := defScope (topS 18)
theorem fs_matches : FnScope N_matches ["pattern", "word", "least"] sc_matches := ⟨rfl, rfl, rfl, by decide +kernel, rfl, by decide +kernel, by decide +kernel⟩
def t_matches_1 : M T := (shar (opL (on1 fTup) (cons1 (op1 fSortItems (get 4)) (pur []))))
def s_matches_0_6 : SM := (sbnd (lcM [4] (bnd (get 3) fun d => opt (items d)) (bName 4) (pur true) t_matches_1) .rt)
def s_matches_0_5 : SM := (sq (sIf (bnd (op2 (fCmp fun i j => decide (j < i)) (mLen 3) (pur (.int 500))) asB) (fun ρ => .exc .large ρ) SR.nx)
  s_matches_0_6)
def s_matches_0_4 : SM := (sq (sbnd (callP m_known_matches (cons1 (get 0) (cons1 (get 1) (cons1 (get 2) (cons1 (pur (.int 500)) (pur [])))))) (put 3))
  s_matches_0_5)
def s_matches_0_3 : SM := (sq (sbnd (froz (callP m_check_least (cons1 (get 2) (pur [])))) fun _ => .nx)
  s_matches_0_4)
def s_matches_0_2 : SM := (sq (sbnd (froz (callP m_check_word (cons1 (get 1) (pur [])))) fun _ => .nx)
  s_matches_0_3)
def b_matches : SM := (sq (sbnd (froz (callP m_check_pattern (cons1 (get 0) (pur [])))) fun _ => .nx)
  s_matches_0_2)
theorem de_matches {g : DX} {P : Program} {w : World} {mg : Str → Option Value} {base : Heap} (F : Facts g mg) (d_check_least : DefP g P w mg base 1 "check_least" 1 m_check_least) (d_check_pattern : DefP g P w mg base 1 "check_pattern" 1 m_check_pattern) (d_check_word : DefP g P w mg base 1 "check_word" 1 m_check_word) (d_known_matches : DefP g P w mg base 2 "known_matches" 4 m_known_matches) (cd : Value) (f : Addr) (A : Around) (outer : List PySem.Env) (s : Shared) (H : Hp) (E : XK)
    (O : Ok g 2 (cxOf (L2N.CX P w) P w g.K mg base N_matches "matches" sc_matches f cd A outer s H E)) (tk : L2N.Takes (cxOf (L2N.CX P w) P w g.K mg base N_matches "matches" sc_matches f cd A outer s H E) (fun cls d _ H => E cls d H)) :
    DSs g (fun cls d _ H => E cls d H) [] (cxOf (L2N.CX P w) P w g.K mg base N_matches "matches" sc_matches f cd A outer s H E) (defBody (topS 18)) b_matches :=
  have po : PassesOwn (model P w) ((cxOf (L2N.CX P w) P w g.K mg base N_matches "matches" sc_matches f cd A outer s H E)).A ((cxOf (L2N.CX P w) P w g.K mg base N_matches "matches" sc_matches f cd A outer s H E)).env ((cxOf (L2N.CX P w) P w g.K mg base N_matches "matches" sc_matches f cd A outer s H E)).xe := passes_of rfl
  (dss_cons (ds_expr (DE.dv (de_call d_check_pattern O.K (O.roomG.mono (by decide)) tk (da_cons (dv_var 0) da_nil) (hml := (len_cons len_nil)))))
  (dss_cons (ds_expr (DE.dv (de_call d_check_word O.K (O.roomG.mono (by decide)) tk (da_cons (dv_var 1) da_nil) (hml := (len_cons len_nil)))))
  (dss_cons (ds_expr (DE.dv (de_call d_check_least O.K (O.roomG.mono (by decide)) tk (da_cons (dv_var 2) da_nil) (hml := (len_cons len_nil)))))
  (dss_cons (ds_set 3 (by decide) (de_call d_known_matches O.K (O.roomG.mono (by decide)) tk (da_cons (dv_var 0) (da_cons (dv_var 1) (da_cons (dv_var 2) (da_cons (dv_gint F.c_MAX_MATCHES) da_nil)))) (hml := (len_cons (len_cons (len_cons (len_cons len_nil)))))) O.nd)
  (dss_cons (ds_if (dt_gt (dv_lenP 3 O) (dv_gint F.c_MAX_MATCHES)) (dss_one (ds_raise F.x_TooLarge O tk)) dss_nil)
  (dss_one (ds_ret (de_lc (own := [("new", 4)]) O (di_any (dv_var 3) O.K) (blkOk_by (N := N_matches) (sc := sc_matches) (by decide +kernel)) (by decide) (fun _ _ _ _ _ => (dg_name 4 O.blk.nd)) (fun _ _ _ _ _ => dts_nil) (fun _ _ _ _ _ => (DV.de (dv_tuplec O.blk (da_cons (dv_sortItems O.blk (dv_var 4)) da_nil))))))))))))
def m_matches (ds : List D) : Out := toOut (b_matches (startE N_matches ds))
theorem d_matches {g : DX} {P : Program} {w : World} {mg : Str → Option Value} {base : Heap} (F : Facts g mg) : DefP g P w mg base 3 "matches" 3 m_matches :=
  defP_of F.t_matches F.nb fs_matches rfl (fun cd f A outer s H E O tk => de_matches F (d_check_least F) (d_check_pattern F) (d_check_word F) (d_known_matches F) cd f A outer s H E O tk) m_matches (fun ds _ _ => rfl)
abbrev N_is_matched : List Str := ["pattern", "word", "least"]
abbrev sc_is_matched : Scope := defScope (topS 20)
theorem fs_is_matched : FnScope N_is_matched ["pattern", "word", "least"] sc_is_matched := ⟨rfl, rfl, rfl, by decide +kernel, rfl, by decide +kernel, by decide +kernel⟩
def s_is_matched_0_4 : SM := (sbnd (shar (op2 (fCmp fun i j => decide (j < i)) (opL (on1 fLen) (cons1 (froz (callP m_known_matches (cons1 (get 0) (cons1 (get 1) (cons1 (get 2) (cons1 (pur (.int 0)) (pur []))))))) (pur []))) (pur (.int 0)))) .rt)
def s_is_matched_0_3 : SM := (sq (sbnd (froz (callP m_check_least (cons1 (get 2) (pur [])))) fun _ => .nx)
  s_is_matched_0_4)
def s_is_matched_0_2 : SM := (sq (sbnd (froz (callP m_check_word (cons1 (get 1) (pur [])))) fun _ => .nx)
  s_is_matched_0_3)
def b_is_matched : SM := (sq (sbnd (froz (callP m_check_pattern (cons1 (get 0) (pur [])))) fun _ => .nx)
  s_is_matched_0_2)
theorem de_is_matched {g : DX} {P : Program} {w : World} {mg : Str → Option Value} {base : Heap} (F : Facts g mg) (d_check_least : DefP g P w mg base 1 "check_least" 1 m_check_least) (d_check_pattern : DefP g P w mg base 1 "check_pattern" 1 m_check_pattern) (d_check_word : DefP g P w mg base 1 "check_word" 1 m_check_word) (d_known_matches : DefP g P w mg base 2 "known_matches" 4 m_known_matches) (cd : Value) (f : Addr) (A : Around) (outer : List PySem.Env) (s : Shared) (H : Hp) (E : XK)
    (O : Ok g 2 (cxOf (L2N.CX P w) P w g.K mg base N_is_matched "is_matched" sc_is_matched f cd A outer s H E)) (tk : L2N.Takes (cxOf (L2N.CX P w) P w g.K mg base N_is_matched "is_matched" sc_is_matched f cd A outer s H E) (fun cls d _ H => E cls d H)) :
    DSs g (fun cls d _ H => E cls d H) [] (cxOf (L2N.CX P w) P w g.K mg base N_is_matched "is_matched" sc_is_matched f cd A outer s H E) (defBody (topS 20)) b_is_matched :=
  have po : PassesOwn (model P w) ((cxOf (L2N.CX P w) P w g.K mg base N_is_matched "is_matched" sc_is_matched f cd A outer s H E)).A ((cxOf (L2N.CX P w) P w g.K mg base N_is_matched "is_matched" sc_is_matched f cd A outer s H E)).env ((cxOf (L2N.CX P w) P w g.K mg base N_is_matched "is_matched" sc_is_matched f cd A outer s H E)).xe := passes_of rfl
  (dss_cons (ds_expr (DE.dv (de_call d_check_pattern O.K (O.roomG.mono (by decide)) tk (da_cons (dv_var 0) da_nil) (hml := (len_cons len_nil)))))
  (dss_cons (ds_expr (DE.dv (de_call d_check_word O.K (O.roomG.mono (by decide)) tk (da_cons (dv_var 1) da_nil) (hml := (len_cons len_nil)))))
  (dss_cons (ds_expr (DE.dv (de_call d_check_least O.K (O.roomG.mono (by decide)) tk (da_cons (dv_var 2) da_nil) (hml := (len_cons len_nil)))))
  (dss_one (ds_ret (DV.de (dv_gt (dv_len O (da_cons (DE.dv (de_call d_known_matches O.K (O.roomG.mono (by decide)) tk (da_cons (dv_var 0) (da_cons (dv_var 1) (da_cons (dv_var 2) (da_cons dv_int da_nil)))) (hml := (len_cons (len_cons (len_cons (len_cons len_nil))))))) da_nil)) dv_int)))))))
def m_is_matched (ds : List D) : Out := toOut (b_is_matched (startE N_is_matched ds))
theorem d_is_matched {g : DX} {P : Program} {w : World} {mg : Str → Option Value} {base : Heap} (F : Facts g mg) : DefP g P w mg base 3 "is_matched" 3 m_is_matched :=
  defP_of F.t_is_matched F.nb fs_is_matched rfl (fun cd f A outer s H E O tk => de_is_matched F (d_check_least F) (d_check_pattern F) (d_check_word F) (d_known_matches F) cd f A outer s H E O tk) m_is_matched (fun ds _ _ => rfl)
abbrev N_count_linear : List Str := ["pattern", "many", "letters", "own", "pieces", "left", "letter", "piece"]
abbrev sc_count_linear : Scope := defScope (topS 21)
theorem fs_count_linear : FnScope N_count_linear ["pattern", "many", "letters"] sc_count_linear := ⟨rfl, rfl, rfl, by decide +kernel, rfl, by decide +kernel, by decide +kernel⟩
def c_count_linear_1 : M Bool := (bnd (op2 (fIn false) (get 6) (pur (.str [65, 66, 67, 68, 69, 70, 71, 72, 73, 74, 75, 76, 77, 78, 79, 80, 81, 82, 83, 84, 85, 86, 87, 88, 89, 90]))) asB)
def t_count_linear_1 : M T := (shar (get 6))
def t_count_linear_2 : M T := (shar (mIte (bnd (op2 (fIn false) (get 6) (pur (.str [65, 66, 67, 68, 69, 70, 71, 72, 73, 74, 75, 76, 77, 78, 79, 80, 81, 82, 83, 84, 85, 86, 87, 88, 89, 90]))) asB) (pur (.str [46])) (get 6)))
def t_count_linear_3 : M T := (shar (op2 fNe (get 7) (pur (.str []))))
def s_count_linear_0_8 : SM := (sbnd (shar (mIte (bnd (op2 (fCmp fun i j => decide (j ≤ i)) (get 5) (pur (.int 0))) asB) (froz (callP m_power (cons1 (get 2) (cons1 (get 5) (pur []))))) (pur (.int 0)))) .rt)
def s_count_linear_0_7 : SM := (sq (sbnd (shar (op2 fSub (op2 fSub (get 1) (opL (on1 fLen) (cons1 (bnd (isU 4) fun _ => mIx 4 (pur (.int 0))) (pur [])))) (opL (on1 fLen) (cons1 (bnd (isU 4) fun _ => mIx 4 (op1 fNeg (pur (.int 1)))) (pur []))))) (put 5))
  s_count_linear_0_8)
def s_count_linear_0_6 : SM := (sq (sIf (bnd (opL (on1 fAny) (cons1 (froz (lcM [7] (bnd (sl3 fSl (get 4) (bnd (pur (.int 1)) asI) (bnd (op1 fNeg (pur (.int 1))) asI)) fun d => opt (items d)) (bName 7) (pur true) t_count_linear_3)) (pur []))) asB) (fun ρ => .exc .refused ρ) SR.nx)
  s_count_linear_0_7)
def s_count_linear_0_5 : SM := (sq (sIf (bnd (op2 fEq (mLen 3) (pur (.int 0))) asB) (sbnd (shar (opL (on1 fInt) (cons1 (op2 fEq (get 1) (mLen 0)) (pur [])))) .rt) SR.nx)
  s_count_linear_0_6)
def s_count_linear_0_4 : SM := (sq (sbnd (shar (mth1 fSplit2 (mth1 fJoin (pur (.str [])) (froz (lcM [6] (bnd (get 0) fun d => opt (items d)) (bName 6) (pur true) t_count_linear_2))) (pur (.str [46])))) (put 4))
  s_count_linear_0_5)
def s_count_linear_0_3 : SM := (sq (sIf (mOr (bnd (op2 fNe (mLen 3) (op1 fLenSet (get 3))) asB) (mOr (mNot (bnd (op3 cLe cLe (pur (.int 0)) (get 1) (pur (.int 1000))) asB)) (mNot (bnd (op3 cLe cLe (pur (.int 1)) (get 2) (opL (on1 fLen) (cons1 (pur (.str [97, 98, 99, 100, 101, 102, 103, 104, 105, 106, 107, 108, 109, 110, 111, 112, 113, 114, 115, 116, 117, 118, 119, 120, 121, 122])) (pur [])))) asB)))) (fun ρ => .exc .refused ρ) SR.nx)
  s_count_linear_0_4)
def s_count_linear_0_2 : SM := (sq (sbnd (lcM [6] (bnd (get 0) fun d => opt (items d)) (bName 6) c_count_linear_1 t_count_linear_1) (put 3))
  s_count_linear_0_3)
def b_count_linear : SM := (sq (sbnd (froz (callP m_check_pattern (cons1 (get 0) (pur [])))) fun _ => .nx)
  s_count_linear_0_2)
theorem de_count_linear {g : DX} {P : Program} {w : World} {mg : Str → Option Value} {base : Heap} (F : Facts g mg) (d_check_pattern : DefP g P w mg base 1 "check_pattern" 1 m_check_pattern) (d_power : DefP g P w mg base 1 "power" 2 m_power) (cd : Value) (f : Addr) (A : Around) (outer : List PySem.Env) (s : Shared) (H : Hp) (E : XK)
    (O : Ok g 1 (cxOf (L2N.CX P w) P w g.K mg base N_count_linear "count_linear" sc_count_linear f cd A outer s H E)) (tk : L2N.Takes (cxOf (L2N.CX P w) P w g.K mg base N_count_linear "count_linear" sc_count_linear f cd A outer s H E) (fun cls d _ H => E cls d H)) :
    DSs g (fun cls d _ H => E cls d H) [] (cxOf (L2N.CX P w) P w g.K mg base N_count_linear "count_linear" sc_count_linear f cd A outer s H E) (defBody (topS 21)) b_count_linear :=
  have po : PassesOwn (model P w) ((cxOf (L2N.CX P w) P w g.K mg base N_count_linear "count_linear" sc_count_linear f cd A outer s H E)).A ((cxOf (L2N.CX P w) P w g.K mg base N_count_linear "count_linear" sc_count_linear f cd A outer s H E)).env ((cxOf (L2N.CX P w) P w g.K mg base N_count_linear "count_linear" sc_count_linear f cd A outer s H E)).xe := passes_of rfl
  (dss_cons (ds_expr (DE.dv (de_call d_check_pattern O.K (O.roomG.mono (by decide)) tk (da_cons (dv_var 0) da_nil) (hml := (len_cons len_nil)))))
  (dss_cons (ds_setLc (own := [("letter", 6)]) 3 (by decide) O (di_any (dv_var 0) O.K) (blkOk_by (N := N_count_linear) (sc := sc_count_linear) (by decide +kernel)) (by decide) (fun _ _ _ _ _ => (dg_name 6 O.blk.nd)) (fun _ _ _ _ _ => (dts_one (dt_in (dv_var 6) (dv_gstr F.c_CAPITALS) O.blk.K O.blk.hu))) (fun _ _ _ _ _ => (DV.de (dv_var 6))))
  (dss_cons (ds_if (DW.dt (dw_or (dt_ne (dv_lenP 3 O) (dv_lenSet O (dv_var 3)) O.K O.hu) (dw_or (dt_not (dt_le_le dv_int (dv_var 1) (dv_gint F.c_MAX_TIMES))) (dw_or1 (dt_not (dt_le_le dv_int (dv_var 2) (dv_len O (da_cons (dv_gstr F.c_SMALL) da_nil)))))))) (dss_one (ds_raise F.x_NotAllowed O tk)) dss_nil)
  (dss_cons (ds_set 4 (by decide) (DV.de (dv_split (dv_join dv_str (DE.dv (de_lc (own := [("letter", 6)]) O (di_any (dv_var 0) O.K) (blkOk_by (N := N_count_linear) (sc := sc_count_linear) (by decide +kernel)) (by decide) (fun _ _ _ _ _ => (dg_name 6 O.blk.nd)) (fun _ _ _ _ _ => dts_nil) (fun _ _ _ _ _ => (DV.de (dv_ite (dt_in (dv_var 6) (dv_gstr F.c_CAPITALS) O.blk.K O.blk.hu) dv_str (dv_var 6)))))) O.K) dv_str)) O.nd)
  (dss_cons (ds_if (dt_eq (dv_lenP 3 O) dv_int O.K O.hu) (dss_one (ds_ret (DV.de (dv_intc O (da_cons (dv_eq (dv_var 1) (dv_lenP 0 O) O.K O.hu) da_nil))))) dss_nil)
  (dss_cons (ds_if (dt_val (dv_any O (da_cons (DE.dv (de_lc (own := [("piece", 7)]) O (di_any (dv_slice (dv_var 4) (do_some dv_int) (do_some (dv_neg dv_int)) O.K) O.K) (blkOk_by (N := N_count_linear) (sc := sc_count_linear) (by decide +kernel)) (by decide) (fun _ _ _ _ _ => (dg_name 7 O.blk.nd)) (fun _ _ _ _ _ => dts_nil) (fun _ _ _ _ _ => (DV.de (dv_ne (dv_var 7) dv_str O.blk.K O.blk.hu))))) da_nil))) (dss_one (ds_raise F.x_NotAllowed O tk)) dss_nil)
  (dss_cons (ds_set 5 (by decide) (DV.de (dv_sub (dv_sub (dv_var 1) (dv_len O (da_cons (dv_ixP 4 dv_int O.K) da_nil))) (dv_len O (da_cons (dv_ixP 4 (dv_neg dv_int) O.K) da_nil)))) O.nd)
  (dss_one (ds_ret (DV.de (dv_ite (dt_ge (dv_var 5) dv_int) (DE.dv (de_call d_power O.K (O.roomG.mono (by decide)) tk (da_cons (dv_var 2) (da_cons (dv_var 5) da_nil)) (hml := (len_cons (len_cons len_nil))))) dv_int)))))))))))
def m_count_linear (ds : List D) : Out := toOut (b_count_linear (startE N_count_linear ds))
theorem d_count_linear {g : DX} {P : Program} {w : World} {mg : Str → Option Value} {base : Heap} (F : Facts g mg) : DefP g P w mg base 2 "count_linear" 3 m_count_linear :=
  defP_of F.t_count_linear F.nb fs_count_linear rfl (fun cd f A outer s H E O tk => de_count_linear F (d_check_pattern F) (d_power F) cd f A outer s H E O tk) m_count_linear (fun ds _ _ => rfl)
abbrev N__law_stream : List Str := ["script", "numbers", "cell", "rest", "k", "stirred"]
abbrev sc__law_stream : Scope := defScope (topS 31)
theorem fs__law_stream : FnScope N__law_stream ["script"] sc__law_stream := ⟨rfl, rfl, rfl, by decide +kernel, rfl, by decide +kernel, by decide +kernel⟩
def s__law_stream_3_3 : SM := (sIf (bnd (op2 fEq (get 3) (pur (.int 0))) asB) .bk SR.nx)
def s__law_stream_3_2 : SM := (sq (sbnd (shar (op2 fDiv (get 3) (pur (.int 1009)))) (put 3))
  s__law_stream_3_3)
def l__law_stream_1 : SM := (sq (sbnd (bnd (isL 1) fun _ => mAppend 1 (shar (op2 fMod (opL (on1 fInt) (cons1 (get 3) (pur []))) (pur (.int 1009))))) fun _ => .nx)
  s__law_stream_3_2)
def l__law_stream_2 : SM := (sq (sbnd (shar (op2 fMod (opL (on1 fInt) (cons1 (op2 fAdd (op2 fAdd (op2 fMul (get 5) (pur (.int 48271))) (op2 fMul (pur (.int 7)) (get 4))) (pur (.int 11))) (pur []))) (pur (.int 2147483647)))) (put 5))
  (sbnd (bnd (isL 1) fun _ => mAppend 1 (shar (op2 fMod (op2 fMod (opL (on1 fInt) (cons1 (op2 fAdd (op2 fMul (get 5) (pur (.int 69621))) (get 4)) (pur []))) (pur (.int 2147483629))) (pur (.int 1009))))) fun _ => .nx))
def l__law_stream_3 : SM := (sq (sbnd (shar (opL (on1 fAbs) (cons1 (opL (on1 fInt) (cons1 (get 2) (pur []))) (pur [])))) (put 3))
  (sIf (bnd (op2 (fCmp fun i j => decide (j ≤ i)) (get 3) (op2 fPow (pur (.int 10)) (pur (.int 18)))) asB) (sbnd (bnd (cons1 (pur (.int 60)) (pur [])) fun ds => opt (rng1 ds)) (forL (bName 4) l__law_stream_1)) (sq (sbnd (shar (op2 fMod (opL (on1 fInt) (cons1 (get 3) (pur []))) (pur (.int 2147483647)))) (put 5))
  (sbnd (bnd (cons1 (pur (.int 10)) (pur [])) fun ds => opt (rng1 ds)) (forL (bName 4) l__law_stream_2)))))
def s__law_stream_0_4 : SM := (sbnd (mMove 1) .rt)
def s__law_stream_0_3 : SM := (sq (sIf (bnd (op2 fEq (mLen 1) (pur (.int 0))) asB) (sbnd (bnd (isL 1) fun _ => mAppend 1 (shar (pur (.int 0)))) fun _ => .nx) SR.nx)
  s__law_stream_0_4)
def s__law_stream_0_2 : SM := (sq (sbnd (bnd (sl3 fSl (get 0) (pur none) (bnd (pur (.int 63)) asI)) fun d => opt (items d)) (forL (bName 2) l__law_stream_3))
  s__law_stream_0_3)
def b__law_stream : SM := (sq (sbnd (ownL (pur [])) (put 1))
  s__law_stream_0_2)
theorem de__law_stream {g : DX} {P : Program} {w : World} {mg : Str → Option Value} {base : Heap} (F : Facts g mg) (cd : Value) (f : Addr) (A : Around) (outer : List PySem.Env) (s : Shared) (H : Hp) (E : XK)
    (O : Ok g 0 (cxOf (L2N.CX P w) P w g.K mg base N__law_stream "_law_stream" sc__law_stream f cd A outer s H E)) (tk : L2N.Takes (cxOf (L2N.CX P w) P w g.K mg base N__law_stream "_law_stream" sc__law_stream f cd A outer s H E) (fun cls d _ H => E cls d H)) :
    DSs g (fun cls d _ H => E cls d H) [] (cxOf (L2N.CX P w) P w g.K mg base N__law_stream "_law_stream" sc__law_stream f cd A outer s H E) (defBody (topS 31)) b__law_stream :=
  have po : PassesOwn (model P w) ((cxOf (L2N.CX P w) P w g.K mg base N__law_stream "_law_stream" sc__law_stream f cd A outer s H E)).A ((cxOf (L2N.CX P w) P w g.K mg base N__law_stream "_law_stream" sc__law_stream f cd A outer s H E)).env ((cxOf (L2N.CX P w) P w g.K mg base N__law_stream "_law_stream" sc__law_stream f cd A outer s H E)).xe := passes_of rfl
  (dss_cons (ds_set 1 (by decide) (de_lst da_nil) O.nd)
  (dss_cons (ds_for po O (di_any (dv_slice (dv_var 0) do_none (do_some dv_int) O.K) O.K) (dg_name 2 O.nd) (dss_cons (ds_set 3 (by decide) (DV.de (dv_abs O (da_cons (dv_intc O (da_cons (dv_var 2) da_nil)) da_nil))) O.nd)
  (dss_one (ds_if (dt_ge (dv_var 3) (dv_pow dv_int dv_int)) (dss_one (ds_for po O (di_range1 O (da_cons dv_int da_nil)) (dg_name 4 O.nd) (dss_cons (ds_expr (dv_append 1 (DV.de (dv_mod (dv_intc O (da_cons (dv_var 3) da_nil)) dv_int)) O.K))
  (dss_cons (ds_set 3 (by decide) (DV.de (dv_div (dv_var 3) dv_int)) O.nd)
  (dss_one (ds_if (dt_eq (dv_var 3) dv_int O.K O.hu) (dss_one ds_break) dss_nil)))))) (dss_cons (ds_set 5 (by decide) (DV.de (dv_mod (dv_intc O (da_cons (dv_var 3) da_nil)) dv_int)) O.nd)
  (dss_one (ds_for po O (di_range1 O (da_cons dv_int da_nil)) (dg_name 4 O.nd) (dss_cons (ds_set 5 (by decide) (DV.de (dv_mod (dv_intc O (da_cons (dv_add (dv_add (dv_mul (dv_var 5) dv_int) (dv_mul dv_int (dv_var 4)) O.K) dv_int O.K) da_nil)) dv_int)) O.nd)
  (dss_one (ds_expr (dv_append 1 (DV.de (dv_mod (dv_mod (dv_intc O (da_cons (dv_add (dv_mul (dv_var 5) dv_int) (dv_var 4) O.K) da_nil)) dv_int) dv_int)) O.K)))))))))))
  (dss_cons (ds_if (dt_eq (dv_lenP 1 O) dv_int O.K O.hu) (dss_one (ds_expr (dv_append 1 (DV.de dv_int) O.K))) dss_nil)
  (dss_one (ds_ret (de_move 1))))))
def m__law_stream (ds : List D) : Out := toOut (b__law_stream (startE N__law_stream ds))
theorem d__law_stream {g : DX} {P : Program} {w : World} {mg : Str → Option Value} {base : Heap} (F : Facts g mg) : DefP g P w mg base 1 "_law_stream" 1 m__law_stream :=
  defP_of F.t__law_stream F.nb fs__law_stream rfl (fun cd f A outer s H E O tk => de__law_stream F cd f A outer s H E O tk) m__law_stream (fun ds _ _ => rfl)
abbrev N__law_next : List Str := ["state", "many", "turn"]
abbrev sc__law_next : Scope := defScope (topS 32)
theorem fs__law_next : FnScope N__law_next ["state", "many"] sc__law_next := ⟨rfl, rfl, rfl, by decide +kernel, rfl, by decide +kernel, by decide +kernel⟩
def s__law_next_0_3 : SM := (sbnd (shar (op2 fMod (opL (on1 fInt) (cons1 (op2 fAdd (op2 fAdd (op2 fIx (bnd (isU 0) fun _ => mIx 0 (pur (.int 0))) (op2 fMod (bnd (isU 0) fun _ => mIx 0 (pur (.int 1))) (opL (on1 fLen) (cons1 (bnd (isU 0) fun _ => mIx 0 (pur (.int 0))) (pur []))))) (op2 fMul (get 2) (pur (.int 389)))) (op2 fMul (op2 fMul (bnd (isU 0) fun _ => mIx 0 (pur (.int 1))) (get 2)) (pur (.int 17)))) (pur []))) (get 1))) .rt)
def s__law_next_0_2 : SM := (sq (sbnd (shar (op2 fDiv (bnd (isU 0) fun _ => mIx 0 (pur (.int 1))) (opL (on1 fLen) (cons1 (bnd (isU 0) fun _ => mIx 0 (pur (.int 0))) (pur []))))) (put 2))
  s__law_next_0_3)
def b__law_next : SM := (sq (mSetI 0 (shar (op2 fAdd (bnd (isU 0) fun _ => mIx 0 (pur (.int 1))) (pur (.int 1)))) (pur (.int 1)))
  s__law_next_0_2)
theorem de__law_next {g : DX} {P : Program} {w : World} {mg : Str → Option Value} {base : Heap} (F : Facts g mg) (cd : Value) (f : Addr) (A : Around) (outer : List PySem.Env) (s : Shared) (H : Hp) (E : XK)
    (O : Ok g 0 (cxOf (L2N.CX P w) P w g.K mg base N__law_next "_law_next" sc__law_next f cd A outer s H E)) (tk : L2N.Takes (cxOf (L2N.CX P w) P w g.K mg base N__law_next "_law_next" sc__law_next f cd A outer s H E) (fun cls d _ H => E cls d H)) :
    DSs g (fun cls d _ H => E cls d H) [0] (cxOf (L2N.CX P w) P w g.K mg base N__law_next "_law_next" sc__law_next f cd A outer s H E) (defBody (topS 32)) b__law_next :=
  have po : PassesOwn (model P w) ((cxOf (L2N.CX P w) P w g.K mg base N__law_next "_law_next" sc__law_next f cd A outer s H E)).A ((cxOf (L2N.CX P w) P w g.K mg base N__law_next "_law_next" sc__law_next f cd A outer s H E)).env ((cxOf (L2N.CX P w) P w g.K mg base N__law_next "_law_next" sc__law_next f cd A outer s H E)).xe := passes_of rfl
  (dss_cons (ds_setI 0 (DV.de (dv_add (dv_ixP 0 dv_int O.K) dv_int O.K)) dv_int)
  (dss_cons (ds_set 2 (by decide) (DV.de (dv_div (dv_ixP 0 dv_int O.K) (dv_len O (da_cons (dv_ixP 0 dv_int O.K) da_nil)))) O.nd)
  (dss_one (ds_ret (DV.de (dv_mod (dv_intc O (da_cons (dv_add (dv_add (dv_ix (dv_ixP 0 dv_int O.K) (dv_mod (dv_ixP 0 dv_int O.K) (dv_len O (da_cons (dv_ixP 0 dv_int O.K) da_nil))) O.K) (dv_mul (dv_var 2) dv_int) O.K) (dv_mul (dv_mul (dv_ixP 0 dv_int O.K) (dv_var 2)) dv_int) O.K) da_nil)) (dv_var 1)))))))
def m__law_next (t : T) (ds : List D) : OutS := toOutS (b__law_next (startS N__law_next t ds))
theorem d__law_next {g : DX} {P : Program} {w : World} {mg : Str → Option Value} {base : Heap} (F : Facts g mg) : DefS g P w mg base 1 "_law_next" 1 m__law_next :=
  defS_of F.t__law_next F.nb fs__law_next rfl (fun cd f A outer s H E O tk => de__law_next F cd f A outer s H E O tk) m__law_next (fun t ds _ _ => rfl) 1 rfl
abbrev N__law_word : List Str := ["state", "most", "text", "k"]
abbrev sc__law_word : Scope := defScope (topS 34)
theorem fs__law_word : FnScope N__law_word ["state", "most"] sc__law_word := ⟨rfl, rfl, rfl, by decide +kernel, rfl, by decide +kernel, by decide +kernel⟩
def l__law_word_1 : SM := (sbnd (shar (op2 fAdd (get 2) (op2 fIx (pur (.str [97, 98])) (froz (callS 0 m__law_next (cons1 (pur (.int 2)) (pur []))))))) (put 2))
def s__law_word_0_3 : SM := (sbnd (mMove 2) .rt)
def s__law_word_0_2 : SM := (sq (sbnd (bnd (cons1 (froz (callS 0 m__law_next (cons1 (op2 fAdd (get 1) (pur (.int 1))) (pur [])))) (pur [])) fun ds => opt (rng1 ds)) (forL (bName 3) l__law_word_1))
  s__law_word_0_3)
def b__law_word : SM := (sq (sbnd (shar (pur (.str []))) (put 2))
  s__law_word_0_2)
theorem de__law_word {g : DX} {P : Program} {w : World} {mg : Str → Option Value} {base : Heap} (F : Facts g mg) (d__law_next : DefS g P w mg base 1 "_law_next" 1 m__law_next) (cd : Value) (f : Addr) (A : Around) (outer : List PySem.Env) (s : Shared) (H : Hp) (E : XK)
    (O : Ok g 1 (cxOf (L2N.CX P w) P w g.K mg base N__law_word "_law_word" sc__law_word f cd A outer s H E)) (tk : L2N.Takes (cxOf (L2N.CX P w) P w g.K mg base N__law_word "_law_word" sc__law_word f cd A outer s H E) (fun cls d _ H => E cls d H)) :
    DSs g (fun cls d _ H => E cls d H) [0] (cxOf (L2N.CX P w) P w g.K mg base N__law_word "_law_word" sc__law_word f cd A outer s H E) (defBody (topS 34)) b__law_word :=
  have po : PassesOwn (model P w) ((cxOf (L2N.CX P w) P w g.K mg base N__law_word "_law_word" sc__law_word f cd A outer s H E)).A ((cxOf (L2N.CX P w) P w g.K mg base N__law_word "_law_word" sc__law_word f cd A outer s H E)).env ((cxOf (L2N.CX P w) P w g.K mg base N__law_word "_law_word" sc__law_word f cd A outer s H E)).xe := passes_of rfl
  (dss_cons (ds_set 2 (by decide) (DV.de dv_str) O.nd)
  (dss_cons (ds_for po O (di_range1 O (da_cons (DE.dv (de_callS (i := 0) d__law_next O.K (O.roomG.mono (by decide)) tk (da_cons (dv_add (dv_var 1) dv_int O.K) da_nil) (hml := (len_cons len_nil)))) da_nil)) (dg_name 3 O.nd) (dss_one (ds_set 2 (by decide) (DV.de (dv_add (dv_var 2) (dv_ix dv_str (DE.dv (de_callS (i := 0) d__law_next O.K (O.roomG.mono (by decide)) tk (da_cons dv_int da_nil) (hml := (len_cons len_nil)))) O.K) O.K)) O.nd)))
  (dss_one (ds_ret (de_move 2)))))
def m__law_word (t : T) (ds : List D) : OutS := toOutS (b__law_word (startS N__law_word t ds))
theorem d__law_word {g : DX} {P : Program} {w : World} {mg : Str → Option Value} {base : Heap} (F : Facts g mg) : DefS g P w mg base 2 "_law_word" 1 m__law_word :=
  defS_of F.t__law_word F.nb fs__law_word rfl (fun cd f A outer s H E O tk => de__law_word F (d__law_next F) cd f A outer s H E O tk) m__law_word (fun t ds _ _ => rfl) 1 rfl
abbrev N__law_all_words : List Str := ["many", "letters", "rows", "k", "wider", "row", "letter"]
abbrev sc__law_all_words : Scope := defScope (topS 38)
theorem fs__law_all_words : FnScope N__law_all_words ["many", "letters"] sc__law_all_words := ⟨rfl, rfl, rfl, by decide +kernel, rfl, by decide +kernel, by decide +kernel⟩
def t__law_all_words_1 : M T := (shar (op2 fAdd (get 5) (get 6)))
def l__law_all_words_1 : SM := (sbnd (bnd (isL 4) fun _ => mExtend 4 (froz (lcM [6] (bnd (get 1) fun d => opt (items d)) (bName 6) (pur true) t__law_all_words_1))) fun _ => .nx)
def s__law_all_words_1_3 : SM := (sbnd (shar (get 4)) (put 2))
def s__law_all_words_1_2 : SM := (sq (sbnd (bnd (get 2) fun d => opt (items d)) (forL (bName 5) l__law_all_words_1))
  s__law_all_words_1_3)
def l__law_all_words_2 : SM := (sq (sbnd (ownL (pur [])) (put 4))
  s__law_all_words_1_2)
def s__law_all_words_0_3 : SM := (sbnd (mMove 2) .rt)
def s__law_all_words_0_2 : SM := (sq (sbnd (bnd (cons1 (get 0) (pur [])) fun ds => opt (rng1 ds)) (forL (bName 3) l__law_all_words_2))
  s__law_all_words_0_3)
def b__law_all_words : SM := (sq (sbnd (ownL (cons1 (pur (.str [])) (pur []))) (put 2))
  s__law_all_words_0_2)
theorem de__law_all_words {g : DX} {P : Program} {w : World} {mg : Str → Option Value} {base : Heap} (F : Facts g mg) (cd : Value) (f : Addr) (A : Around) (outer : List PySem.Env) (s : Shared) (H : Hp) (E : XK)
    (O : Ok g 0 (cxOf (L2N.CX P w) P w g.K mg base N__law_all_words "_law_all_words" sc__law_all_words f cd A outer s H E)) (tk : L2N.Takes (cxOf (L2N.CX P w) P w g.K mg base N__law_all_words "_law_all_words" sc__law_all_words f cd A outer s H E) (fun cls d _ H => E cls d H)) :
    DSs g (fun cls d _ H => E cls d H) [] (cxOf (L2N.CX P w) P w g.K mg base N__law_all_words "_law_all_words" sc__law_all_words f cd A outer s H E) (defBody (topS 38)) b__law_all_words :=
  have po : PassesOwn (model P w) ((cxOf (L2N.CX P w) P w g.K mg base N__law_all_words "_law_all_words" sc__law_all_words f cd A outer s H E)).A ((cxOf (L2N.CX P w) P w g.K mg base N__law_all_words "_law_all_words" sc__law_all_words f cd A outer s H E)).env ((cxOf (L2N.CX P w) P w g.K mg base N__law_all_words "_law_all_words" sc__law_all_words f cd A outer s H E)).xe := passes_of rfl
  (dss_cons (ds_set 2 (by decide) (de_lst (da_cons dv_str da_nil)) O.nd)
  (dss_cons (ds_for po O (di_range1 O (da_cons (dv_var 0) da_nil)) (dg_name 3 O.nd) (dss_cons (ds_set 4 (by decide) (de_lst da_nil) O.nd)
  (dss_cons (ds_for po O (di_any (dv_var 2) O.K) (dg_name 5 O.nd) (dss_one (ds_expr (dv_extend 4 (DE.dv (de_lc (own := [("letter", 6)]) O (di_any (dv_var 1) O.K) (blkOk_by (N := N__law_all_words) (sc := sc__law_all_words) (by decide +kernel)) (by decide) (fun _ _ _ _ _ => (dg_name 6 O.blk.nd)) (fun _ _ _ _ _ => dts_nil) (fun _ _ _ _ _ => (DV.de (dv_add (dv_var 5) (dv_var 6) O.blk.K))))) O.K))))
  (dss_one (ds_set 2 (by decide) (DV.de (dv_var 4)) O.nd)))))
  (dss_one (ds_ret (de_move 2)))))
def m__law_all_words (ds : List D) : Out := toOut (b__law_all_words (startE N__law_all_words ds))
theorem d__law_all_words {g : DX} {P : Program} {w : World} {mg : Str → Option Value} {base : Heap} (F : Facts g mg) : DefP g P w mg base 1 "_law_all_words" 2 m__law_all_words :=
  defP_of F.t__law_all_words F.nb fs__law_all_words rfl (fun cd f A outer s H E O tk => de__law_all_words F cd f A outer s H E O tk) m__law_all_words (fun ds _ _ => rfl)
abbrev N__law_same : List Str := ["told", "due"]
abbrev sc__law_same : Scope := defScope (topS 30)
theorem fs__law_same : FnScope N__law_same ["told", "due"] sc__law_same := ⟨rfl, rfl, rfl, by decide +kernel, rfl, by decide +kernel, by decide +kernel⟩
def b__law_same : SM := (sbnd (shar (mReprEq (froz (ownL (cons1 (get 0) (pur [])))) (froz (ownL (cons1 (get 1) (pur [])))))) .rt)
theorem de__law_same {g : DX} {P : Program} {w : World} {mg : Str → Option Value} {base : Heap} (F : Facts g mg) (cd : Value) (f : Addr) (A : Around) (outer : List PySem.Env) (s : Shared) (H : Hp) (E : XK)
    (O : Ok g 0 (cxOf (L2N.CX P w) P w g.K mg base N__law_same "_law_same" sc__law_same f cd A outer s H E)) (tk : L2N.Takes (cxOf (L2N.CX P w) P w g.K mg base N__law_same "_law_same" sc__law_same f cd A outer s H E) (fun cls d _ H => E cls d H)) :
    DSs g (fun cls d _ H => E cls d H) [] (cxOf (L2N.CX P w) P w g.K mg base N__law_same "_law_same" sc__law_same f cd A outer s H E) (defBody (topS 30)) b__law_same :=
  have po : PassesOwn (model P w) ((cxOf (L2N.CX P w) P w g.K mg base N__law_same "_law_same" sc__law_same f cd A outer s H E)).A ((cxOf (L2N.CX P w) P w g.K mg base N__law_same "_law_same" sc__law_same f cd A outer s H E)).env ((cxOf (L2N.CX P w) P w g.K mg base N__law_same "_law_same" sc__law_same f cd A outer s H E)).xe := passes_of rfl
  (dss_one (ds_ret (DV.de (dv_reprEq O (DE.dv (de_lst (da_cons (dv_var 0) da_nil))) (DE.dv (de_lst (da_cons (dv_var 1) da_nil)))))))
def m__law_same (ds : List D) : Out := toOut (b__law_same (startE N__law_same ds))
theorem d__law_same {g : DX} {P : Program} {w : World} {mg : Str → Option Value} {base : Heap} (F : Facts g mg) : DefP g P w mg base 1 "_law_same" 2 m__law_same :=
  defP_of F.t__law_same F.nb fs__law_same rfl (fun cd f A outer s H E O tk => de__law_same F cd f A outer s H E O tk) m__law_same (fun ds _ _ => rfl)
abbrev N__law_put : List Str := ["pattern", "row", "text", "letter"]
abbrev sc__law_put : Scope := defScope (topS 35)
theorem fs__law_put : FnScope N__law_put ["pattern", "row"] sc__law_put := ⟨rfl, rfl, rfl, by decide +kernel, rfl, by decide +kernel, by decide +kernel⟩
def l__law_put_1 : SM := (sbnd (shar (op2 fAdd (get 2) (mDgetx 1 (get 3) (get 3)))) (put 2))
def s__law_put_0_3 : SM := (sbnd (mMove 2) .rt)
def s__law_put_0_2 : SM := (sq (sbnd (bnd (get 0) fun d => opt (items d)) (forL (bName 3) l__law_put_1))
  s__law_put_0_3)
def b__law_put : SM := (sq (sbnd (shar (pur (.str []))) (put 2))
  s__law_put_0_2)
theorem de__law_put {g : DX} {P : Program} {w : World} {mg : Str → Option Value} {base : Heap} (F : Facts g mg) (cd : Value) (f : Addr) (A : Around) (outer : List PySem.Env) (s : Shared) (H : Hp) (E : XK)
    (O : Ok g 0 (cxOf (L2N.CX P w) P w g.K mg base N__law_put "_law_put" sc__law_put f cd A outer s H E)) (tk : L2N.Takes (cxOf (L2N.CX P w) P w g.K mg base N__law_put "_law_put" sc__law_put f cd A outer s H E) (fun cls d _ H => E cls d H)) :
    DSs g (fun cls d _ H => E cls d H) [] (cxOf (L2N.CX P w) P w g.K mg base N__law_put "_law_put" sc__law_put f cd A outer s H E) (defBody (topS 35)) b__law_put :=
  have po : PassesOwn (model P w) ((cxOf (L2N.CX P w) P w g.K mg base N__law_put "_law_put" sc__law_put f cd A outer s H E)).A ((cxOf (L2N.CX P w) P w g.K mg base N__law_put "_law_put" sc__law_put f cd A outer s H E)).env ((cxOf (L2N.CX P w) P w g.K mg base N__law_put "_law_put" sc__law_put f cd A outer s H E)).xe := passes_of rfl
  (dss_cons (ds_set 2 (by decide) (DV.de dv_str) O.nd)
  (dss_cons (ds_for po O (di_any (dv_var 0) O.K) (dg_name 3 O.nd) (dss_one (ds_set 2 (by decide) (DV.de (dv_add (dv_var 2) (dv_dgetx 1 O (dv_var 3) (dv_var 3)) O.K)) O.nd)))
  (dss_one (ds_ret (de_move 2)))))
def m__law_put (ds : List D) : Out := toOut (b__law_put (startE N__law_put ds))
theorem d__law_put {g : DX} {P : Program} {w : World} {mg : Str → Option Value} {base : Heap} (F : Facts g mg) : DefP g P w mg base 1 "_law_put" 2 m__law_put :=
  defP_of F.t__law_put F.nb fs__law_put rfl (fun cd f A outer s H E O tk => de__law_put F cd f A outer s H E O tk) m__law_put (fun ds _ _ => rfl)
abbrev N__law_unknowns : List Str := ["pattern", "found", "letter"]
abbrev sc__law_unknowns : Scope := defScope (topS 36)
theorem fs__law_unknowns : FnScope N__law_unknowns ["pattern"] sc__law_unknowns := ⟨rfl, rfl, rfl, by decide +kernel, rfl, by decide +kernel, by decide +kernel⟩
def l__law_unknowns_1 : SM := (sIf (mAnd (bnd (op2 fNe (op1 fLower (get 2)) (get 2)) asB) (bnd (mInP true 1 (get 2)) asB)) (sbnd (bnd (isL 1) fun _ => mAppend 1 (shar (get 2))) fun _ => .nx) SR.nx)
def s__law_unknowns_0_3 : SM := (sbnd (mMove 1) .rt)
def s__law_unknowns_0_2 : SM := (sq (sbnd (bnd (get 0) fun d => opt (items d)) (forL (bName 2) l__law_unknowns_1))
  s__law_unknowns_0_3)
def b__law_unknowns : SM := (sq (sbnd (ownL (pur [])) (put 1))
  s__law_unknowns_0_2)
theorem de__law_unknowns {g : DX} {P : Program} {w : World} {mg : Str → Option Value} {base : Heap} (F : Facts g mg) (cd : Value) (f : Addr) (A : Around) (outer : List PySem.Env) (s : Shared) (H : Hp) (E : XK)
    (O : Ok g 0 (cxOf (L2N.CX P w) P w g.K mg base N__law_unknowns "_law_unknowns" sc__law_unknowns f cd A outer s H E)) (tk : L2N.Takes (cxOf (L2N.CX P w) P w g.K mg base N__law_unknowns "_law_unknowns" sc__law_unknowns f cd A outer s H E) (fun cls d _ H => E cls d H)) :
    DSs g (fun cls d _ H => E cls d H) [] (cxOf (L2N.CX P w) P w g.K mg base N__law_unknowns "_law_unknowns" sc__law_unknowns f cd A outer s H E) (defBody (topS 36)) b__law_unknowns :=
  have po : PassesOwn (model P w) ((cxOf (L2N.CX P w) P w g.K mg base N__law_unknowns "_law_unknowns" sc__law_unknowns f cd A outer s H E)).A ((cxOf (L2N.CX P w) P w g.K mg base N__law_unknowns "_law_unknowns" sc__law_unknowns f cd A outer s H E)).env ((cxOf (L2N.CX P w) P w g.K mg base N__law_unknowns "_law_unknowns" sc__law_unknowns f cd A outer s H E)).xe := passes_of rfl
  (dss_cons (ds_set 1 (by decide) (de_lst da_nil) O.nd)
  (dss_cons (ds_for po O (di_any (dv_var 0) O.K) (dg_name 2 O.nd) (dss_one (ds_if (DW.dt (dw_and (dt_ne (dv_lower (dv_var 2)) (dv_var 2) O.K O.hu) (dw_and1 (dt_inP true 1 (dv_var 2) O)))) (dss_one (ds_expr (dv_append 1 (DV.de (dv_var 2)) O.K))) dss_nil)))
  (dss_one (ds_ret (de_move 1)))))
def m__law_unknowns (ds : List D) : Out := toOut (b__law_unknowns (startE N__law_unknowns ds))
theorem d__law_unknowns {g : DX} {P : Program} {w : World} {mg : Str → Option Value} {base : Heap} (F : Facts g mg) : DefP g P w mg base 1 "_law_unknowns" 1 m__law_unknowns :=
  defP_of F.t__law_unknowns F.nb fs__law_unknowns rfl (fun cd f A outer s H E O tk => de__law_unknowns F cd f A outer s H E O tk) m__law_unknowns (fun ds _ _ => rfl)
abbrev N__law_matches : List Str := ["pattern", "word", "least", "names", "parts", "many", "rows", "name", "wider", "row", "part", "more", "order", "key", "at"]
abbrev sc__law_matches : Scope := defScope (topS 37)
theorem fs__law_matches : FnScope N__law_matches ["pattern", "word", "least"] sc__law_matches := ⟨rfl, rfl, rfl, by decide +kernel, rfl, by decide +kernel, by decide +kernel⟩
def t__law_matches_1 : M T := (shar (sl3 fSl (get 1) (bnd (get 14) asI) (bnd (op2 fAdd (get 14) (get 5)) asI)))
def l__law_matches_1 : SM := (sbnd (bnd (isL 4) fun _ => mExtend 4 (froz (lcM [14] (bnd (cons1 (op2 fAdd (op2 fSub (mLen 1) (get 5)) (pur (.int 1))) (pur [])) fun ds => opt (rng1 ds)) (bName 14) (pur true) t__law_matches_1))) fun _ => .nx)
def s__law_matches_4_3 : SM := (sbnd (bnd (isL 8) fun _ => mAppend 8 (shar (get 11))) fun _ => .nx)
def s__law_matches_4_2 : SM := (sq (mDput 11 (get 10) (get 7))
  s__law_matches_4_3)
def l__law_matches_2 : SM := (sq (sbnd (mDictc (cons1 (get 9) (pur []))) (put 11))
  s__law_matches_4_2)
def l__law_matches_3 : SM := (sbnd (bnd (op1 fSortSet (get 4)) fun d => opt (items d)) (forL (bName 10) l__law_matches_2))
def s__law_matches_2_3 : SM := (sbnd (shar (get 8)) (put 6))
def s__law_matches_2_2 : SM := (sq (sbnd (bnd (get 6) fun d => opt (items d)) (forL (bName 9) l__law_matches_3))
  s__law_matches_2_3)
def l__law_matches_4 : SM := (sq (sbnd (ownL (pur [])) (put 8))
  s__law_matches_2_2)
def t__law_matches_2 : M T := (shar (opL (on1 fLen) (cons1 (mDget 9 (get 7)) (pur []))))
def l__law_matches_5 : SM := (sIf (bnd (op2 fEq (froz (callP m__law_put (cons1 (get 0) (cons1 (get 9) (pur []))))) (get 1)) asB) (mDput 12 (get 9) (opL (on1 fTup) (cons1 (froz (lcM [7] (bnd (get 3) fun d => opt (items d)) (bName 7) (pur true) t__law_matches_2)) (pur [])))) SR.nx)
def t__law_matches_3 : M T := (shar (opL (fun ds => if big ds.length then some (.tup ds) else none) (cons1 (get 7) (cons1 (op2 fDget (mDget 12 (get 13)) (get 7)) (pur [])))))
def t__law_matches_4 : M T := (shar (opL (on1 fTup) (cons1 (froz (lcM [7] (bnd (opL (on1 fSorted) (cons1 (mDget 12 (get 13)) (pur []))) fun d => opt (items d)) (bName 7) (pur true) t__law_matches_3)) (pur []))))
def s__law_matches_0_8 : SM := (sbnd (lcM [13] (bnd (opL (on1 fSorted) (cons1 (get 12) (pur []))) fun d => opt (items d)) (bName 13) (pur true) t__law_matches_4) .rt)
def s__law_matches_0_7 : SM := (sq (sbnd (bnd (get 6) fun d => opt (items d)) (forL (bName 9) l__law_matches_5))
  s__law_matches_0_8)
def s__law_matches_0_6 : SM := (sq (sbnd (pur (.dct true [])) (put 12))
  s__law_matches_0_7)
def s__law_matches_0_5 : SM := (sq (sbnd (bnd (get 3) fun d => opt (items d)) (forL (bName 7) l__law_matches_4))
  s__law_matches_0_6)
def s__law_matches_0_4 : SM := (sq (sbnd (ownL (cons1 (froz (pur (.dct false []))) (pur []))) (put 6))
  s__law_matches_0_5)
def s__law_matches_0_3 : SM := (sq (sbnd (bnd (cons1 (get 2) (cons1 (op2 fAdd (mLen 1) (pur (.int 1))) (pur []))) fun ds => opt (rng2 ds)) (forL (bName 5) l__law_matches_1))
  s__law_matches_0_4)
def s__law_matches_0_2 : SM := (sq (sbnd (ownL (pur [])) (put 4))
  s__law_matches_0_3)
def b__law_matches : SM := (sq (sbnd (callP m__law_unknowns (cons1 (get 0) (pur []))) (put 3))
  s__law_matches_0_2)
theorem de__law_matches {g : DX} {P : Program} {w : World} {mg : Str → Option Value} {base : Heap} (F : Facts g mg) (d__law_put : DefP g P w mg base 1 "_law_put" 2 m__law_put) (d__law_unknowns : DefP g P w mg base 1 "_law_unknowns" 1 m__law_unknowns) (cd : Value) (f : Addr) (A : Around) (outer : List PySem.Env) (s : Shared) (H : Hp) (E : XK)
    (O : Ok g 1 (cxOf (L2N.CX P w) P w g.K mg base N__law_matches "_law_matches" sc__law_matches f cd A outer s H E)) (tk : L2N.Takes (cxOf (L2N.CX P w) P w g.K mg base N__law_matches "_law_matches" sc__law_matches f cd A outer s H E) (fun cls d _ H => E cls d H)) :
    DSs g (fun cls d _ H => E cls d H) [] (cxOf (L2N.CX P w) P w g.K mg base N__law_matches "_law_matches" sc__law_matches f cd A outer s H E) (defBody (topS 37)) b__law_matches :=
  have po : PassesOwn (model P w) ((cxOf (L2N.CX P w) P w g.K mg base N__law_matches "_law_matches" sc__law_matches f cd A outer s H E)).A ((cxOf (L2N.CX P w) P w g.K mg base N__law_matches "_law_matches" sc__law_matches f cd A outer s H E)).env ((cxOf (L2N.CX P w) P w g.K mg base N__law_matches "_law_matches" sc__law_matches f cd A outer s H E)).xe := passes_of rfl
  (dss_cons (ds_set 3 (by decide) (de_call d__law_unknowns O.K (O.roomG.mono (by decide)) tk (da_cons (dv_var 0) da_nil) (hml := (len_cons len_nil))) O.nd)
  (dss_cons (ds_set 4 (by decide) (de_lst da_nil) O.nd)
  (dss_cons (ds_for po O (di_range2 O (da_cons (dv_var 2) (da_cons (dv_add (dv_lenP 1 O) dv_int O.K) da_nil))) (dg_name 5 O.nd) (dss_one (ds_expr (dv_extend 4 (DE.dv (de_lc (own := [("at", 14)]) O (di_range1 O (da_cons (dv_add (dv_sub (dv_lenP 1 O) (dv_var 5)) dv_int O.K) da_nil)) (blkOk_by (N := N__law_matches) (sc := sc__law_matches) (by decide +kernel)) (by decide) (fun _ _ _ _ _ => (dg_name 14 O.blk.nd)) (fun _ _ _ _ _ => dts_nil) (fun _ _ _ _ _ => (DV.de (dv_slice (dv_var 1) (do_some (dv_var 14)) (do_some (dv_add (dv_var 14) (dv_var 5) O.blk.K)) O.blk.K))))) O.K))))
  (dss_cons (ds_set 6 (by decide) (de_lst (da_cons (DE.dv de_dnewK) da_nil)) O.nd)
  (dss_cons (ds_for po O (di_any (dv_var 3) O.K) (dg_name 7 O.nd) (dss_cons (ds_set 8 (by decide) (de_lst da_nil) O.nd)
  (dss_cons (ds_for po O (di_any (dv_var 6) O.K) (dg_name 9 O.nd) (dss_one (ds_for po O (di_any (dv_sortedSet O (dv_var 4)) O.K) (dg_name 10 O.nd) (dss_cons (ds_set 11 (by decide) (de_dictc O (da_cons (dv_var 9) da_nil)) O.nd)
  (dss_cons (ds_dput 11 (dv_var 10) (dv_var 7) O (by decide))
  (dss_one (ds_expr (dv_append 8 (DV.de (dv_var 11)) O.K))))))))
  (dss_one (ds_set 6 (by decide) (DV.de (dv_var 8)) O.nd)))))
  (dss_cons (ds_set 12 (by decide) de_dnewT O.nd)
  (dss_cons (ds_for po O (di_any (dv_var 6) O.K) (dg_name 9 O.nd) (dss_one (ds_if (dt_eq (DE.dv (de_call d__law_put O.K (O.roomG.mono (by decide)) tk (da_cons (dv_var 0) (da_cons (dv_var 9) da_nil)) (hml := (len_cons (len_cons len_nil))))) (dv_var 1) O.K O.hu) (dss_one (ds_dput 12 (dv_var 9) (dv_tuplec O (da_cons (DE.dv (de_lc (own := [("name", 7)]) O (di_any (dv_var 3) O.K) (blkOk_by (N := N__law_matches) (sc := sc__law_matches) (by decide +kernel)) (by decide) (fun _ _ _ _ _ => (dg_name 7 O.blk.nd)) (fun _ _ _ _ _ => dts_nil) (fun _ _ _ _ _ => (DV.de (dv_len O.blk (da_cons (dv_dgetP 9 (dv_var 7) O.blk) da_nil)))))) da_nil)) O (by decide))) dss_nil)))
  (dss_one (ds_ret (de_lc (own := [("key", 13)]) O (di_any (dv_sorted O (da_cons (dv_var 12) da_nil)) O.K) (blkOk_by (N := N__law_matches) (sc := sc__law_matches) (by decide +kernel)) (by decide) (fun _ _ _ _ _ => (dg_name 13 O.blk.nd)) (fun _ _ _ _ _ => dts_nil) (fun _ _ _ _ _ => (DV.de (dv_tuplec O.blk (da_cons (DE.dv (de_lc (own := [("name", 7)]) O.blk (di_any (dv_sorted O.blk (da_cons (dv_dgetP 12 (dv_var 13) O.blk) da_nil)) O.blk.K) (blkOk_rel (N := N__law_matches) (sc := ({ kind := PySem.ScopeKind.function, names := [ (PySem.Str.ofString ".0", PySem.NameKind.local), (PySem.Str.ofString "key", PySem.NameKind.cell), (PySem.Str.ofString "tuple", PySem.NameKind.globalImplicit), (PySem.Str.ofString "sorted", PySem.NameKind.globalImplicit), (PySem.Str.ofString "order", PySem.NameKind.free)], isGenerator := false, isCoroutine := false, more := [] : PySem.Scope })) (by decide +kernel)) (by decide) (fun _ _ _ _ _ => (dg_name 7 O.blk.blk.nd)) (fun _ _ _ _ _ => dts_nil) (fun _ _ _ _ _ => (DV.de (dv_tup (da_cons (dv_var 7) (da_cons (dv_dget O.blk.blk (dv_dgetP 12 (dv_var 13) O.blk.blk) (dv_var 7)) da_nil))))))) da_nil))))))))))))))
def m__law_matches (ds : List D) : Out := toOut (b__law_matches (startE N__law_matches ds))
theorem d__law_matches {g : DX} {P : Program} {w : World} {mg : Str → Option Value} {base : Heap} (F : Facts g mg) : DefP g P w mg base 2 "_law_matches" 3 m__law_matches :=
  defP_of F.t__law_matches F.nb fs__law_matches rfl (fun cd f A outer s H E O tk => de__law_matches F (d__law_put F) (d__law_unknowns F) cd f A outer s H E O tk) m__law_matches (fun ds _ _ => rfl)
abbrev N__law_fits : List Str := ["pattern", "word", "names", "first", "last"]
abbrev sc__law_fits : Scope := defScope (topS 39)
theorem fs__law_fits : FnScope N__law_fits ["pattern", "word"] sc__law_fits := ⟨rfl, rfl, rfl, by decide +kernel, rfl, by decide +kernel, by decide +kernel⟩
def s__law_fits_0_5 : SM := (sbnd (shar (vAnd (op2 (fCmp fun i j => decide (j ≤ i)) (mLen 1) (op2 fAdd (get 3) (get 4))) (vAnd (op2 fEq (sl3 fSl (get 1) (pur none) (bnd (get 3) asI)) (sl3 fSl (get 0) (pur none) (bnd (get 3) asI))) (op2 fEq (sl3 fSl (get 1) (bnd (op2 fSub (mLen 1) (get 4)) asI) (pur none)) (sl3 fSl (get 0) (bnd (op2 fSub (mLen 0) (get 4)) asI) (pur none)))))) .rt)
def s__law_fits_0_4 : SM := (sq (sbnd (shar (op2 fSub (op2 fSub (mLen 0) (pur (.int 1))) (mth1 fIndex (get 0) (bnd (isU 2) fun _ => mIx 2 (op1 fNeg (pur (.int 1))))))) (put 4))
  s__law_fits_0_5)
def s__law_fits_0_3 : SM := (sq (sbnd (shar (mth1 fIndex (get 0) (bnd (isU 2) fun _ => mIx 2 (pur (.int 0))))) (put 3))
  s__law_fits_0_4)
def s__law_fits_0_2 : SM := (sq (sIf (bnd (op2 fEq (mLen 2) (pur (.int 0))) asB) (sbnd (shar (op2 fEq (get 0) (get 1))) .rt) SR.nx)
  s__law_fits_0_3)
def b__law_fits : SM := (sq (sbnd (callP m__law_unknowns (cons1 (get 0) (pur []))) (put 2))
  s__law_fits_0_2)
theorem de__law_fits {g : DX} {P : Program} {w : World} {mg : Str → Option Value} {base : Heap} (F : Facts g mg) (d__law_unknowns : DefP g P w mg base 1 "_law_unknowns" 1 m__law_unknowns) (cd : Value) (f : Addr) (A : Around) (outer : List PySem.Env) (s : Shared) (H : Hp) (E : XK)
    (O : Ok g 1 (cxOf (L2N.CX P w) P w g.K mg base N__law_fits "_law_fits" sc__law_fits f cd A outer s H E)) (tk : L2N.Takes (cxOf (L2N.CX P w) P w g.K mg base N__law_fits "_law_fits" sc__law_fits f cd A outer s H E) (fun cls d _ H => E cls d H)) :
    DSs g (fun cls d _ H => E cls d H) [] (cxOf (L2N.CX P w) P w g.K mg base N__law_fits "_law_fits" sc__law_fits f cd A outer s H E) (defBody (topS 39)) b__law_fits :=
  have po : PassesOwn (model P w) ((cxOf (L2N.CX P w) P w g.K mg base N__law_fits "_law_fits" sc__law_fits f cd A outer s H E)).A ((cxOf (L2N.CX P w) P w g.K mg base N__law_fits "_law_fits" sc__law_fits f cd A outer s H E)).env ((cxOf (L2N.CX P w) P w g.K mg base N__law_fits "_law_fits" sc__law_fits f cd A outer s H E)).xe := passes_of rfl
  (dss_cons (ds_set 2 (by decide) (de_call d__law_unknowns O.K (O.roomG.mono (by decide)) tk (da_cons (dv_var 0) da_nil) (hml := (len_cons len_nil))) O.nd)
  (dss_cons (ds_if (dt_eq (dv_lenP 2 O) dv_int O.K O.hu) (dss_one (ds_ret (DV.de (dv_eq (dv_var 0) (dv_var 1) O.K O.hu)))) dss_nil)
  (dss_cons (ds_set 3 (by decide) (DV.de (dv_index (dv_var 0) (dv_ixP 2 dv_int O.K))) O.nd)
  (dss_cons (ds_set 4 (by decide) (DV.de (dv_sub (dv_sub (dv_lenP 0 O) dv_int) (dv_index (dv_var 0) (dv_ixP 2 (dv_neg dv_int) O.K)))) O.nd)
  (dss_one (ds_ret (DV.de (dv_and (dv_ge (dv_lenP 1 O) (dv_add (dv_var 3) (dv_var 4) O.K)) (dv_and (dv_eq (dv_slice (dv_var 1) do_none (do_some (dv_var 3)) O.K) (dv_slice (dv_var 0) do_none (do_some (dv_var 3)) O.K) O.K O.hu) (dv_and1 (dv_eq (dv_slice (dv_var 1) (do_some (dv_sub (dv_lenP 1 O) (dv_var 4))) do_none O.K) (dv_slice (dv_var 0) (do_some (dv_sub (dv_lenP 0 O) (dv_var 4))) do_none O.K) O.K O.hu)))))))))))
def m__law_fits (ds : List D) : Out := toOut (b__law_fits (startE N__law_fits ds))
theorem d__law_fits {g : DX} {P : Program} {w : World} {mg : Str → Option Value} {base : Heap} (F : Facts g mg) : DefP g P w mg base 2 "_law_fits" 2 m__law_fits :=
  defP_of F.t__law_fits F.nb fs__law_fits rfl (fun cd f A outer s H E O tk => de__law_fits F (d__law_unknowns F) cd f A outer s H E O tk) m__law_fits (fun ds _ _ => rfl)
end K36

end
section
set_option Elab.async false
set_option autoImplicit false
set_option linter.all false
set_option maxRecDepth 100000
set_option maxHeartbeats 1000000
namespace K36
open PySem L2 Mi
abbrev sc__law_told : Scope := defScope (topS 33)
def suiteS : List Stmt := match defBody (topS 33) with | [.Try _ [.ExceptHandler _ _ ss _] _ _ _] => ss | _ => []
def m2 : M T := lcM [4] (bnd (cons1 (pur (.int 5)) (pur [])) fun ds => opt (rng1 ds)) (bName 4) (bnd (bnd (isU 2) fun _ => mIx 2 (get 4)) asB)
  (shar (op2 fIx (froz (ownL (cons1 (pur (.str [114, 101, 102, 117, 115, 101, 100])) (cons1 (pur (.str [108, 97, 114, 103, 101])) (cons1 (pur (.str [109, 105, 115, 115, 105, 110, 103])) (cons1 (pur (.str [102, 111, 114, 109])) (cons1 (pur (.str [98, 114, 111, 107, 101, 110])) (pur [])))))))) (get 4)))
def m3 : M T := shar (opL (fun ds => if big ds.length then some (.tup ds) else none) (cons1 (op2 fIx (froz (ownL (cons1 (pur (.str [111, 100, 100])) (cons1 (op2 fIx (op2 fAdd (get 3) (froz (ownL (cons1 (pur (.str [])) (pur []))))) (pur (.int 0))) (pur []))))) (opL (on1 fInt) (cons1 (op2 fEq (mLen 3) (pur (.int 1))) (pur [])))) (pur [])))
def m23 : SM := sq (sbnd m2 (put 3)) (sbnd m3 .rt)
theorem told_m (c : Exc) : ∃ ρ', m23 [.un, .un, boolsT (flags c), .un, .un] = .rt (.sh (.tup [.str (kindS c)])) ρ' := by
  cases c <;> exact ⟨_, rfl⟩
theorem suite36 {g : DX} {mg : Str → Option Value} (F : Facts g mg) {P : Program} {w : World} {base : Heap} {gd : Addr} {cdg : Value} {A' : Around} {st : List PySem.Env} {s : Shared} {H : Hp} {a : Addr} {oe : Obj} {pn : List (Addr × Obj)} {c : Exc} {D : Addr}
    (hu : ((cxOf C8.CX0 P w g.K mg base NTold "_law_told" sc__law_told gd cdg A' st s H C8.E0).nox).A.units + 65 < cLine) (hl : c.load = none) (hD : g.cl c = .ref D) (ec : ExcC g.K D) (hz : L2N.Zn (.ref D) none oe) (hf : ∃ vs, oe.data = .fields vs) :
    SuiteOk g (Cx.suite (cxOf C8.CX0 P w g.K mg base NTold "_law_told" sc__law_told gd cdg A' st s H C8.E0).nox a ((a, oe) :: pn)) suiteS a c := by
  obtain ⟨b0, b1, b2, b3, b4, hfl⟩ : ∃ b0 b1 b2 b3 b4, flags c = [b0, b1, b2, b3, b4] := by cases c <;> exact ⟨_, _, _, _, _, rfl⟩
  obtain ⟨C0, g0, i0⟩ := F.kd.is c D hl hD 0 "NotAllowed" b0 rfl (by rw [hfl]; rfl)
  obtain ⟨C1, g1, i1⟩ := F.kd.is c D hl hD 1 "TooLarge" b1 rfl (by rw [hfl]; rfl)
  obtain ⟨C2, g2, i2⟩ := F.kd.is c D hl hD 2 "Missing" b2 rfl (by rw [hfl]; rfl)
  obtain ⟨C3, g3, i3⟩ := F.kd.is c D hl hD 3 "BadForm" b3 rfl (by rw [hfl]; rfl)
  obtain ⟨C4, g4, i4⟩ := F.kd.is c D hl hD 4 "Broken" b4 rfl (by rw [hfl]; rfl)
  have nb := F.nb "isinstance" (by decide)
  have hn : NTold.Nodup := by decide
  have hcn : ∃ vs : Array Value, oe.data = .fields vs ∧ vs[2]? = some .none := by
    obtain ⟨vs, e⟩ := hf
    exact ⟨vs, e, hz.2.2 vs e⟩
  refine suite_ok (m := m23) ?_ ?_ (told_m c)
  · refine ps_kinds (W := W0) (fx := []) (i := 2) (pa_cons (pe_isE (i := 1) rfl ec hz.zc hf g0 i0 nb) (pa_cons (pe_isE (i := 1) rfl ec hz.zc hf g1 i1 nb) (pa_cons (pe_isE (i := 1) rfl ec hz.zc hf g2 i2 nb) (pa_cons (pe_isE (i := 1) rfl ec hz.zc hf g3 i3 nb) (pa_cons (pe_isE (i := 1) rfl ec hz.zc hf g4 i4 nb) pa_nil))))) (fun σ H Q h1 q => ?_) ?_ (by decide) hn
    · rw [hfl] at q
      exact ⟨h1, h1, h1, h1, h1, q⟩
    · rw [hfl, sizeLine_eq]; show 5 ≤ _; decide
  · refine dss_cons (ds_setLcK (own := [("k", 4)]) 3 (by decide) rfl hcn (List.mem_cons_self ..) hn (di_range1K (F.nb "range" (by decide)) (da_cons dv_int da_nil)) (blkOk_by (N := NTold) (sc := sc__law_told) (by decide +kernel)) (by decide) (fun _ _ _ _ _ => dg_name 4 hn) (fun _ _ _ _ _ => dts_one (dt_val (dv_ixP 2 (dv_var 4) rfl)))
      (fun _ _ _ _ _ => DV.de (dv_ix (DE.dv (de_lst (da_cons dv_str (da_cons dv_str (da_cons dv_str (da_cons dv_str (da_cons dv_str da_nil)))))) ) (dv_var 4) rfl))) (dss_one (ds_ret (DV.de (dv_tup (da_cons (dv_ix ?_ ?_ rfl) da_nil)))))
    · exact DE.dv (de_lst (da_cons dv_str (da_cons (dv_ix (dv_add (dv_var 3) (DE.dv (de_lst (da_cons dv_str da_nil))) rfl) dv_int rfl) da_nil)))
    · exact dv_intc' (F.nb "int" (by decide)) (da_cons (dv_eq (dv_lenP' 3 rfl (F.nb "len" (by decide))) dv_int rfl (by exact hu)) da_nil)
end K36

end
section
set_option Elab.async false
set_option autoImplicit false
set_option linter.all false
set_option maxRecDepth 100000
set_option maxHeartbeats 1000000
namespace K36
open PySem L2 Mi LamX
theorem fs__law_told : FnScope NTold ["call"] sc__law_told := ⟨rfl, rfl, rfl, by decide +kernel, rfl, by decide +kernel, by decide +kernel⟩
theorem told_here {g : DX} {W : WX} {X : Cx} {k : Nat} {nm : Option (Str × Int)} {params : Arguments} {body : Expr} {scope : Scope} {m : M T} {sl : List Nat} {p lpos pos : Pos} (F : Facts g X.mg) (O : Ok g (k + 2) X) (TM : Makes g X) (L : LamD X.env.scope scope X.N sl) (hnl : ∀ p, nm = some p → scope.names.lookup p.1 = some .local) (hp : ParOk nm params)
    (hbody : ∀ (A : Around) (outer : List PySem.Env) (s : Shared) (H : Hp) (E : XK) (f c' : Addr), RoomG k (A.deeper (lamEnv X scope s.heap.objs.size f c')) → DE g (fun cls d _ H => E cls d H) (lamCxN X A outer s H E scope f c') body m) (hg : Gl X "_law_told" := by rfl) :
    DV g W X (.Call (.Name "_law_told" p) [.Lambda params body scope lpos] [] pos) (mTold (inLam sl m)) := by
  obtain ⟨gd, fd, Fn, hm, hb⟩ := F.t__law_told.ex
  have kp := Fn.kp
  obtain ⟨oc, od, kV, doc, pm, an, cdv, ct, osl, rfl, lk, hcd⟩ := Fn.ex
  obtain ⟨c, Pt, TB, hc, hmem, hu⟩ := TM.ex
  have eK := O.K
  refine dv_told eK hg hm (by rw [eK]; exact kp) (by rw [eK]; exact lk) (by rw [eK]; exact hcd) (by rw [eK]; exact hb) fs__law_told ?_ TB hc hmem hu O.roomG L hnl hp hbody
  refine told_gives eK F.kd rfl rfl fun f s H a oe pn c D hl hD ec hz hf => ?_
  rw [eK]
  exact suite36 F (by have := (O.room.deeper (PyProof.Rows.envOfC "_law_told" sc__law_told s.heap.objs.size gd cdv)).un; show (X.A.deeper _).units + 65 < _; omega) hl hD ec hz hf
end K36

end
section
set_option Elab.async false
set_option autoImplicit false
set_option linter.all false
set_option maxRecDepth 100000
set_option maxHeartbeats 1000000
namespace K36
open PySem L2 Mi LamX
abbrev N__law_turns : List Str := ["state", "due", "k", "told", "root", "words", "many", "cut", "first", "most", "second", "word"]
abbrev sc__law_turns : Scope := defScope (topS 40)
theorem fs__law_turns : FnScope N__law_turns ["state"] sc__law_turns := ⟨rfl, rfl, rfl, by decide +kernel, rfl, by decide +kernel, by decide +kernel⟩
def l__law_turns_1 : SM := (sIf (mAnd (bnd (op2 fEq (get 1) (opL (fun ds => if big ds.length then some (.tup ds) else none) (cons1 (pur (.str [109, 105, 115, 115, 105, 110, 103])) (pur [])))) asB) (bnd (op2 fEq (op2 fAdd (sl3 fSl (get 8) (bnd (get 2) asI) (pur none)) (sl3 fSl (get 8) (pur none) (bnd (get 2) asI))) (get 10)) asB)) (sbnd (shar (opL (fun ds => if big ds.length then some (.tup ds) else none) (cons1 (pur (.str [116, 111, 108, 100])) (cons1 (opL (fun ds => if big ds.length then some (.tup ds) else none) (cons1 (sl3 fSl (get 8) (pur none) (bnd (get 2) asI)) (cons1 (sl3 fSl (get 8) (bnd (get 2) asI) (pur none)) (pur [])))) (pur []))))) (put 1)) SR.nx)
def c__law_turns_1 : M Bool := (bnd (op2 fEq (op2 fMul (sl3 fSl (get 8) (pur none) (bnd (get 2) asI)) (mLen 8)) (op2 fMul (get 8) (get 2))) asB)
def t__law_turns_1 : M T := (shar (get 2))
def c__law_turns_2 : M Bool := (bnd (op2 fEq (op2 fAdd (get 8) (get 11)) (op2 fAdd (get 11) (get 10))) asB)
def t__law_turns_2 : M T := (shar (get 11))
def l__law_turns_2 : SM := (sbnd (bnd (isL 5) fun _ => mExtend 5 (froz (lcM [11] (bnd (froz (callP m__law_all_words (cons1 (get 6) (cons1 (pur (.str [97, 98])) (pur []))))) fun d => opt (items d)) (bName 11) c__law_turns_2 t__law_turns_2))) fun _ => .nx)
def s__law_turns_0_15 : SM := (sbnd (callP m__law_same (cons1 (get 3) (cons1 (froz (ownL (cons1 (opL (fun ds => if big ds.length then some (.tup ds) else none) (cons1 (pur (.str [116, 111, 108, 100])) (cons1 (opL (fun ds => if big ds.length then some (.tup ds) else none) (cons1 (sl3 fSl (get 8) (pur none) (bnd (get 4) asI)) (cons1 (op2 fDiv (mLen 8) (get 4)) (pur [])))) (pur [])))) (cons1 (opL (fun ds => if big ds.length then some (.tup ds) else none) (cons1 (pur (.str [116, 111, 108, 100])) (cons1 (get 5) (pur [])))) (cons1 (opL (fun ds => if big ds.length then some (.tup ds) else none) (cons1 (pur (.str [116, 111, 108, 100])) (cons1 (op2 fEq (op2 fAdd (get 8) (sl3 fSl (get 8) (pur none) (bnd (get 7) asI))) (op2 fAdd (sl3 fSl (get 8) (pur none) (bnd (get 7) asI)) (get 10))) (pur [])))) (pur [])))))) (pur [])))) .rt)
def s__law_turns_0_14 : SM := (sq (sbnd (ownL (cons1 (mTold (inLam [] (callP m_root_of (cons1 (get 8) (pur []))))) (cons1 (mTold (inLam [] (callP m_between (cons1 (get 8) (cons1 (get 10) (cons1 (get 9) (pur []))))))) (cons1 (mTold (inLam [] (callP m_is_between (cons1 (get 8) (cons1 (get 10) (cons1 (sl3 fSl (get 8) (pur none) (bnd (get 7) asI)) (pur []))))))) (pur []))))) (put 3))
  s__law_turns_0_15)
def s__law_turns_0_13 : SM := (sq (sbnd (bnd (cons1 (op2 fAdd (get 9) (pur (.int 1))) (pur [])) fun ds => opt (rng1 ds)) (forL (bName 6) l__law_turns_2))
  s__law_turns_0_14)
def s__law_turns_0_12 : SM := (sq (sbnd (ownL (pur [])) (put 5))
  s__law_turns_0_13)
def s__law_turns_0_11 : SM := (sq (sbnd (callS 0 m__law_next (cons1 (pur (.int 9)) (pur []))) (put 9))
  s__law_turns_0_12)
def s__law_turns_0_10 : SM := (sq (sbnd (shar (op2 fIx (froz (lcM [2] (bnd (cons1 (pur (.int 1)) (cons1 (op2 fAdd (mLen 8) (pur (.int 1))) (pur []))) fun ds => opt (rng2 ds)) (bName 2) c__law_turns_1 t__law_turns_1)) (pur (.int 0)))) (put 4))
  s__law_turns_0_11)
def s__law_turns_0_9 : SM := (sq (sIf (bnd (op2 fEq (get 8) (pur (.str []))) asB) (sbnd (shar (vAnd (op2 fEq (mTold (inLam [] (callP m_root_of (cons1 (get 8) (pur []))))) (opL (fun ds => if big ds.length then some (.tup ds) else none) (cons1 (pur (.str [114, 101, 102, 117, 115, 101, 100])) (pur [])))) (op2 fEq (mTold (inLam [] (callP m_between (cons1 (get 8) (cons1 (get 10) (cons1 (pur (.int 3)) (pur []))))))) (opL (fun ds => if big ds.length then some (.tup ds) else none) (cons1 (pur (.str [114, 101, 102, 117, 115, 101, 100])) (pur [])))))) .rt) SR.nx)
  s__law_turns_0_10)
def s__law_turns_0_8 : SM := (sq (sIf (mNot (bnd (froz (callP m__law_same (cons1 (get 3) (cons1 (froz (ownL (cons1 (get 1) (cons1 (opL (fun ds => if big ds.length then some (.tup ds) else none) (cons1 (pur (.str [116, 111, 108, 100])) (cons1 (op2 fEq (op2 fAdd (get 8) (get 10)) (op2 fAdd (get 10) (get 8))) (pur [])))) (pur []))))) (pur []))))) asB)) (sbnd (shar (pur (.bl false))) .rt) SR.nx)
  s__law_turns_0_9)
def s__law_turns_0_7 : SM := (sq (sbnd (ownL (cons1 (mTold (inLam [] (callP m_turned (cons1 (get 8) (cons1 (get 10) (pur [])))))) (cons1 (mTold (inLam [] (callP m_commute (cons1 (get 8) (cons1 (get 10) (pur [])))))) (pur [])))) (put 3))
  s__law_turns_0_8)
def s__law_turns_0_6 : SM := (sq (sbnd (bnd (cons1 (op2 fAdd (mLen 8) (pur (.int 1))) (pur [])) fun ds => opt (rng1 ds)) (forL (bName 2) l__law_turns_1))
  s__law_turns_0_7)
def s__law_turns_0_5 : SM := (sq (sbnd (shar (opL (fun ds => if big ds.length then some (.tup ds) else none) (cons1 (pur (.str [109, 105, 115, 115, 105, 110, 103])) (pur [])))) (put 1))
  s__law_turns_0_6)
def s__law_turns_0_4 : SM := (sq (sIf (bnd (op2 (fCmp fun i j => decide (j < i)) (froz (callS 0 m__law_next (cons1 (pur (.int 3)) (pur [])))) (pur (.int 0))) asB) (sbnd (shar (op2 fAdd (sl3 fSl (get 8) (bnd (get 7) asI) (pur none)) (sl3 fSl (get 8) (pur none) (bnd (get 7) asI)))) (put 10)) SR.nx)
  s__law_turns_0_5)
def s__law_turns_0_3 : SM := (sq (sbnd (callS 0 m__law_next (cons1 (op2 fAdd (mLen 8) (pur (.int 1))) (pur []))) (put 7))
  s__law_turns_0_4)
def s__law_turns_0_2 : SM := (sq (sbnd (callS 0 m__law_word (cons1 (pur (.int 8)) (pur []))) (put 10))
  s__law_turns_0_3)
def b__law_turns : SM := (sq (sbnd (callS 0 m__law_word (cons1 (pur (.int 8)) (pur []))) (put 8))
  s__law_turns_0_2)
theorem de__law_turns {g : DX} {P : Program} {w : World} {mg : Str → Option Value} {base : Heap} (F : Facts g mg) (d__law_all_words : DefP g P w mg base 1 "_law_all_words" 2 m__law_all_words) (d__law_next : DefS g P w mg base 1 "_law_next" 1 m__law_next) (d__law_same : DefP g P w mg base 1 "_law_same" 2 m__law_same) (d__law_word : DefS g P w mg base 2 "_law_word" 1 m__law_word) (d_between : DefP g P w mg base 3 "between" 3 m_between) (d_commute : DefP g P w mg base 2 "commute" 2 m_commute) (d_is_between : DefP g P w mg base 2 "is_between" 3 m_is_between) (d_root_of : DefP g P w mg base 2 "root_of" 1 m_root_of) (d_turned : DefP g P w mg base 2 "turned" 2 m_turned) (cd : Value) (f : Addr) (A : Around) (outer : List PySem.Env) (s : Shared) (H : Hp) (E : XK)
    (O : Ok g 5 (cxOf (L2N.CX P w) P w g.K mg base N__law_turns "_law_turns" sc__law_turns f cd A outer s H E)) (tk : L2N.Takes (cxOf (L2N.CX P w) P w g.K mg base N__law_turns "_law_turns" sc__law_turns f cd A outer s H E) (fun cls d _ H => E cls d H))
    (TM : Makes g (cxOf (L2N.CX P w) P w g.K mg base N__law_turns "_law_turns" sc__law_turns f cd A outer s H E)) :
    DSs g (fun cls d _ H => E cls d H) [0] (cxOf (L2N.CX P w) P w g.K mg base N__law_turns "_law_turns" sc__law_turns f cd A outer s H E) (defBody (topS 40)) b__law_turns :=
  have po : PassesOwn (model P w) ((cxOf (L2N.CX P w) P w g.K mg base N__law_turns "_law_turns" sc__law_turns f cd A outer s H E)).A ((cxOf (L2N.CX P w) P w g.K mg base N__law_turns "_law_turns" sc__law_turns f cd A outer s H E)).env ((cxOf (L2N.CX P w) P w g.K mg base N__law_turns "_law_turns" sc__law_turns f cd A outer s H E)).xe := passes_of rfl
  (dss_cons (ds_set 8 (by decide) (de_callS (i := 0) d__law_word O.K (O.roomG.mono (by decide)) tk (da_cons dv_int da_nil) (hml := (len_cons len_nil))) O.nd)
  (dss_cons (ds_set 10 (by decide) (de_callS (i := 0) d__law_word O.K (O.roomG.mono (by decide)) tk (da_cons dv_int da_nil) (hml := (len_cons len_nil))) O.nd)
  (dss_cons (ds_set 7 (by decide) (de_callS (i := 0) d__law_next O.K (O.roomG.mono (by decide)) tk (da_cons (dv_add (dv_lenP 8 O) dv_int O.K) da_nil) (hml := (len_cons len_nil))) O.nd)
  (dss_cons (ds_if (dt_gt (DE.dv (de_callS (i := 0) d__law_next O.K (O.roomG.mono (by decide)) tk (da_cons dv_int da_nil) (hml := (len_cons len_nil)))) dv_int) (dss_one (ds_set 10 (by decide) (DV.de (dv_add (dv_slice (dv_var 8) (do_some (dv_var 7)) do_none O.K) (dv_slice (dv_var 8) do_none (do_some (dv_var 7)) O.K) O.K)) O.nd)) dss_nil)
  (dss_cons (ds_set 1 (by decide) (DV.de (dv_tup (da_cons dv_str da_nil))) O.nd)
  (dss_cons (ds_for po O (di_range1 O (da_cons (dv_add (dv_lenP 8 O) dv_int O.K) da_nil)) (dg_name 2 O.nd) (dss_one (ds_if (DW.dt (dw_and (dt_eq (dv_var 1) (dv_tup (da_cons dv_str da_nil)) O.K O.hu) (dw_and1 (dt_eq (dv_add (dv_slice (dv_var 8) (do_some (dv_var 2)) do_none O.K) (dv_slice (dv_var 8) do_none (do_some (dv_var 2)) O.K) O.K) (dv_var 10) O.K O.hu)))) (dss_one (ds_set 1 (by decide) (DV.de (dv_tup (da_cons dv_str (da_cons (dv_tup (da_cons (dv_slice (dv_var 8) do_none (do_some (dv_var 2)) O.K) (da_cons (dv_slice (dv_var 8) (do_some (dv_var 2)) do_none O.K) da_nil))) da_nil)))) O.nd)) dss_nil)))
  (dss_cons (ds_set 3 (by decide) (de_lst (da_cons (told_here F O TM (nm := none) (lamD_by (sc := sc__law_turns) (N := N__law_turns) (sl := []) (by decide +kernel)) (fun p h => by cases h) rfl (fun A outer s H E f c hr => ((de_call d_turned (OL O hr).K ((OL O hr).roomG.mono (by decide)) takesL (da_cons (dv_var 8) (da_cons (dv_var 10) da_nil)) (hml := (len_cons (len_cons len_nil))))))) (da_cons (told_here F O TM (nm := (some ("one", 1))) (lamD_by (sc := sc__law_turns) (N := N__law_turns) (sl := []) (by decide +kernel)) (fun p h => by cases h; rfl) ⟨_, _, _, _, rfl⟩ (fun A outer s H E f c hr => ((de_call d_commute (OL O hr).K ((OL O hr).roomG.mono (by decide)) takesL (da_cons (dv_var 8) (da_cons (dv_var 10) da_nil)) (hml := (len_cons (len_cons len_nil))))))) da_nil))) O.nd)
  (dss_cons (ds_if (dt_not (dt_val (DE.dv (de_call d__law_same O.K (O.roomG.mono (by decide)) tk (da_cons (dv_var 3) (da_cons (DE.dv (de_lst (da_cons (dv_var 1) (da_cons (dv_tup (da_cons dv_str (da_cons (dv_eq (dv_add (dv_var 8) (dv_var 10) O.K) (dv_add (dv_var 10) (dv_var 8) O.K) O.K O.hu) da_nil))) da_nil)))) da_nil)) (hml := (len_cons (len_cons len_nil))))))) (dss_one (ds_ret (DV.de dv_bl))) dss_nil)
  (dss_cons (ds_if (dt_eq (dv_var 8) dv_str O.K O.hu) (dss_one (ds_ret (DV.de (dv_and (dv_eq (told_here F O TM (nm := none) (lamD_by (sc := sc__law_turns) (N := N__law_turns) (sl := []) (by decide +kernel)) (fun p h => by cases h) rfl (fun A outer s H E f c hr => ((de_call d_root_of (OL O hr).K ((OL O hr).roomG.mono (by decide)) takesL (da_cons (dv_var 8) da_nil) (hml := (len_cons len_nil)))))) (dv_tup (da_cons dv_str da_nil)) O.K O.hu) (dv_and1 (dv_eq (told_here F O TM (nm := (some ("one", 1))) (lamD_by (sc := sc__law_turns) (N := N__law_turns) (sl := []) (by decide +kernel)) (fun p h => by cases h; rfl) ⟨_, _, _, _, rfl⟩ (fun A outer s H E f c hr => ((de_call d_between (OL O hr).K ((OL O hr).roomG.mono (by decide)) takesL (da_cons (dv_var 8) (da_cons (dv_var 10) (da_cons dv_int da_nil))) (hml := (len_cons (len_cons (len_cons len_nil)))))))) (dv_tup (da_cons dv_str da_nil)) O.K O.hu)))))) dss_nil)
  (dss_cons (ds_set 4 (by decide) (DV.de (dv_ix (DE.dv (de_lc (own := [("k", 2)]) O (di_range2 O (da_cons dv_int (da_cons (dv_add (dv_lenP 8 O) dv_int O.K) da_nil))) (blkOk_by (N := N__law_turns) (sc := sc__law_turns) (by decide +kernel)) (by decide) (fun _ _ _ _ _ => (dg_name 2 O.blk.nd)) (fun _ _ _ _ _ => (dts_one (dt_eq (dv_mul (dv_slice (dv_var 8) do_none (do_some (dv_var 2)) O.blk.K) (dv_lenP 8 O.blk)) (dv_mul (dv_var 8) (dv_var 2)) O.blk.K O.blk.hu))) (fun _ _ _ _ _ => (DV.de (dv_var 2))))) dv_int O.K)) O.nd)
  (dss_cons (ds_set 9 (by decide) (de_callS (i := 0) d__law_next O.K (O.roomG.mono (by decide)) tk (da_cons dv_int da_nil) (hml := (len_cons len_nil))) O.nd)
  (dss_cons (ds_set 5 (by decide) (de_lst da_nil) O.nd)
  (dss_cons (ds_for po O (di_range1 O (da_cons (dv_add (dv_var 9) dv_int O.K) da_nil)) (dg_name 6 O.nd) (dss_one (ds_expr (dv_extend 5 (DE.dv (de_lc (own := [("word", 11)]) O (di_any (DE.dv (de_call d__law_all_words O.K (O.roomG.mono (by decide)) tk (da_cons (dv_var 6) (da_cons dv_str da_nil)) (hml := (len_cons (len_cons len_nil))))) O.K) (blkOk_by (N := N__law_turns) (sc := sc__law_turns) (by decide +kernel)) (by decide) (fun _ _ _ _ _ => (dg_name 11 O.blk.nd)) (fun _ _ _ _ _ => (dts_one (dt_eq (dv_add (dv_var 8) (dv_var 11) O.blk.K) (dv_add (dv_var 11) (dv_var 10) O.blk.K) O.blk.K O.blk.hu))) (fun _ _ _ _ _ => (DV.de (dv_var 11))))) O.K))))
  (dss_cons (ds_set 3 (by decide) (de_lst (da_cons (told_here F O TM (nm := none) (lamD_by (sc := sc__law_turns) (N := N__law_turns) (sl := []) (by decide +kernel)) (fun p h => by cases h) rfl (fun A outer s H E f c hr => ((de_call d_root_of (OL O hr).K ((OL O hr).roomG.mono (by decide)) takesL (da_cons (dv_var 8) da_nil) (hml := (len_cons len_nil)))))) (da_cons (told_here F O TM (nm := (some ("one", 1))) (lamD_by (sc := sc__law_turns) (N := N__law_turns) (sl := []) (by decide +kernel)) (fun p h => by cases h; rfl) ⟨_, _, _, _, rfl⟩ (fun A outer s H E f c hr => ((de_call d_between (OL O hr).K ((OL O hr).roomG.mono (by decide)) takesL (da_cons (dv_var 8) (da_cons (dv_var 10) (da_cons (dv_var 9) da_nil))) (hml := (len_cons (len_cons (len_cons len_nil)))))))) (da_cons (told_here F O TM (nm := (some ("two", 1))) (lamD_by (sc := sc__law_turns) (N := N__law_turns) (sl := []) (by decide +kernel)) (fun p h => by cases h; rfl) ⟨_, _, _, _, rfl⟩ (fun A outer s H E f c hr => ((de_call d_is_between (OL O hr).K ((OL O hr).roomG.mono (by decide)) takesL (da_cons (dv_var 8) (da_cons (dv_var 10) (da_cons (dv_slice (dv_var 8) do_none (do_some (dv_var 7)) (OL O hr).K) da_nil))) (hml := (len_cons (len_cons (len_cons len_nil)))))))) da_nil)))) O.nd)
  (dss_one (ds_ret (de_call d__law_same O.K (O.roomG.mono (by decide)) tk (da_cons (dv_var 3) (da_cons (DE.dv (de_lst (da_cons (dv_tup (da_cons dv_str (da_cons (dv_tup (da_cons (dv_slice (dv_var 8) do_none (do_some (dv_var 4)) O.K) (da_cons (dv_div (dv_lenP 8 O) (dv_var 4)) da_nil))) da_nil))) (da_cons (dv_tup (da_cons dv_str (da_cons (dv_var 5) da_nil))) (da_cons (dv_tup (da_cons dv_str (da_cons (dv_eq (dv_add (dv_var 8) (dv_slice (dv_var 8) do_none (do_some (dv_var 7)) O.K) O.K) (dv_add (dv_slice (dv_var 8) do_none (do_some (dv_var 7)) O.K) (dv_var 10) O.K) O.K O.hu) da_nil))) da_nil))))) da_nil)) (hml := (len_cons (len_cons len_nil))))))))))))))))))))
def m__law_turns (t : T) (ds : List D) : OutS := toOutS (b__law_turns (startS N__law_turns t ds))
theorem d__law_turns {g : DX} {P : Program} {w : World} {mg : Str → Option Value} {base : Heap} (F : Facts g mg) (KM__law_turns : Made g mg base "_law_turns" (topS 40) ["state"]) : DefS g P w mg base 6 "_law_turns" 0 m__law_turns :=
  defS_ofR KM__law_turns.ex F.nb fs__law_turns rfl (fun cd hpc f A outer s H E O tk => by obtain ⟨c, Pq, TB, rfl, h1, h2⟩ := hpc; exact de__law_turns F (d__law_all_words F) (d__law_next F) (d__law_same F) (d__law_word F) (d_between F) (d_commute F) (d_is_between F) (d_root_of F) (d_turned F) (.ref c) f A outer s H E O tk ⟨c, Pq, TB, rfl, h1, h2⟩) m__law_turns (fun t ds _ _ => rfl) 0 rfl
end K36

end
section
set_option Elab.async false
set_option autoImplicit false
set_option linter.all false
set_option maxRecDepth 100000
set_option maxHeartbeats 1000000
namespace K36
open PySem L2 Mi LamX
abbrev N_law : List Str := ["script", "state", "turn", "k", "due", "told", "total", "wrong", "far", "least", "linear", "many", "pattern", "word", "one"]
abbrev sc_law : Scope := defScope (topS 41)
theorem fs_law : FnScope N_law ["script"] sc_law := ⟨rfl, rfl, rfl, by decide +kernel, rfl, by decide +kernel, by decide +kernel⟩
def l_law_1 : SM := (sbnd (shar (op2 fAdd (get 12) (op2 fIx (pur (.str [88, 89, 97, 98, 88, 89])) (froz (callS 1 m__law_next (cons1 (pur (.int 6)) (pur []))))))) (put 12))
def c_law_1 : M Bool := (bnd (froz (callP m__law_fits (cons1 (get 10) (cons1 (get 14) (pur []))))) asB)
def t_law_1 : M T := (shar (get 14))
def l_law_2 : SM := (sbnd (shar (op2 fMul (get 6) (pur (.int 3)))) (put 6))
def s_law_2_16 : SM := (sIf (mOr (mNot (bnd (froz (callP m__law_same (cons1 (get 5) (cons1 (froz (ownL (cons1 (opL (fun ds => if big ds.length then some (.tup ds) else none) (cons1 (pur (.str [116, 111, 108, 100])) (cons1 (get 4) (pur [])))) (cons1 (opL (fun ds => if big ds.length then some (.tup ds) else none) (cons1 (pur (.str [116, 111, 108, 100])) (cons1 (get 6) (pur [])))) (pur []))))) (pur []))))) asB)) (mNot (bnd (froz (callS 1 m__law_turns (pur []))) asB))) (sbnd (shar (pur (.bl false))) .rt) SR.nx)
def s_law_2_15 : SM := (sq (sbnd (ownL (cons1 (mTold (inLam [] (callP m_count_linear (cons1 (get 10) (cons1 (get 11) (cons1 (pur (.int 2)) (pur []))))))) (cons1 (mTold (inLam [14] (callP m_count_linear (cons1 (pur (.str [97, 88, 98])) (cons1 (get 8) (cons1 (pur (.int 3)) (pur []))))))) (pur [])))) (put 5))
  s_law_2_16)
def s_law_2_14 : SM := (sq (sbnd (bnd (cons1 (op2 fSub (get 8) (pur (.int 2))) (pur [])) fun ds => opt (rng1 ds)) (forL (bName 3) l_law_2))
  s_law_2_15)
def s_law_2_13 : SM := (sq (sbnd (shar (pur (.int 1))) (put 6))
  s_law_2_14)
def s_law_2_12 : SM := (sq (sbnd (shar (op2 fAdd (pur (.int 50)) (froz (callS 1 m__law_next (cons1 (pur (.int 900)) (pur [])))))) (put 8))
  s_law_2_13)
def s_law_2_11 : SM := (sq (sbnd (shar (opL (on1 fLen) (cons1 (froz (lcM [14] (bnd (froz (callP m__law_all_words (cons1 (get 11) (cons1 (pur (.str [97, 98])) (pur []))))) fun d => opt (items d)) (bName 14) c_law_1 t_law_1)) (pur [])))) (put 4))
  s_law_2_12)
def s_law_2_10 : SM := (sq (sbnd (callS 1 m__law_next (cons1 (pur (.int 7)) (pur []))) (put 11))
  s_law_2_11)
def s_law_2_9 : SM := (sq (sbnd (shar (op2 fIx (froz (ownL (cons1 (pur (.str [97, 98, 88])) (cons1 (pur (.str [88, 98])) (cons1 (pur (.str [97, 88, 89, 98])) (cons1 (pur (.str [88, 89])) (cons1 (pur (.str [97, 98])) (cons1 (pur (.str [])) (cons1 (pur (.str [98, 88, 89, 90, 97])) (cons1 (pur (.str [88])) (pur []))))))))))) (froz (callS 1 m__law_next (cons1 (pur (.int 8)) (pur [])))))) (put 10))
  s_law_2_10)
def s_law_2_8 : SM := (sq (sIf (mNot (bnd (froz (callP m__law_same (cons1 (get 5) (cons1 (froz (ownL (cons1 (opL (fun ds => if big ds.length then some (.tup ds) else none) (cons1 (pur (.str [116, 111, 108, 100])) (cons1 (get 4) (pur [])))) (cons1 (opL (fun ds => if big ds.length then some (.tup ds) else none) (cons1 (pur (.str [116, 111, 108, 100])) (cons1 (op2 (fCmp fun i j => decide (j < i)) (mLen 4) (pur (.int 0))) (pur [])))) (pur []))))) (pur []))))) asB)) (sbnd (shar (pur (.bl false))) .rt) SR.nx)
  s_law_2_9)
def s_law_2_7 : SM := (sq (sbnd (ownL (cons1 (mTold (inLam [] (callP m_matches (cons1 (get 12) (cons1 (get 13) (cons1 (get 9) (pur []))))))) (cons1 (mTold (inLam [14] (callP m_is_matched (cons1 (get 12) (cons1 (get 13) (cons1 (get 9) (pur []))))))) (pur [])))) (put 5))
  s_law_2_8)
def s_law_2_6 : SM := (sq (sbnd (callP m__law_matches (cons1 (get 12) (cons1 (get 13) (cons1 (get 9) (pur []))))) (put 4))
  s_law_2_7)
def s_law_2_5 : SM := (sq (sIf (bnd (op2 (fCmp fun i j => decide (j < i)) (froz (callS 1 m__law_next (cons1 (pur (.int 3)) (pur [])))) (pur (.int 0))) asB) (sbnd (shar (sl3 fSl (froz (callP m__law_put (cons1 (get 12) (cons1 (froz (dispD (consP (pur (.str [88])) (froz (callS 1 m__law_word (cons1 (pur (.int 2)) (pur [])))) (consP (pur (.str [89])) (froz (callS 1 m__law_word (cons1 (pur (.int 3)) (pur [])))) (pur []))))) (pur []))))) (pur none) (bnd (pur (.int 9)) asI))) (put 13)) SR.nx)
  s_law_2_6)
def s_law_2_4 : SM := (sq (sbnd (callS 1 m__law_word (cons1 (pur (.int 7)) (pur []))) (put 13))
  s_law_2_5)
def s_law_2_3 : SM := (sq (sbnd (callS 1 m__law_next (cons1 (pur (.int 2)) (pur []))) (put 9))
  s_law_2_4)
def s_law_2_2 : SM := (sq (sbnd (bnd (cons1 (op2 fAdd (pur (.int 1)) (froz (callS 1 m__law_next (cons1 (pur (.int 5)) (pur []))))) (pur [])) fun ds => opt (rng1 ds)) (forL (bName 3) l_law_1))
  s_law_2_3)
def l_law_3 : SM := (sq (sbnd (shar (pur (.str []))) (put 12))
  s_law_2_2)
def s_law_0_6 : SM := (sbnd (shar (vAnd (op2 fEq (get 7) (op2 fMul (froz (ownL (cons1 (opL (fun ds => if big ds.length then some (.tup ds) else none) (cons1 (pur (.str [114, 101, 102, 117, 115, 101, 100])) (pur []))) (pur [])))) (pur (.int 10)))) (op2 fEq (mTold (inLam [] (callP m_matches (cons1 (pur (.str [87, 88, 89, 90])) (cons1 (op2 fMul (pur (.str [97])) (pur (.int 30))) (cons1 (pur (.int 0)) (pur []))))))) (opL (fun ds => if big ds.length then some (.tup ds) else none) (cons1 (pur (.str [108, 97, 114, 103, 101])) (pur [])))))) .rt)
def s_law_0_5 : SM := (sq (sbnd (shar (op2 fAdd (get 7) (froz (ownL (cons1 (mTold (inLam [] (callP m_count_linear (cons1 (pur (.str [88, 97, 89])) (cons1 (pur (.int 3)) (cons1 (pur (.int 2)) (pur []))))))) (cons1 (mTold (inLam [14] (callP m_count_linear (cons1 (pur (.str [88])) (cons1 (pur (.int 1001)) (cons1 (pur (.int 2)) (pur []))))))) (cons1 (mTold (inLam [] (callP m_count_linear (cons1 (pur (.str [88])) (cons1 (pur (.int 3)) (cons1 (pur (.int 0)) (pur []))))))) (cons1 (mTold (inLam [8] (callP m_between (cons1 (pur (.str [97])) (cons1 (pur (.str [97])) (cons1 (pur (.int 61)) (pur []))))))) (cons1 (mTold (inLam [] (callP m_commute (cons1 (op2 fMul (pur (.str [97])) (pur (.int 61))) (cons1 (pur (.str [])) (pur [])))))) (pur [])))))))))) (put 7))
  s_law_0_6)
def s_law_0_4 : SM := (sq (sbnd (ownL (cons1 (mTold (inLam [] (callP m_matches (cons1 (pur (.str [88, 49])) (cons1 (pur (.str [97])) (cons1 (pur (.int 0)) (pur []))))))) (cons1 (mTold (inLam [14] (callP m_matches (cons1 (pur (.str [88])) (cons1 (pur (.str [65])) (cons1 (pur (.int 0)) (pur []))))))) (cons1 (mTold (inLam [] (callP m_matches (cons1 (pur (.str [88])) (cons1 (pur (.str [97])) (cons1 (pur (.int 2)) (pur []))))))) (cons1 (mTold (inLam [8] (callP m_is_matched (cons1 (op2 fMul (pur (.str [88])) (pur (.int 13))) (cons1 (pur (.str [97])) (cons1 (pur (.int 0)) (pur []))))))) (cons1 (mTold (inLam [] (callP m_count_linear (cons1 (pur (.str [88, 88])) (cons1 (pur (.int 3)) (cons1 (pur (.int 2)) (pur []))))))) (pur []))))))) (put 7))
  s_law_0_5)
def s_law_0_3 : SM := (sq (sbnd (bnd (cons1 (pur (.int 7)) (pur [])) fun ds => opt (rng1 ds)) (forL (bName 2) l_law_3))
  s_law_0_4)
def s_law_0_2 : SM := (sq (sIf (bnd (op2 fNe (opL (fun ds => if big ds.length then some (.tup ds) else none) (cons1 (pur (.int 500)) (cons1 (pur (.int 12)) (cons1 (pur (.int 1000)) (cons1 (pur (.int 60)) (pur [])))))) (opL (fun ds => if big ds.length then some (.tup ds) else none) (cons1 (pur (.int 500)) (cons1 (pur (.int 12)) (cons1 (pur (.int 1000)) (cons1 (pur (.int 60)) (pur []))))))) asB) (sbnd (shar (pur (.bl false))) .rt) SR.nx)
  s_law_0_3)
def b_law : SM := (sq (sbnd (ownL (cons1 (froz (callP m__law_stream (cons1 (get 0) (pur [])))) (cons1 (pur (.int 0)) (pur [])))) (put 1))
  s_law_0_2)
theorem de_law {g : DX} {P : Program} {w : World} {mg : Str → Option Value} {base : Heap} (F : Facts g mg) (d__law_all_words : DefP g P w mg base 1 "_law_all_words" 2 m__law_all_words) (d__law_fits : DefP g P w mg base 2 "_law_fits" 2 m__law_fits) (d__law_matches : DefP g P w mg base 2 "_law_matches" 3 m__law_matches) (d__law_next : DefS g P w mg base 1 "_law_next" 1 m__law_next) (d__law_put : DefP g P w mg base 1 "_law_put" 2 m__law_put) (d__law_same : DefP g P w mg base 1 "_law_same" 2 m__law_same) (d__law_stream : DefP g P w mg base 1 "_law_stream" 1 m__law_stream) (d__law_turns : DefS g P w mg base 6 "_law_turns" 0 m__law_turns) (d__law_word : DefS g P w mg base 2 "_law_word" 1 m__law_word) (d_between : DefP g P w mg base 3 "between" 3 m_between) (d_commute : DefP g P w mg base 2 "commute" 2 m_commute) (d_count_linear : DefP g P w mg base 2 "count_linear" 3 m_count_linear) (d_is_matched : DefP g P w mg base 3 "is_matched" 3 m_is_matched) (d_matches : DefP g P w mg base 3 "matches" 3 m_matches) (cd : Value) (f : Addr) (A : Around) (outer : List PySem.Env) (s : Shared) (H : Hp) (E : XK)
    (O : Ok g 6 (cxOf (L2N.CX P w) P w g.K mg base N_law "law" sc_law f cd A outer s H E)) (tk : L2N.Takes (cxOf (L2N.CX P w) P w g.K mg base N_law "law" sc_law f cd A outer s H E) (fun cls d _ H => E cls d H))
    (TM : Makes g (cxOf (L2N.CX P w) P w g.K mg base N_law "law" sc_law f cd A outer s H E)) :
    DSs g (fun cls d _ H => E cls d H) [] (cxOf (L2N.CX P w) P w g.K mg base N_law "law" sc_law f cd A outer s H E) (defBody (topS 41)) b_law :=
  have po : PassesOwn (model P w) ((cxOf (L2N.CX P w) P w g.K mg base N_law "law" sc_law f cd A outer s H E)).A ((cxOf (L2N.CX P w) P w g.K mg base N_law "law" sc_law f cd A outer s H E)).env ((cxOf (L2N.CX P w) P w g.K mg base N_law "law" sc_law f cd A outer s H E)).xe := passes_of rfl
  (dss_cons (ds_set 1 (by decide) (de_lst (da_cons (DE.dv (de_call d__law_stream O.K (O.roomG.mono (by decide)) tk (da_cons (dv_var 0) da_nil) (hml := (len_cons len_nil)))) (da_cons dv_int da_nil))) O.nd)
  (dss_cons (ds_if (dt_ne (dv_tup (da_cons (dv_gint F.c_MAX_MATCHES) (da_cons (dv_gint F.c_MAX_PATTERN) (da_cons (dv_gint F.c_MAX_TIMES) (da_cons (dv_gint F.c_MAX_WORD) da_nil))))) (dv_tup (da_cons dv_int (da_cons dv_int (da_cons dv_int (da_cons dv_int da_nil))))) O.K O.hu) (dss_one (ds_ret (DV.de dv_bl))) dss_nil)
  (dss_cons (ds_for po O (di_range1 O (da_cons dv_int da_nil)) (dg_name 2 O.nd) (dss_cons (ds_set 12 (by decide) (DV.de dv_str) O.nd)
  (dss_cons (ds_for po O (di_range1 O (da_cons (dv_add dv_int (DE.dv (de_callS (i := 1) d__law_next O.K (O.roomG.mono (by decide)) tk (da_cons dv_int da_nil) (hml := (len_cons len_nil)))) O.K) da_nil)) (dg_name 3 O.nd) (dss_one (ds_set 12 (by decide) (DV.de (dv_add (dv_var 12) (dv_ix dv_str (DE.dv (de_callS (i := 1) d__law_next O.K (O.roomG.mono (by decide)) tk (da_cons dv_int da_nil) (hml := (len_cons len_nil)))) O.K) O.K)) O.nd)))
  (dss_cons (ds_set 9 (by decide) (de_callS (i := 1) d__law_next O.K (O.roomG.mono (by decide)) tk (da_cons dv_int da_nil) (hml := (len_cons len_nil))) O.nd)
  (dss_cons (ds_set 13 (by decide) (de_callS (i := 1) d__law_word O.K (O.roomG.mono (by decide)) tk (da_cons dv_int da_nil) (hml := (len_cons len_nil))) O.nd)
  (dss_cons (ds_if (dt_gt (DE.dv (de_callS (i := 1) d__law_next O.K (O.roomG.mono (by decide)) tk (da_cons dv_int da_nil) (hml := (len_cons len_nil)))) dv_int) (dss_one (ds_set 13 (by decide) (DV.de (dv_slice (DE.dv (de_call d__law_put O.K (O.roomG.mono (by decide)) tk (da_cons (dv_var 12) (da_cons (DE.dv (de_disp (dp_cons dv_str (DE.dv (de_callS (i := 1) d__law_word O.K (O.roomG.mono (by decide)) tk (da_cons dv_int da_nil) (hml := (len_cons len_nil)))) (dp_cons dv_str (DE.dv (de_callS (i := 1) d__law_word O.K (O.roomG.mono (by decide)) tk (da_cons dv_int da_nil) (hml := (len_cons len_nil)))) dp_nil)) rfl rfl (by simp) (by decide))) da_nil)) (hml := (len_cons (len_cons len_nil))))) do_none (do_some dv_int) O.K)) O.nd)) dss_nil)
  (dss_cons (ds_set 4 (by decide) (de_call d__law_matches O.K (O.roomG.mono (by decide)) tk (da_cons (dv_var 12) (da_cons (dv_var 13) (da_cons (dv_var 9) da_nil))) (hml := (len_cons (len_cons (len_cons len_nil))))) O.nd)
  (dss_cons (ds_set 5 (by decide) (de_lst (da_cons (told_here F O TM (nm := none) (lamD_by (sc := sc_law) (N := N_law) (sl := []) (by decide +kernel)) (fun p h => by cases h) rfl (fun A outer s H E f c hr => ((de_call d_matches (OL O hr).K ((OL O hr).roomG.mono (by decide)) takesL (da_cons (dv_var 12) (da_cons (dv_var 13) (da_cons (dv_var 9) da_nil))) (hml := (len_cons (len_cons (len_cons len_nil)))))))) (da_cons (told_here F O TM (nm := (some ("one", 1))) (lamD_by (sc := sc_law) (N := N_law) (sl := [14]) (by decide +kernel)) (fun p h => by cases h; rfl) ⟨_, _, _, _, rfl⟩ (fun A outer s H E f c hr => ((de_call d_is_matched (OL O hr).K ((OL O hr).roomG.mono (by decide)) takesL (da_cons (dv_var 12) (da_cons (dv_var 13) (da_cons (dv_var 9) da_nil))) (hml := (len_cons (len_cons (len_cons len_nil)))))))) da_nil))) O.nd)
  (dss_cons (ds_if (dt_not (dt_val (DE.dv (de_call d__law_same O.K (O.roomG.mono (by decide)) tk (da_cons (dv_var 5) (da_cons (DE.dv (de_lst (da_cons (dv_tup (da_cons dv_str (da_cons (dv_var 4) da_nil))) (da_cons (dv_tup (da_cons dv_str (da_cons (dv_gt (dv_lenP 4 O) dv_int) da_nil))) da_nil)))) da_nil)) (hml := (len_cons (len_cons len_nil))))))) (dss_one (ds_ret (DV.de dv_bl))) dss_nil)
  (dss_cons (ds_set 10 (by decide) (DV.de (dv_ix (DE.dv (de_lst (da_cons dv_str (da_cons dv_str (da_cons dv_str (da_cons dv_str (da_cons dv_str (da_cons dv_str (da_cons dv_str (da_cons dv_str da_nil)))))))))) (DE.dv (de_callS (i := 1) d__law_next O.K (O.roomG.mono (by decide)) tk (da_cons dv_int da_nil) (hml := (len_cons len_nil)))) O.K)) O.nd)
  (dss_cons (ds_set 11 (by decide) (de_callS (i := 1) d__law_next O.K (O.roomG.mono (by decide)) tk (da_cons dv_int da_nil) (hml := (len_cons len_nil))) O.nd)
  (dss_cons (ds_set 4 (by decide) (DV.de (dv_len O (da_cons (DE.dv (de_lc (own := [("one", 14)]) O (di_any (DE.dv (de_call d__law_all_words O.K (O.roomG.mono (by decide)) tk (da_cons (dv_var 11) (da_cons dv_str da_nil)) (hml := (len_cons (len_cons len_nil))))) O.K) (blkOk_by (N := N_law) (sc := sc_law) (by decide +kernel)) (by decide) (fun _ _ _ _ _ => (dg_name 14 O.blk.nd)) (fun _ _ _ _ _ => (dts_one (dt_val (DE.dv (de_call d__law_fits O.blk.K (O.blk.roomG.mono (by decide)) takesN0 (da_cons (dv_var 10) (da_cons (dv_var 14) da_nil)) (hml := (len_cons (len_cons len_nil)))))))) (fun _ _ _ _ _ => (DV.de (dv_var 14))))) da_nil))) O.nd)
  (dss_cons (ds_set 8 (by decide) (DV.de (dv_add dv_int (DE.dv (de_callS (i := 1) d__law_next O.K (O.roomG.mono (by decide)) tk (da_cons dv_int da_nil) (hml := (len_cons len_nil)))) O.K)) O.nd)
  (dss_cons (ds_set 6 (by decide) (DV.de dv_int) O.nd)
  (dss_cons (ds_for po O (di_range1 O (da_cons (dv_sub (dv_var 8) dv_int) da_nil)) (dg_name 3 O.nd) (dss_one (ds_set 6 (by decide) (DV.de (dv_mul (dv_var 6) dv_int)) O.nd)))
  (dss_cons (ds_set 5 (by decide) (de_lst (da_cons (told_here F O TM (nm := none) (lamD_by (sc := sc_law) (N := N_law) (sl := []) (by decide +kernel)) (fun p h => by cases h) rfl (fun A outer s H E f c hr => ((de_call d_count_linear (OL O hr).K ((OL O hr).roomG.mono (by decide)) takesL (da_cons (dv_var 10) (da_cons (dv_var 11) (da_cons dv_int da_nil))) (hml := (len_cons (len_cons (len_cons len_nil)))))))) (da_cons (told_here F O TM (nm := (some ("one", 1))) (lamD_by (sc := sc_law) (N := N_law) (sl := [14]) (by decide +kernel)) (fun p h => by cases h; rfl) ⟨_, _, _, _, rfl⟩ (fun A outer s H E f c hr => ((de_call d_count_linear (OL O hr).K ((OL O hr).roomG.mono (by decide)) takesL (da_cons dv_str (da_cons (dv_var 8) (da_cons dv_int da_nil))) (hml := (len_cons (len_cons (len_cons len_nil)))))))) da_nil))) O.nd)
  (dss_one (ds_if (DW.dt (dw_or (dt_not (dt_val (DE.dv (de_call d__law_same O.K (O.roomG.mono (by decide)) tk (da_cons (dv_var 5) (da_cons (DE.dv (de_lst (da_cons (dv_tup (da_cons dv_str (da_cons (dv_var 4) da_nil))) (da_cons (dv_tup (da_cons dv_str (da_cons (dv_var 6) da_nil))) da_nil)))) da_nil)) (hml := (len_cons (len_cons len_nil))))))) (dw_or1 (dt_not (dt_val (DE.dv (de_callS (i := 1) d__law_turns O.K (O.roomG.mono (by decide)) tk da_nil (hml := len_nil)))))))) (dss_one (ds_ret (DV.de dv_bl))) dss_nil))))))))))))))))))
  (dss_cons (ds_set 7 (by decide) (de_lst (da_cons (told_here F O TM (nm := none) (lamD_by (sc := sc_law) (N := N_law) (sl := []) (by decide +kernel)) (fun p h => by cases h) rfl (fun A outer s H E f c hr => ((de_call d_matches (OL O hr).K ((OL O hr).roomG.mono (by decide)) takesL (da_cons dv_str (da_cons dv_str (da_cons dv_int da_nil))) (hml := (len_cons (len_cons (len_cons len_nil)))))))) (da_cons (told_here F O TM (nm := (some ("one", 1))) (lamD_by (sc := sc_law) (N := N_law) (sl := [14]) (by decide +kernel)) (fun p h => by cases h; rfl) ⟨_, _, _, _, rfl⟩ (fun A outer s H E f c hr => ((de_call d_matches (OL O hr).K ((OL O hr).roomG.mono (by decide)) takesL (da_cons dv_str (da_cons dv_str (da_cons dv_int da_nil))) (hml := (len_cons (len_cons (len_cons len_nil)))))))) (da_cons (told_here F O TM (nm := (some ("two", 1))) (lamD_by (sc := sc_law) (N := N_law) (sl := []) (by decide +kernel)) (fun p h => by cases h; rfl) ⟨_, _, _, _, rfl⟩ (fun A outer s H E f c hr => ((de_call d_matches (OL O hr).K ((OL O hr).roomG.mono (by decide)) takesL (da_cons dv_str (da_cons dv_str (da_cons dv_int da_nil))) (hml := (len_cons (len_cons (len_cons len_nil)))))))) (da_cons (told_here F O TM (nm := (some ("far", 1))) (lamD_by (sc := sc_law) (N := N_law) (sl := [8]) (by decide +kernel)) (fun p h => by cases h; rfl) ⟨_, _, _, _, rfl⟩ (fun A outer s H E f c hr => ((de_call d_is_matched (OL O hr).K ((OL O hr).roomG.mono (by decide)) takesL (da_cons (dv_mul dv_str dv_int) (da_cons dv_str (da_cons dv_int da_nil))) (hml := (len_cons (len_cons (len_cons len_nil)))))))) (da_cons (told_here F O TM (nm := (some ("way", 1))) (lamD_by (sc := sc_law) (N := N_law) (sl := []) (by decide +kernel)) (fun p h => by cases h; rfl) ⟨_, _, _, _, rfl⟩ (fun A outer s H E f c hr => ((de_call d_count_linear (OL O hr).K ((OL O hr).roomG.mono (by decide)) takesL (da_cons dv_str (da_cons dv_int (da_cons dv_int da_nil))) (hml := (len_cons (len_cons (len_cons len_nil)))))))) da_nil)))))) O.nd)
  (dss_cons (ds_set 7 (by decide) (DV.de (dv_add (dv_var 7) (DE.dv (de_lst (da_cons (told_here F O TM (nm := none) (lamD_by (sc := sc_law) (N := N_law) (sl := []) (by decide +kernel)) (fun p h => by cases h) rfl (fun A outer s H E f c hr => ((de_call d_count_linear (OL O hr).K ((OL O hr).roomG.mono (by decide)) takesL (da_cons dv_str (da_cons dv_int (da_cons dv_int da_nil))) (hml := (len_cons (len_cons (len_cons len_nil)))))))) (da_cons (told_here F O TM (nm := (some ("one", 1))) (lamD_by (sc := sc_law) (N := N_law) (sl := [14]) (by decide +kernel)) (fun p h => by cases h; rfl) ⟨_, _, _, _, rfl⟩ (fun A outer s H E f c hr => ((de_call d_count_linear (OL O hr).K ((OL O hr).roomG.mono (by decide)) takesL (da_cons dv_str (da_cons dv_int (da_cons dv_int da_nil))) (hml := (len_cons (len_cons (len_cons len_nil)))))))) (da_cons (told_here F O TM (nm := (some ("two", 1))) (lamD_by (sc := sc_law) (N := N_law) (sl := []) (by decide +kernel)) (fun p h => by cases h; rfl) ⟨_, _, _, _, rfl⟩ (fun A outer s H E f c hr => ((de_call d_count_linear (OL O hr).K ((OL O hr).roomG.mono (by decide)) takesL (da_cons dv_str (da_cons dv_int (da_cons dv_int da_nil))) (hml := (len_cons (len_cons (len_cons len_nil)))))))) (da_cons (told_here F O TM (nm := (some ("far", 1))) (lamD_by (sc := sc_law) (N := N_law) (sl := [8]) (by decide +kernel)) (fun p h => by cases h; rfl) ⟨_, _, _, _, rfl⟩ (fun A outer s H E f c hr => ((de_call d_between (OL O hr).K ((OL O hr).roomG.mono (by decide)) takesL (da_cons dv_str (da_cons dv_str (da_cons dv_int da_nil))) (hml := (len_cons (len_cons (len_cons len_nil)))))))) (da_cons (told_here F O TM (nm := (some ("way", 1))) (lamD_by (sc := sc_law) (N := N_law) (sl := []) (by decide +kernel)) (fun p h => by cases h; rfl) ⟨_, _, _, _, rfl⟩ (fun A outer s H E f c hr => ((de_call d_commute (OL O hr).K ((OL O hr).roomG.mono (by decide)) takesL (da_cons (dv_mul dv_str dv_int) (da_cons dv_str da_nil)) (hml := (len_cons (len_cons len_nil))))))) da_nil))))))) O.K)) O.nd)
  (dss_one (ds_ret (DV.de (dv_and (dv_eq (dv_var 7) (dv_mul (DE.dv (de_lst (da_cons (dv_tup (da_cons dv_str da_nil)) da_nil))) dv_int) O.K O.hu) (dv_and1 (dv_eq (told_here F O TM (nm := none) (lamD_by (sc := sc_law) (N := N_law) (sl := []) (by decide +kernel)) (fun p h => by cases h) rfl (fun A outer s H E f c hr => ((de_call d_matches (OL O hr).K ((OL O hr).roomG.mono (by decide)) takesL (da_cons dv_str (da_cons (dv_mul dv_str dv_int) (da_cons dv_int da_nil))) (hml := (len_cons (len_cons (len_cons len_nil)))))))) (dv_tup (da_cons dv_str da_nil)) O.K O.hu)))))))))))
def m_law (ds : List D) : Out := toOut (b_law (startE N_law ds))
theorem d_law {g : DX} {P : Program} {w : World} {mg : Str → Option Value} {base : Heap} (F : Facts g mg) (KM__law_turns : Made g mg base "_law_turns" (topS 40) ["state"]) (KM_law : Made g mg base "law" (topS 41) ["script"]) : DefP g P w mg base 7 "law" 1 m_law :=
  defP_ofR KM_law.ex F.nb fs_law rfl (fun cd hpc f A outer s H E O tk => by obtain ⟨c, Pq, TB, rfl, h1, h2⟩ := hpc; exact de_law F (d__law_all_words F) (d__law_fits F) (d__law_matches F) (d__law_next F) (d__law_put F) (d__law_same F) (d__law_stream F) (d__law_turns F KM__law_turns) (d__law_word F) (d_between F) (d_commute F) (d_count_linear F) (d_is_matched F) (d_matches F) (.ref c) f A outer s H E O tk ⟨c, Pq, TB, rfl, h1, h2⟩) m_law (fun ds _ _ => rfl)
end K36

end
section
set_option Elab.async false
set_option autoImplicit false
set_option linter.all false
set_option maxRecDepth 100000
set_option maxHeartbeats 1000000
namespace K36
open PySem L2 Mi
/-- a word: small letters, not too long -/
def Wd (n : Nat) (w : List Nat) : Prop := w.length ≤ n ∧ ∀ c ∈ w, c = 97 ∨ c = 98
theorem Wd.mono {n m : Nat} {w : List Nat} (h : Wd n w) (l : n ≤ m) : Wd m w := ⟨Nat.le_trans h.1 l, h.2⟩
theorem Wd.nil (n : Nat) : Wd n [] := ⟨Nat.zero_le _, fun c h => by simp at h⟩
theorem power_loop (a m : Int) (ha : 0 ≤ a ∧ a < 100) : ∀ (ds : List D) (c : Int) (x : T), ∃ x', forL (bName 3) l_power_1 ds [.sh (.int a), .sh (.int m), .sh (.int c), x] = .nx [.sh (.int a), .sh (.int m), .sh (.int (c * a ^ ds.length)), x']
  | [], c, x => ⟨x, by simp⟩
  | d :: ds, c, x => by
    obtain ⟨x', h⟩ := power_loop a m ha ds (c * a) (.sh d)
    refine ⟨x', ?_⟩
    rw [forL_cons (ρ1 := [.sh (.int a), .sh (.int m), .sh (.int c), .sh d]) (by simp)]
    have e : l_power_1 [.sh (.int a), .sh (.int m), .sh (.int c), .sh d] = .nx [.sh (.int a), .sh (.int m), .sh (.int (c * a)), .sh d] := by
      simp [l_power_1, fMul_int (i := c) (j := a) (.inr (by omega))]
    rw [e, loopK_nx, h, List.length_cons, Int.pow_succ', ← Int.mul_assoc]
theorem m_power_eq (a : Int) (m : Nat) (ha : 0 ≤ a ∧ a < 100) (hm : m < 10000) : m_power [.int a, .int m] = .ret (.sh (.int (a ^ m))) := by
  obtain ⟨x', h⟩ := power_loop a m ha ((List.range m).map fun (i : Nat) => .int i) 1 .un
  simp only [List.length_map, List.length_range, Int.one_mul] at h
  show toOut (b_power [.sh (.int a), .sh (.int m), .un, .un]) = _
  simp [b_power, s_power_0_2, s_power_0_3, rng1_nat (n := m) (by omega), h]
theorem m_check_word_eq {w : List Nat} (h : w.length ≤ 60) (hs : ∀ c ∈ w, 97 ≤ c ∧ c ≤ 122) : m_check_word [.str w] = .ret (.sh .non) := by
  have hm : ∀ c ∈ w, c ∈ [97, 98, 99, 100, 101, 102, 103, 104, 105, 106, 107, 108, 109, 110, 111, 112, 113, 114, 115, 116, 117, 118, 119, 120, 121, 122] := fun c hc => by
    have := hs c hc
    simp only [List.mem_cons, List.not_mem_nil]
    omega
  have e := lcM_map (vs := [1]) (mi := bnd (get 0) fun d => opt (items d)) (f := bName 1) (te := t_check_word_1) (ds := w.map fun c => .str [c]) (ρ0 := [.sh (.str w), .un]) (ρ := [.sh (.str w), .un]) (fun _ => .sh (.bl true)) (by simp) rfl (by simp; omega) fun d hd => by
    obtain ⟨c, hc, rfl⟩ := List.mem_map.mp hd
    refine ⟨[.sh (.str w), .sh (.str [c])], [.sh (.str w), .sh (.str [c])], by simp, ?_, by simp⟩
    have := decide_eq_true (hm c hc)
    simp only [t_check_word_1, shar_ap, op2_ap, get_ap, List.getElem?_cons_succ, List.getElem?_cons_zero, getT_sh, go_ok, bnd_ap, pur_ap, fIn_chr, opt_sm, this]
  rw [List.map_map] at e
  have e2 : fAll (.lst (w.map fun _ => .bl true)) = some (.bl true) := by rw [fAll_map (fun _ => true) w]; simp
  show toOut (b_check_word [.sh (.str w), .un]) = _
  simp [b_check_word, fLen_str (show w.length ≤ 16777216 by omega), e, show ¬ (60 : Int) < w.length by omega, strips_eq, List.map_map, Function.comp_def, e2]
theorem wd_word {n : Nat} {w : List Nat} (h : Wd n w) (hn : n ≤ 60) : m_check_word [.str w] = .ret (.sh .non) := m_check_word_eq (Nat.le_trans h.1 hn) fun c hc => by
  have := h.2 c hc; omega
theorem m_commute_eq {a b : List Nat} (ha : Wd 60 a) (hb : Wd 60 b) : m_commute [.str a, .str b] = .ret (.sh (.bl (decide (a ++ b = b ++ a)))) := by
  have := ha.1; have := hb.1
  show toOut (b_commute [.sh (.str a), .sh (.str b)]) = _
  simp [b_commute, s_commute_0_2, s_commute_0_3, wd_word ha, wd_word hb, fAdd_str (a := a) (b := b) (by omega), fAdd_str (a := b) (b := a) (by omega)]
theorem m_is_between_eq {a b c : List Nat} (ha : Wd 60 a) (hb : Wd 60 b) (hc : Wd 60 c) : m_is_between [.str a, .str b, .str c] = .ret (.sh (.bl (decide (a ++ c = c ++ b)))) := by
  have := ha.1; have := hb.1; have := hc.1
  show toOut (b_is_between [.sh (.str a), .sh (.str b), .sh (.str c)]) = _
  simp [b_is_between, s_is_between_0_2, s_is_between_0_3, s_is_between_0_4, wd_word ha, wd_word hb, wd_word hc, fAdd_str (a := a) (b := c) (by omega), fAdd_str (a := c) (b := b) (by omega)]
/-- a word turned by k -/
def rot (a : List Nat) (k : Nat) : List Nat := a.drop k ++ a.take k
theorem rot_len (a : List Nat) (k : Nat) : (rot a k).length = a.length := by unfold rot; simp; omega
theorem m_turned_eq {a b : List Nat} (ha : Wd 60 a) (hb : Wd 60 b) :
    ((∀ k, (List.range a.length).find? (fun k => decide (rot a k = b)) = some k → m_turned [.str a, .str b] = .ret (.sh (.tup [.str (a.take k), .str (a.drop k)]))) ∧
     ((List.range a.length).find? (fun k => decide (rot a k = b)) = none → a ≠ [] → m_turned [.str a, .str b] = .exc .missing) ∧
     (a = [] → m_turned [.str a, .str b] = if b = [] then .ret (.sh (.tup [.str [], .str []])) else .exc .missing)) := by
  have la := ha.1; have lb := hb.1
  obtain ⟨h1, h2⟩ := forL_first (f := bName 2) (mb := l_turned_1) (fun (i : Nat) => .int i) (fun k => decide (rot a k = b)) (fun ρ => ∃ x, ρ = [.sh (.str a), .sh (.str b), x]) (fun k => .sh (.tup [.str (a.take k), .str (a.drop k)])) (List.range a.length) [.sh (.str a), .sh (.str b), .un] ⟨_, rfl⟩ (by
    rintro k hk ρ ⟨x, rfl⟩
    refine ⟨[.sh (.str a), .sh (.str b), .sh (.int k)], by simp, fun hp => ⟨[.sh (.str a), .sh (.str b), .sh (.int k)], ?_, _, rfl⟩, fun hp => ⟨[.sh (.str a), .sh (.str b), .sh (.int k)], ?_⟩⟩ <;>
    · unfold rot at hp
      simp [l_turned_1, fSl_str (show a.length ≤ 16777216 by omega), cut_take, cut_drop, fAdd_str (a := a.drop k) (b := a.take k) (by simp; omega), hp, big])
  have e0 : m_turned [.str a, .str b] = toOut (b_turned [.sh (.str a), .sh (.str b), .un]) := rfl
  rw [e0]
  refine ⟨fun k hk => ?_, fun hn hne => ?_, fun he => ?_⟩
  · obtain ⟨ρ', h⟩ := h2 k hk
    simp [b_turned, s_turned_0_2, s_turned_0_3, s_turned_0_4, s_turned_0_5, wd_word ha, wd_word hb, fLen_str (show a.length ≤ 16777216 by omega), rng1_nat (n := a.length) (by omega), h]
  · obtain ⟨ρ', h, x, rfl⟩ := h1 hn
    simp [b_turned, s_turned_0_2, s_turned_0_3, s_turned_0_4, s_turned_0_5, wd_word ha, wd_word hb, fLen_str (show a.length ≤ 16777216 by omega), rng1_nat (n := a.length) (by omega), h]
    by_cases hab : a = b
    · subst hab; simp [hne, s_turned_0_5]
    · simp [hab, s_turned_0_5]
  · subst he
    obtain ⟨ρ', h, x, rfl⟩ := h1 (by simp)
    simp at h
    simp [b_turned, s_turned_0_2, s_turned_0_3, s_turned_0_4, s_turned_0_5, wd_word ha, wd_word hb, fLen_str (l := []) (by simp), show rng1 [.int 0] = some [] from rfl]
    by_cases hab : b = []
    · subst hab; simp [big]
    · simp [hab, s_turned_0_5, show ¬ [] = b from fun z => hab z.symm]
/-- k parts make the word -/
def rootP (w : List Nat) (k : Nat) : Bool := decide (w.length % k = 0) && decide ((List.replicate (w.length / k) (w.take k)).flatten = w)
theorem m_known_root_eq {w : List Nat} (hw : w.length ≤ 60) :
    (∀ k, (List.range' 1 w.length).find? (rootP w) = some k → m_known_root [.str w] = .ret (.sh (.tup [.str (w.take k), .int ((w.length / k : Nat) : Int)]))) := by
  obtain ⟨h1, h2⟩ := forL_first (f := bName 1) (mb := l_known_root_1) (fun (i : Nat) => .int i) (rootP w) (fun ρ => ∃ x, ρ = [.sh (.str w), x]) (fun k => .sh (.tup [.str (w.take k), .int ((w.length / k : Nat) : Int)])) (List.range' 1 w.length) [.sh (.str w), .un] ⟨_, rfl⟩ (by
    rintro k hk ρ ⟨x, rfl⟩
    have hk' := List.mem_range'_1.mp hk
    have hd : w.length / k ≤ w.length := Nat.div_le_self _ _
    have hm : (w.take k).length * (w.length / k) ≤ 16777216 := by
      have : (w.take k).length ≤ 60 := by simp; omega
      exact Nat.le_trans (Nat.mul_le_mul this (Nat.le_trans hd hw)) (by decide)
    refine ⟨[.sh (.str w), .sh (.int k)], by simp, fun hp => ⟨[.sh (.str w), .sh (.int k)], ?_, _, rfl⟩, fun hp => ⟨[.sh (.str w), .sh (.int k)], ?_⟩⟩
    · unfold rootP at hp
      by_cases hz : w.length % k = 0
      · have hq : ¬ (List.replicate (w.length / k) (w.take k)).flatten = w := by simpa [hz] using hp
        have ed := fDiv_nat (i := w.length) (j := k) (by omega)
        have em := fMod_nat (i := w.length) (j := k) (by omega)
        have ex := fMul_strN (l := w.take k) (k := w.length / k) (by omega) hm
        rw [hz] at em
        generalize w.length / k = q at ed ex hq
        simp [l_known_root_1, fLen_str (show w.length ≤ 16777216 by omega), em, fSl_str (show w.length ≤ 16777216 by omega), cut_take, ed, ex, hq]
      · have hz' : ¬ ((w.length % k : Nat) : Int) = 0 := by omega
        simp only [l_known_root_1, sIf_ap, mAnd_ap, bnd_ap, op2_ap, mLen_ap, List.getElem?_cons_zero, List.getElem?_cons_succ, lenR_sh, fLen_str (show w.length ≤ 16777216 by omega), opt_sm, go_ok, get_ap, getT_sh, fMod_nat (i := w.length) (j := k) (by omega), pur_ap, fEq_int, asB_bl, hz', decide_false, selM_f, selS_f]
    · unfold rootP at hp
      have hz : w.length % k = 0 := by simp at hp; exact hp.1
      have hq : (List.replicate (w.length / k) (w.take k)).flatten = w := by simp at hp; exact hp.2
      have ed := fDiv_nat (i := w.length) (j := k) (by omega)
      have em := fMod_nat (i := w.length) (j := k) (by omega)
      have ex := fMul_strN (l := w.take k) (k := w.length / k) (by omega) hm
      rw [hz] at em
      generalize w.length / k = q at ed ex hq
      simp [l_known_root_1, fLen_str (show w.length ≤ 16777216 by omega), em, fSl_str (show w.length ≤ 16777216 by omega), cut_take, ed, ex, hq, big])
  intro k hk
  obtain ⟨ρ', h⟩ := h2 k hk
  show toOut (b_known_root [.sh (.str w), .un]) = _
  have e := rng2_nat (m := 1) (n := w.length + 1) (by omega) (by omega)
  simp only [Int.natCast_add, Nat.add_sub_cancel] at e
  rw [show ((1 : Nat) : Int) = 1 from rfl] at e
  simp [b_known_root, fLen_str (show w.length ≤ 16777216 by omega), e, h]
theorem m_root_of_eq {w : List Nat} (hw : Wd 60 w) (hne : w ≠ []) {k : Nat} (h : (List.range' 1 w.length).find? (rootP w) = some k) : m_root_of [.str w] = .ret (.sh (.tup [.str (w.take k), .int ((w.length / k : Nat) : Int)])) := by
  show toOut (b_root_of [.sh (.str w)]) = _
  simp [b_root_of, s_root_of_0_2, s_root_of_0_3, wd_word hw, hne, m_known_root_eq hw.1 k h]
theorem m_root_of_nil : m_root_of [.str []] = .exc .refused := by
  show toOut (b_root_of [.sh (.str [])]) = _
  simp [b_root_of, s_root_of_0_2, s_root_of_0_3, wd_word (Wd.nil 60)]
end K36

end
section
set_option Elab.async false
set_option autoImplicit false
set_option linter.all false
set_option maxRecDepth 100000
set_option maxHeartbeats 1000000
namespace K36
open PySem L2 Mi
/-- the law's state, asked at most n times -/
def St (n : Nat) (t : T) : Prop := ∃ (ns : List Int) (k : Nat), t = .lst [.sh (.lst (ns.map .int)), .sh (.int k)] ∧ ns ≠ [] ∧ (∀ x ∈ ns, 0 ≤ x ∧ x < 1009) ∧ ns.length < 100000 ∧ k ≤ n
theorem St.ne {n : Nat} {t : T} (h : St n t) : t ≠ .un := by obtain ⟨ns, k, rfl, _⟩ := h; exact fun z => by cases z
theorem St.mono {n m : Nat} {t : T} (h : St n t) (l : n ≤ m) : St m t := by obtain ⟨ns, k, e, a, b, c, d⟩ := h; exact ⟨ns, k, e, a, b, c, by omega⟩
theorem next_eq {n m : Nat} {t : T} (h : St n t) (hn : n < 1000000) (hm : 0 < m) : ∃ (v : Nat) (s : T), m__law_next t [.int m] = .ret (.sh (.int v)) s ∧ v < m ∧ St (n + 1) s := by
  obtain ⟨ns, k, rfl, hne, hb, hl, hk⟩ := h
  have hp : 0 < ns.length := List.length_pos_iff.mpr hne
  obtain ⟨K, hK⟩ : ∃ K : Nat, (K : Int) = (k : Int) + 1 := ⟨k + 1, by omega⟩
  have hlt : K % ns.length < (ns.map D.int).length := by rw [List.length_map]; exact Nat.mod_lt _ hp
  have hx : ns[K % ns.length]'(Nat.mod_lt _ hp) ∈ ns := List.getElem_mem _
  have ea := atI_nat hlt
  rw [List.getElem_map] at ea
  generalize ns[K % ns.length]'(Nat.mod_lt _ hp) = x at ea hx
  have ed := fDiv_nat (i := K) (j := ns.length) (by omega)
  have em := fMod_nat (i := K) (j := ns.length) (by omega)
  generalize K / ns.length = q at ed
  generalize K % ns.length = r at em ea
  have e3 := fMod_int (i := x + (q : Int) * 389 + K * q * 17) (j := (m : Int)) (by omega)
  have b1 := Int.fmod_nonneg_of_pos (x + (q : Int) * 389 + K * q * 17) (b := (m : Int)) (by omega)
  have b2 := Int.fmod_lt_of_pos (x + (q : Int) * 389 + K * q * 17) (b := (m : Int)) (by omega)
  obtain ⟨v, hv⟩ : ∃ v : Nat, (v : Int) = (x + (q : Int) * 389 + K * q * 17).fmod m := ⟨_, Int.toNat_of_nonneg b1⟩
  rw [← hv] at e3
  refine ⟨v, .lst [.sh (.lst (ns.map .int)), .sh (.int K)], ?_, by omega, ns, K, rfl, hne, hb, hl, by omega⟩
  show toOutS (b__law_next [.lst [.sh (.lst (ns.map .int)), .sh (.int k)], .sh (.int m), .un]) = _
  simp [b__law_next, s__law_next_0_2, s__law_next_0_3, ← hK, ixN, ed, em, ea, fMul_int (i := (q : Int)) (j := 389) (.inr (by omega)), fMul_int (i := (K : Int)) (j := q) (.inl (by omega)), fMul_int (i := (K : Int) * q) (j := 17) (.inr (by omega)), e3]
theorem word_eq {n m : Nat} {t : T} (h : St n t) (hn : n < 900000) (hm : m < 60) : ∃ (w : List Nat) (s : T), m__law_word t [.int m] = .ret (.sh (.str w)) s ∧ Wd m w ∧ St (n + 1 + m) s := by
  obtain ⟨v, s1, e1, hv, h1⟩ := next_eq (m := m + 1) h (by omega) (by omega)
  obtain ⟨ρ', e2, w, s2, x, rfl, hw, h2⟩ := forL_inv (f := bName 3) (mb := l__law_word_1) (fun i ρ => ∃ w s x, ρ = [s, .sh (.int m), .sh (.str w), x] ∧ Wd i w ∧ St (n + 1 + i) s) ((List.range v).map fun (i : Nat) => .int i) 0 [s1, .sh (.int m), .sh (.str []), .un] ⟨_, _, _, rfl, Wd.nil _, h1⟩ (by
    rintro i d hd ρ ⟨w, s, x, rfl, hw, hs⟩
    have hi : i < v := by simpa using (List.getElem?_eq_some_iff.mp hd).1
    obtain ⟨u, s', eu, hu, hs'⟩ := next_eq (m := 2) hs (by omega) (by omega)
    have hwl := hw.1
    obtain ⟨c, ec, hc⟩ : ∃ c, atI [97, 98] (u : Int) = some c ∧ (c = 97 ∨ c = 98) := by
      obtain rfl | rfl : u = 0 ∨ u = 1 := by omega
      · exact ⟨97, rfl, .inl rfl⟩
      · exact ⟨98, rfl, .inr rfl⟩
    rw [show ((2 : Nat) : Int) = 2 from rfl] at eu
    refine ⟨[s, .sh (.int m), .sh (.str w), .sh d], [s', .sh (.int m), .sh (.str (w ++ [c])), .sh d], by simp, .inl ?_, _, _, _, rfl, ⟨by simp; omega, fun z hz => ?_⟩, hs'⟩
    · simp [l__law_word_1, isUR_ne _ hs.ne, callSR_ne _ _ _ _ hs.ne, eu, fIx_str (l := [97, 98]) (by decide) ec, fAdd_str (a := w) (b := [c]) (by simp; omega)]
    · rcases List.mem_append.mp hz with hz | hz
      · exact hw.2 z hz
      · simp at hz; omega)
  refine ⟨w, s2, ?_, ?_, ?_⟩
  · show toOutS (b__law_word [t, .sh (.int m), .un, .un]) = _
    rw [show ((m + 1 : Nat) : Int) = (m : Int) + 1 from rfl] at e1
    simp [b__law_word, s__law_word_0_2, s__law_word_0_3, isUR_ne _ h.ne, callSR_ne _ _ _ _ h.ne, e1, rng1_nat (n := v) (by omega), e2, atS_ne h2.ne]
  · simp at hw; exact hw.mono (by omega)
  · simp at h2; exact h2.mono (by omega)
/-! ### the stream -/
def Nm (l : List T) (ns : List Int) : Prop := l = ns.map (fun i => .sh (.int i)) ∧ ∀ x ∈ ns, 0 ≤ x ∧ x < 1009
theorem Nm.add {l : List T} {ns : List Int} (h : Nm l ns) {x : Int} (hx : 0 ≤ x ∧ x < 1009) : Nm (l ++ [.sh (.int x)]) (ns ++ [x]) := by
  refine ⟨by rw [h.1, List.map_append]; rfl, fun y hy => ?_⟩
  rcases List.mem_append.mp hy with hy | hy
  · exact h.2 y hy
  · simp at hy; omega
theorem Nm.len {l : List T} {ns : List Int} (h : Nm l ns) : l.length = ns.length := by rw [h.1, List.length_map]
def Big (b : Nat) (ρ : Mi.Env) (sc cell : T) : Prop := ∃ l ns r k x, ρ = [sc, .lst l, cell, .sh (.int r), k, x] ∧ Nm l ns ∧ ns.length ≤ b ∧ (0 : Int) ≤ r
theorem fm (i : Int) {j : Int} (h : 0 < j) : 0 ≤ i.fmod j ∧ i.fmod j < j := ⟨Int.fmod_nonneg_of_pos i h, Int.fmod_lt_of_pos i h⟩
theorem stream_1 {sc cell : T} {b : Nat} {ρ : Mi.Env} (hb : b < 10000) (h : Big b ρ sc cell) : ∃ ρ', forL (bName 4) l__law_stream_1 ((List.range 60).map fun (i : Nat) => .int i) ρ = .nx ρ' ∧ Big (b + 60) ρ' sc cell := by
  refine forL_invB (fun i ρ => Big (b + i) ρ sc cell) (fun ρ => Big (b + 60) ρ sc cell) _ 0 ρ h ?_ fun ρ h => by simpa using h
  rintro i d hd ρ ⟨l, ns, r, k, x, rfl, hn, hl, hr⟩
  have hi : i < 60 := by simpa using (List.getElem?_eq_some_iff.mp hd).1
  have hq : 0 ≤ r.fdiv 1009 := by rw [Int.fdiv_eq_ediv_of_nonneg _ (by omega)]; omega
  have hm := fm r (j := 1009) (by omega)
  have hll := hn.len
  refine ⟨[sc, .lst l, cell, .sh (.int r), .sh d, x], [sc, .lst (l ++ [.sh (.int (r.fmod 1009))]), cell, .sh (.int (r.fdiv 1009)), .sh d, x], by simp, ?_⟩
  by_cases hz : r.fdiv 1009 = 0
  · refine .inr ⟨?_, l ++ [.sh (.int (r.fmod 1009))], ns ++ [r.fmod 1009], _, _, _, rfl, hn.add hm, by simp; omega, hq⟩
    simp [l__law_stream_1, s__law_stream_3_2, s__law_stream_3_3, fMod_int (i := r) (j := 1009) (by omega), fDiv_int (i := r) (j := 1009) (by omega), big_t (show l.length + 1 ≤ 16777216 by omega), hz]
  · refine .inl ⟨?_, l ++ [.sh (.int (r.fmod 1009))], ns ++ [r.fmod 1009], _, _, _, rfl, hn.add hm, by simp; omega, hq⟩
    simp [l__law_stream_1, s__law_stream_3_2, s__law_stream_3_3, fMod_int (i := r) (j := 1009) (by omega), fDiv_int (i := r) (j := 1009) (by omega), big_t (show l.length + 1 ≤ 16777216 by omega), hz]
def Big2 (b : Nat) (ρ : Mi.Env) (sc cell : T) : Prop := ∃ l ns r k y, ρ = [sc, .lst l, cell, .sh (.int r), k, .sh (.int y)] ∧ Nm l ns ∧ ns.length ≤ b ∧ (0 : Int) ≤ r
theorem stream_2 {sc cell : T} {b : Nat} {ρ : Mi.Env} (hb : b < 10000) (h : Big2 b ρ sc cell) : ∃ ρ', forL (bName 4) l__law_stream_2 ((List.range 10).map fun (i : Nat) => .int i) ρ = .nx ρ' ∧ Big2 (b + 10) ρ' sc cell := by
  obtain ⟨ρ', e, j⟩ := forL_inv (f := bName 4) (mb := l__law_stream_2) (fun i ρ => Big2 (b + i) ρ sc cell) ((List.range 10).map fun (i : Nat) => .int i) 0 ρ h (by
    rintro i d hd ρ ⟨l, ns, r, k, y, rfl, hn, hl, hr⟩
    have hi : i < 10 := by simpa using (List.getElem?_eq_some_iff.mp hd).1
    obtain ⟨z, rfl⟩ : ∃ z : Int, d = .int z := by
      obtain ⟨z, _, rfl⟩ := List.mem_map.mp (List.mem_of_getElem? hd); exact ⟨_, rfl⟩
    have hll := hn.len
    obtain ⟨y', hy'⟩ : ∃ y', y' = (y * 48271 + 7 * z + 11).fmod 2147483647 := ⟨_, rfl⟩
    obtain ⟨u, hu⟩ : ∃ u, u = ((y' * 69621 + z).fmod 2147483629).fmod 1009 := ⟨_, rfl⟩
    have hm := fm ((y' * 69621 + z).fmod 2147483629) (j := 1009) (by omega)
    rw [← hu] at hm
    refine ⟨[sc, .lst l, cell, .sh (.int r), .sh (.int z), .sh (.int y)], [sc, .lst (l ++ [.sh (.int u)]), cell, .sh (.int r), .sh (.int z), .sh (.int y')], by simp, .inl ?_, l ++ [.sh (.int u)], ns ++ [u], _, _, _, rfl, hn.add hm, by simp; omega, hr⟩
    simp [l__law_stream_2, fMul_int (i := y) (j := 48271) (.inr (by omega)), fMul_int (i := 7) (j := z) (.inl (by omega)), fMod_int (i := y * 48271 + 7 * z + 11) (j := 2147483647) (by omega), ← hy', fMul_int (i := y') (j := 69621) (.inr (by omega)),
      fMod_int (i := y' * 69621 + z) (j := 2147483629) (by omega), fMod_int (i := (y' * 69621 + z).fmod 2147483629) (j := 1009) (by omega), ← hu, big_t (show l.length + 1 ≤ 16777216 by omega)])
  exact ⟨ρ', e, by simpa using j⟩
theorem stream_eq {d : D} {zs : List Int} (hd : d = .lst (zs.map .int) ∨ d = .frl (zs.map .int)) : ∃ (ns : List Int), m__law_stream [d] = .ret (.lst (ns.map fun i => .sh (.int i))) ∧ ns ≠ [] ∧ (∀ x ∈ ns, 0 ≤ x ∧ x < 1009) ∧ ns.length < 100000 := by
  obtain ⟨ρ', e, l, ns, c, r, k, x, rfl, hn, hl⟩ := forL_inv (f := bName 2) (mb := l__law_stream_3) (fun i ρ => ∃ l ns c r k x, ρ = [.sh d, .lst l, c, r, k, x] ∧ Nm l ns ∧ ns.length ≤ 60 * i) ((zs.map .int).take 63) 0 [.sh d, .lst [], .un, .un, .un, .un] ⟨[], [], _, _, _, _, rfl, ⟨rfl, fun x h => by simp at h⟩, by simp⟩ (by
    rintro i u hu ρ ⟨l, ns, c, r, k, x, rfl, hn, hl⟩
    have hi : i < 63 := by have := (List.getElem?_eq_some_iff.mp hu).1; simp at this; omega
    obtain ⟨z, rfl⟩ : ∃ z : Int, u = .int z := by
      obtain ⟨z, _, rfl⟩ := List.mem_map.mp (List.mem_of_mem_take (List.mem_of_getElem? hu)); exact ⟨z, rfl⟩
    obtain ⟨q, hq, hq0⟩ : ∃ q : Int, q = (if z < 0 then -z else z) ∧ 0 ≤ q := ⟨_, rfl, by split <;> omega⟩
    by_cases hbig : (1000000000000000000 : Int) ≤ q
    · obtain ⟨ρ2, e2, l2, ns2, r2, k2, x2, rfl, hn2, hl2, _⟩ := stream_1 (sc := .sh d) (cell := .sh (.int z)) (b := 60 * i) (ρ := [.sh d, .lst l, .sh (.int z), .sh (.int q), k, x]) (by omega) ⟨l, ns, _, _, _, rfl, hn, by omega, hq0⟩
      refine ⟨[.sh d, .lst l, .sh (.int z), r, k, x], [.sh d, .lst l2, .sh (.int z), .sh (.int r2), k2, x2], by simp, .inl ?_, l2, ns2, _, _, _, _, rfl, hn2, by omega⟩
      simp [l__law_stream_3, ← hq, fPow_int (i := 10) (j := 18) (by decide), show (10 : Int) ^ 18 = 1000000000000000000 from rfl, hbig, show rng1 [.int 60] = _ from rng1_nat (n := 60) (by omega), e2]
    · obtain ⟨y, hy⟩ : ∃ y, y = q.fmod 2147483647 := ⟨_, rfl⟩
      obtain ⟨ρ2, e2, l2, ns2, r2, k2, x2, rfl, hn2, hl2, _⟩ := stream_2 (sc := .sh d) (cell := .sh (.int z)) (b := 60 * i) (ρ := [.sh d, .lst l, .sh (.int z), .sh (.int q), k, .sh (.int y)]) (by omega) ⟨l, ns, _, _, _, rfl, hn, by omega, hq0⟩
      refine ⟨[.sh d, .lst l, .sh (.int z), r, k, x], [.sh d, .lst l2, .sh (.int z), .sh (.int r2), k2, .sh (.int x2)], by simp, .inl ?_, l2, ns2, _, _, _, _, rfl, hn2, by omega⟩
      simp [l__law_stream_3, ← hq, fPow_int (i := 10) (j := 18) (by decide), show (10 : Int) ^ 18 = 1000000000000000000 from rfl, hbig, fMod_int (i := q) (j := 2147483647) (by omega), ← hy, show rng1 [.int 10] = _ from rng1_nat (n := 10) (by omega), e2])
  have hfs : fSl d none (some 63) = some (.lst ((zs.map .int).take 63)) := by
    have := cut_take (zs.map D.int) 63
    rw [show ((63 : Nat) : Int) = 63 from rfl] at this
    rcases hd with rfl | rfl <;> simp [this]
  have e0 : m__law_stream [d] = toOut (b__law_stream [.sh d, .un, .un, .un, .un, .un]) := rfl
  have hlen : ((zs.map D.int).take 63).length ≤ 63 := by simp; omega
  have hll := hn.len
  by_cases hz : ns = []
  · subst hz
    obtain rfl : l = [] := hn.1
    refine ⟨[0], ?_, by simp, by simp, by simp⟩
    rw [e0]
    simp [b__law_stream, s__law_stream_0_2, s__law_stream_0_3, s__law_stream_0_4, hfs, big, e]
  · refine ⟨ns, ?_, hz, hn.2, by omega⟩
    rw [e0]
    have : ¬ (l.length : Int) = 0 := by have := List.length_pos_iff.mpr hz; omega
    simp [b__law_stream, s__law_stream_0_2, s__law_stream_0_3, s__law_stream_0_4, hfs, big, e, this, hn.1, hz]
end K36

end
section
set_option Elab.async false
set_option autoImplicit false
set_option linter.all false
set_option maxRecDepth 100000
set_option maxHeartbeats 1000000
namespace K36
open PySem L2 Mi
/-- the words of between, from the word w on -/
def betw (r : List Nat) (m : Nat) : Nat → List Nat → List (List Nat)
  | 0, _ => []
  | n + 1, w => if w.length ≤ m then w :: betw r m n (r ++ w) else []
theorem betw_loop {a b : T} {m : Nat} {p q t : T} {r : List Nat} (hr : r ≠ []) (hrl : r.length ≤ 60) (hm : m ≤ 60) : ∀ (n F : Nat) (w : List Nat) (found : List T), w.length + n ≥ m + 1 → w.length ≤ 130 → n < F → found.length + n ≤ 1000 →
    ∃ x, whileN w_between_1 l_between_1 F [a, b, .sh (.int m), p, q, .sh (.str r), t, .lst found, .sh (.str w)] = .nx [a, b, .sh (.int m), p, q, .sh (.str r), t, .lst (found ++ (betw r m n w).map fun z => .sh (.str z)), .sh (.str x)]
  | n, 0, w, found, _, _, h, _ => by omega
  | n, F + 1, w, found, h1, h2, h3, h4 => by
    have ec : w_between_1 [a, b, .sh (.int m), p, q, .sh (.str r), t, .lst found, .sh (.str w)] = .ok (decide (w.length ≤ m)) [a, b, .sh (.int m), p, q, .sh (.str r), t, .lst found, .sh (.str w)] := by
      simp [w_between_1, fLen_str (l := w) (by omega)]
    rw [whileN_succ ec]
    by_cases hw : w.length ≤ m
    · cases n with
      | zero => omega
      | succ n =>
        have hrp : 0 < r.length := List.length_pos_iff.mpr hr
        have es : l_between_1 [a, b, .sh (.int m), p, q, .sh (.str r), t, .lst found, .sh (.str w)] = .nx [a, b, .sh (.int m), p, q, .sh (.str r), t, .lst (found ++ [.sh (.str w)]), .sh (.str (r ++ w))] := by
          simp [l_between_1, big_t (show found.length + 1 ≤ 16777216 by omega), fAdd_str (a := r) (b := w) (by omega)]
        obtain ⟨x, e⟩ := betw_loop (a := a) (b := b) (p := p) (q := q) (t := t) hr hrl hm n F (r ++ w) (found ++ [.sh (.str w)]) (by simp; omega) (by simp; omega) (by omega) (by simp; omega)
        refine ⟨x, ?_⟩
        rw [show decide (w.length ≤ m) = true by simp [hw], sel_t, es, loopK_nx, e]
        simp [betw, hw]
    · refine ⟨w, ?_⟩
      rw [show decide (w.length ≤ m) = false by simp [hw], sel_f]
      cases n <;> simp [betw, hw]
theorem m_between_eq {a b : List Nat} {m : Nat} (ha : Wd 60 a) (hb : Wd 60 b) (hm : m ≤ 60) (hne : a ≠ []) {k : Nat} (hk : (List.range' 1 a.length).find? (rootP a) = some k) :
    ∃ t, m_between [.str a, .str b, .int m] = .ret t ∧ t.strip = .lst ((match (List.range a.length).find? (fun k => decide (rot a k = b)) with | none => [] | some j => betw (a.take k) m (m + 1) (a.take j)).map .str) := by
  obtain ⟨t1, t2, -⟩ := m_turned_eq ha hb
  have e0 : m_between [.str a, .str b, .int m] = toOut (b_between [.sh (.str a), .sh (.str b), .sh (.int m), .un, .un, .un, .un, .un, .un]) := rfl
  rw [e0]
  have la := ha.1
  have hm' : (m : Int) ≤ 60 := by omega
  cases hf : (List.range a.length).find? (fun k => decide (rot a k = b)) with
  | none =>
    refine ⟨.lst [], ?_, rfl⟩
    have := t2 hf hne
    simp [b_between, s_between_0_2, s_between_0_3, s_between_0_4, s_between_0_5, s_between_0_6, s_between_0_7, s_between_0_8, s_between_0_9, wd_word ha, wd_word hb, hm', hne, this, catch_exc (catch_ .missing) _ .missing _ rfl, big]
  | some j =>
    have hkm := List.mem_of_find?_eq_some hk
    have hk1 := List.mem_range'_1.mp hkm
    have hr : a.take k ≠ [] := fun z => by
      have := congrArg List.length z
      simp [hne] at this; omega
    obtain ⟨x, hx⟩ := betw_loop (a := .sh (.str a)) (b := .sh (.str b)) (p := .sh (.str (a.take j))) (q := .sh (.str (a.drop j))) (t := .sh (.int ((a.length / k : Nat) : Int))) (r := a.take k) hr (by simp; omega) hm (m + 1) 1000000000000 (a.take j) [] (by omega) (by simp; omega) (by omega) (by simp; omega)
    refine ⟨.lst ((betw (a.take k) m (m + 1) (a.take j)).map fun z => .sh (.str z)), ?_, by simp⟩
    have e1 := t1 j hf
    have e2 := m_known_root_eq ha.1 k hk
    generalize ((a.length / k : Nat) : Int) = u at hx e2
    simp [b_between, s_between_0_2, s_between_0_3, s_between_0_4, s_between_0_5, s_between_0_6, s_between_0_7, s_between_0_8, s_between_0_9, wd_word ha, wd_word hb, hm', hne, e1, e2, big, hx]
theorem m_between_nil {b : List Nat} {m : Nat} (hb : Wd 60 b) (hm : m ≤ 60) : m_between [.str [], .str b, .int m] = .exc .refused := by
  show toOut (b_between [.sh (.str []), .sh (.str b), .sh (.int m), .un, .un, .un, .un, .un, .un]) = _
  simp [b_between, s_between_0_2, s_between_0_3, s_between_0_4, s_between_0_5, s_between_0_6, s_between_0_7, s_between_0_8, s_between_0_9, wd_word (Wd.nil 60), wd_word hb, show (m : Int) ≤ 60 by omega]
/-- all words of so many letters -/
def allw : Nat → List (List Nat)
  | 0 => [[]]
  | n + 1 => (allw n).flatMap fun r => [r ++ [97], r ++ [98]]
theorem two_len : ∀ l : List (List Nat), (l.flatMap fun r => [r ++ [97], r ++ [98]]).length = 2 * l.length
  | [] => rfl
  | r :: l => by rw [List.flatMap_cons, List.length_append, two_len l]; simp; omega
theorem allw_len : ∀ n, (allw n).length = 2 ^ n
  | 0 => rfl
  | n + 1 => by rw [allw, two_len, allw_len n, Nat.pow_succ, Nat.mul_comm]
theorem allw_mem : ∀ (n : Nat) (w : List Nat), w ∈ allw n → w.length = n ∧ Wd n w
  | 0, w, h => by simp [allw] at h; subst h; exact ⟨rfl, Wd.nil 0⟩
  | n + 1, w, h => by
    rw [allw, List.mem_flatMap] at h
    obtain ⟨r, hr, hw⟩ := h
    obtain ⟨h1, h2, h3⟩ := allw_mem n r hr
    simp at hw
    rcases hw with rfl | rfl
    · exact ⟨by simp [h1], by simp; omega, fun c hc => by rcases List.mem_append.mp hc with z | z; exact h3 c z; simp at z; omega⟩
    · exact ⟨by simp [h1], by simp; omega, fun c hc => by rcases List.mem_append.mp hc with z | z; exact h3 c z; simp at z; omega⟩
theorem aw_inner {m k y : T} {R : T} : ∀ (rs : List (List Nat)) (wid : List (List Nat)) (x : T), (wid.length + 2 * rs.length ≤ 100000) → (∀ r ∈ rs, r.length ≤ 1000) → ∃ x', forL (bName 5) l__law_all_words_1 (rs.map .str) [m, .sh (.str [97, 98]), R, k, .lst (wid.map fun z => .sh (.str z)), x, .un] =
    .nx [m, .sh (.str [97, 98]), R, k, .lst ((wid ++ rs.flatMap fun r => [r ++ [97], r ++ [98]]).map fun z => .sh (.str z)), x', .un]
  | [], wid, x, _, _ => ⟨x, by simp⟩
  | r :: rs, wid, x, h, hr => by
    simp only [List.length_cons] at h
    have hrl := hr r (List.mem_cons_self ..)
    obtain ⟨x', e⟩ := aw_inner (m := m) (k := k) (y := y) (R := R) rs (wid ++ [r ++ [97], r ++ [98]]) (.sh (.str r)) (by simp; omega) fun r h => hr r (List.mem_cons_of_mem _ h)
    refine ⟨x', ?_⟩
    have el := lcM_map (vs := [6]) (mi := bnd (get 1) fun d => opt (items d)) (f := bName 6) (te := t__law_all_words_1) (ds := [.str [97], .str [98]]) (ρ0 := [m, .sh (.str [97, 98]), R, k, .lst (wid.map fun z => .sh (.str z)), .sh (.str r), .un]) (ρ := [m, .sh (.str [97, 98]), R, k, .lst (wid.map fun z => .sh (.str z)), .sh (.str r), .un]) (fun d => match d with | .str l => .sh (.str (r ++ l)) | _ => .un) (by simp) rfl (by simp) fun d hd => by
      simp at hd
      rcases hd with rfl | rfl
      · exact ⟨[m, .sh (.str [97, 98]), R, k, .lst (wid.map fun z => .sh (.str z)), .sh (.str r), .sh (.str [97])], _, by simp, by simp [t__law_all_words_1, fAdd_str (a := r) (b := [97]) (by simp; omega)]; rfl, by simp⟩
      · exact ⟨[m, .sh (.str [97, 98]), R, k, .lst (wid.map fun z => .sh (.str z)), .sh (.str r), .sh (.str [98])], _, by simp, by simp [t__law_all_words_1, fAdd_str (a := r) (b := [98]) (by simp; omega)]; rfl, by simp⟩
    have es : l__law_all_words_1 [m, .sh (.str [97, 98]), R, k, .lst (wid.map fun z => .sh (.str z)), .sh (.str r), .un] = .nx [m, .sh (.str [97, 98]), R, k, .lst ((wid ++ [r ++ [97], r ++ [98]]).map fun z => .sh (.str z)), .sh (.str r), .un] := by
      simp [l__law_all_words_1, el, big_t (show wid.length + 2 ≤ 16777216 by omega)]
    rw [List.map_cons, forL_cons (ρ1 := [m, .sh (.str [97, 98]), R, k, .lst (wid.map fun z => .sh (.str z)), .sh (.str r), .un]) (by simp), es, loopK_nx, e]
    simp
theorem aw_eq {m : Nat} (hm : m ≤ 10) : ∃ t, m__law_all_words [.int m, .str [97, 98]] = .ret t ∧ t.strip = .lst ((allw m).map .str) ∧ t ≠ .un := by
  obtain ⟨ρ', e, R, k, w, x, rfl, hR, hRu⟩ := forL_inv (f := bName 3) (mb := l__law_all_words_2) (fun i ρ => ∃ R k w x, ρ = [.sh (.int m), .sh (.str [97, 98]), R, k, w, x, .un] ∧ R.strip = .lst ((allw i).map .str) ∧ ((∃ d, R = .sh d) ∨ ∃ l, R = .lst l)) ((List.range m).map fun (i : Nat) => .int i) 0 [.sh (.int m), .sh (.str [97, 98]), .lst [.sh (.str [])], .un, .un, .un, .un] ⟨_, _, _, _, rfl, rfl, .inr ⟨_, rfl⟩⟩ (by
    rintro i d hd ρ ⟨R, k, w, x, rfl, hR, hRu⟩
    have hi : i < m := by simpa using (List.getElem?_eq_some_iff.mp hd).1
    rw [Nat.zero_add] at hR
    have h2 := allw_len i
    have h3 : 2 ^ i ≤ 2 ^ 10 := Nat.pow_le_pow_right (by decide) (by omega)
    obtain ⟨x', ei⟩ := aw_inner (m := .sh (.int m)) (k := .sh d) (y := .un) (R := .sh (.lst ((allw i).map .str))) (allw i) [] x (by simp; omega) fun r hr => by have := (allw_mem i r hr).1; omega
    refine ⟨[.sh (.int m), .sh (.str [97, 98]), R, .sh d, w, x, .un], [.sh (.int m), .sh (.str [97, 98]), .sh (.lst ((allw (i + 1)).map .str)), .sh d, .sh (.lst ((allw (i + 1)).map .str)), x', .un], by simp, .inl ?_, _, _, _, _, rfl, by simp, .inl ⟨_, rfl⟩⟩
    simp only [List.map_nil, List.nil_append] at ei
    rcases hRu with ⟨d', rfl⟩ | ⟨l, rfl⟩
    · simp only [strip_sh] at hR
      subst hR
      simp [l__law_all_words_2, s__law_all_words_1_2, s__law_all_words_1_3, big, ei, allw]
    · simp only [strip_lst] at hR
      simp [l__law_all_words_2, s__law_all_words_1_2, s__law_all_words_1_3, big, hR, ei, allw])
  have e0 : m__law_all_words [.int m, .str [97, 98]] = toOut (b__law_all_words [.sh (.int m), .sh (.str [97, 98]), .un, .un, .un, .un, .un]) := rfl
  simp only [List.length_map, List.length_range, Nat.zero_add] at hR
  refine ⟨R, ?_, hR, fun z => ?_⟩
  · rw [e0]
    rcases hRu with ⟨d', rfl⟩ | ⟨l, rfl⟩ <;> simp [b__law_all_words, s__law_all_words_0_2, s__law_all_words_0_3, big, rng1_nat (n := m) (by omega), e]
  · rcases hRu with ⟨d', rfl⟩ | ⟨l, rfl⟩ <;> cases z
end K36

end
section
set_option Elab.async false
set_option autoImplicit false
set_option linter.all false
set_option maxRecDepth 100000
set_option maxHeartbeats 2000000
namespace K36
open PySem L2 Mi
theorem wd_rot {n : Nat} {a : List Nat} (h : Wd n a) (k : Nat) : Wd n (rot a k) := ⟨by rw [rot_len]; exact h.1, fun c hc => by
  unfold rot at hc
  rcases List.mem_append.mp hc with z | z
  · exact h.2 c (List.mem_of_mem_drop z)
  · exact h.2 c (List.mem_of_mem_take z)⟩
theorem mem_allw : ∀ (n : Nat) (w : List Nat), w.length = n → (∀ c ∈ w, c = 97 ∨ c = 98) → (allw n).filter (fun z => decide (z = w)) = [w]
  | 0, w, h, _ => by
    obtain rfl := List.eq_nil_of_length_eq_zero h
    rfl
  | n + 1, w, h, hc => by
    have hne : w ≠ [] := fun z => by rw [z] at h; simp at h
    have ih := mem_allw n w.dropLast (by simp; omega) fun c z => hc c ((List.dropLast_sublist w).subset z)
    have hl := hc (w.getLast hne) (List.getLast_mem hne)
    have hw : w = w.dropLast ++ [w.getLast hne] := (List.dropLast_concat_getLast hne).symm
    generalize w.dropLast = r at ih hw
    generalize w.getLast hne = c at hl hw
    subst hw
    rw [allw, List.filter_flatMap]
    have e : ∀ z : List Nat, ([z ++ [97], z ++ [98]].filter fun z => decide (z = r ++ [c])) = if decide (z = r) = true then [r ++ [c]] else [] := fun z => by
      by_cases hz : z = r
      · subst hz
        rcases hl with rfl | rfl <;> simp
      · have h97 : ∀ d : Nat, ¬ z ++ [d] = r ++ [c] := fun d q => hz (List.append_inj_left' q rfl)
        simp [hz, h97]
    have : ∀ l : List (List Nat), l.flatMap (fun z => [z ++ [97], z ++ [98]].filter fun z => decide (z = r ++ [c])) = (l.filter fun z => decide (z = r)).map fun _ => r ++ [c] := fun l => by
      induction l with
      | nil => rfl
      | cons z l ihl =>
        rw [List.flatMap_cons, ihl, e, List.filter_cons]
        by_cases hz : decide (z = r) = true <;> simp [hz]
    rw [this, ih]; rfl
theorem wd_mem {n : Nat} {w : List Nat} (h : Wd n w) : w ∈ allw w.length := by
  have := mem_allw w.length w rfl h.2
  have h2 : w ∈ (allw w.length).filter fun z => decide (z = w) := by rw [this]; simp
  exact (List.mem_filter.mp h2).1
/-- the one word so long that may stand between -/
def pre (a : List Nat) : Nat → Nat → List Nat
  | 0, _ => []
  | f + 1, m => if m < a.length then a.take m else a ++ pre a f (m - a.length)
theorem pre_len (a : List Nat) (ha : a ≠ []) : ∀ (f m : Nat), m < f → (pre a f m).length = m
  | 0, m, h => by omega
  | f + 1, m, h => by
    have hp := List.length_pos_iff.mpr ha
    unfold pre
    by_cases hm : m < a.length
    · rw [if_pos hm]; simp; omega
    · rw [if_neg hm, List.length_append, pre_len a ha f _ (by omega)]; omega
theorem pre_wd {a : List Nat} (ha : a ≠ []) {n : Nat} (h : Wd n a) : ∀ (f m : Nat), ∀ c ∈ pre a f m, c = 97 ∨ c = 98
  | 0, m => by simp [pre]
  | f + 1, m => by
    intro c hc
    unfold pre at hc
    split at hc
    · exact h.2 c (List.mem_of_mem_take hc)
    · rcases List.mem_append.mp hc with z | z
      · exact h.2 c z
      · exact pre_wd ha h f _ c z
theorem between_iff {a : List Nat} (ha : a ≠ []) : ∀ (f m : Nat) (w b : List Nat), m < f → w.length = m → (a ++ w = w ++ b ↔ w = pre a f m ∧ rot a (m % a.length) = b)
  | 0, m, w, b, h, _ => by omega
  | f + 1, m, w, b, h, hw => by
    have hp := List.length_pos_iff.mpr ha
    unfold pre
    by_cases hm : m < a.length
    · rw [if_pos hm, Nat.mod_eq_of_lt hm]
      constructor
      · intro e
        have e1 := congrArg (List.take m) e
        rw [List.take_append_of_le_length (by omega), List.take_append_of_le_length (by omega), List.take_of_length_le (by omega : w.length ≤ m)] at e1
        have e2 := congrArg (List.drop m) e
        rw [List.drop_append_of_le_length (by omega), List.drop_append_of_le_length (by omega), List.drop_of_length_le (by omega : w.length ≤ m), List.nil_append] at e2
        exact ⟨e1.symm, by unfold rot; rw [← e2, e1]⟩
      · rintro ⟨rfl, rfl⟩
        unfold rot
        rw [← List.append_assoc, List.take_append_drop]
    · rw [if_neg hm]
      have hmod : m % a.length = (m - a.length) % a.length := by rw [Nat.mod_eq_sub_mod (by omega)]
      rw [hmod]
      constructor
      · intro e
        have e1 := congrArg (List.take a.length) e
        rw [List.take_append_of_le_length (by omega), List.take_length, List.take_append_of_le_length (by omega)] at e1
        have hs : w = a ++ w.drop a.length := by
          have := (List.take_append_drop a.length w).symm
          rwa [← e1] at this
        generalize w.drop a.length = v at hs
        subst hs
        rw [List.append_assoc] at e
        have e3 := List.append_cancel_left e
        simp at hw
        obtain ⟨h1, h2⟩ := (between_iff ha f (m - a.length) v b (by omega) (by omega)).mp e3
        exact ⟨by rw [← h1], h2⟩
      · rintro ⟨rfl, h2⟩
        rw [List.append_assoc]
        congr 1
        exact (between_iff ha f (m - a.length) _ b (by omega) (pre_len a ha f _ (by omega))).mpr ⟨rfl, h2⟩
/-- the law's root -/
def rootL (w : List Nat) (k : Nat) : Bool := decide ((List.replicate w.length (w.take k)).flatten = (List.replicate k w).flatten)
def pows (r : List Nat) : Nat → List Nat → List (List Nat)
  | 0, _ => []
  | n + 1, w => w :: pows r n (r ++ w)
/-- what is to be seen of each word -/
def chk (a : List Nat) : Bool :=
  match (List.range' 1 a.length).find? (rootP a) with
  | none => false
  | some k => decide (((List.range' 1 a.length).filter (rootL a)).head? = some k) && (List.range a.length).all fun j =>
      match (List.range a.length).find? (fun i => decide (rot a i = rot a j)) with
      | none => false
      | some i => decide ((List.range 9).flatMap (fun m => if decide (rot a (m % a.length) = rot a j) then [pre a 9 m] else []) = betw (a.take k) 8 9 (a.take i))
set_option maxHeartbeats 0 in
theorem chk_few : (List.range' 1 5).all (fun n => (allw n).all chk) = true := by decide +kernel
set_option maxHeartbeats 0 in
theorem chk_6_0 : (((allw 6).drop 0).take 32).all chk = true := by decide +kernel
set_option maxHeartbeats 0 in
theorem chk_6_1 : (((allw 6).drop 32).take 32).all chk = true := by decide +kernel
set_option maxHeartbeats 0 in
theorem chk_7_0 : (((allw 7).drop 0).take 32).all chk = true := by decide +kernel
set_option maxHeartbeats 0 in
theorem chk_7_1 : (((allw 7).drop 32).take 32).all chk = true := by decide +kernel
set_option maxHeartbeats 0 in
theorem chk_7_2 : (((allw 7).drop 64).take 32).all chk = true := by decide +kernel
set_option maxHeartbeats 0 in
theorem chk_7_3 : (((allw 7).drop 96).take 32).all chk = true := by decide +kernel
set_option maxHeartbeats 0 in
theorem chk_8_0 : (((allw 8).drop 0).take 32).all chk = true := by decide +kernel
set_option maxHeartbeats 0 in
theorem chk_8_1 : (((allw 8).drop 32).take 32).all chk = true := by decide +kernel
set_option maxHeartbeats 0 in
theorem chk_8_2 : (((allw 8).drop 64).take 32).all chk = true := by decide +kernel
set_option maxHeartbeats 0 in
theorem chk_8_3 : (((allw 8).drop 96).take 32).all chk = true := by decide +kernel
set_option maxHeartbeats 0 in
theorem chk_8_4 : (((allw 8).drop 128).take 32).all chk = true := by decide +kernel
set_option maxHeartbeats 0 in
theorem chk_8_5 : (((allw 8).drop 160).take 32).all chk = true := by decide +kernel
set_option maxHeartbeats 0 in
theorem chk_8_6 : (((allw 8).drop 192).take 32).all chk = true := by decide +kernel
set_option maxHeartbeats 0 in
theorem chk_8_7 : (((allw 8).drop 224).take 32).all chk = true := by decide +kernel
theorem in_block {α : Type} (l : List α) {x : α} (h : x ∈ l) : ∃ i, 32 * i < l.length ∧ x ∈ (l.drop (32 * i)).take 32 := by
  obtain ⟨j, hj, rfl⟩ := List.mem_iff_getElem.mp h
  refine ⟨j / 32, by omega, List.mem_iff_getElem.mpr ⟨j % 32, by simp; omega, ?_⟩⟩
  rw [List.getElem_take, List.getElem_drop]
  congr 1; omega
theorem chk_all {n : Nat} (h1 : 1 ≤ n) (h8 : n ≤ 8) : ∀ w ∈ allw n, chk w = true := by
  intro w hw
  by_cases h5 : n ≤ 5
  · exact List.all_eq_true.mp (List.all_eq_true.mp chk_few n (List.mem_range'_1.mpr (by omega))) w hw
  · obtain ⟨i, hi, hm⟩ := in_block _ hw
    rw [allw_len] at hi
    obtain rfl | rfl | rfl : n = 6 ∨ n = 7 ∨ n = 8 := by omega
    · obtain rfl | rfl : i = 0 ∨ i = 1 := by omega
      · exact List.all_eq_true.mp chk_6_0 w hm
      · exact List.all_eq_true.mp chk_6_1 w hm
    · obtain rfl | rfl | rfl | rfl : i = 0 ∨ i = 1 ∨ i = 2 ∨ i = 3 := by omega
      · exact List.all_eq_true.mp chk_7_0 w hm
      · exact List.all_eq_true.mp chk_7_1 w hm
      · exact List.all_eq_true.mp chk_7_2 w hm
      · exact List.all_eq_true.mp chk_7_3 w hm
    · obtain rfl | rfl | rfl | rfl | rfl | rfl | rfl | rfl : i = 0 ∨ i = 1 ∨ i = 2 ∨ i = 3 ∨ i = 4 ∨ i = 5 ∨ i = 6 ∨ i = 7 := by omega
      · exact List.all_eq_true.mp chk_8_0 w hm
      · exact List.all_eq_true.mp chk_8_1 w hm
      · exact List.all_eq_true.mp chk_8_2 w hm
      · exact List.all_eq_true.mp chk_8_3 w hm
      · exact List.all_eq_true.mp chk_8_4 w hm
      · exact List.all_eq_true.mp chk_8_5 w hm
      · exact List.all_eq_true.mp chk_8_6 w hm
      · exact List.all_eq_true.mp chk_8_7 w hm
end K36

end
section
set_option Elab.async false
set_option autoImplicit false
set_option linter.all false
set_option maxRecDepth 100000
set_option maxHeartbeats 2000000
namespace K36
open PySem L2 Mi
theorem chk_of {a : List Nat} (ha : Wd 8 a) (hne : a ≠ []) : chk a = true := by
  exact chk_all (List.length_pos_iff.mpr hne) ha.1 a (wd_mem ha)
theorem betw_ge {r : List Nat} {M : Nat} : ∀ (n : Nat) (w z : List Nat), z ∈ betw r M n w → w.length ≤ z.length
  | 0, w, z, h => by simp [betw] at h
  | n + 1, w, z, h => by
    unfold betw at h
    split at h
    · rcases List.mem_cons.mp h with rfl | h
      · exact Nat.le_refl _
      · have := betw_ge n _ z h
        simp at this; omega
    · simp at h
theorem betw_filter {r : List Nat} (hr : r ≠ []) {m M : Nat} (hm : m ≤ M) : ∀ (n' n : Nat) (w : List Nat), m < w.length + n → M < w.length + n' → betw r m n w = (betw r M n' w).filter fun z => decide (z.length ≤ m)
  | 0, n, w, h, h' => by
    have : ¬ w.length ≤ m := by omega
    cases n <;> simp [betw, this]
  | n' + 1, n, w, h, h' => by
    have hp := List.length_pos_iff.mpr hr
    by_cases hw : w.length ≤ m
    · cases n with
      | zero => omega
      | succ n =>
        rw [betw, if_pos hw, betw, if_pos (by omega), List.filter_cons, if_pos (by simpa using hw), betw_filter hr hm n' n (r ++ w) (by simp; omega) (by simp; omega)]
    · have e : betw r m n w = [] := by cases n <;> simp [betw, hw]
      rw [e]
      symm
      rw [List.filter_eq_nil_iff]
      intro z hz
      have := betw_ge _ _ _ hz
      simp; omega
theorem flat_if {α β : Type} (p : α → Bool) (g : α → List β) : ∀ l : List α, (l.filter p).flatMap g = l.flatMap fun i => if p i = true then g i else []
  | [] => rfl
  | x :: l => by
    rw [List.flatMap_cons, ← flat_if p g l, List.filter_cons]
    by_cases h : p x = true <;> simp [h]
theorem words_one {a b : List Nat} {m : Nat} (ha : Wd 8 a) (hne : a ≠ []) (hm : m ≤ 8) : ((allw m).filter fun w => decide (a ++ w = w ++ b)) = if decide (rot a (m % a.length) = b) then [pre a 9 m] else [] := by
  have e := mem_allw m (pre a 9 m) (pre_len a hne 9 m (by omega)) (pre_wd hne ha 9 m)
  have e1 : ((allw m).filter fun w => decide (a ++ w = w ++ b)) = (allw m).filter fun w => decide (w = pre a 9 m) && decide (rot a (m % a.length) = b) := by
    apply List.filter_congr
    intro w hw
    have := between_iff hne 9 m w b (by omega) (allw_mem m w hw).1
    rw [Bool.eq_iff_iff]; simp [this]
  rw [e1]
  by_cases hq : rot a (m % a.length) = b
  · simp [hq, e]
  · simp [hq]
theorem words_eq {a b : List Nat} {m : Nat} (ha : Wd 8 a) (hne : a ≠ []) (hm : m ≤ 8) : ∃ k, (List.range' 1 a.length).find? (rootP a) = some k ∧ (∃ rest, (List.range' 1 a.length).filter (rootL a) = k :: rest) ∧
    ((List.range (m + 1)).flatMap fun i => (allw i).filter fun w => decide (a ++ w = w ++ b)) = match (List.range a.length).find? (fun k => decide (rot a k = b)) with | none => [] | some j => betw (a.take k) m (m + 1) (a.take j) := by
  have hc := chk_of ha hne
  have hp := List.length_pos_iff.mpr hne
  unfold chk at hc
  cases hk : (List.range' 1 a.length).find? (rootP a) with
  | none => rw [hk] at hc; cases hc
  | some k =>
    rw [hk] at hc
    simp only [Bool.and_eq_true, decide_eq_true_eq, List.all_eq_true] at hc
    obtain ⟨h1, h2⟩ := hc
    refine ⟨k, rfl, List.head?_eq_some_iff.mp h1, ?_⟩
    have e1 : ((List.range (m + 1)).flatMap fun i => (allw i).filter fun w => decide (a ++ w = w ++ b)) = (List.range (m + 1)).flatMap fun i => if decide (rot a (i % a.length) = b) then [pre a 9 i] else [] := by
      rw [List.flatMap_def, List.flatMap_def]
      congr 1
      apply List.map_congr_left
      intro i hi
      exact words_one ha hne (by have := List.mem_range.mp hi; omega)
    rw [e1]
    cases hf : (List.range a.length).find? (fun k => decide (rot a k = b)) with
    | none =>
      have hn := List.find?_eq_none.mp hf
      rw [List.flatMap_eq_nil_iff]
      intro i hi
      have := hn (i % a.length) (List.mem_range.mpr (Nat.mod_lt _ hp))
      simp at this
      simp [this]
    | some j =>
      have hj := List.find?_some hf
      simp only [decide_eq_true_eq] at hj
      subst hj
      have h3 := h2 j (List.mem_of_find?_eq_some hf)
      rw [hf] at h3
      simp only [decide_eq_true_eq] at h3
      have hkm := List.mem_range'_1.mp (List.mem_of_find?_eq_some hk)
      have hr : a.take k ≠ [] := fun z => by
        have := congrArg List.length z
        simp [hne] at this; omega
      have hjl := List.mem_range.mp (List.mem_of_find?_eq_some hf)
      show _ = betw (a.take k) m (m + 1) (a.take j)
      rw [betw_filter hr hm 9 (m + 1) (a.take j) (by omega) (by omega), ← h3, List.filter_flatMap]
      have hrg : List.range (m + 1) = (List.range 9).filter fun i => decide (i ≤ m) := by
        have : ∀ m ≤ 8, List.range (m + 1) = (List.range 9).filter fun i => decide (i ≤ m) := by decide
        exact this m hm
      rw [hrg, flat_if, List.flatMap_def, List.flatMap_def]
      congr 1
      apply List.map_congr_left
      intro i hi
      have := pre_len a hne 9 i (by have := List.mem_range.mp hi; omega)
      by_cases hi2 : i ≤ m
      · rw [if_pos (by simpa using hi2)]
        by_cases hq : rot a (i % a.length) = rot a j <;> simp [hq, this, hi2]
      · rw [if_neg (by simpa using hi2)]
        by_cases hq : rot a (i % a.length) = rot a j <;> simp [hq, this, hi2]
/-- what is due of turned -/
def dueI (a b : List Nat) (n : Nat) : D := match (List.range n).find? (fun k => decide (rot a k = b)) with
  | none => .tup [.str [109, 105, 115, 115, 105, 110, 103]]
  | some k => .tup [.str [116, 111, 108, 100], .tup [.str (a.take k), .str (a.drop k)]]
theorem told_turned {a b : List Nat} (ha : Wd 8 a) (hb : Wd 8 b) (ρ : Mi.Env) : ((m_turned [.str a, .str b]).goP ρ).told = .ok (dueI a b (a.length + 1)) ρ := by
  obtain ⟨h1, h2, h3⟩ := m_turned_eq (ha.mono (by omega)) (hb.mono (by omega) : Wd 60 b)
  unfold dueI
  by_cases hne : a = []
  · subst hne
    rw [h3 rfl]
    by_cases hb0 : b = []
    · subst hb0; simp [rot]
    · have : ¬ [] = b := fun z => hb0 z.symm
      simp [hb0, rot, this]
  · have hp := List.length_pos_iff.mpr hne
    rw [List.range_succ, List.find?_append]
    cases hf : (List.range a.length).find? (fun k => decide (rot a k = b)) with
    | some j => rw [h1 j hf]; simp
    | none =>
      rw [h2 hf hne]
      have := List.find?_eq_none.mp hf 0 (List.mem_range.mpr hp)
      have hl : rot a a.length = rot a 0 := by unfold rot; simp
      simp at this
      simp [hl, this]
theorem wd_pl {n : Nat} {w : List Nat} (h : Wd n w) : (w.all fun c => decide (c < 1114112)) = true := List.all_eq_true.mpr fun c hc => by
  have := h.2 c hc
  simp; omega
theorem wd_take {n : Nat} {w : List Nat} (h : Wd n w) (k : Nat) : Wd n (w.take k) := ⟨by have := h.1; simp; omega, fun c hc => h.2 c (List.mem_of_mem_take hc)⟩
theorem wd_drop {n : Nat} {w : List Nat} (h : Wd n w) (k : Nat) : Wd n (w.drop k) := ⟨by have := h.1; simp; omega, fun c hc => h.2 c (List.mem_of_mem_drop hc)⟩
theorem dueI_ok {a b : List Nat} (ha : Wd 8 a) (n : Nat) : (dueI a b n).pl = true ∧ (dueI a b n).sz ≤ 1000 ∧ ∀ k, (dueI a b n).lay (k + 2) = true := by
  unfold dueI
  have h1 := ha.1
  split
  · exact ⟨by decide, by decide, fun k => rfl⟩
  · rename_i k _
    refine ⟨?_, ?_, fun k => rfl⟩
    · simp only [D.pl, D.pls, wd_pl (wd_take ha k), wd_pl (wd_drop ha k)]; rfl
    · simp [D.sz, D.szs]; omega
theorem same_eq {d : D} (h1 : d.lay 59 = true) (h2 : d.pl = true) (h3 : d.sz ≤ 16000000) : m__law_same [d, d] = .ret (.sh (.bl true)) := by
  show toOut (b__law_same [.sh d, .sh d]) = _
  have h := okRepr_of h1 h2 h3
  simp [b__law_same, big, asR_t, h]
theorem ne_due (u v : List Nat) : fEq (.tup [.str [116, 111, 108, 100], .tup [.str u, .str v]]) (.tup [.str [109, 105, 115, 115, 105, 110, 103]]) = some (.bl false) := by
  have e : dEq (.tup [.str [116, 111, 108, 100], .tup [.str u, .str v]]) (.tup [.str [109, 105, 115, 115, 105, 110, 103]]) = false := by
    unfold dEq
    simp [D.py, D.pys, PyData.eqv, PyData.eqvAll]
  show (pyEq _ _).map _ = _
  unfold pyEq
  rw [e]; rfl
theorem eq_due : fEq (.tup [.str [109, 105, 115, 115, 105, 110, 103]]) (.tup [.str [109, 105, 115, 115, 105, 110, 103]]) = some (.bl true) := by
  have e : dEq (.tup [.str [109, 105, 115, 115, 105, 110, 103]]) (.tup [.str [109, 105, 115, 115, 105, 110, 103]]) = true := by
    unfold dEq
    simp [D.py, D.pys, PyData.eqv, PyData.eqvAll]
  show (pyEq _ _).map _ = _
  unfold pyEq
  rw [e]; rfl
theorem eq_ref : fEq (.tup [.str [114, 101, 102, 117, 115, 101, 100]]) (.tup [.str [114, 101, 102, 117, 115, 101, 100]]) = some (.bl true) := by
  have e : dEq (.tup [.str [114, 101, 102, 117, 115, 101, 100]]) (.tup [.str [114, 101, 102, 117, 115, 101, 100]]) = true := by
    unfold dEq
    simp [D.py, D.pys, PyData.eqv, PyData.eqvAll]
  show (pyEq _ _).map _ = _
  unfold pyEq
  rw [e]; rfl
theorem due_loop {a b : List Nat} (ha : Wd 8 a) (hb : Wd 8 b) {s y3 y4 y5 y6 y7 y9 y11 x : T} : ∃ d', forL (bName 2) l__law_turns_1 ((List.range (a.length + 1)).map fun (i : Nat) => .int i) [s, .sh (.tup [.str [109, 105, 115, 115, 105, 110, 103]]), x, y3, y4, y5, y6, y7, .sh (.str a), y9, .sh (.str b), y11] =
    .nx [s, .sh (dueI a b (a.length + 1)), .sh d', y3, y4, y5, y6, y7, .sh (.str a), y9, .sh (.str b), y11] := by
  obtain ⟨ρ', e, x', rfl, hx'⟩ := forL_inv (f := bName 2) (mb := l__law_turns_1) (fun i ρ => ∃ x, ρ = [s, .sh (dueI a b i), x, y3, y4, y5, y6, y7, .sh (.str a), y9, .sh (.str b), y11] ∧ (i = 0 ∨ ∃ d, x = .sh d)) ((List.range (a.length + 1)).map fun (i : Nat) => .int i) 0 [s, .sh (.tup [.str [109, 105, 115, 115, 105, 110, 103]]), x, y3, y4, y5, y6, y7, .sh (.str a), y9, .sh (.str b), y11] ⟨_, rfl, .inl rfl⟩ (by
    rintro i d hd ρ ⟨x, rfl, -⟩
    obtain ⟨hi, hd'⟩ := List.getElem?_eq_some_iff.mp hd
    obtain rfl : d = .int i := by rw [← hd']; simp
    rw [Nat.zero_add]
    refine ⟨[s, .sh (dueI a b i), .sh (.int i), y3, y4, y5, y6, y7, .sh (.str a), y9, .sh (.str b), y11], [s, .sh (dueI a b (i + 1)), .sh (.int i), y3, y4, y5, y6, y7, .sh (.str a), y9, .sh (.str b), y11], by simp, .inl ?_, _, rfl, .inr ⟨_, rfl⟩⟩
    have la := ha.1
    have e3 : fAdd (.str (a.drop i)) (.str (a.take i)) = some (.str (rot a i)) := fAdd_str (by simp; omega)
    have e1 : dueI a b (i + 1) = match (List.range i).find? (fun k => decide (rot a k = b)) with | some k => .tup [.str [116, 111, 108, 100], .tup [.str (a.take k), .str (a.drop k)]] | none => if rot a i = b then .tup [.str [116, 111, 108, 100], .tup [.str (a.take i), .str (a.drop i)]] else .tup [.str [109, 105, 115, 115, 105, 110, 103]] := by
      unfold dueI
      rw [List.range_succ, List.find?_append]
      cases (List.range i).find? (fun k => decide (rot a k = b)) with
      | some k => simp
      | none => by_cases hq : rot a i = b <;> simp [hq]
    rw [e1]
    unfold dueI
    cases (List.range i).find? (fun k => decide (rot a k = b)) with
    | some k =>
      simp [l__law_turns_1, big, ne_due]
    | none =>
      by_cases hq : rot a i = b
      · simp [l__law_turns_1, big, eq_due, fSl_str (show a.length ≤ 16777216 by omega), cut_take, cut_drop, e3, hq]
      · simp [l__law_turns_1, big, eq_due, fSl_str (show a.length ≤ 16777216 by omega), cut_take, cut_drop, e3, hq])
  simp only [List.length_map, List.length_range, Nat.zero_add] at e
  rcases hx' with hx' | ⟨d, rfl⟩
  · simp at hx'
  · exact ⟨d, e⟩
end K36

end
section
set_option Elab.async false
set_option autoImplicit false
set_option linter.all false
set_option maxRecDepth 100000
set_option maxHeartbeats 2000000
namespace K36
open PySem L2 Mi
theorem pl_int {i : Int} (h : i.natAbs < 1000000) : D.pl (.int i) = true := by
  rw [D.pl, decide_eq_true_eq]
  by_cases h0 : i.natAbs = 0
  · rw [h0]; decide
  · exact (Nat.log2_lt h0).mpr (Nat.lt_of_lt_of_le h (Nat.le_trans (by decide : 1000000 ≤ 2 ^ 20) (Nat.pow_le_pow_right (by decide) (by decide))))
theorem words_loop {a b : List Nat} (ha : Wd 8 a) (hb : Wd 8 b) {s y1 y2 y3 y4 y7 y9 x : T} {m : Nat} (hm : m ≤ 8) : ∃ x', forL (bName 6) l__law_turns_2 ((List.range (m + 1)).map fun (i : Nat) => .int i) [s, y1, y2, y3, y4, .lst [], x, y7, .sh (.str a), y9, .sh (.str b), .un] =
    .nx [s, y1, y2, y3, y4, .lst (((List.range (m + 1)).flatMap fun i => (allw i).filter fun w => decide (a ++ w = w ++ b)).map fun z => .sh (.str z)), x', y7, .sh (.str a), y9, .sh (.str b), .un] := by
  obtain ⟨ρ', e, x', rfl, -⟩ := forL_inv (f := bName 6) (mb := l__law_turns_2) (fun j ρ => ∃ x, ρ = [s, y1, y2, y3, y4, .lst (((List.range j).flatMap fun i => (allw i).filter fun w => decide (a ++ w = w ++ b)).map fun z => .sh (.str z)), x, y7, .sh (.str a), y9, .sh (.str b), .un] ∧ ((List.range j).flatMap fun i => (allw i).filter fun w => decide (a ++ w = w ++ b)).length ≤ 1000 * j) ((List.range (m + 1)).map fun (i : Nat) => .int i) 0 [s, y1, y2, y3, y4, .lst [], x, y7, .sh (.str a), y9, .sh (.str b), .un] ⟨_, rfl, by simp⟩ (by
    rintro i d hd ρ ⟨x, rfl, hx⟩
    obtain ⟨hi, hd'⟩ := List.getElem?_eq_some_iff.mp hd
    obtain rfl : d = .int i := by rw [← hd']; simp
    simp only [List.length_map, List.length_range] at hi
    rw [Nat.zero_add] at hx ⊢
    obtain ⟨t, et, es, eu⟩ := aw_eq (m := i) (by omega)
    generalize hL : ((List.range i).flatMap fun i => (allw i).filter fun w => decide (a ++ w = w ++ b)) = L at hx
    have la := ha.1; have lb := hb.1
    have h2 := allw_len i
    have h3 : 2 ^ i ≤ 2 ^ 8 := Nat.pow_le_pow_right (by decide) (by omega)
    have hfl : ((allw i).filter fun w => decide (a ++ w = w ++ b)).length ≤ 1000 := Nat.le_trans (List.length_filter_le _ _) (by omega)
    have el := lcM_eq (vs := [11]) (mi := bnd (froz (callP m__law_all_words (cons1 (get 6) (cons1 (pur (.str [97, 98])) (pur []))))) fun d => opt (items d)) (f := bName 11) (mc := c__law_turns_2) (te := t__law_turns_2) (ds := (allw i).map .str) (ρ0 := [s, y1, y2, y3, y4, .lst (L.map fun z => .sh (.str z)), .sh (.int i), y7, .sh (.str a), y9, .sh (.str b), .un]) (ρ := [s, y1, y2, y3, y4, .lst (L.map fun z => .sh (.str z)), .sh (.int i), y7, .sh (.str a), y9, .sh (.str b), .un])
      (fun d => match d with | .str w => decide (a ++ w = w ++ b) | _ => false) (fun d => .sh d) (by simp [et, es]) rfl (by simp; omega) fun d hd => by
        obtain ⟨w, hw, rfl⟩ := List.mem_map.mp hd
        have hwl := (allw_mem i w hw).1
        refine ⟨[s, y1, y2, y3, y4, .lst (L.map fun z => .sh (.str z)), .sh (.int i), y7, .sh (.str a), y9, .sh (.str b), .sh (.str w)], [s, y1, y2, y3, y4, .lst (L.map fun z => .sh (.str z)), .sh (.int i), y7, .sh (.str a), y9, .sh (.str b), .sh (.str w)], by simp, ?_, by simp, fun _ => ⟨[s, y1, y2, y3, y4, .lst (L.map fun z => .sh (.str z)), .sh (.int i), y7, .sh (.str a), y9, .sh (.str b), .sh (.str w)], by simp [t__law_turns_2], by simp⟩⟩
        simp [c__law_turns_2, fAdd_str (a := a) (b := w) (by omega), fAdd_str (a := w) (b := b) (by omega)]
    rw [List.filter_map, List.map_map] at el
    refine ⟨[s, y1, y2, y3, y4, .lst (L.map fun z => .sh (.str z)), .sh (.int i), y7, .sh (.str a), y9, .sh (.str b), .un], [s, y1, y2, y3, y4, .lst ((L ++ (allw i).filter fun w => decide (a ++ w = w ++ b)).map fun z => .sh (.str z)), .sh (.int i), y7, .sh (.str a), y9, .sh (.str b), .un], by simp, .inl ?_, .sh (.int i), by rw [List.range_succ, List.flatMap_append, hL]; simp, ?_⟩
    · have el2 : T.strips (((allw i).filter ((fun d => match d with | .str w => decide (a ++ w = w ++ b) | _ => false) ∘ D.str)).map ((fun d => T.sh d) ∘ D.str)) = ((allw i).filter fun w => decide (a ++ w = w ++ b)).map .str := by
        rw [strips_eq, List.map_map]; rfl
      simp only [l__law_turns_2, sbnd_ap, bnd_ap, isL_ap, List.getElem?_cons_succ, List.getElem?_cons_zero, isLR_lst, go_ok, mExtend_ap, froz_ap, el, pur_ap, strip_lst, el2, extR_lst, List.length_map, big_t (show L.length + ((allw i).filter fun w => decide (a ++ w = w ++ b)).length ≤ 16777216 by omega), sel_t, ths_ok, List.set_cons_succ, List.set_cons_zero, List.map_append, List.map_map]
      rfl
    · rw [List.range_succ, List.flatMap_append, hL]
      simp only [List.flatMap_cons, List.flatMap_nil, List.append_nil, List.length_append]
      omega)
  simp only [List.length_map, List.length_range, Nat.zero_add] at e
  exact ⟨x', e⟩
theorem between_told {a b : List Nat} {m : Nat} (ha : Wd 8 a) (hb : Wd 8 b) (hm : m ≤ 8) (hne : a ≠ []) (ρ : Mi.Env) : ((m_between [.str a, .str b, .int m]).goP ρ).told = .ok (.tup [.str [116, 111, 108, 100], .lst (((List.range (m + 1)).flatMap fun i => (allw i).filter fun w => decide (a ++ w = w ++ b)).map .str)]) ρ := by
  obtain ⟨k, hk, -, e⟩ := words_eq (b := b) ha hne hm
  obtain ⟨t, h1, h2⟩ := m_between_eq (ha.mono (by omega) : Wd 60 a) (hb.mono (by omega) : Wd 60 b) (by omega : m ≤ 60) hne hk
  rw [h1, goP_ret, told_ok, h2, e] <;> rfl
theorem turns_9 {a b : List Nat} {cut n : Nat} (ha : Wd 8 a) (hb : Wd 8 b) {s y1 y3 : T} {dk : D} (hs : St n s) (hn : n < 900000) : ∃ s', toOutS (s__law_turns_0_9 [s, y1, .sh dk, y3, .un, .un, .un, .sh (.int cut), .sh (.str a), .un, .sh (.str b), .un]) = .ret (.sh (.bl true)) s' ∧ St (n + 1) s' := by
  have la := ha.1; have lb := hb.1
  by_cases hne : a = []
  · subst hne
    refine ⟨s, ?_, hs.mono (by omega)⟩
    have hbn := m_between_nil (b := b) (m := 3) (hb.mono (by omega)) (by omega)
    rw [show ((3 : Nat) : Int) = 3 from rfl] at hbn
    simp [s__law_turns_0_9, m_root_of_nil, hbn, big, eq_ref, atS_ne hs.ne]
  · obtain ⟨v, s1, e1, hv, h1⟩ := next_eq (m := 9) hs (by omega) (by omega)
    rw [show ((9 : Nat) : Int) = 9 from rfl] at e1
    obtain ⟨k, hk, ⟨rest, hrest⟩, -⟩ := words_eq (b := b) ha hne (show v ≤ 8 by omega)
    have hkm := List.mem_range'_1.mp (List.mem_of_find?_eq_some hk)
    refine ⟨s1, ?_, h1⟩
    have e2 := rng2_nat (m := 1) (n := a.length + 1) (by omega) (by omega)
    simp only [Int.natCast_add, Nat.add_sub_cancel] at e2
    rw [show ((1 : Nat) : Int) = 1 from rfl] at e2
    have el := lcM_eq (vs := [2]) (mi := bnd (cons1 (pur (.int 1)) (cons1 (op2 fAdd (mLen 8) (pur (.int 1))) (pur []))) fun ds => opt (rng2 ds)) (f := bName 2) (mc := c__law_turns_1) (te := t__law_turns_1) (ds := (List.range' 1 a.length).map fun (i : Nat) => .int i) (ρ0 := [s, y1, .sh dk, y3, .un, .un, .un, .sh (.int cut), .sh (.str a), .un, .sh (.str b), .un]) (ρ := [s, y1, .sh dk, y3, .un, .un, .un, .sh (.int cut), .sh (.str a), .un, .sh (.str b), .un])
      (fun d => match d with | .int i => rootL a i.toNat | _ => false) (fun d => .sh d) (by simp [fLen_str (show a.length ≤ 16777216 by omega), e2]) rfl (by simp; omega) fun d hd => by
        obtain ⟨i, hi, rfl⟩ := List.mem_map.mp hd
        have hi' := List.mem_range'_1.mp hi
        refine ⟨[s, y1, .sh (.int i), y3, .un, .un, .un, .sh (.int cut), .sh (.str a), .un, .sh (.str b), .un], [s, y1, .sh (.int i), y3, .un, .un, .un, .sh (.int cut), .sh (.str a), .un, .sh (.str b), .un], by simp, ?_, by simp, fun _ => ⟨[s, y1, .sh (.int i), y3, .un, .un, .un, .sh (.int cut), .sh (.str a), .un, .sh (.str b), .un], by simp [t__law_turns_1], by simp⟩⟩
        have m1 : (a.take i).length * a.length ≤ 16777216 := Nat.le_trans (Nat.mul_le_mul (by simp; omega : (a.take i).length ≤ 8) la) (by decide)
        have m2 : a.length * i ≤ 16777216 := Nat.le_trans (Nat.mul_le_mul la (by omega : i ≤ 8)) (by decide)
        simp [c__law_turns_1, fLen_str (show a.length ≤ 16777216 by omega), fSl_str (show a.length ≤ 16777216 by omega), cut_take, fMul_strN (l := a.take i) (k := a.length) (by omega) m1, fMul_strN (l := a) (k := i) (by omega) m2, rootL]
    rw [List.filter_map] at el
    have e3 : ((List.range' 1 a.length).filter ((fun d => match d with | .int i => rootL a i.toNat | _ => false) ∘ fun (i : Nat) => D.int i)) = k :: rest := by rw [← hrest]; rfl
    rw [e3] at el
    obtain ⟨x', ew⟩ := words_loop (s := s1) (y1 := y1) (y2 := .sh dk) (y3 := y3) (y4 := .sh (.int k)) (y7 := .sh (.int cut)) (y9 := .sh (.int v)) (x := .un) ha hb (show v ≤ 8 by omega)
    have eb := between_told ha hb (show v ≤ 8 by omega) hne
    generalize hL : ((List.range (v + 1)).flatMap fun i => (allw i).filter fun w => decide (a ++ w = w ++ b)) = L at ew eb
    have hLm : ∀ w ∈ L, Wd 8 w ∧ w.length ≤ 8 := fun w hw => by
      rw [← hL, List.mem_flatMap] at hw
      obtain ⟨i, hi, hw⟩ := hw
      have := List.mem_range.mp hi
      obtain ⟨h1, h2⟩ := allw_mem i w (List.mem_filter.mp hw).1
      exact ⟨h2.mono (by omega), by omega⟩
    have hLl : L.length ≤ 9 * 256 := by
      rw [← hL, List.length_flatMap]
      have : ∀ l : List Nat, (∀ i ∈ l, i ≤ 8) → (l.map fun i => ((allw i).filter fun w => decide (a ++ w = w ++ b)).length).sum ≤ l.length * 256 := fun l => by
        induction l with
        | nil => simp
        | cons i l ih =>
          intro h
          have h1 := ih fun j hj => h j (List.mem_cons_of_mem _ hj)
          have h2 := allw_len i
          have h3 : 2 ^ i ≤ 2 ^ 8 := Nat.pow_le_pow_right (by decide) (h i (List.mem_cons_self ..))
          have h4 := List.length_filter_le (fun w => decide (a ++ w = w ++ b)) (allw i)
          simp only [List.map_cons, List.sum_cons, List.length_cons]
          omega
      have := this (List.range (v + 1)) fun i hi => by have := List.mem_range.mp hi; omega
      simp only [List.length_range] at this
      exact Nat.le_trans this (Nat.mul_le_mul_right _ (by omega))
    have e4 := rng1_nat (n := v + 1) (by omega)
    rw [Int.natCast_add, show ((1 : Nat) : Int) = 1 from rfl] at e4
    have e6 := m_root_of_eq (ha.mono (by omega) : Wd 60 a) hne hk
    have ed := fDiv_nat (i := a.length) (j := k) (by omega)
    have hq : a.length / k ≤ 8 := Nat.le_trans (Nat.div_le_self _ _) la
    generalize a.length / k = q at e6 ed hq
    have e7 := m_is_between_eq (ha.mono (by omega) : Wd 60 a) (hb.mono (by omega) : Wd 60 b) ((wd_take ha cut).mono (by omega) : Wd 60 (a.take cut))
    obtain ⟨X, hX⟩ : ∃ X, X = D.lst [.tup [.str [116, 111, 108, 100], .tup [.str (a.take k), .int (q : Int)]], .tup [.str [116, 111, 108, 100], .lst (L.map .str)], .tup [.str [116, 111, 108, 100], .bl (decide (a ++ a.take cut = a.take cut ++ b))]] := ⟨_, rfl⟩
    have hX1 : X.lay 59 = true := by
      rw [hX]
      have : D.lays (L.map .str) 56 = true := by rw [lays_eq, List.all_map]; exact List.all_eq_true.mpr fun _ _ => rfl
      simp [D.lay, D.lays, this]
    have hX2 : X.pl = true := by
      rw [hX]
      have h1 : D.pls (L.map .str) = true := by rw [pls_eq, List.all_map]; exact List.all_eq_true.mpr fun w hw => wd_pl (hLm w hw).1
      have h2 : D.pl (.int (q : Int)) = true := pl_int (by simp; omega)
      simp only [D.pl, D.pls, h1, wd_pl (wd_take ha k)]
      simp only [D.pl] at h2
      rw [h2]; rfl
    have hX3 : X.sz ≤ 16000000 := by
      rw [hX]
      have h1 := szs_le (n := 82) (L.map .str) fun d hd => by
        obtain ⟨w, hw, rfl⟩ := List.mem_map.mp hd
        have := (hLm w hw).2
        simp only [D.sz]; omega
      have h2 : (a.take k).length ≤ 8 := by simp; omega
      simp only [D.sz, D.szs, List.length_map] at h1 ⊢
      have h3 : L.length * (82 + 2) ≤ 9 * 256 * 84 := Nat.mul_le_mul_right _ hLl
      simp only [List.length_cons, List.length_nil]
      omega
    have e8 := same_eq hX1 hX2 hX3
    rw [hX] at e8
    have c1 : fSl (.str a) none (some (cut : Int)) = some (.str (a.take cut)) := by rw [fSl_str (by omega), cut_take]
    have c2 : fSl (.str a) none (some (k : Int)) = some (.str (a.take k)) := by rw [fSl_str (by omega), cut_take]
    have c3 : fAdd (.str a) (.str (a.take cut)) = some (.str (a ++ a.take cut)) := fAdd_str (by simp; omega)
    have c4 : fAdd (.str (a.take cut)) (.str b) = some (.str (a.take cut ++ b)) := fAdd_str (by simp; omega)
    have c5 : fLen (.str a) = some (.int a.length) := fLen_str (by omega)
    have hs1 := h1.ne
    simp [s__law_turns_0_9, s__law_turns_0_10, s__law_turns_0_11, hne, el, isUR_ne _ hs.ne, callSR_ne _ _ _ _ hs.ne, e1]
    simp [s__law_turns_0_12, s__law_turns_0_13, big, e4, ew]
    simp [s__law_turns_0_14, s__law_turns_0_15, e6, eb, e7, c1, big]
    simp [c1, c2, c3, c4, c5, ed, big, e8, atS_ne hs1]
theorem turns_5 {a b : List Nat} {cut n : Nat} (ha : Wd 8 a) (hb : Wd 8 b) {s : T} (hs : St n s) (hn : n < 900000) : ∃ s', toOutS (s__law_turns_0_5 [s, .un, .un, .un, .un, .un, .un, .sh (.int cut), .sh (.str a), .un, .sh (.str b), .un]) = .ret (.sh (.bl true)) s' ∧ St (n + 1) s' := by
  have la := ha.1; have lb := hb.1
  obtain ⟨d', el⟩ := due_loop (s := s) (y3 := .un) (y4 := .un) (y5 := .un) (y6 := .un) (y7 := .sh (.int cut)) (y9 := .un) (y11 := .un) (x := .un) ha hb
  obtain ⟨o1, o2, o3⟩ := dueI_ok (b := b) ha (a.length + 1)
  have et := told_turned ha hb
  generalize dueI a b (a.length + 1) = u at el o1 o2 o3 et
  have ec := m_commute_eq (ha.mono (by omega) : Wd 60 a) (hb.mono (by omega) : Wd 60 b)
  have e8 := same_eq (d := .lst [u, .tup [.str [116, 111, 108, 100], .bl (decide (a ++ b = b ++ a))]]) (by simp [D.lay, D.lays, o3 56]) (by simp only [D.pl, D.pls, o1]; rfl) (by simp [D.sz, D.szs]; omega)
  have c5 : fLen (.str a) = some (.int a.length) := fLen_str (by omega)
  have e4 := rng1_nat (n := a.length + 1) (by omega)
  rw [Int.natCast_add, show ((1 : Nat) : Int) = 1 from rfl] at e4
  obtain ⟨s', h9, hs'⟩ := turns_9 (y1 := .sh u) (y3 := .sh (.lst [u, .tup [.str [116, 111, 108, 100], .bl (decide (a ++ b = b ++ a))]])) (dk := d') (cut := cut) ha hb hs hn
  refine ⟨s', ?_, hs'⟩
  simp [s__law_turns_0_5, s__law_turns_0_6, big, c5, e4, el]
  simp [s__law_turns_0_7, s__law_turns_0_8, et, ec, big, fAdd_str (a := a) (b := b) (by omega), fAdd_str (a := b) (b := a) (by omega), e8, h9]
theorem turns_eq {n : Nat} {t : T} (h : St n t) (hn : n < 800000) : ∃ s, m__law_turns t [] = .ret (.sh (.bl true)) s ∧ St (n + 30) s := by
  obtain ⟨a, s1, e1, ha, h1⟩ := word_eq (m := 8) h (by omega) (by omega)
  obtain ⟨b0, s2, e2, hb0, h2⟩ := word_eq (m := 8) h1 (by omega) (by omega)
  obtain ⟨cut, s3, e3, hc, h3⟩ := next_eq (m := a.length + 1) h2 (by omega) (by omega)
  obtain ⟨v, s4, e4, hv, h4⟩ := next_eq (m := 3) h3 (by omega) (by omega)
  have la := ha.1
  have c5 : fLen (.str a) = some (.int a.length) := fLen_str (by omega)
  rw [Int.natCast_add, show ((1 : Nat) : Int) = 1 from rfl] at e3
  rw [show ((8 : Nat) : Int) = 8 from rfl] at e1 e2
  rw [show ((3 : Nat) : Int) = 3 from rfl] at e4
  have e0 : m__law_turns t [] = toOutS (b__law_turns [t, .un, .un, .un, .un, .un, .un, .un, .un, .un, .un, .un]) := rfl
  by_cases hv0 : 0 < v
  · have hv' : (0 : Int) < v := by omega
    obtain ⟨s', h9, hs'⟩ := turns_5 (cut := cut) ha (wd_rot ha cut) h4 (by omega)
    refine ⟨s', ?_, hs'.mono (by omega)⟩
    rw [e0]
    have e5 : fAdd (.str (a.drop cut)) (.str (a.take cut)) = some (.str (rot a cut)) := fAdd_str (by simp; omega)
    simp [b__law_turns, s__law_turns_0_2, s__law_turns_0_3, s__law_turns_0_4, isUR_ne _ h.ne, isUR_ne _ h1.ne, isUR_ne _ h2.ne, isUR_ne _ h3.ne, callSR_ne _ _ _ _ h.ne, callSR_ne _ _ _ _ h1.ne, callSR_ne _ _ _ _ h2.ne, callSR_ne _ _ _ _ h3.ne, e1, e2, e3, e4, c5, hv0, fSl_str (show a.length ≤ 16777216 by omega), cut_take, cut_drop, e5, h9]
  · obtain ⟨s', h9, hs'⟩ := turns_5 (cut := cut) ha hb0 h4 (by omega)
    refine ⟨s', ?_, hs'.mono (by omega)⟩
    rw [e0]
    simp [b__law_turns, s__law_turns_0_2, s__law_turns_0_3, s__law_turns_0_4, isUR_ne _ h.ne, isUR_ne _ h1.ne, isUR_ne _ h2.ne, isUR_ne _ h3.ne, callSR_ne _ _ _ _ h.ne, callSR_ne _ _ _ _ h1.ne, callSR_ne _ _ _ _ h2.ne, callSR_ne _ _ _ _ h3.ne, e1, e2, e3, e4, c5, hv0, h9]
end K36

end
section
set_option Elab.async false
set_option autoImplicit false
set_option linter.all false
set_option maxRecDepth 100000
set_option maxHeartbeats 2000000
namespace K36
open PySem L2 Mi
abbrev Row := List (Nat × List Nat)
def rowD (r : Row) : List (D × D) := r.map fun x => (.str [x.1], .str x.2)
def cap (c : Nat) : Bool := decide (65 ≤ c ∧ c ≤ 90)
def key1 (c : Nat) : List Key := [.inr (S [c])]
theorem dKey_1 (c : Nat) : dKey false (.str [c]) = some (key1 c) := rfl
theorem key1_inj {a b : Nat} : (some (key1 a) = some (key1 b)) ↔ a = b := by
  constructor
  · intro h
    have h := Option.some.inj h
    unfold key1 at h
    have h := Sum.inr.inj (List.cons.inj h).1
    have h := S_inj.mp h
    exact (List.cons.inj h).1
  · rintro rfl; rfl
theorem lookA_row (r : Row) (c : Nat) : lookA false ((rowD r).map shT) (key1 c) = (r.lookup c).map fun v => T.sh (.str v) := by
  unfold lookA
  induction r with
  | nil => rfl
  | cons x r ih =>
    show Option.map _ (List.find? _ ((D.str [x.1], T.sh (.str x.2)) :: (rowD r).map shT)) = _
    rw [List.find?_cons]
    have e : decide (dKey false (D.str [x.1]) = some (key1 c)) = decide (x.1 = c) := by rw [dKey_1]; simp only [key1_inj]
    by_cases h : x.1 = c
    · subst h
      simp [e, List.lookup]
    · have : (c == x.1) = false := by simp; exact fun z => h z.symm
      simp only [e, h, decide_false, List.lookup, this]
      exact ih
theorem fLook_row (r : Row) (c : Nat) : fLook (.sh (.dct false (rowD r))) (.str [c]) = some ((r.lookup c).map fun v => T.sh (.str v)) := by
  show (match dKey false (D.str [c]) with | some k => some (lookA false ((rowD r).map shT) k) | none => none) = _
  rw [dKey_1]; dsimp only; rw [lookA_row]
theorem putA_new {r : Row} {c : Nat} (h : r.lookup c = none) (v : List Nat) : putA false ((rowD r).map shT) (.str [c]) (key1 c) (.sh (.str v)) = (rowD (r ++ [(c, v)])).map shT := by
  unfold putA
  rw [if_neg]
  · simp [rowD, shT]
  · rw [List.any_eq_true]
    rintro ⟨p, hp, h2⟩
    simp only [rowD, List.map_map, List.mem_map, Function.comp, shT] at hp
    obtain ⟨x, hx, rfl⟩ := hp
    rw [dKey_1] at h2
    simp only [key1_inj, decide_eq_true_eq] at h2
    have := List.lookup_eq_none_iff.mp h x hx
    simp [h2] at this
theorem look_app (r : Row) (c d : Nat) (v : List Nat) : (r ++ [(c, v)]).lookup d = (r.lookup d).or (if d = c then some v else none) := by
  induction r with
  | nil =>
    by_cases h : d = c
    · simp [List.lookup, h]
    · have : (d == c) = false := by simp [h]
      simp [List.lookup, h, this]
  | cons x r ih =>
    simp only [List.cons_append, List.lookup]
    cases h : d == x.1 <;> simp [ih]
/-- the pattern by the row -/
def putR (r : Row) : List Nat → List Nat
  | [] => []
  | c :: p => (r.lookup c).getD [c] ++ putR r p
def Rl (n : Nat) (r : Row) : Prop := ∀ x ∈ r, x.2.length ≤ n
theorem Rl.look {n : Nat} {r : Row} (h : Rl n r) {c : Nat} {v : List Nat} (e : r.lookup c = some v) : v.length ≤ n := by
  induction r with
  | nil => cases e
  | cons x r ih =>
    simp only [List.lookup] at e
    cases hc : c == x.1 with
    | true => rw [hc] at e; cases e; exact h x (List.mem_cons_self ..)
    | false => rw [hc] at e; exact ih (fun y hy => h y (List.mem_cons_of_mem _ hy)) e
theorem Rl.get {n : Nat} {r : Row} (h : Rl n r) (hn : 1 ≤ n) (c : Nat) : ((r.lookup c).getD [c]).length ≤ n := by
  cases e : r.lookup c with
  | none => simpa using hn
  | some v => exact h.look e
theorem putR_len {n : Nat} {r : Row} (h : Rl n r) (hn : 1 ≤ n) : ∀ p, (putR r p).length ≤ n * p.length
  | [] => by simp [putR]
  | c :: p => by
    have h1 := putR_len h hn p
    have h2 := h.get hn c
    rw [putR, List.length_append, List.length_cons, Nat.mul_succ]; omega
theorem put_loop {r : Row} {n : Nat} (h : Rl n r) (hn : 1 ≤ n) {P : T} (hr : n ≤ 1000) : ∀ (p : List Nat) (acc : List Nat) (x : T), acc.length + n * p.length ≤ 1000000 → ∃ x', forL (bName 3) l__law_put_1 (p.map fun c => .str [c]) [P, .sh (.dct false (rowD r)), .sh (.str acc), x] = .nx [P, .sh (.dct false (rowD r)), .sh (.str (acc ++ putR r p)), x']
  | [], acc, x, _ => ⟨x, by simp [putR]⟩
  | c :: p, acc, x, hl => by
    rw [List.length_cons, Nat.mul_succ] at hl
    have h2 := h.get hn c
    obtain ⟨x', e⟩ := put_loop h hn (P := P) hr p (acc ++ (r.lookup c).getD [c]) (.sh (.str [c])) (by rw [List.length_append]; omega)
    refine ⟨x', ?_⟩
    have es : l__law_put_1 [P, .sh (.dct false (rowD r)), .sh (.str acc), .sh (.str [c])] = .nx [P, .sh (.dct false (rowD r)), .sh (.str (acc ++ (r.lookup c).getD [c])), .sh (.str [c])] := by
      have ea : fAdd (.str acc) (.str ((r.lookup c).getD [c])) = some (.str (acc ++ (r.lookup c).getD [c])) := fAdd_str (by omega)
      cases hc : r.lookup c with
      | none => rw [hc] at ea; simp at ea; simp [l__law_put_1, fLook_row, hc, ea]
      | some v => rw [hc] at ea; simp at ea; simp [l__law_put_1, fLook_row, hc, ea]
    rw [List.map_cons, forL_cons (ρ1 := [P, .sh (.dct false (rowD r)), .sh (.str acc), .sh (.str [c])]) (by simp), es, loopK_nx, e, putR, List.append_assoc]
theorem m_put_eq {r : Row} {p : List Nat} {n : Nat} (h : Rl n r) (hn : 1 ≤ n) (hr : n ≤ 1000) (hp : p.length ≤ 100) : m__law_put [.str p, .dct false (rowD r)] = .ret (.sh (.str (putR r p))) := by
  obtain ⟨x', e⟩ := put_loop h hn (P := .sh (.str p)) hr p [] .un (by
    have := Nat.mul_le_mul hr hp
    simp; omega)
  show toOut (b__law_put [.sh (.str p), .sh (.dct false (rowD r)), .un, .un]) = _
  simp [b__law_put, s__law_put_0_2, s__law_put_0_3, e]
/-- unknowns, as they are met, besides those of s -/
def unk : List Nat → List Nat → List Nat
  | [], _ => []
  | c :: p, s => if cap c = true ∧ c ∉ s then c :: unk p (s ++ [c]) else unk p s
/-- patterns' letters -/
def Pt (p : List Nat) : Prop := ∀ c ∈ p, (65 ≤ c ∧ c ≤ 90) ∨ (97 ≤ c ∧ c ≤ 122)
theorem unk_loop {P : T} : ∀ (p : List Nat) (s : List Nat) (x : T), Pt p → s.length + p.length ≤ 1000 → ∃ x', forL (bName 2) l__law_unknowns_1 (p.map fun c => .str [c]) [P, .lst (s.map fun c => .sh (.str [c])), x] = .nx [P, .lst ((s ++ unk p s).map fun c => .sh (.str [c])), x']
  | [], s, x, _, _ => ⟨x, by simp [unk]⟩
  | c :: p, s, x, hp, hl => by
    rw [List.length_cons] at hl
    have hc := hp c (List.mem_cons_self ..)
    have hp' : Pt p := fun d hd => hp d (List.mem_cons_of_mem _ hd)
    have elow : fLower (.str [c]) = some (.str [low1 c]) := by
      have : ([c].all fun c => decide (c < 128)) = true := by simp; omega
      show (if ([c].all fun c => decide (c < 128)) && decide ([c].length ≤ 5592405) then some (D.str ([c].map low1)) else none) = _
      rw [this]; rfl
    have ein : fInL (.str [c]) (.lst (T.strips (s.map fun c => T.sh (.str [c])))) = some (decide (c ∈ s)) := by
      have := fInL_strs [c] (s.map fun c => [c])
      rw [List.map_map] at this
      rw [strips_shf]
      refine this.trans ?_
      congr 1
      rw [decide_eq_decide]; simp
    have hlow : (low1 c = c) ↔ cap c = false := by
      unfold low1 cap
      by_cases h : 65 ≤ c ∧ c ≤ 90
      · rw [if_pos h]; simp [h]
      · rw [if_neg h]; simp; omega
    unfold unk
    by_cases hq : cap c = true ∧ c ∉ s
    · rw [if_pos hq]
      obtain ⟨x', e⟩ := unk_loop (P := P) p (s ++ [c]) (.sh (.str [c])) hp' (by simp; omega)
      refine ⟨x', ?_⟩
      have hlw : ¬ low1 c = c := fun z => by rw [hlow.mp z] at hq; cases hq.1
      have es : l__law_unknowns_1 [P, .lst (s.map fun c => .sh (.str [c])), .sh (.str [c])] = .nx [P, .lst ((s ++ [c]).map fun c => .sh (.str [c])), .sh (.str [c])] := by
        simp [l__law_unknowns_1, elow, hlw, inPR_lst ein, hq.2, big_t (show s.length + 1 ≤ 16777216 by omega)]
      rw [List.map_cons, forL_cons (ρ1 := [P, .lst (s.map fun c => .sh (.str [c])), .sh (.str [c])]) (by simp), es, loopK_nx, e]
      simp
    · rw [if_neg hq]
      obtain ⟨x', e⟩ := unk_loop (P := P) p s (.sh (.str [c])) hp' (by omega)
      refine ⟨x', ?_⟩
      have es : l__law_unknowns_1 [P, .lst (s.map fun c => .sh (.str [c])), .sh (.str [c])] = .nx [P, .lst (s.map fun c => .sh (.str [c])), .sh (.str [c])] := by
        by_cases hcap : cap c = true
        · have hcs : c ∈ s := Classical.byContradiction fun z => hq ⟨hcap, z⟩
          have hlw : ¬ low1 c = c := fun z => by rw [hlow.mp z] at hcap; cases hcap
          simp [l__law_unknowns_1, elow, hlw, inPR_lst ein, hcs]
        · have hlw : low1 c = c := hlow.mpr (by simpa using hcap)
          simp [l__law_unknowns_1, elow, hlw]
      rw [List.map_cons, forL_cons (ρ1 := [P, .lst (s.map fun c => .sh (.str [c])), .sh (.str [c])]) (by simp), es, loopK_nx, e]
theorem m_unk_eq {p : List Nat} (hp : Pt p) (hl : p.length ≤ 100) : m__law_unknowns [.str p] = .ret (.lst ((unk p []).map fun c => .sh (.str [c]))) := by
  obtain ⟨x', e⟩ := unk_loop (P := .sh (.str p)) p [] .un hp (by simp; omega)
  simp only [List.map_nil, List.nil_append] at e
  show toOut (b__law_unknowns [.sh (.str p), .un, .un]) = _
  simp [b__law_unknowns, s__law_unknowns_0_2, s__law_unknowns_0_3, big, e]
/-- the room that a pattern wants at least -/
def room (l : Nat) (r : Row) : List Nat → Nat
  | [] => 0
  | c :: p => (if cap c = true then ((r.lookup c).map List.length).getD l else 1) + room l r p
theorem cap_mem {c : Nat} : decide (c ∈ ([65, 66, 67, 68, 69, 70, 71, 72, 73, 74, 75, 76, 77, 78, 79, 80, 81, 82, 83, 84, 85, 86, 87, 88, 89, 90] : List Nat)) = cap c := by
  unfold cap
  rw [decide_eq_decide]
  simp only [List.mem_cons, List.not_mem_nil, or_false]
  omega
theorem small_mem {c : Nat} : (c ∈ ([97, 98, 99, 100, 101, 102, 103, 104, 105, 106, 107, 108, 109, 110, 111, 112, 113, 114, 115, 116, 117, 118, 119, 120, 121, 122] : List Nat)) ↔ 97 ≤ c ∧ c ≤ 122 := by
  simp only [List.mem_cons, List.not_mem_nil, or_false]
  omega
theorem m_room_eq {p : List Nat} {r : Row} {l n : Nat} (hr : Rl n r) (hn : n ≤ 1000) (hl : l ≤ 1) (hp : p.length ≤ 100) : m_room_for [.str p, .dct false (rowD r), .int l] = .ret (.sh (.int (room l r p))) := by
  have e := lcM_map (vs := [3]) (mi := bnd (get 0) fun d => opt (items d)) (f := bName 3) (te := t_room_for_1) (ds := p.map fun c => .str [c]) (ρ0 := [.sh (.str p), .sh (.dct false (rowD r)), .sh (.int l), .un]) (ρ := [.sh (.str p), .sh (.dct false (rowD r)), .sh (.int l), .un])
    (fun d => match d with | .str [c] => .sh (.int ((if cap c = true then ((r.lookup c).map List.length).getD l else 1 : Nat) : Int)) | _ => .un) (by simp) rfl (by simp; omega) fun d hd => by
      obtain ⟨c, hc, rfl⟩ := List.mem_map.mp hd
      refine ⟨[.sh (.str p), .sh (.dct false (rowD r)), .sh (.int l), .sh (.str [c])], [.sh (.str p), .sh (.dct false (rowD r)), .sh (.int l), .sh (.str [c])], by simp, ?_, by simp⟩
      by_cases hcap : cap c = true
      · have em := fMul_strN (l := [120]) (k := l) (by omega) (by simp; omega)
        have el : (List.replicate l [120]).flatten.length = l := by simp
        cases hlk : r.lookup c with
        | none => simp only [t_room_for_1, shar_ap, mIte_ap, bnd_ap, op2_ap, get_ap, List.getElem?_cons_succ, List.getElem?_cons_zero, getT_sh, go_ok, pur_ap, fIn_chr, opt_sm, cap_mem, hcap, asB_bl, selM_t, opL_ap, cons1_ap, mDgetx_ap, isDi_ap, isDiR_sh, em, dgxR_s, fLook_row, hlk, Option.map_none, dgR_n, on1_ap, fLen_str (l := (List.replicate l [120]).flatten) (by rw [el]; omega), el, Option.getD_none, if_true]
        | some v => simp only [t_room_for_1, shar_ap, mIte_ap, bnd_ap, op2_ap, get_ap, List.getElem?_cons_succ, List.getElem?_cons_zero, getT_sh, go_ok, pur_ap, fIn_chr, opt_sm, cap_mem, hcap, asB_bl, selM_t, opL_ap, cons1_ap, mDgetx_ap, isDi_ap, isDiR_sh, em, dgxR_s, fLook_row, hlk, Option.map_some, dgR_s, on1_ap, fLen_str (l := v) (by have := hr.look hlk; omega), Option.getD_some, if_true]
      · have hcap' : cap c = false := by simpa using hcap
        simp only [t_room_for_1, shar_ap, mIte_ap, bnd_ap, op2_ap, get_ap, List.getElem?_cons_succ, List.getElem?_cons_zero, getT_sh, go_ok, pur_ap, fIn_chr, opt_sm, cap_mem, hcap', asB_bl, selM_f]
        rfl
  rw [List.map_map] at e
  have e2 : T.strips (p.map ((fun d => match d with | .str [c] => T.sh (.int ((if cap c = true then ((r.lookup c).map List.length).getD l else 1 : Nat) : Int)) | _ => .un) ∘ fun c => D.str [c])) = p.map fun c => .int ((if cap c = true then ((r.lookup c).map List.length).getD l else 1 : Nat) : Int) := by
    rw [strips_eq, List.map_map]; rfl
  have e3 : ∀ p : List Nat, (p.map fun c => (((if cap c = true then ((r.lookup c).map List.length).getD l else 1 : Nat)) : Int)).sum = (room l r p : Int) := fun p => by
    induction p with
    | nil => rfl
    | cons c p ih => rw [List.map_cons, List.sum_cons, ih, room]; omega
  have e4 : fSum (.lst (p.map fun c => .int ((if cap c = true then ((r.lookup c).map List.length).getD l else 1 : Nat) : Int))) = some (.int (room l r p)) := by rw [fSum_map, e3]
  show toOut (b_room_for [.sh (.str p), .sh (.dct false (rowD r)), .sh (.int l), .un]) = _
  simp only [b_room_for, sbnd_ap, shar_ap, opL_ap, cons1_ap, froz_ap, e, go_ok, pur_ap, strip_lst, e2, bnd_ap, on1_ap, e4, opt_sm, ths_ok, toOut_rt]
end K36

end
section
set_option Elab.async false
set_option autoImplicit false
set_option linter.all false
set_option maxRecDepth 100000
set_option maxHeartbeats 2000000
namespace K36
open PySem L2 Mi
/-- all matches, shorter words for first unknowns first -/
def mt (w : List Nat) (l : Nat) : List Nat → Nat → Row → List Row
  | [], a, r => if a = w.length then [r] else []
  | c :: p, a, r => if cap c = false ∨ (r.lookup c).isSome = true
    then (if (w.drop a).take ((r.lookup c).getD [c]).length = (r.lookup c).getD [c] then mt w l p (a + ((r.lookup c).getD [c]).length) r else [])
    else ((List.range' l (max l (w.length - a - room l r p) + 1 - l)).filter fun m => decide (a + m ≤ w.length)).flatMap fun m => mt w l p (a + m) (r ++ [(c, (w.drop a).take m)])
def cn (w : List Nat) (l : Nat) : List Nat → Nat → Row → Nat
  | [], a, r => 1
  | c :: p, a, r => 1 + if cap c = false ∨ (r.lookup c).isSome = true
    then (if (w.drop a).take ((r.lookup c).getD [c]).length = (r.lookup c).getD [c] then cn w l p (a + ((r.lookup c).getD [c]).length) r else 0)
    else (((List.range' l (max l (w.length - a - room l r p) + 1 - l)).filter fun m => decide (a + m ≤ w.length)).map fun m => cn w l p (a + m) (r ++ [(c, (w.drop a).take m)])).sum
abbrev Fr := Nat × Nat × Row
def frT (f : Fr) : T := .sh (.tup [.int (f.1 : Int), .int (f.2.1 : Int), .dct false (rowD f.2.2)])
def roT (r : Row) : T := .sh (.dct false (rowD r))
/-- what is pushed for a place, the last one first -/
def ch (w : List Nat) (l : Nat) (c : Nat) (p : List Nat) (f : Fr) : List Fr :=
  if cap c = false ∨ (f.2.2.lookup c).isSome = true
    then (if (w.drop f.2.1).take ((f.2.2.lookup c).getD [c]).length = (f.2.2.lookup c).getD [c] then [(f.1 + 1, f.2.1 + ((f.2.2.lookup c).getD [c]).length, f.2.2)] else [])
    else ((List.range' l (max l (w.length - f.2.1 - room l f.2.2 p) + 1 - l)).filter fun m => decide (f.2.1 + m ≤ w.length)).map fun m => (f.1 + 1, f.2.1 + m, f.2.2 ++ [(c, (w.drop f.2.1).take m)])
structure FrOk (p w : List Nat) (f : Fr) : Prop where
  pl : f.1 ≤ p.length
  at_ : f.2.1 ≤ w.length
  rl : Rl w.length f.2.2
  ln : f.2.2.length ≤ f.1
theorem push_loop {P L M Dn x10 x11 : T} {w : List Nat} {f : Fr} {c : Nat} (hw : w.length ≤ 1000) (ha : f.2.1 ≤ w.length) (hr : f.2.2.lookup c = none) (hrl : f.2.2.length ≤ 1000) : ∀ (ms : List Nat) (line : List T) (x : T), line.length + ms.length ≤ 16000000 →
    ∃ x', forL (bName 12) l_known_matches_1 (ms.map fun (m : Nat) => .int m) [P, .sh (.str w), L, M, Dn, .lst line, .sh (.int f.1), .sh (.int f.2.1), .sh (.dct false (rowD f.2.2)), .sh (.str [c]), x10, x11, x] =
      .nx [P, .sh (.str w), L, M, Dn, .lst (line ++ (ms.filter fun m => decide (f.2.1 + m ≤ w.length)).map fun m => frT (f.1 + 1, f.2.1 + m, f.2.2 ++ [(c, (w.drop f.2.1).take m)])), .sh (.int f.1), .sh (.int f.2.1), .sh (.dct false (rowD f.2.2)), .sh (.str [c]), x10, x11, x']
  | [], line, x, _ => ⟨x, by simp⟩
  | m :: ms, line, x, hl => by
    rw [List.length_cons] at hl
    have eL : fLen (.str w) = some (.int w.length) := fLen_str (by omega)
    by_cases h : f.2.1 + m ≤ w.length
    · obtain ⟨x', e⟩ := push_loop (P := P) (L := L) (M := M) (Dn := Dn) (x10 := x10) (x11 := x11) hw ha hr hrl ms (line ++ [frT (f.1 + 1, f.2.1 + m, f.2.2 ++ [(c, (w.drop f.2.1).take m)])]) (.sh (.int m)) (by simp; omega)
      refine ⟨x', ?_⟩
      have h' : ((f.2.1 : Int) + (m : Int)) ≤ (w.length : Int) := by omega
      have ec : cut w (some (f.2.1 : Int)) (some ((f.2.1 : Int) + (m : Int))) = (w.drop f.2.1).take m := by
        have := cut_mid w f.2.1 (f.2.1 + m)
        rw [Int.natCast_add, show f.2.1 + m - f.2.1 = m by omega] at this; exact this
      have ep : T.strip (.dct false (putA false ((rowD f.2.2).map shT) (.str [c]) (key1 c) (.sh (.str ((w.drop f.2.1).take m))))) = .dct false (rowD (f.2.2 ++ [(c, (w.drop f.2.1).take m)])) := by
        rw [putA_new hr, strip_dct, stripKs_shT]
      have es : l_known_matches_1 [P, .sh (.str w), L, M, Dn, .lst line, .sh (.int f.1), .sh (.int f.2.1), .sh (.dct false (rowD f.2.2)), .sh (.str [c]), x10, x11, .sh (.int m)] =
          .nx [P, .sh (.str w), L, M, Dn, .lst (line ++ [frT (f.1 + 1, f.2.1 + m, f.2.2 ++ [(c, (w.drop f.2.1).take m)])]), .sh (.int f.1), .sh (.int f.2.1), .sh (.dct false (rowD f.2.2)), .sh (.str [c]), x10, x11, .sh (.int m)] := by
        have hl2 : (rowD f.2.2).length < 16000000 := by unfold rowD; simp; omega
        simp [l_known_matches_1, eL, h', fSl_str (l := w) (by omega), ec, asDk_ap hl2, dKey_1, -strip_dct, ep, big_t (show line.length + 1 ≤ 16777216 by omega), show big 3 = true from rfl, frT]
      rw [List.map_cons, forL_cons (ρ1 := [P, .sh (.str w), L, M, Dn, .lst line, .sh (.int f.1), .sh (.int f.2.1), .sh (.dct false (rowD f.2.2)), .sh (.str [c]), x10, x11, .sh (.int m)]) (by simp), es, loopK_nx, e, List.filter_cons, if_pos (by simpa using h)]
      simp
    · obtain ⟨x', e⟩ := push_loop (P := P) (L := L) (M := M) (Dn := Dn) (x10 := x10) (x11 := x11) hw ha hr hrl ms line (.sh (.int m)) (by omega)
      refine ⟨x', ?_⟩
      have h' : ¬ ((f.2.1 : Int) + (m : Int)) ≤ (w.length : Int) := by omega
      have es : l_known_matches_1 [P, .sh (.str w), L, M, Dn, .lst line, .sh (.int f.1), .sh (.int f.2.1), .sh (.dct false (rowD f.2.2)), .sh (.str [c]), x10, x11, .sh (.int m)] =
          .nx [P, .sh (.str w), L, M, Dn, .lst line, .sh (.int f.1), .sh (.int f.2.1), .sh (.dct false (rowD f.2.2)), .sh (.str [c]), x10, x11, .sh (.int m)] := by
        simp [l_known_matches_1, eL, h']
      rw [List.map_cons, forL_cons (ρ1 := [P, .sh (.str w), L, M, Dn, .lst line, .sh (.int f.1), .sh (.int f.2.1), .sh (.dct false (rowD f.2.2)), .sh (.str [c]), x10, x11, .sh (.int m)]) (by simp), es, loopK_nx, e, List.filter_cons, if_neg (by simpa using h)]
theorem rng_down {l h : Nat} (hl : l ≤ h + 1) (hh : h < 100000) : rng3 [.int (h : Int), .int ((l : Int) - 1), .int (-1)] = some (((List.range' l (h + 1 - l)).reverse).map fun (m : Nat) => .int m) := by
  rw [rng3_eq (by omega) (by omega), show ((h : Int) - ((l : Int) - 1)).toNat = h + 1 - l by omega]
  congr 1
  apply List.ext_getElem
  · simp
  · intro i h1 h2
    simp at h1
    simp only [List.getElem_map, List.getElem_range, List.getElem_reverse, List.getElem_range', List.length_range', D.int.injEq]
    omega
/-- a turn of the loop at a place -/
theorem km_step {p w : List Nat} {l most : Nat} {f : Fr} {c : Nat} {q : List Nat} {done line : List T} {x6 x7 x8 x9 x10 x11 x12 : T} (ok : FrOk p w f) (hd : p.drop f.1 = c :: q) (hp : p.length ≤ 100) (hw2 : w.length ≤ 60) (hl : l ≤ 1) (hln : line.length + 1000 ≤ 16000000) (hPt : Pt p) :
    ∃ y6 y7 y8 y9 y10 y11 y12, l_known_matches_2 [.sh (.str p), .sh (.str w), .sh (.int l), .sh (.int most), .lst done, .lst (line ++ [frT f]), x6, x7, x8, x9, x10, x11, x12] =
      .nx [.sh (.str p), .sh (.str w), .sh (.int l), .sh (.int most), .lst done, .lst (line ++ (ch w l c q f).reverse.map frT), y6, y7, y8, y9, y10, y11, y12] := by
  obtain ⟨place, a, r⟩ := f
  obtain ⟨h1, h2, h3, h4⟩ := ok
  dsimp only at h1 h2 h3 h4 hd
  have hlt : place < p.length := by
    have := congrArg List.length hd
    simp at this; omega
  have hc : p[place]? = some c := by
    have := List.getElem?_drop (xs := p) (i := place) (j := 0)
    rw [hd] at this; simpa using this.symm
  have hq : p.drop (place + 1) = q := by
    have := List.drop_drop (l := p) (i := 1) (j := place)
    rw [hd] at this; simpa [Nat.add_comm] using this.symm
  have hcp := hPt c (List.mem_of_getElem? hc)
  have ne : ¬ (place : Int) = (p.length : Int) := by omega
  have eP : fLen (.str p) = some (.int p.length) := fLen_str (by omega)
  have eL : fLen (.str w) = some (.int w.length) := fLen_str (by omega)
  have e9 : fIx (.str p) (.int (place : Int)) = some (.str [c]) := fIx_str (by omega) (atI_of hc)
  have ecut : cut p (some ((place : Int) + 1)) none = q := by
    have := cut_drop p (place + 1)
    rw [Int.natCast_add] at this
    rw [← hq]; exact this
  have er := m_room_eq (p := q) (r := r) (l := l) (n := 1000) (fun x hx => Nat.le_trans (h3 x hx) (by omega)) (by omega) hl (by have := congrArg List.length hd; simp at this; omega)
  have eD := fLook_row r c
  have eDn := dinR_s (ρ := [T.sh (.str p), .sh (.str w), .sh (.int l), .sh (.int most), .lst done, .lst line, .sh (.int place), .sh (.int a), .sh (.dct false (rowD r)), .sh (.str [c]), .sh (.int ((w.length : Int) - (a : Int) - (room l r q : Int))), x11, x12]) (n := false) eD
  by_cases hk : cap c = false ∨ (r.lookup c).isSome = true
  · have hown : ((r.lookup c).getD [c]).length ≤ 1000 := by
      cases e : r.lookup c with
      | none => simp
      | some v => have := Rl.look h3 e; simp; omega
    have eo : ∀ ρ : Mi.Env, dgxR ρ (.str [c]) (.str [c]) (some (.sh (.dct false (rowD r)))) = .ok (.str ((r.lookup c).getD [c])) ρ := fun ρ => by
      rw [dgxR_s, eD]
      cases r.lookup c <;> rfl
    have et : (decide (97 ≤ c ∧ c ≤ 122) = true) ∨ (decide (97 ≤ c ∧ c ≤ 122) = false ∧ (Option.map (fun v => T.sh (.str v)) (r.lookup c)).isSome = true) := by
      rcases hk with hk | hk
      · left; unfold cap at hk; simp at hk ⊢; omega
      · by_cases h : 97 ≤ c ∧ c ≤ 122
        · left; simpa using h
        · right; exact ⟨by simpa using h, by simpa using hk⟩
    have ecm : cut w (some (a : Int)) (some ((a : Int) + (((r.lookup c).getD [c]).length : Int))) = (w.drop a).take ((r.lookup c).getD [c]).length := by
      have := cut_mid w a (a + ((r.lookup c).getD [c]).length)
      rw [Int.natCast_add, show a + ((r.lookup c).getD [c]).length - a = ((r.lookup c).getD [c]).length by omega] at this; exact this
    have em : decide (c ∈ ([97, 98, 99, 100, 101, 102, 103, 104, 105, 106, 107, 108, 109, 110, 111, 112, 113, 114, 115, 116, 117, 118, 119, 120, 121, 122] : List Nat)) = decide (97 ≤ c ∧ c ≤ 122) := by rw [decide_eq_decide]; exact small_mem
    unfold ch
    dsimp only
    rw [if_pos hk]
    generalize (r.lookup c).getD [c] = own at hown eo ecm
    have eow : fLen (.str own) = some (.int own.length) := fLen_str (by omega)
    refine ⟨.sh (.int place), .sh (.int a), .sh (.dct false (rowD r)), .sh (.str [c]), .sh (.int ((w.length : Int) - (a : Int) - (room l r q : Int))), .sh (.str own), x12, ?_⟩
    have etest : ((opt (fIn false (D.str [c]) (D.str [97, 98, 99, 100, 101, 102, 103, 104, 105, 106, 107, 108, 109, 110, 111, 112, 113, 114, 115, 116, 117, 118, 119, 120, 121, 122])) [T.sh (.str p), .sh (.str w), .sh (.int l), .sh (.int most), .lst done, .lst line, .sh (.int place), .sh (.int a), .sh (.dct false (rowD r)), .sh (.str [c]), .sh (.int ((w.length : Int) - (a : Int) - (room l r q : Int))), x11, x12]).go asB).selM (pur true) (bnd (mDin false 8 (Mi.get 9)) asB) = .ok true [T.sh (.str p), .sh (.str w), .sh (.int l), .sh (.int most), .lst done, .lst line, .sh (.int place), .sh (.int a), .sh (.dct false (rowD r)), .sh (.str [c]), .sh (.int ((w.length : Int) - (a : Int) - (room l r q : Int))), x11, x12] := by
      rw [fIn_chr, em, opt_sm, go_ok, asB_bl]
      rcases et with h | ⟨h, h'⟩
      · rw [h, selM_t]; rfl
      · rw [h, selM_f, bnd_ap, mDin_ap]
        simp only [get_ap, List.getElem?_cons_succ, List.getElem?_cons_zero, getT_sh, go_ok, bnd_ap, isU_ap, isUR_sh, eDn, asB_bl, h']
        rfl
    by_cases hs : (w.drop a).take own.length = own
    · rw [if_pos hs]
      simp [l_known_matches_2, s_known_matches_1_2, s_known_matches_1_3, s_known_matches_1_4, s_known_matches_1_5, frT, ne, eP, e9, eL, fSl_str (l := p) (by omega), ecut, er, -fIn_chr, etest, eo, eow, fSl_str (l := w) (by omega), ecm, hs, show big 3 = true from rfl, big_t (show line.length + 1 ≤ 16777216 by omega)]
    · rw [if_neg hs]
      simp [l_known_matches_2, s_known_matches_1_2, s_known_matches_1_3, s_known_matches_1_4, s_known_matches_1_5, frT, ne, eP, e9, eL, fSl_str (l := p) (by omega), ecut, er, -fIn_chr, etest, eo, eow, fSl_str (l := w) (by omega), ecm, hs]
  · have hcap : cap c = true := by
      cases h : cap c with
      | false => exact absurd (.inl h) hk
      | true => rfl
    have hno : r.lookup c = none := by
      cases h : r.lookup c with
      | none => rfl
      | some v => exact absurd (.inr (by rw [h]; rfl)) hk
    have hns : ¬ (97 ≤ c ∧ c ≤ 122) := by unfold cap at hcap; simp at hcap; omega
    have em : decide (c ∈ ([97, 98, 99, 100, 101, 102, 103, 104, 105, 106, 107, 108, 109, 110, 111, 112, 113, 114, 115, 116, 117, 118, 119, 120, 121, 122] : List Nat)) = false := by rw [decide_eq_false_iff_not]; exact fun h => hns (small_mem.mp h)
    unfold ch
    dsimp only
    rw [if_neg hk]
    have hmx : (if (w.length : Int) - (a : Int) - (room l r q : Int) > (l : Int) then (w.length : Int) - (a : Int) - (room l r q : Int) else (l : Int)) = ((max l (w.length - a - room l r q) : Nat) : Int) := by split <;> omega
    obtain ⟨x', el⟩ := push_loop (P := .sh (.str p)) (L := .sh (.int l)) (M := .sh (.int most)) (Dn := .lst done) (x10 := .sh (.int ((w.length : Int) - (a : Int) - (room l r q : Int)))) (x11 := x11) (w := w) (f := (place, a, r)) (c := c) (by omega) h2 hno (by dsimp only; omega) (List.range' l (max l (w.length - a - room l r q) + 1 - l)).reverse line x12 (by simp; omega)
    dsimp only at el
    have er3 := rng_down (l := l) (h := max l (w.length - a - room l r q)) (by omega) (by omega)
    refine ⟨.sh (.int place), .sh (.int a), .sh (.dct false (rowD r)), .sh (.str [c]), .sh (.int ((w.length : Int) - (a : Int) - (room l r q : Int))), x11, x', ?_⟩
    rw [List.filter_reverse] at el
    generalize hN : max l (w.length - a - room l r q) = N at el er3 hmx
    have et2 : ((opt (fIn false (D.str [c]) (D.str [97, 98, 99, 100, 101, 102, 103, 104, 105, 106, 107, 108, 109, 110, 111, 112, 113, 114, 115, 116, 117, 118, 119, 120, 121, 122])) [T.sh (.str p), .sh (.str w), .sh (.int l), .sh (.int most), .lst done, .lst line, .sh (.int place), .sh (.int a), .sh (.dct false (rowD r)), .sh (.str [c]), .sh (.int ((w.length : Int) - (a : Int) - (room l r q : Int))), x11, x12]).go asB).selM (pur true) (bnd (mDin false 8 (Mi.get 9)) asB) = .ok false [T.sh (.str p), .sh (.str w), .sh (.int l), .sh (.int most), .lst done, .lst line, .sh (.int place), .sh (.int a), .sh (.dct false (rowD r)), .sh (.str [c]), .sh (.int ((w.length : Int) - (a : Int) - (room l r q : Int))), x11, x12] := by
      rw [fIn_chr, em, opt_sm, go_ok, asB_bl, selM_f, bnd_ap, mDin_ap]
      simp only [get_ap, List.getElem?_cons_succ, List.getElem?_cons_zero, getT_sh, go_ok, bnd_ap, isU_ap, isUR_sh, eDn, asB_bl, hno]
      rfl
    simp [l_known_matches_2, s_known_matches_1_2, s_known_matches_1_3, s_known_matches_1_4, s_known_matches_1_5, frT, ne, eP, e9, eL, fSl_str (l := p) (by omega), ecut, er, -fIn_chr, et2, -gt_iff_lt, hmx, er3]
    rw [← List.map_reverse, el]
    simp [List.map_reverse, Function.comp_def]
def mtF (p w : List Nat) (l : Nat) (f : Fr) : List Row := mt w l (p.drop f.1) f.2.1 f.2.2
def cnF (p w : List Nat) (l : Nat) (f : Fr) : Nat := cn w l (p.drop f.1) f.2.1 f.2.2
theorem drop_next {p : List Nat} {n c : Nat} {q : List Nat} (h : p.drop n = c :: q) : p.drop (n + 1) = q := by
  have := List.drop_drop (l := p) (i := 1) (j := n)
  rw [h] at this; simpa [Nat.add_comm] using this.symm
theorem mtF_ch {p w : List Nat} {l : Nat} {f : Fr} {c : Nat} {q : List Nat} (h : p.drop f.1 = c :: q) : mtF p w l f = (ch w l c q f).flatMap (mtF p w l) := by
  have hq := drop_next h
  unfold mtF
  rw [h, mt]
  unfold ch
  by_cases hk : cap c = false ∨ (f.2.2.lookup c).isSome = true
  · rw [if_pos hk, if_pos hk]
    split
    · simp only [List.flatMap_cons, List.flatMap_nil, List.append_nil, hq]
    · rfl
  · rw [if_neg hk, if_neg hk, List.flatMap_map]
    simp only [hq]
theorem cnF_ch {p w : List Nat} {l : Nat} {f : Fr} {c : Nat} {q : List Nat} (h : p.drop f.1 = c :: q) : cnF p w l f = 1 + ((ch w l c q f).map (cnF p w l)).sum := by
  have hq := drop_next h
  unfold cnF
  rw [h, cn]
  unfold ch
  by_cases hk : cap c = false ∨ (f.2.2.lookup c).isSome = true
  · rw [if_pos hk, if_pos hk]
    split
    · simp only [List.map_cons, List.map_nil, List.sum_cons, List.sum_nil, Nat.add_zero, hq]
    · rfl
  · rw [if_neg hk, if_neg hk, List.map_map]
    simp only [Function.comp_def, hq]
theorem cnF_pos (p w : List Nat) (l : Nat) (f : Fr) : 1 ≤ cnF p w l f := by
  unfold cnF
  cases p.drop f.1 with
  | nil => simp [cn]
  | cons c q => rw [cn]; omega
theorem ch_ok {p w : List Nat} {l : Nat} {f : Fr} {c : Nat} {q : List Nat} (ok : FrOk p w f) (h : p.drop f.1 = c :: q) : ∀ g ∈ ch w l c q f, FrOk p w g := by
  have hlt : f.1 < p.length := by
    have := congrArg List.length h
    simp at this; omega
  have h2 := ok.at_; have h4 := ok.ln
  intro g hg
  unfold ch at hg
  split at hg
  · split at hg
    · rename_i hs
      have hlen := congrArg List.length hs
      rw [List.length_take, List.length_drop] at hlen
      simp at hg
      subst hg
      exact ⟨by show f.1 + 1 ≤ _; omega, by dsimp only; omega, ok.rl, by show f.2.2.length ≤ f.1 + 1; omega⟩
    · simp at hg
  · obtain ⟨m, hm, rfl⟩ := List.mem_map.mp hg
    have hm' := (List.mem_filter.mp hm).2
    simp at hm'
    refine ⟨by show f.1 + 1 ≤ _; omega, by show f.2.1 + m ≤ _; omega, fun x hx => ?_, by show (f.2.2 ++ _).length ≤ f.1 + 1; simp; omega⟩
    rcases List.mem_append.mp hx with hx | hx
    · exact ok.rl x hx
    · simp at hx; subst hx; simp; omega
theorem len_sum {p w : List Nat} {l : Nat} : ∀ fs : List Fr, fs.length ≤ (fs.map (cnF p w l)).sum
  | [] => by simp
  | f :: fs => by have := len_sum (p := p) (w := w) (l := l) fs; have := cnF_pos p w l f; simp only [List.map_cons, List.sum_cons, List.length_cons]; omega
theorem km_loop {p w : List Nat} {l most : Nat} (hp : p.length ≤ 100) (hw2 : w.length ≤ 60) (hl : l ≤ 1) (hPt : Pt p) (hm : most ≤ 1000) : ∀ (F : Nat) (fs : List Fr) (done : List Row) (x6 x7 x8 x9 x10 x11 x12 : T), (fs.map (cnF p w l)).sum < F → (fs.map (cnF p w l)).sum ≤ 10000000 → done.length ≤ most + 1 → (∀ f ∈ fs, FrOk p w f) →
    ∃ (done' : List Row) (L y6 y7 y8 y9 y10 y11 y12 : T), whileN w_known_matches_1 l_known_matches_2 F [.sh (.str p), .sh (.str w), .sh (.int l), .sh (.int most), .lst (done.map roT), .lst (fs.map frT), x6, x7, x8, x9, x10, x11, x12] = .nx [.sh (.str p), .sh (.str w), .sh (.int l), .sh (.int most), .lst (done'.map roT), L, y6, y7, y8, y9, y10, y11, y12] ∧
      (∃ rest, done ++ fs.reverse.flatMap (mtF p w l) = done' ++ rest ∧ (done'.length ≤ most → rest = []))
  | 0, fs, done, _, _, _, _, _, _, _, h, _, _, _ => by omega
  | F + 1, fs, done, x6, x7, x8, x9, x10, x11, x12, h1, h2, h3, hok => by
    have hfl := len_sum (p := p) (w := w) (l := l) fs
    have ew : w_known_matches_1 [.sh (.str p), .sh (.str w), .sh (.int l), .sh (.int most), .lst (done.map roT), .lst (fs.map frT), x6, x7, x8, x9, x10, x11, x12] = .ok (decide (fs ≠ []) && decide (done.length ≤ most)) [.sh (.str p), .sh (.str w), .sh (.int l), .sh (.int most), .lst (done.map roT), .lst (fs.map frT), x6, x7, x8, x9, x10, x11, x12] := by
      by_cases hf : fs = []
      · subst hf; simp [w_known_matches_1]
      · have hpos := List.length_pos_iff.mpr hf
        have : (0 : Int) < (fs.length : Int) := by omega
        by_cases hd : done.length ≤ most
        · have hd' : (done.length : Int) ≤ (most : Int) := by omega
          simp [w_known_matches_1, hpos, hf, hd, hd']
        · have hd' : ¬ (done.length : Int) ≤ (most : Int) := by omega
          simp [w_known_matches_1, hpos, hf, hd, hd']
    rw [whileN_succ ew]
    by_cases hf : fs = []
    · subst hf
      exact ⟨done, _, _, _, _, _, _, _, _, rfl, [], by simp, fun _ => rfl⟩
    by_cases hd : done.length ≤ most
    · have hb : (decide (fs ≠ []) && decide (done.length ≤ most)) = true := by simp [hf, hd]
      rw [hb, sel_t]
      have hsplit := (List.dropLast_concat_getLast hf).symm
      generalize fs.dropLast = gs at hsplit
      generalize fs.getLast hf = f at hsplit
      subst hsplit
      have okf := hok f (by simp)
      have okg : ∀ g ∈ gs, FrOk p w g := fun g hg => hok g (by simp [hg])
      simp only [List.map_append, List.map_cons, List.map_nil, List.sum_append, List.sum_cons, List.sum_nil, Nat.add_zero] at h1 h2 hfl ⊢
      rw [List.length_append] at hfl
      rw [List.reverse_append, List.reverse_singleton, List.singleton_append, List.flatMap_cons]
      cases hdr : p.drop f.1 with
      | nil =>
        have hpl : f.1 = p.length := by
          have := congrArg List.length hdr
          have := okf.pl
          simp at *; omega
        have hmt : mtF p w l f = if f.2.1 = w.length then [f.2.2] else [] := by unfold mtF; rw [hdr, mt]
        have hcp := cnF_pos p w l f
        have eP : fLen (.str p) = some (.int p.length) := fLen_str (by omega)
        have eL : fLen (.str w) = some (.int w.length) := fLen_str (by omega)
        have eI : (((f.1 : Nat) : Int) = (p.length : Int)) = True := by simp [hpl]
        by_cases hat : f.2.1 = w.length
        · have eA : (((f.2.1 : Nat) : Int) = (w.length : Int)) = True := by simp [hat]
          have es : l_known_matches_2 [.sh (.str p), .sh (.str w), .sh (.int l), .sh (.int most), .lst (done.map roT), .lst (gs.map frT ++ [frT f]), x6, x7, x8, x9, x10, x11, x12] = .ct [.sh (.str p), .sh (.str w), .sh (.int l), .sh (.int most), .lst ((done ++ [f.2.2]).map roT), .lst (gs.map frT), .sh (.int f.1), .sh (.int f.2.1), .sh (.dct false (rowD f.2.2)), x9, x10, x11, x12] := by
            simp [l_known_matches_2, s_known_matches_1_2, frT, roT, eP, eL, eI, eA, big_t (show done.length + 1 ≤ 16777216 by omega), show big 1 = true from rfl]
          obtain ⟨done', L, y6, y7, y8, y9, y10, y11, y12, e, rest, hr1, hr2⟩ := km_loop hp hw2 hl hPt hm F gs (done ++ [f.2.2]) _ _ _ x9 x10 x11 x12 (by omega) (by omega) (by simp; omega) okg
          rw [es, loopK_ct, e]
          exact ⟨done', L, y6, y7, y8, y9, y10, y11, y12, rfl, rest, by rw [← hr1, hmt, if_pos hat]; simp, hr2⟩
        · have eA : (((f.2.1 : Nat) : Int) = (w.length : Int)) = False := by simp; omega
          have es : l_known_matches_2 [.sh (.str p), .sh (.str w), .sh (.int l), .sh (.int most), .lst (done.map roT), .lst (gs.map frT ++ [frT f]), x6, x7, x8, x9, x10, x11, x12] = .ct [.sh (.str p), .sh (.str w), .sh (.int l), .sh (.int most), .lst (done.map roT), .lst (gs.map frT), .sh (.int f.1), .sh (.int f.2.1), .sh (.dct false (rowD f.2.2)), x9, x10, x11, x12] := by
            simp [l_known_matches_2, s_known_matches_1_2, frT, eP, eL, eI, eA, big_t (show done.length ≤ 16777216 by omega), show big 0 = true from rfl]
          obtain ⟨done', L, y6, y7, y8, y9, y10, y11, y12, e, rest, hr1, hr2⟩ := km_loop hp hw2 hl hPt hm F gs done _ _ _ x9 x10 x11 x12 (by omega) (by omega) h3 okg
          rw [es, loopK_ct, e]
          exact ⟨done', L, y6, y7, y8, y9, y10, y11, y12, rfl, rest, by rw [← hr1, hmt, if_neg hat]; simp, hr2⟩
      | cons c q =>
        obtain ⟨z6, z7, z8, z9, z10, z11, z12, es⟩ := km_step (l := l) (most := most) (done := done.map roT) (line := gs.map frT) (x6 := x6) (x7 := x7) (x8 := x8) (x9 := x9) (x10 := x10) (x11 := x11) (x12 := x12) okf hdr hp hw2 hl (by rw [List.length_map]; omega) hPt
        have hcs := cnF_ch (l := l) (w := w) hdr
        have hsum : ((gs ++ (ch w l c q f).reverse).map (cnF p w l)).sum = (gs.map (cnF p w l)).sum + ((ch w l c q f).map (cnF p w l)).sum := by
          rw [List.map_append, List.sum_append, List.map_reverse, List.sum_reverse]
        obtain ⟨done', L, y6, y7, y8, y9, y10, y11, y12, e, rest, hr1, hr2⟩ := km_loop hp hw2 hl hPt hm F (gs ++ (ch w l c q f).reverse) done z6 z7 z8 z9 z10 z11 z12 (by rw [hsum]; omega) (by rw [hsum]; omega) h3 (fun g hg => by
          rcases List.mem_append.mp hg with hg | hg
          · exact okg g hg
          · exact ch_ok okf hdr g (List.mem_reverse.mp hg))
        rw [List.map_append] at e
        rw [es, loopK_nx, e]
        refine ⟨done', L, y6, y7, y8, y9, y10, y11, y12, rfl, rest, ?_, hr2⟩
        rw [← hr1, mtF_ch hdr, List.reverse_append, List.reverse_reverse, List.flatMap_append]
    · have hb : (decide (fs ≠ []) && decide (done.length ≤ most)) = false := by simp [hd]
      rw [hb, sel_f]
      exact ⟨done, _, _, _, _, _, _, _, _, rfl, fs.reverse.flatMap (mtF p w l), rfl, fun z => absurd z hd⟩
theorem cn_le {w : List Nat} {l : Nat} (hl : l ≤ 1) : ∀ (p : List Nat) (a : Nat) (r : Row), cn w l p a r ≤ (w.length + 3) ^ p.length
  | [], a, r => by simp [cn]
  | c :: p, a, r => by
    have hpw : 1 ≤ (w.length + 3) ^ p.length := Nat.one_le_pow _ _ (by omega)
    rw [cn, List.length_cons, Nat.pow_succ]
    split
    · split
      · have := cn_le (w := w) hl p (a + ((r.lookup c).getD [c]).length) r
        have h3 : (w.length + 3) ^ p.length * (w.length + 3) = (w.length + 3) ^ p.length * w.length + (w.length + 3) ^ p.length * 3 := Nat.mul_add _ _ _
        have h4 : 0 ≤ (w.length + 3) ^ p.length * w.length := Nat.zero_le _
        omega
      · have := Nat.mul_le_mul hpw (show 1 ≤ w.length + 3 by omega)
        omega
    · have hs : ∀ ms : List Nat, (ms.map fun m => cn w l p (a + m) (r ++ [(c, (w.drop a).take m)])).sum ≤ (w.length + 3) ^ p.length * ms.length := fun ms => by
        induction ms with
        | nil => simp
        | cons m ms ih =>
          have := cn_le (w := w) hl p (a + m) (r ++ [(c, (w.drop a).take m)])
          simp only [List.map_cons, List.sum_cons, List.length_cons, Nat.mul_succ]; omega
      have h1 := hs ((List.range' l (max l (w.length - a - room l r p) + 1 - l)).filter fun m => decide (a + m ≤ w.length))
      have h2 : ((List.range' l (max l (w.length - a - room l r p) + 1 - l)).filter fun m => decide (a + m ≤ w.length)).length ≤ w.length + 2 := Nat.le_trans (List.length_filter_le _ _) (by rw [List.length_range']; omega)
      have h3 := Nat.mul_le_mul_left ((w.length + 3) ^ p.length) h2
      have h4 : (w.length + 3) ^ p.length * (w.length + 3) = (w.length + 3) ^ p.length * (w.length + 2) + (w.length + 3) ^ p.length := Nat.mul_succ _ _
      omega
/-- all matches, or more than so many -/
theorem m_km_eq' {p w : List Nat} {l most : Nat} (hp : p.length ≤ 100) (hw2 : w.length ≤ 60) (hl : l ≤ 1) (hPt : Pt p) (hm : most ≤ 1000) (hc : cn w l p 0 [] ≤ 10000000) : ∃ done rest : List Row, m_known_matches [.str p, .str w, .int l, .int most] = .ret (.lst (done.map roT)) ∧ mt w l p 0 [] = done ++ rest ∧ (done.length ≤ most → rest = []) := by
  obtain ⟨done', L, y6, y7, y8, y9, y10, y11, y12, e, rest, hr1, hr2⟩ := km_loop (p := p) (w := w) (l := l) (most := most) (by omega) (by omega) hl hPt hm 1000000000000 [(0, 0, [])] [] .un .un .un .un .un .un .un (by simp [cnF]; omega) (by simp [cnF]; omega) (by simp) (fun f hf => by
    simp at hf; subst hf
    exact ⟨Nat.zero_le _, Nat.zero_le _, fun x hx => by simp at hx, Nat.le_refl _⟩)
  simp [mtF] at hr1
  refine ⟨done', rest, ?_, hr1, hr2⟩
  show toOut (b_known_matches [.sh (.str p), .sh (.str w), .sh (.int l), .sh (.int most), .un, .un, .un, .un, .un, .un, .un, .un, .un]) = _
  simp [frT, rowD] at e
  simp [b_known_matches, s_known_matches_0_2, s_known_matches_0_3, big, e]
theorem m_km_eq {p w : List Nat} {l most : Nat} (hp : p.length ≤ 5) (hw2 : w.length ≤ 9) (hl : l ≤ 1) (hPt : Pt p) (hm : most ≤ 1000) : ∃ done rest : List Row, m_known_matches [.str p, .str w, .int l, .int most] = .ret (.lst (done.map roT)) ∧ mt w l p 0 [] = done ++ rest ∧ (done.length ≤ most → rest = []) := by
  have hc : cn w l p 0 [] ≤ 10000000 := by
    refine Nat.le_trans (cn_le hl p 0 []) ?_
    refine Nat.le_trans (Nat.pow_le_pow_left (show w.length + 3 ≤ 12 by omega) _) ?_
    exact Nat.le_trans (Nat.pow_le_pow_right (by decide) (show p.length ≤ 5 by omega)) (by decide)
  exact m_km_eq' (by omega) (by omega) hl hPt hm hc
end K36

end
section
set_option Elab.async false
set_option autoImplicit false
set_option linter.all false
set_option maxRecDepth 100000
set_option maxHeartbeats 2000000
namespace K36
open PySem L2 Mi
theorem look_none {r : Row} {c : Nat} : r.lookup c = none ↔ c ∉ r.map (·.1) := by
  induction r with
  | nil => simp
  | cons x r ih =>
    by_cases h : c = x.1
    · subst h; simp [List.lookup]
    · have : (c == x.1) = false := by simp [h]
      simp only [List.lookup, this, ih, List.map_cons, List.mem_cons, h, false_or]
theorem look_some {r : Row} {c : Nat} : (r.lookup c).isSome = true ↔ c ∈ r.map (·.1) := by
  have := look_none (r := r) (c := c)
  cases h : r.lookup c with
  | none => rw [h] at this; simp at this ⊢; exact this
  | some v => rw [h] at this; simp at this ⊢; obtain ⟨x, hx⟩ := this; exact ⟨x, hx⟩
theorem look_append (r s : Row) (c : Nat) : (r ++ s).lookup c = (r.lookup c).or (s.lookup c) := by
  induction r with
  | nil => simp
  | cons x r ih =>
    simp only [List.cons_append, List.lookup]
    cases c == x.1 <;> simp [ih]
theorem unk_cap : ∀ (p s : List Nat), ∀ c ∈ unk p s, cap c = true ∧ c ∉ s
  | [], s, c, h => by simp [unk] at h
  | d :: p, s, c, h => by
    unfold unk at h
    split at h
    · rename_i hq
      rcases List.mem_cons.mp h with rfl | h
      · exact hq
      · have := unk_cap p _ c h
        exact ⟨this.1, fun z => this.2 (List.mem_append_left _ z)⟩
    · exact unk_cap p s c h
theorem unk_mem : ∀ (p s : List Nat) (c : Nat), c ∈ p → cap c = true → c ∈ s ∨ c ∈ unk p s
  | [], s, c, h, _ => by simp at h
  | d :: p, s, c, h, hc => by
    unfold unk
    rcases List.mem_cons.mp h with rfl | h
    · by_cases hs : c ∈ s
      · exact .inl hs
      · rw [if_pos ⟨hc, hs⟩]; exact .inr (List.mem_cons_self ..)
    · split
      · rcases unk_mem p (s ++ [d]) c h hc with z | z
        · rcases List.mem_append.mp z with z | z
          · exact .inl z
          · simp at z; subst z; exact .inr (List.mem_cons_self ..)
        · exact .inr (List.mem_cons_of_mem _ z)
      · exact unk_mem p s c h hc
theorem room_le {l : Nat} {n e : Row} (he : ∀ x ∈ e, l ≤ x.2.length) (hk : ∀ c ∈ (n ++ e).map (·.1), cap c = true) : ∀ p : List Nat, (∀ c ∈ p, cap c = true → c ∈ (n ++ e).map (·.1)) → room l n p ≤ (putR (n ++ e) p).length
  | [], _ => by simp [room]
  | c :: p, h => by
    have ih := room_le he hk p fun d hd => h d (List.mem_cons_of_mem _ hd)
    rw [room, putR, List.length_append]
    have : (if cap c = true then ((n.lookup c).map List.length).getD l else 1) ≤ (((n ++ e).lookup c).getD [c]).length := by
      by_cases hc : cap c = true
      · rw [if_pos hc, look_append]
        cases hn : n.lookup c with
        | some v => simp
        | none =>
          have h1 := h c (List.mem_cons_self ..) hc
          have h2 := look_some.mpr h1
          rw [look_append, hn] at h2
          cases hv : e.lookup c with
          | none => rw [hv] at h2; simp at h2
          | some v =>
            have : ∀ e : Row, (∀ x ∈ e, l ≤ x.2.length) → e.lookup c = some v → l ≤ v.length := fun e => by
              induction e with
              | nil => intro _ z; cases z
              | cons x e ihe =>
                intro hx z
                simp only [List.lookup] at z
                cases hcx : c == x.1 with
                | true => rw [hcx] at z; cases z; exact hx x (List.mem_cons_self ..)
                | false => rw [hcx] at z; exact ihe (fun y hy => hx y (List.mem_cons_of_mem _ hy)) z
            have := this e he hv
            simpa using this
      · rw [if_neg hc]
        have : (n ++ e).lookup c = none := look_none.mpr fun z => hc (hk c z)
        rw [this]; simp
    omega
/-- what a match is, from a place on -/
theorem mt_mem {w : List Nat} {l : Nat} (hl : l ≤ 1) : ∀ (p : List Nat) (a : Nat) (n r : Row), a ≤ w.length → (∀ c ∈ n.map (·.1), cap c = true) →
    (r ∈ mt w l p a n ↔ ∃ e : Row, r = n ++ e ∧ e.map (·.1) = unk p (n.map (·.1)) ∧ (∀ x ∈ e, l ≤ x.2.length) ∧ putR r p = w.drop a)
  | [], a, n, r, ha, hn => by
    rw [mt]
    constructor
    · intro h
      split at h
      · rename_i hh
        simp at h; subst h
        exact ⟨[], by simp, rfl, fun x hx => by simp at hx, by rw [hh]; simp [putR]⟩
      · simp at h
    · rintro ⟨e, rfl, h1, h2, h3⟩
      have : e = [] := List.map_eq_nil_iff.mp h1
      subst this
      have h4 := congrArg List.length h3
      simp [putR] at h4
      rw [if_pos (by omega)]; simp
  | c :: p, a, n, r, ha, hn => by
    rw [mt]
    by_cases hk : cap c = false ∨ (n.lookup c).isSome = true
    · rw [if_pos hk]
      have hu : unk (c :: p) (n.map (·.1)) = unk p (n.map (·.1)) := by
        rw [unk, if_neg]
        rintro ⟨h1, h2⟩
        rcases hk with hk | hk
        · rw [hk] at h1; cases h1
        · exact h2 (look_some.mp hk)
      have hlk : ∀ e : Row, e.map (·.1) = unk p (n.map (·.1)) → ((n ++ e).lookup c).getD [c] = (n.lookup c).getD [c] := fun e he => by
        rw [look_append]
        cases hc : n.lookup c with
        | some v => simp
        | none =>
          rcases hk with hk | hk
          · have : e.lookup c = none := look_none.mpr fun z => by
              rw [he] at z
              have := (unk_cap p _ c z).1
              rw [hk] at this; cases this
            rw [this]; simp
          · rw [hc] at hk; cases hk
      have ih := fun a' ha' => mt_mem hl (w := w) p a' n r ha' hn
      generalize hown : (n.lookup c).getD [c] = own at hlk
      constructor
      · intro h
        split at h
        · rename_i hs
          have hlen := congrArg List.length hs
          rw [List.length_take, List.length_drop] at hlen
          obtain ⟨e, rfl, h1, h2, h3⟩ := (ih (a + own.length) (by omega)).mp h
          refine ⟨e, rfl, by rw [hu]; exact h1, h2, ?_⟩
          rw [putR, hlk e h1, h3]
          have := List.take_append_drop own.length (w.drop a)
          rw [hs, List.drop_drop] at this
          exact this
        · simp at h
      · rintro ⟨e, rfl, h1, h2, h3⟩
        rw [hu] at h1
        rw [putR, hlk e h1] at h3
        have hs : (w.drop a).take own.length = own := by rw [← h3]; simp
        rw [if_pos hs]
        have hlen := congrArg List.length hs
        rw [List.length_take, List.length_drop] at hlen
        refine (ih (a + own.length) (by omega)).mpr ⟨e, rfl, h1, h2, ?_⟩
        have := congrArg (List.drop own.length) h3
        rw [List.drop_left, List.drop_drop] at this
        exact this
    · rw [if_neg hk]
      have hcap : cap c = true := by
        cases h : cap c with
        | false => exact absurd (.inl h) hk
        | true => rfl
      have hno : n.lookup c = none := by
        cases h : n.lookup c with
        | none => rfl
        | some v => exact absurd (.inr (by rw [h]; rfl)) hk
      have hu : unk (c :: p) (n.map (·.1)) = c :: unk p (n.map (·.1) ++ [c]) := by
        rw [unk, if_pos ⟨hcap, look_none.mp hno⟩]
      have hn' : ∀ v : List Nat, ∀ d ∈ (n ++ [(c, v)]).map (·.1), cap d = true := fun v d hd => by
        simp only [List.map_append, List.mem_append, List.map_cons, List.map_nil, List.mem_singleton] at hd
        rcases hd with hd | rfl
        · exact hn d hd
        · exact hcap
      have hm' : ∀ v : List Nat, (n ++ [(c, v)]).map (·.1) = n.map (·.1) ++ [c] := fun v => by simp
      have hlk : ∀ (v : List Nat) (e : Row), ((n ++ [(c, v)]) ++ e).lookup c = some v := fun v e => by
        rw [look_append, look_app, hno]; simp
      constructor
      · intro h
        obtain ⟨m, hm, h⟩ := List.mem_flatMap.mp h
        obtain ⟨hm1, hm2⟩ := List.mem_filter.mp hm
        simp at hm2
        have hm1 := List.mem_range'_1.mp hm1
        obtain ⟨e, rfl, h1, h2, h3⟩ := (mt_mem hl p (a + m) _ r hm2 (hn' _)).mp h
        have hvl : ((w.drop a).take m).length = m := by rw [List.length_take, List.length_drop]; omega
        refine ⟨(c, (w.drop a).take m) :: e, by simp, ?_, fun x hx => ?_, ?_⟩
        · rw [hu, List.map_cons, h1, hm']
        · rcases List.mem_cons.mp hx with rfl | hx
          · show l ≤ ((w.drop a).take m).length
            rw [hvl]; omega
          · exact h2 x hx
        · rw [putR, hlk, h3]
          have := List.take_append_drop m (w.drop a)
          rw [List.drop_drop] at this
          exact this
      · rintro ⟨e, rfl, h1, h2, h3⟩
        rw [hu] at h1
        cases e with
        | nil => cases h1
        | cons x e =>
          obtain ⟨d, v⟩ := x
          simp only [List.map_cons, List.cons.injEq] at h1
          obtain ⟨rfl, h1⟩ := h1
          have hre : n ++ (d, v) :: e = (n ++ [(d, v)]) ++ e := by simp
          rw [hre] at h3 ⊢
          rw [putR, hlk] at h3
          simp only [Option.getD_some] at h3
          have hv : (w.drop a).take v.length = v := by rw [← h3]; simp
          have hlen := congrArg List.length hv
          rw [List.length_take, List.length_drop] at hlen
          have hlv : l ≤ v.length := h2 (d, v) (List.mem_cons_self ..)
          have hall : ∀ x ∈ (d, v) :: e, l ≤ x.2.length := h2
          have hkeys : ∀ z ∈ (n ++ (d, v) :: e).map (·.1), cap z = true := fun z hz => by
            rw [List.map_append, List.mem_append] at hz
            rcases hz with hz | hz
            · exact hn z hz
            · rw [List.map_cons, h1] at hz
              rcases List.mem_cons.mp hz with rfl | hz
              · exact hcap
              · exact (unk_cap p _ z hz).1
          have hr := room_le (n := n) hall hkeys p fun z hz hzc => by
            rcases unk_mem p (n.map (·.1) ++ [d]) z hz hzc with q | q
            · rw [List.map_append, List.mem_append, List.map_cons, h1]
              rcases List.mem_append.mp q with q | q
              · exact .inl q
              · simp at q; subst q; exact .inr (List.mem_cons_self ..)
            · rw [List.map_append, List.mem_append, List.map_cons, h1]
              exact .inr (List.mem_cons_of_mem _ q)
          rw [hre] at hr
          have h4 := congrArg List.length h3
          rw [List.length_append, List.length_drop] at h4
          refine List.mem_flatMap.mpr ⟨v.length, List.mem_filter.mpr ⟨List.mem_range'_1.mpr (by omega), by simp; omega⟩, ?_⟩
          rw [hv]
          refine (mt_mem hl p (a + v.length) _ _ (by omega) (hn' v)).mpr ⟨e, rfl, by rw [hm']; exact h1, fun x hx => h2 x (List.mem_cons_of_mem _ hx), ?_⟩
          have := congrArg (List.drop v.length) h3
          rw [List.drop_left, List.drop_drop] at this
          exact this
def lens (r : Row) : List Nat := r.map fun x => x.2.length
def lexN : List Nat → List Nat → Bool
  | x :: r, y :: t => decide (x < y) || (!decide (y < x) && lexN r t)
  | [], _ :: _ => true
  | _, [] => false
theorem lexN_pre : ∀ (p a b : List Nat), lexN (p ++ a) (p ++ b) = lexN a b
  | [], _, _ => rfl
  | x :: p, a, b => by show (decide (x < x) || (!decide (x < x) && lexN (p ++ a) (p ++ b))) = _; simp [lexN_pre p a b]
theorem mt_pre {w : List Nat} {l : Nat} : ∀ (p : List Nat) (a : Nat) (n r : Row), r ∈ mt w l p a n → ∃ e : Row, r = n ++ e
  | [], a, n, r, h => by
    rw [mt] at h; split at h
    · simp at h; exact ⟨[], by simp [h]⟩
    · simp at h
  | c :: p, a, n, r, h => by
    rw [mt] at h
    split at h
    · split at h
      · exact mt_pre p _ n r h
      · simp at h
    · obtain ⟨m, _, h⟩ := List.mem_flatMap.mp h
      obtain ⟨e, rfl⟩ := mt_pre p _ _ r h
      exact ⟨(c, (w.drop a).take m) :: e, by simp⟩
/-- the matches stand in the order of their lengths -/
theorem mt_sorted {w : List Nat} {l : Nat} : ∀ (p : List Nat) (a : Nat) (n : Row), (mt w l p a n).Pairwise fun r s => lexN (lens r) (lens s) = true
  | [], a, n => by rw [mt]; split <;> simp
  | c :: p, a, n => by
    rw [mt]
    split
    · split
      · exact mt_sorted p _ n
      · exact .nil
    · rw [List.pairwise_flatMap]
      refine ⟨fun m _ => mt_sorted p _ _, ?_⟩
      refine List.Pairwise.imp_of_mem ?_ ((List.pairwise_lt_range' (s := l)).filter _)
      intro m m' hm hm' hlt x hx y hy
      obtain ⟨e, rfl⟩ := mt_pre p _ _ x hx
      obtain ⟨e', rfl⟩ := mt_pre p _ _ y hy
      have h1 := (List.mem_filter.mp hm).2
      have h2 := (List.mem_filter.mp hm').2
      simp at h1 h2
      have v1 : ((w.drop a).take m).length = m := by rw [List.length_take, List.length_drop]; omega
      have v2 : ((w.drop a).take m').length = m' := by rw [List.length_take, List.length_drop]; omega
      simp only [lens, List.append_assoc, List.map_append, lexN_pre]
      show (decide (((w.drop a).take m).length < ((w.drop a).take m').length) || _) = true
      rw [v1, v2]; simp [hlt]
theorem mt_len {w : List Nat} {l : Nat} (hl : l ≤ 1) : ∀ (p : List Nat) (a : Nat) (n : Row), (mt w l p a n).length ≤ (w.length + 2) ^ (unk p (n.map (·.1))).length
  | [], a, n => by rw [mt]; split <;> simp [unk]
  | c :: p, a, n => by
    have h1 : 1 ≤ (w.length + 2) ^ (unk (c :: p) (n.map (·.1))).length := Nat.one_le_pow _ _ (by omega)
    rw [mt]
    by_cases hk : cap c = false ∨ (n.lookup c).isSome = true
    · rw [if_pos hk]
      have hu : unk (c :: p) (n.map (·.1)) = unk p (n.map (·.1)) := by
        rw [unk, if_neg]
        rintro ⟨h1, h2⟩
        rcases hk with hk | hk
        · rw [hk] at h1; cases h1
        · exact h2 (look_some.mp hk)
      split
      · rw [hu]; exact mt_len hl p _ n
      · exact Nat.zero_le _
    · rw [if_neg hk]
      have hcap : cap c = true := by
        cases h : cap c with
        | false => exact absurd (.inl h) hk
        | true => rfl
      have hno : n.lookup c = none := by
        cases h : n.lookup c with
        | none => rfl
        | some v => exact absurd (.inr (by rw [h]; rfl)) hk
      have hu : unk (c :: p) (n.map (·.1)) = c :: unk p (n.map (·.1) ++ [c]) := by
        rw [unk, if_pos ⟨hcap, look_none.mp hno⟩]
      rw [hu, List.length_cons, Nat.pow_succ]
      have hs : ∀ ms : List Nat, (ms.flatMap fun m => mt w l p (a + m) (n ++ [(c, (w.drop a).take m)])).length ≤ (w.length + 2) ^ (unk p (n.map (·.1) ++ [c])).length * ms.length := fun ms => by
        induction ms with
        | nil => simp
        | cons m ms ih =>
          have := mt_len (w := w) hl p (a + m) (n ++ [(c, (w.drop a).take m)])
          rw [List.map_append] at this
          simp only [List.map_cons, List.map_nil] at this
          rw [List.flatMap_cons, List.length_append, List.length_cons, Nat.mul_succ]; omega
      refine Nat.le_trans (hs _) (Nat.mul_le_mul_left _ ?_)
      refine Nat.le_trans (List.length_filter_le _ _) ?_
      rw [List.length_range']; omega
/-- unknowns X and Y alone -/
def Pxy (p : List Nat) : Prop := ∀ c ∈ p, c = 88 ∨ c = 89 ∨ c = 97 ∨ c = 98
theorem Pxy.pt {p : List Nat} (h : Pxy p) : Pt p := fun c hc => by rcases h c hc with rfl | rfl | rfl | rfl <;> decide
def Five (s : List Nat) : Prop := s = [] ∨ s = [88] ∨ s = [89] ∨ s = [88, 89] ∨ s = [89, 88]
theorem unk_five : ∀ (p s : List Nat), Pxy p → Five s → Five (s ++ unk p s)
  | [], s, _, h => by simpa [unk] using h
  | c :: p, s, hp, h => by
    have hp' : Pxy p := fun d hd => hp d (List.mem_cons_of_mem _ hd)
    have hc := hp c (List.mem_cons_self ..)
    unfold unk
    split
    · rename_i hq
      have := unk_five p (s ++ [c]) hp' (by
        obtain ⟨h1, h2⟩ := hq
        rcases hc with rfl | rfl | rfl | rfl
        · rcases h with rfl | rfl | rfl | rfl | rfl <;> simp [Five] at h2 ⊢
        · rcases h with rfl | rfl | rfl | rfl | rfl <;> simp [Five] at h2 ⊢
        · cases h1
        · cases h1)
      rw [List.append_assoc] at this; exact this
    · exact unk_five p s hp' h
end K36

end
section
set_option Elab.async false
set_option autoImplicit false
set_option linter.all false
set_option maxRecDepth 100000
set_option maxHeartbeats 2000000
namespace K36
open PySem L2 Mi PySem.W
/-! sorted(set(..)) of texts -/
theorem addKs_mem : ∀ (ks L : List Key) (j : Key), j ∈ addKs L ks ↔ j ∈ L ∨ j ∈ ks
  | [], L, j => by simp [addKs]
  | k :: ks, L, j => by
    have ih := addKs_mem ks (addK L k) j
    show j ∈ addKs (addK L k) ks ↔ _
    rw [ih]
    have : j ∈ addK L k ↔ j ∈ L ∨ j = k := by
      unfold addK
      by_cases h : inK L k = true
      · rw [if_pos h]
        have hk : k ∈ L := by
          unfold inK at h
          obtain ⟨x, hx, hxk⟩ := List.any_eq_true.mp h
          simp at hxk; subst hxk; exact hx
        exact ⟨.inl, fun z => z.elim id fun e => e ▸ hk⟩
      · rw [if_neg h]; simp
    rw [this, List.mem_cons]; exact or_assoc
theorem addKs_len : ∀ (ks L : List Key), (addKs L ks).length ≤ L.length + ks.length
  | [], L => by simp [addKs]
  | k :: ks, L => by
    have ih := addKs_len ks (addK L k)
    have : (addK L k).length ≤ L.length + 1 := by unfold addK; split <;> simp
    show (addKs (addK L k) ks).length ≤ _
    rw [List.length_cons]; omega
theorem keysK_strs : ∀ ls : List (List Nat), keysK (ls.map .str) = some (ls.map fun l => (.inr (S l) : Key))
  | [] => rfl
  | l :: ls => by
    show (match keyK (.str l) with | none => none | some k => match keysK (ls.map .str) with | none => none | some ks => some (k :: ks)) = _
    rw [keysK_strs ls]; rfl
def unstr : D → List Nat
  | .str l => l
  | _ => []
theorem unstr_all {ds : List D} (h : ∀ d ∈ ds, ∃ l, d = .str l) : ds = (ds.map unstr).map .str := by
  rw [List.map_map]
  conv => lhs; rw [← List.map_id ds]
  apply List.map_congr_left
  intro d hd
  obtain ⟨l, rfl⟩ := h d hd
  rfl
theorem okSort_strs {ls : List (List Nat)} (h : ls.length < 4000) : okSort (ls.map .str) = true := by
  unfold okSort
  have h1 : decide ((ls.map D.str).length ≤ sizeLine) = true := by
    rw [decide_eq_true_eq, List.length_map]; exact Nat.le_trans (Nat.le_of_lt h) (by decide)
  have h2 : ((ls.map D.str).all fun d => d.lay 60) = true := by rw [List.all_map]; exact List.all_eq_true.mpr fun _ _ => rfl
  have h3 : ((ls.map D.str).all fun d => (ls.map D.str).all fun e => alike d.py e.py) = true := by
    rw [List.all_map]; refine List.all_eq_true.mpr fun _ _ => ?_
    show ((ls.map D.str).all _) = true
    rw [List.all_map]; refine List.all_eq_true.mpr fun _ _ => ?_
    simp [Function.comp, D.py, alike]
  have h4 : (ls.map D.str).all isNT = true := by rw [List.all_map]; exact List.all_eq_true.mpr fun _ _ => rfl
  rw [h1, h2, h3, h4]; simp
theorem fSortSet_strs {ls : List (List Nat)} (h : ls.length < 4000) (hc : ∀ l ∈ ls, ∀ c ∈ l, c < 1114112) : ∃ P : List (List Nat), fSortSet (.lst (ls.map .str)) = some (.lst (P.map .str)) ∧ (∀ v, v ∈ P ↔ v ∈ ls) ∧ P.length ≤ ls.length := by
  have e1 : setK (.lst (ls.map .str)) = some (addKs [] (ls.map fun l => (.inr (S l) : Key))) := by
    show (match keysK (ls.map .str) with | some ks => if ks.length + 1 < scanBound then some (addKs [] ks) else none | none => none) = _
    rw [keysK_strs]
    dsimp only
    rw [if_pos (by rw [List.length_map]; show ls.length + 1 < 4096; omega)]
  have hm := addKs_mem (ls.map fun l => (.inr (S l) : Key)) []
  have hl := addKs_len (ls.map fun l => (.inr (S l) : Key)) []
  generalize addKs [] (ls.map fun l => (.inr (S l) : Key)) = L at e1 hm hl
  have hK : ∀ d ∈ L.map kD, ∃ l, d = .str l ∧ l ∈ ls := fun d hd => by
    obtain ⟨k, hk, rfl⟩ := List.mem_map.mp hd
    rcases (hm k).mp hk with z | z
    · simp at z
    · obtain ⟨l, hl, rfl⟩ := List.mem_map.mp z
      exact ⟨l, rfl, hl⟩
  have hu := unstr_all fun d hd => let ⟨l, e, _⟩ := hK d hd; ⟨l, e⟩
  have hlen : ((L.map kD).map unstr).length < 4000 := by
    simp at hl ⊢; omega
  have hok : okSort (L.map kD) = true := by rw [hu]; exact okSort_strs hlen
  have hoc : (L.all fun k => okC (kD k)) = true := List.all_eq_true.mpr fun k hk => by
    obtain ⟨l, e, h1⟩ := hK (kD k) (List.mem_map.mpr ⟨k, hk, rfl⟩)
    rw [e]
    show (l.all fun c => decide (c < 1114112)) = true
    exact List.all_eq_true.mpr fun c h2 => decide_eq_true (hc l h1 c h2)
  have hp : (sortD (L.map kD)).Perm (L.map kD) := List.mergeSort_perm _ _
  have hu2 := unstr_all (ds := sortD (L.map kD)) fun d hd => let ⟨l, e, _⟩ := hK d (hp.mem_iff.mp hd); ⟨l, e⟩
  refine ⟨(sortD (L.map kD)).map unstr, ?_, fun v => ?_, ?_⟩
  · unfold fSortSet
    rw [e1]
    dsimp only
    rw [if_pos ⟨hok, hoc⟩, ← hu2]
  · constructor
    · intro hv
      obtain ⟨d, hd, rfl⟩ := List.mem_map.mp hv
      obtain ⟨l, rfl, hl⟩ := hK d (hp.mem_iff.mp hd)
      exact hl
    · intro hv
      refine List.mem_map.mpr ⟨.str v, hp.mem_iff.mpr (List.mem_map.mpr ⟨.inr (S v), (hm _).mpr (.inr (List.mem_map.mpr ⟨v, hv, rfl⟩)), rfl⟩), rfl⟩
  · rw [List.length_map, hp.length_eq, List.length_map]
    simp at hl; exact hl
/-! the keys of the law's order -/
def keyL (ls : List Nat) : D := .tup (ls.map fun (n : Nat) => .int n)
def kl (ls : List Nat) : List Key := ls.map fun (n : Nat) => .inl (n : Int)
theorem kl_inj : ∀ {a b : List Nat}, kl a = kl b → a = b
  | [], [], _ => rfl
  | [], _ :: _, h => by cases h
  | _ :: _, [], h => by cases h
  | x :: a, y :: b, h => by
    have h1 := (List.cons.inj h).1
    have h2 := kl_inj (List.cons.inj h).2
    have := Sum.inl.inj h1
    rw [h2, show x = y by omega]
theorem keysK_ints : ∀ ls : List Nat, keysK (ls.map fun (n : Nat) => .int n) = some (kl ls)
  | [] => rfl
  | l :: ls => by
    show (match keyK (.int l) with | none => none | some k => match keysK (ls.map fun (n : Nat) => .int n) with | none => none | some ks => some (k :: ks)) = _
    rw [keysK_ints ls]; rfl
theorem dKey_L (ls : List Nat) : dKey true (keyL ls) = some (kl ls) := keysK_ints ls
theorem toks_lex : ∀ (a b : List Nat), a.length = b.length → PyProof.Rows.lexLt PyProof.Rows.itemOrd (keyToksAll (D.pys (a.map fun (n : Nat) => .int n))) (keyToksAll (D.pys (b.map fun (n : Nat) => .int n))) = lexN a b
  | [], [], _ => by decide
  | [], _ :: _, h => by simp at h
  | _ :: _, [], h => by simp at h
  | x :: a, y :: b, h => by
    have ih := toks_lex a b (by simpa using h)
    rw [List.map_cons, List.map_cons, D.pys, D.pys, D.py, D.py, keyToksAll, keyToksAll, keyToks, keyToks, lexN, ← ih]
    rw [PyProof.Rows.lex_cons, List.cons_append, List.cons_append, List.nil_append, List.nil_append, PyProof.Rows.lex_cons]
    have e1 : PyProof.Rows.itemOrd.blt (.inl 1) (.inl 1) = false := by decide
    have e2 : ∀ x y : Nat, PyProof.Rows.itemOrd.blt (.inl (x : Int)) (.inl (y : Int)) = decide (x < y) := fun x y => by
      show decide ((x : Int) < (y : Int)) = _
      rw [decide_eq_decide]; omega
    rw [e1, e2, e2]; simp
theorem toks_L (a b : List Nat) (h : a.length = b.length) : PyProof.Rows.lexLt PyProof.Rows.itemOrd (keyToks (keyL a).py) (keyToks (keyL b).py) = lexN a b := by
  unfold keyL
  rw [D.py, D.py, keyToks, keyToks]; exact toks_lex a b h
theorem lexN_irrefl : ∀ a : List Nat, lexN a a = false
  | [] => rfl
  | x :: a => by rw [lexN, lexN_irrefl a]; simp
theorem lexN_total : ∀ a b : List Nat, a.length = b.length → lexN a b = false → lexN b a = false → a = b
  | [], [], _, _, _ => rfl
  | [], _ :: _, h, _, _ => by simp at h
  | _ :: _, [], h, _, _ => by simp at h
  | x :: a, y :: b, h, h1, h2 => by
    rw [lexN] at h1 h2
    simp at h1 h2
    have hxy : x = y := by omega
    subst hxy
    rw [lexN_total a b (by simpa using h) (h1.2 (Nat.le_refl _)) (h2.2 (Nat.le_refl _))]
theorem leD_L {a b : List Nat} (h : a.length = b.length) (hl : lexN a b = true) : leD (keyL a) (keyL b) = true := by
  rw [leD_eq, toks_L b a h.symm]
  cases hb : lexN b a with
  | false => rfl
  | true =>
    have h1 := toks_L a b h
    have h2 := toks_L b a h.symm
    rw [hl] at h1; rw [hb] at h2
    have := PyProof.Rows.lex_trans (O := PyProof.Rows.itemOrd) _ _ _ h1 h2
    rw [PyProof.Rows.lex_irrefl] at this; cases this
theorem keyL_anti {a b : List Nat} (h : a.length = b.length) (e : keyToks (keyL a).py = keyToks (keyL b).py) : a = b := by
  have h1 := toks_L a b h
  have h2 := toks_L b a h.symm
  rw [e, PyProof.Rows.lex_irrefl] at h1
  rw [e, PyProof.Rows.lex_irrefl] at h2
  exact lexN_total a b h h1.symm h2.symm
def ent (r : Row) : D × T := (keyL (lens r), .sh (.dct false (rowD r)))
theorem ent_key (s : Row) : dKey true (ent s).1 = some (kl (lens s)) := dKey_L (lens s)
theorem pw_mem {α : Type} {R : α → α → Prop} : ∀ {l : List α} {a b : α}, l.Pairwise R → a ∈ l → b ∈ l → a = b ∨ R a b ∨ R b a
  | x :: l, a, b, h, ha, hb => by
    cases h with
    | cons h1 h2 =>
      rcases List.mem_cons.mp ha with rfl | ha' <;> rcases List.mem_cons.mp hb with rfl | hb'
      · exact .inl rfl
      · exact .inr (.inl (h1 b hb'))
      · exact .inr (.inr (h1 _ ha'))
      · exact pw_mem h2 ha' hb'
/-- rows of one list of matches with the same lengths are the same -/
theorem same_row {M : List Row} (hM : M.Pairwise fun r s => lexN (lens r) (lens s) = true) {r s : Row} (hr : r ∈ M) (hs : s ∈ M) (h : lens r = lens s) : r = s := by
  rcases pw_mem hM hr hs with z | z | z
  · exact z
  · rw [h, lexN_irrefl] at z; cases z
  · rw [h, lexN_irrefl] at z; cases z
theorem putA_ent {M : List Row} (hM : M.Pairwise fun r s => lexN (lens r) (lens s) = true) {L : List Row} (hL : ∀ s ∈ L, s ∈ M) {r : Row} (hr : r ∈ M) : putA true (L.map ent) (keyL (lens r)) (kl (lens r)) (.sh (.dct false (rowD r))) = (if r ∈ L then L else L ++ [r]).map ent := by
  unfold putA
  by_cases h : r ∈ L
  · rw [if_pos h, if_pos]
    · rw [List.map_map]
      apply List.map_congr_left
      intro s hs
      show (if dKey true (keyL (lens s)) = some (kl (lens r)) then ((ent s).1, T.sh (.dct false (rowD r))) else ent s) = ent s
      rw [dKey_L]
      by_cases hq : some (kl (lens s)) = some (kl (lens r))
      · rw [if_pos hq]
        have := same_row hM (hL s hs) hr (kl_inj (Option.some.inj hq))
        subst this; rfl
      · rw [if_neg hq]
    · rw [List.any_eq_true]
      exact ⟨ent r, List.mem_map.mpr ⟨r, h, rfl⟩, decide_eq_true (ent_key r)⟩
  · rw [if_neg h, if_neg]
    · rw [List.map_append]; rfl
    · rw [List.any_eq_true]
      rintro ⟨d, hd, hq⟩
      obtain ⟨s, hs, rfl⟩ := List.mem_map.mp hd
      have hq : dKey true (keyL (lens s)) = some (kl (lens r)) := of_decide_eq_true hq
      rw [dKey_L] at hq
      have := same_row hM (hL s hs) hr (kl_inj (Option.some.inj hq))
      subst this; exact h hs
theorem look_ent {M : List Row} (hM : M.Pairwise fun r s => lexN (lens r) (lens s) = true) : ∀ {L : List Row}, (∀ s ∈ L, s ∈ M) → ∀ {r : Row}, r ∈ L → lookA true (L.map ent) (kl (lens r)) = some (.sh (.dct false (rowD r)))
  | s :: L, hL, r, hr => by
    unfold lookA
    rw [List.map_cons, List.find?_cons]
    have hrM := hL r hr
    by_cases hq : kl (lens s) = kl (lens r)
    · have := same_row hM (hL s (List.mem_cons_self ..)) hrM (kl_inj hq)
      subst this
      have : decide (dKey true (ent s).1 = some (kl (lens s))) = true := decide_eq_true (ent_key s)
      simp only [this]; rfl
    · have : decide (dKey true (ent s).1 = some (kl (lens r))) = false := by
        rw [decide_eq_false_iff_not, ent_key]; exact fun z => hq (Option.some.inj z)
      simp only [this]
      have hr' : r ∈ L := by
        rcases List.mem_cons.mp hr with rfl | h
        · exact absurd rfl hq
        · exact h
      exact look_ent hM (fun s hs => hL s (List.mem_cons_of_mem _ hs)) hr'
/-! a row sorted by its names -/
def tup2 (x : Nat × List Nat) : D := .tup [.str [x.1], .str x.2]
theorem leD_name {a b : Nat} (h : a < b) : leD (.str [a]) (.str [b]) = true := by
  rw [leD_str, decide_eq_true_eq]
  exact List.cons_le_cons_iff.mpr (.inl h)
theorem toks_name (a : Nat) : keyToks (D.str [a]).py = [.inr [a]] := by rw [D.py, keyToks]; rfl
theorem toks_t2 (x : Nat × List Nat) : keyToks (tup2 x).py = [.inl 1, .inr [x.1], .inl 1, .inr x.2, .inl 0] := by
  unfold tup2
  rw [D.py, D.pys, D.pys, D.pys, D.py, D.py, keyToks, keyToksAll, keyToksAll, keyToksAll, keyToks, keyToks]; rfl
theorem leD_t2 {x y : Nat × List Nat} (h : x.1 < y.1) : leD (tup2 x) (tup2 y) = true := by
  rw [leD_eq, toks_t2, toks_t2, PyProof.Rows.lex_cons, PyProof.Rows.lex_cons]
  have e := leD_name h
  rw [leD_eq, toks_name, toks_name, PyProof.Rows.lex_cons] at e
  have e1 : PyProof.Rows.itemOrd.blt (.inl 1) (.inl 1) = false := by decide
  have hne : PyProof.Rows.itemOrd.blt (.inr [x.1]) (.inr [y.1]) = true := by
    cases hq : PyProof.Rows.itemOrd.blt (.inr [x.1]) (.inr [y.1]) with
    | true => rfl
    | false =>
      have hq2 : PyProof.Rows.itemOrd.blt (.inr [y.1]) (.inr [x.1]) = false := by
        cases hq3 : PyProof.Rows.itemOrd.blt (.inr [y.1]) (.inr [x.1]) with
        | false => rfl
        | true => rw [hq3] at e; simp at e
      have := PyProof.Rows.itemOrd.total _ _ hq hq2
      have := Sum.inr.inj this
      have := (List.cons.inj this).1
      omega
  have hne2 : PyProof.Rows.itemOrd.blt (.inr [y.1]) (.inr [x.1]) = false := by
    cases hq : PyProof.Rows.itemOrd.blt (.inr [y.1]) (.inr [x.1]) with
    | false => rfl
    | true =>
      have := PyProof.Rows.itemOrd.trans _ _ _ hq hne
      rw [PyProof.Rows.itemOrd.irrefl] at this; cases this
  rw [e1, hne, hne2]; rfl
theorem sort_names {r s : Row} (hp : s.Perm r) (hs : s.Pairwise fun x y => x.1 < y.1) : sortD (r.map fun x => .str [x.1]) = s.map fun x => .str [x.1] := by
  refine sortD_is (hp.map _) ?_ ?_
  · rw [List.pairwise_map]
    exact hs.imp fun h => leD_name h
  · intro a ha b hb e
    obtain ⟨x, hx, rfl⟩ := List.mem_map.mp ha
    obtain ⟨y, hy, rfl⟩ := List.mem_map.mp hb
    rw [toks_name, toks_name] at e
    have := Sum.inr.inj (List.cons.inj e).1
    rw [this]
theorem sort_items {r s : Row} (hp : s.Perm r) (hs : s.Pairwise fun x y => x.1 < y.1) : sortD (r.map tup2) = s.map tup2 := by
  refine sortD_is (hp.map _) ?_ ?_
  · rw [List.pairwise_map]
    exact hs.imp fun h => leD_t2 h
  · intro a ha b hb e
    obtain ⟨x, hx, rfl⟩ := List.mem_map.mp ha
    obtain ⟨y, hy, rfl⟩ := List.mem_map.mp hb
    rw [toks_t2, toks_t2] at e
    have h1 := (List.cons.inj (List.cons.inj e).2).1
    have h2 := (List.cons.inj (List.cons.inj (List.cons.inj (List.cons.inj e).2).2).2).1
    unfold tup2
    rw [Sum.inr.inj h1, Sum.inr.inj h2]
/-- the row in the order of its names -/
def srt (r : Row) : Row := match r with | [x, y] => if x.1 < y.1 then [x, y] else [y, x] | r => r
theorem srt_ok {r : Row} (h : Five (r.map (·.1))) : (srt r).Perm r ∧ (srt r).Pairwise fun x y => x.1 < y.1 := by
  rcases h with h | h | h | h | h
  · obtain rfl := List.map_eq_nil_iff.mp h
    exact ⟨.refl _, .nil⟩
  · obtain ⟨x, rfl⟩ : ∃ x, r = [x] := by
      have hl := congrArg List.length h
      rw [List.length_map] at hl
      exact List.length_eq_one_iff.mp hl
    exact ⟨.refl _, by show List.Pairwise _ [x]; simp⟩
  · obtain ⟨x, rfl⟩ : ∃ x, r = [x] := by
      have hl := congrArg List.length h
      rw [List.length_map] at hl
      exact List.length_eq_one_iff.mp hl
    exact ⟨.refl _, by show List.Pairwise _ [x]; simp⟩
  · obtain ⟨x, y, rfl⟩ : ∃ x y, r = [x, y] := by
      have hl := congrArg List.length h
      rw [List.length_map] at hl
      match r, hl with
      | [x, y], _ => exact ⟨x, y, rfl⟩
    simp at h
    have : srt [x, y] = [x, y] := by show (if x.1 < y.1 then [x, y] else [y, x]) = _; rw [if_pos (by omega)]
    rw [this]
    exact ⟨.refl _, by simp; omega⟩
  · obtain ⟨x, y, rfl⟩ : ∃ x y, r = [x, y] := by
      have hl := congrArg List.length h
      rw [List.length_map] at hl
      match r, hl with
      | [x, y], _ => exact ⟨x, y, rfl⟩
    simp at h
    have : srt [x, y] = [y, x] := by show (if x.1 < y.1 then [x, y] else [y, x]) = _; rw [if_neg (by omega)]
    rw [this]
    exact ⟨.swap .., by simp; omega⟩
theorem Five.nodup {s : List Nat} (h : Five s) : s.Nodup := by rcases h with rfl | rfl | rfl | rfl | rfl <;> decide
theorem Five.len {s : List Nat} (h : Five s) : s.length ≤ 2 := by rcases h with rfl | rfl | rfl | rfl | rfl <;> decide
theorem look_self : ∀ {r : Row}, (r.map (·.1)).Nodup → ∀ x ∈ r, r.lookup x.1 = some x.2
  | y :: r, h, x, hx => by
    rw [List.map_cons, List.nodup_cons] at h
    rcases List.mem_cons.mp hx with rfl | hx
    · simp [List.lookup]
    · have hne : ¬ x.1 = y.1 := fun z => h.1 (by rw [← z]; exact List.mem_map.mpr ⟨x, hx, rfl⟩)
      have : (x.1 == y.1) = false := by simp [hne]
      simp only [List.lookup, this]
      exact look_self h.2 x hx
end K36

end
section
set_option Elab.async false
set_option autoImplicit false
set_option linter.all false
set_option maxRecDepth 100000
set_option maxHeartbeats 2000000
namespace K36
open PySem L2 Mi
def LE (p w : List Nat) (l : Nat) (n q4 x5 q6 x7 x8 x9 x10 x11 x12 x13 : T) : Mi.Env := [.sh (.str p), .sh (.str w), .sh (.int l), n, q4, x5, q6, x7, x8, x9, x10, x11, x12, x13, .un]
def strT (z : List Nat) : T := .sh (.str z)
def subs (w : List Nat) (m : Nat) : List (List Nat) := (List.range (w.length - m + 1)).map fun a => (w.drop a).take m
theorem strips_strT (l : List (List Nat)) : T.strips (l.map strT) = l.map .str := strips_shf D.str l
theorem parts_loop {p w : List Nat} {l : Nat} {n q6 x7 x8 x9 x10 x11 x12 x13 : T} (hw : w.length ≤ 9) : ∀ (ms : List Nat) (acc : List (List Nat)) (x5 : T), (∀ m ∈ ms, m ≤ w.length) → acc.length + 10 * ms.length ≤ 1000000 → ∃ x5', forL (bName 5) l__law_matches_1 (ms.map fun (m : Nat) => .int m) (LE p w l n (.lst (acc.map strT)) x5 q6 x7 x8 x9 x10 x11 x12 x13) =
    .nx (LE p w l n (.lst ((acc ++ ms.flatMap (subs w)).map strT)) x5' q6 x7 x8 x9 x10 x11 x12 x13)
  | [], acc, x5, _, _ => ⟨x5, by simp⟩
  | m :: ms, acc, x5, hm, hl => by
    have hmw := hm m (List.mem_cons_self ..)
    rw [List.length_cons] at hl
    have hsl : (subs w m).length ≤ 10 := by unfold subs; simp; omega
    obtain ⟨x', e⟩ := parts_loop (p := p) (l := l) (n := n) (q6 := q6) (x7 := x7) (x8 := x8) (x9 := x9) (x10 := x10) (x11 := x11) (x12 := x12) (x13 := x13) hw ms (acc ++ subs w m) (.sh (.int m)) (fun k hk => hm k (List.mem_cons_of_mem _ hk)) (by rw [List.length_append]; omega)
    refine ⟨x', ?_⟩
    have eL : fLen (.str w) = some (.int w.length) := fLen_str (by omega)
    have er := rng1_nat (n := w.length - m + 1) (by omega)
    have ei : ((w.length : Int) - (m : Int) + 1) = ((w.length - m + 1 : Nat) : Int) := by omega
    have el := lcM_map (vs := [14]) (mi := bnd (cons1 (op2 fAdd (op2 fSub (mLen 1) (get 5)) (pur (.int 1))) (pur [])) fun ds => opt (rng1 ds)) (f := bName 14) (te := t__law_matches_1) (ds := (List.range (w.length - m + 1)).map fun (i : Nat) => .int i) (ρ0 := LE p w l n (.lst (acc.map strT)) (.sh (.int m)) q6 x7 x8 x9 x10 x11 x12 x13) (ρ := LE p w l n (.lst (acc.map strT)) (.sh (.int m)) q6 x7 x8 x9 x10 x11 x12 x13)
      (fun d => match d with | .int a => strT ((w.drop a.toNat).take m) | _ => .un) (by simp only [LE, bnd_ap, cons1_ap, op2_ap, mLen_ap, get_ap, List.getElem?_cons_succ, List.getElem?_cons_zero, lenR_sh, getT_sh, eL, opt_sm, go_ok, fSub_int, pur_ap, fAdd_int, ei, er]) rfl (by simp; omega) fun d hd => by
        obtain ⟨a, ha, rfl⟩ := List.mem_map.mp hd
        have ec : cut w (some (a : Int)) (some ((a : Int) + (m : Int))) = (w.drop a).take m := by
          have := cut_mid w a (a + m)
          rw [Int.natCast_add, show a + m - a = m by omega] at this; exact this
        refine ⟨[.sh (.str p), .sh (.str w), .sh (.int l), n, .lst (acc.map strT), .sh (.int m), q6, x7, x8, x9, x10, x11, x12, x13, .sh (.int a)], [.sh (.str p), .sh (.str w), .sh (.int l), n, .lst (acc.map strT), .sh (.int m), q6, x7, x8, x9, x10, x11, x12, x13, .sh (.int a)], by simp [LE], ?_, by simp [LE]⟩
        simp [t__law_matches_1, fSl_str (l := w) (by omega), ec, strT]
    rw [List.map_map] at el
    have el2 : T.strips ((List.range (w.length - m + 1)).map ((fun d => match d with | .int a => strT ((w.drop a.toNat).take m) | _ => T.un) ∘ fun (i : Nat) => D.int i)) = (subs w m).map .str := by
      rw [strips_eq, List.map_map, subs, List.map_map]; rfl
    have es : l__law_matches_1 (LE p w l n (.lst (acc.map strT)) (.sh (.int m)) q6 x7 x8 x9 x10 x11 x12 x13) = .nx (LE p w l n (.lst ((acc ++ subs w m).map strT)) (.sh (.int m)) q6 x7 x8 x9 x10 x11 x12 x13) := by
      unfold LE at el ⊢
      simp only [l__law_matches_1, sbnd_ap, bnd_ap, isL_ap, List.getElem?_cons_succ, List.getElem?_cons_zero, isLR_lst, go_ok, mExtend_ap, froz_ap, el, pur_ap, strip_lst, el2, extR_lst, List.length_map, big_t (show acc.length + (subs w m).length ≤ 16777216 by omega), sel_t, ths_ok, List.set_cons_succ, List.set_cons_zero, List.map_append, List.map_map]
      rfl
    rw [List.map_cons, forL_cons (ρ1 := LE p w l n (.lst (acc.map strT)) (.sh (.int m)) q6 x7 x8 x9 x10 x11 x12 x13) (by simp [LE]), es, loopK_nx, e]
    simp
theorem inner_loop {p w : List Nat} {l c : Nat} {r : Row} {n q4 x5 q6 x12 x13 : T} (hr : r.lookup c = none) (hrl : r.length ≤ 100) : ∀ (vs : List (List Nat)) (wid : List Row) (x10 x11 : T), wid.length + vs.length ≤ 1000000 → ∃ x10' x11', forL (bName 10) l__law_matches_2 (vs.map .str) (LE p w l n q4 x5 q6 (.sh (.str [c])) (.lst (wid.map roT)) (roT r) x10 x11 x12 x13) =
    .nx (LE p w l n q4 x5 q6 (.sh (.str [c])) (.lst ((wid ++ vs.map fun v => r ++ [(c, v)]).map roT)) (roT r) x10' x11' x12 x13)
  | [], wid, x10, x11, _ => ⟨x10, x11, by simp⟩
  | v :: vs, wid, x10, x11, hl => by
    rw [List.length_cons] at hl
    obtain ⟨x10', x11', e⟩ := inner_loop (p := p) (w := w) (l := l) (n := n) (q4 := q4) (x5 := x5) (q6 := q6) (x12 := x12) (x13 := x13) hr hrl vs (wid ++ [r ++ [(c, v)]]) (.sh (.str v)) (roT (r ++ [(c, v)])) (by simp; omega)
    refine ⟨x10', x11', ?_⟩
    have hl2 : ((rowD r).map shT).length < 16000000 := by unfold rowD; simp; omega
    have ed := fun ρ : Mi.Env => dputR_s (ρ := ρ) (i := 11) (e := .str v) (q := .str [c]) (t := false) (kts := (rowD r).map shT) (dKey_1 c) hl2
    have es : l__law_matches_2 (LE p w l n q4 x5 q6 (.sh (.str [c])) (.lst (wid.map roT)) (roT r) (.sh (.str v)) x11 x12 x13) = .nx (LE p w l n q4 x5 q6 (.sh (.str [c])) (.lst ((wid ++ [r ++ [(c, v)]]).map roT)) (roT r) (.sh (.str v)) (roT (r ++ [(c, v)])) x12 x13) := by
      simp [l__law_matches_2, s__law_matches_4_2, s__law_matches_4_3, LE, roT, ed, putA_new hr, big_t (show wid.length + 1 ≤ 16777216 by omega)]
    rw [List.map_cons, forL_cons (ρ1 := LE p w l n q4 x5 q6 (.sh (.str [c])) (.lst (wid.map roT)) (roT r) (.sh (.str v)) x11 x12 x13) (by simp [LE]), es, loopK_nx, e]
    simp
def Is4 (ps : List (List Nat)) (q : T) : Prop := q = .lst (ps.map strT) ∨ q = .sh (.lst (ps.map .str))
theorem mid_loop {p w : List Nat} {l c : Nat} {n x5 q6 x12 x13 : T} {ps P : List (List Nat)} (hP : fSortSet (.lst (ps.map .str)) = some (.lst (P.map .str))) : ∀ (rs : List Row) (wid : List Row) (q4 x9 x10 x11 : T), Is4 ps q4 → (∀ r ∈ rs, r.lookup c = none ∧ r.length ≤ 100) → wid.length + rs.length * P.length ≤ 1000000 → ∃ q4' x9' x10' x11', Is4 ps q4' ∧ forL (bName 9) l__law_matches_3 (rs.map fun r => .dct false (rowD r)) (LE p w l n q4 x5 q6 (.sh (.str [c])) (.lst (wid.map roT)) x9 x10 x11 x12 x13) =
    .nx (LE p w l n q4' x5 q6 (.sh (.str [c])) (.lst ((wid ++ rs.flatMap fun r => P.map fun v => r ++ [(c, v)]).map roT)) x9' x10' x11' x12 x13)
  | [], wid, q4, x9, x10, x11, h4, _, _ => ⟨q4, x9, x10, x11, h4, by simp⟩
  | r :: rs, wid, q4, x9, x10, x11, h4, hr, hl => by
    rw [List.length_cons, Nat.succ_mul] at hl
    obtain ⟨hr1, hr2⟩ := hr r (List.mem_cons_self ..)
    obtain ⟨y10, y11, e1⟩ := inner_loop (p := p) (w := w) (l := l) (n := n) (q4 := .sh (.lst (ps.map .str))) (x5 := x5) (q6 := q6) (x12 := x12) (x13 := x13) hr1 hr2 P wid x10 x11 (by omega)
    obtain ⟨q4', x9', x10', x11', h4', e⟩ := mid_loop (p := p) (w := w) (l := l) (c := c) (n := n) (x5 := x5) (q6 := q6) (x12 := x12) (x13 := x13) hP rs (wid ++ P.map fun v => r ++ [(c, v)]) (.sh (.lst (ps.map .str))) (roT r) y10 y11 (.inr rfl) (fun r h => hr r (List.mem_cons_of_mem _ h)) (by rw [List.length_append, List.length_map]; omega)
    refine ⟨q4', x9', x10', x11', h4', ?_⟩
    have es : l__law_matches_3 (LE p w l n q4 x5 q6 (.sh (.str [c])) (.lst (wid.map roT)) (roT r) x10 x11 x12 x13) = .nx (LE p w l n (.sh (.lst (ps.map .str))) x5 q6 (.sh (.str [c])) (.lst ((wid ++ P.map fun v => r ++ [(c, v)]).map roT)) (roT r) y10 y11 x12 x13) := by
      rcases h4 with rfl | rfl
      · unfold LE at e1 ⊢
        simp only [l__law_matches_3, sbnd_ap, bnd_ap, op1_ap, get_ap, List.getElem?_cons_succ, List.getElem?_cons_zero, getT_lst, strips_strT, go_ok, List.set_cons_succ, List.set_cons_zero, hP, opt_sm, items_lst, ths_ok, e1]
      · unfold LE at e1 ⊢
        simp only [l__law_matches_3, sbnd_ap, bnd_ap, op1_ap, get_ap, List.getElem?_cons_succ, List.getElem?_cons_zero, getT_sh, go_ok, hP, opt_sm, items_lst, ths_ok, e1]
    rw [List.map_cons, forL_cons (ρ1 := LE p w l n q4 x5 q6 (.sh (.str [c])) (.lst (wid.map roT)) (roT r) x10 x11 x12 x13) (by simp [LE, roT]), es, loopK_nx, e]
    simp
def Is6 (rs : List Row) (q : T) : Prop := q = .lst (rs.map roT) ∨ q = .sh (.lst (rs.map fun r => .dct false (rowD r)))
theorem strips_roT (l : List Row) : T.strips (l.map roT) = l.map fun r => .dct false (rowD r) := strips_shf (fun r => D.dct false (rowD r)) l
def extR' (P : List (List Nat)) : List Nat → List Row → List Row
  | [], rs => rs
  | c :: cs, rs => extR' P cs (rs.flatMap fun r => P.map fun v => r ++ [(c, v)])
theorem ext_mem {P : List (List Nat)} : ∀ (cs : List Nat) (rs : List Row) (r : Row), r ∈ extR' P cs rs ↔ ∃ r0 ∈ rs, ∃ e : Row, r = r0 ++ e ∧ e.map (·.1) = cs ∧ ∀ x ∈ e, x.2 ∈ P
  | [], rs, r => by
    show r ∈ rs ↔ _
    constructor
    · intro h; exact ⟨r, h, [], by simp, rfl, fun x hx => by simp at hx⟩
    · rintro ⟨r0, h, e, rfl, he, _⟩
      have := List.map_eq_nil_iff.mp he
      subst this; simpa using h
  | c :: cs, rs, r => by
    show r ∈ extR' P cs _ ↔ _
    rw [ext_mem cs]
    constructor
    · rintro ⟨r1, h1, e, rfl, he, hv⟩
      obtain ⟨r0, h0, h1⟩ := List.mem_flatMap.mp h1
      obtain ⟨v, hvP, rfl⟩ := List.mem_map.mp h1
      refine ⟨r0, h0, (c, v) :: e, by simp, by rw [List.map_cons, he], fun x hx => ?_⟩
      rcases List.mem_cons.mp hx with rfl | hx
      · exact hvP
      · exact hv x hx
    · rintro ⟨r0, h0, e, rfl, he, hv⟩
      cases e with
      | nil => cases he
      | cons x e =>
        obtain ⟨d, v⟩ := x
        simp only [List.map_cons, List.cons.injEq] at he
        obtain ⟨rfl, he⟩ := he
        exact ⟨r0 ++ [(d, v)], List.mem_flatMap.mpr ⟨r0, h0, List.mem_map.mpr ⟨v, hv (d, v) (List.mem_cons_self ..), rfl⟩⟩, e, by simp, he, fun x hx => hv x (List.mem_cons_of_mem _ hx)⟩
def Fl (x : T) : Prop := x = .un ∨ ∃ d, x = .sh d
theorem names_loop {p w : List Nat} {l : Nat} {n x5 x12 x13 : T} {ps P : List (List Nat)} (hP : fSortSet (.lst (ps.map .str)) = some (.lst (P.map .str))) (hPl : P.length ≤ 100) : ∀ (cs : List Nat) (rs : List Row) (s : List Nat) (q4 q6 x7 x8 x9 x10 x11 : T), Is4 ps q4 → Is6 rs q6 → Fl x7 → (∀ r ∈ rs, r.map (·.1) = s) → (s ++ cs).Nodup → s.length + cs.length ≤ 100 → rs.length * 100 ^ cs.length ≤ 1000000 →
    ∃ q4' q6' x7' x8' x9' x10' x11', Is4 ps q4' ∧ Is6 (extR' P cs rs) q6' ∧ Fl x7' ∧ forL (bName 7) l__law_matches_4 (cs.map fun c => .str [c]) (LE p w l n q4 x5 q6 x7 x8 x9 x10 x11 x12 x13) = .nx (LE p w l n q4' x5 q6' x7' x8' x9' x10' x11' x12 x13) ∧ (extR' P cs rs).length ≤ 1000000
  | [], rs, s, q4, q6, x7, x8, x9, x10, x11, h4, h6, h7, _, _, _, hl => ⟨q4, q6, x7, x8, x9, x10, x11, h4, h6, h7, by simp, by simpa [extR'] using hl⟩
  | c :: cs, rs, s, q4, q6, x7, x8, x9, x10, x11, h4, h6, h7, hrs, hnd, hsl, hl => by
    rw [List.length_cons] at hsl
    rw [List.length_cons, Nat.pow_succ] at hl
    have hpw : 1 ≤ 100 ^ cs.length := Nat.one_le_pow _ _ (by omega)
    have hcs : c ∉ s := fun z => by
      have := List.nodup_append.mp hnd
      exact this.2.2 c z c (List.mem_cons_self ..) rfl
    have hb : rs.length * P.length ≤ rs.length * 100 := Nat.mul_le_mul_left _ hPl
    have hb2 : rs.length * 100 ≤ rs.length * (100 ^ cs.length * 100) := Nat.mul_le_mul_left _ (by omega)
    obtain ⟨q4', x9', x10', x11', h4', e1⟩ := mid_loop (p := p) (w := w) (l := l) (c := c) (n := n) (x5 := x5) (q6 := .sh (.lst (rs.map fun r => .dct false (rowD r)))) (x12 := x12) (x13 := x13) hP rs [] q4 x9 x10 x11 h4 (fun r hr => ⟨look_none.mpr (by rw [hrs r hr]; exact hcs), by have := congrArg List.length (hrs r hr); rw [List.length_map] at this; omega⟩) (by simp; omega)
    simp only [List.map_nil, List.nil_append] at e1
    have hlen : (rs.flatMap fun r => P.map fun v => r ++ [(c, v)]).length = rs.length * P.length := by
      rw [List.length_flatMap]
      simp only [List.length_map]
      have : ∀ l : List Row, (l.map fun _ => P.length).sum = l.length * P.length := fun l => by
        induction l with
        | nil => simp
        | cons x l ih => simp [ih, Nat.succ_mul, Nat.add_comm]
      exact this rs
    obtain ⟨q4'', q6'', x7'', x8'', x9'', x10'', x11'', g4, g6, g7, e, g8⟩ := names_loop (p := p) (w := w) (l := l) (n := n) (x5 := x5) (x12 := x12) (x13 := x13) hP hPl cs (rs.flatMap fun r => P.map fun v => r ++ [(c, v)]) (s ++ [c]) q4' (.sh (.lst ((rs.flatMap fun r => P.map fun v => r ++ [(c, v)]).map fun r => .dct false (rowD r)))) (.sh (.str [c])) (.sh (.lst ((rs.flatMap fun r => P.map fun v => r ++ [(c, v)]).map fun r => .dct false (rowD r)))) x9' x10' x11' h4' (.inr rfl) (.inr ⟨_, rfl⟩) (fun r hr => by
      obtain ⟨r0, h0, h1⟩ := List.mem_flatMap.mp hr
      obtain ⟨v, _, rfl⟩ := List.mem_map.mp h1
      rw [List.map_append, hrs r0 h0]; rfl) (by rw [List.append_assoc]; exact hnd) (by simp; omega) (by
        rw [hlen]
        refine Nat.le_trans ?_ hl
        rw [Nat.mul_comm (100 ^ cs.length) 100, ← Nat.mul_assoc]
        exact Nat.mul_le_mul_right _ hb)
    refine ⟨q4'', q6'', x7'', x8'', x9'', x10'', x11'', g4, g6, g7, ?_, g8⟩
    have es : l__law_matches_4 (LE p w l n q4 x5 q6 (.sh (.str [c])) x8 x9 x10 x11 x12 x13) = .nx (LE p w l n q4' x5 (.sh (.lst ((rs.flatMap fun r => P.map fun v => r ++ [(c, v)]).map fun r => .dct false (rowD r)))) (.sh (.str [c])) (.sh (.lst ((rs.flatMap fun r => P.map fun v => r ++ [(c, v)]).map fun r => .dct false (rowD r)))) x9' x10' x11' x12 x13) := by
      rcases h6 with rfl | rfl
      · unfold LE at e1 ⊢
        simp [l__law_matches_4, s__law_matches_2_2, s__law_matches_2_3, big, strips_roT, e1]
      · unfold LE at e1 ⊢
        simp [l__law_matches_4, s__law_matches_2_2, s__law_matches_2_3, big, strips_roT, e1]
    rw [List.map_cons, forL_cons (ρ1 := LE p w l n q4 x5 q6 (.sh (.str [c])) x8 x9 x10 x11 x12 x13) (by simp [LE]), es, loopK_nx, e]
end K36

end
section
set_option Elab.async false
set_option autoImplicit false
set_option linter.all false
set_option maxRecDepth 100000
set_option maxHeartbeats 2000000
namespace K36
open PySem L2 Mi PySem.W
theorem flat_7 {p w : List Nat} {l : Nat} {n q4 x5 q6 x7 x8 x9 x10 x11 x12 x13 : T} (h : Fl x7) : flatAt (LE p w l n q4 x5 q6 x7 x8 x9 x10 x11 x12 x13) [7] = true := by
  rcases h with rfl | ⟨d, rfl⟩ <;> rfl
theorem lens_look {r : Row} (hn : (r.map (·.1)).Nodup) : (r.map (·.1)).map (fun c => (((r.lookup c).getD []).length : Nat)) = lens r := by
  rw [List.map_map]
  apply List.map_congr_left
  intro x hx
  show ((r.lookup x.1).getD []).length = x.2.length
  rw [look_self hn x hx]; rfl
theorem order_step {p w : List Nat} {l : Nat} {q4 x5 q6 x7 x8 x10 x11 x13 : T} {cs : List Nat} {M : List Row} (hM : M.Pairwise fun r s => lexN (lens r) (lens s) = true) (h7 : Fl x7) (hcs : cs.Nodup) (hcl : cs.length ≤ 2) (hp : p.length ≤ 5) (hw : w.length ≤ 9) {r : Row} {L : List Row} (hr1 : r.map (·.1) = cs) (hr2 : Rl 9 r) (hr3 : putR r p = w → r ∈ M) (hL : ∀ s ∈ L, s ∈ M) (hLl : L.length ≤ 1000000) :
    l__law_matches_5 (LE p w l (.sh (.lst (cs.map fun c => .str [c]))) q4 x5 q6 x7 x8 (roT r) x10 x11 (.dct true (L.map ent)) x13) =
      .nx (LE p w l (.sh (.lst (cs.map fun c => .str [c]))) q4 x5 q6 x7 x8 (roT r) x10 x11 (.dct true ((if putR r p = w then (if r ∈ L then L else L ++ [r]) else L).map ent)) x13) := by
  have ep := m_put_eq (p := p) hr2 (by omega) (by omega) (by omega)
  by_cases hq : putR r p = w
  · have hnd : (r.map (·.1)).Nodup := by rw [hr1]; exact hcs
    have el := lcM_map (vs := [7]) (mi := bnd (get 3) fun d => opt (items d)) (f := bName 7) (te := t__law_matches_2) (ds := cs.map fun c => .str [c]) (ρ0 := LE p w l (.sh (.lst (cs.map fun c => .str [c]))) q4 x5 q6 x7 x8 (roT r) x10 x11 (.dct true (L.map ent)) x13) (ρ := LE p w l (.sh (.lst (cs.map fun c => .str [c]))) q4 x5 q6 x7 x8 (roT r) x10 x11 (.dct true (L.map ent)) x13)
      (fun d => match d with | .str [c] => .sh (.int ((((r.lookup c).getD []).length : Nat) : Int)) | _ => .un) (by simp [LE]) (flat_7 h7) (by simp; omega) fun d hd => by
        obtain ⟨c, hc, rfl⟩ := List.mem_map.mp hd
        have hcr : (r.lookup c).isSome = true := look_some.mpr (by rw [hr1]; exact hc)
        obtain ⟨v, hv⟩ := Option.isSome_iff_exists.mp hcr
        have hvl := hr2.look hv
        refine ⟨LE p w l (.sh (.lst (cs.map fun c => .str [c]))) q4 x5 q6 (.sh (.str [c])) x8 (roT r) x10 x11 (.dct true (L.map ent)) x13, LE p w l (.sh (.lst (cs.map fun c => .str [c]))) q4 x5 q6 (.sh (.str [c])) x8 (roT r) x10 x11 (.dct true (L.map ent)) x13, by simp [LE], ?_, by simp [LE]⟩
        simp [t__law_matches_2, LE, roT, fLook_row, hv, fLen_str (l := v) (by omega)]
    rw [List.map_map] at el
    have el2 : T.strips (cs.map ((fun d => match d with | .str [c] => T.sh (.int ((((r.lookup c).getD []).length : Nat) : Int)) | _ => T.un) ∘ fun c => D.str [c])) = (lens r).map fun (n : Nat) => .int n := by
      rw [strips_eq, List.map_map, ← lens_look hnd, hr1, List.map_map]; rfl
    have ed := fun ρ : Mi.Env => dputR_s (ρ := ρ) (i := 12) (e := .dct false (rowD r)) (q := keyL (lens r)) (t := true) (kts := L.map ent) (dKey_L (lens r)) (by rw [List.length_map]; omega)
    rw [if_pos hq, ← putA_ent hM hL (hr3 hq)]
    unfold LE at el ⊢
    unfold keyL at ed ⊢
    simp [l__law_matches_5, roT, ep, hq]
    simp only [roT] at el
    simp [el, el2, -dputR, ed]
  · rw [if_neg hq]
    simp [l__law_matches_5, LE, roT, ep, hq]
theorem order_loop {p w : List Nat} {l : Nat} {q4 x5 q6 x7 x8 x10 x11 x13 : T} {cs : List Nat} {M : List Row} (hM : M.Pairwise fun r s => lexN (lens r) (lens s) = true) (h7 : Fl x7) (hcs : cs.Nodup) (hcl : cs.length ≤ 2) (hp : p.length ≤ 5) (hw : w.length ≤ 9) : ∀ (rs L : List Row) (x9 : T), (∀ r ∈ rs, r.map (·.1) = cs ∧ Rl 9 r ∧ (putR r p = w → r ∈ M)) → (∀ s ∈ L, s ∈ M) → L.Nodup → L.length + rs.length ≤ 1000000 →
    ∃ (L' : List Row) (x9' : T), L'.Nodup ∧ (∀ s ∈ L', s ∈ M) ∧ (∀ s ∈ L, s ∈ L') ∧ (∀ r ∈ rs, putR r p = w → r ∈ L') ∧ L'.length ≤ 1000000 ∧ forL (bName 9) l__law_matches_5 (rs.map fun r => .dct false (rowD r)) (LE p w l (.sh (.lst (cs.map fun c => .str [c]))) q4 x5 q6 x7 x8 x9 x10 x11 (.dct true (L.map ent)) x13) =
      .nx (LE p w l (.sh (.lst (cs.map fun c => .str [c]))) q4 x5 q6 x7 x8 x9' x10 x11 (.dct true (L'.map ent)) x13)
  | [], L, x9, _, hL, hn, hl => ⟨L, x9, hn, hL, fun _ h => h, fun r h => by simp at h, by simpa using hl, by simp⟩
  | r :: rs, L, x9, hr, hL, hn, hl => by
    rw [List.length_cons] at hl
    obtain ⟨h1, h2, h3⟩ := hr r (List.mem_cons_self ..)
    have es := order_step (l := l) (q4 := q4) (x5 := x5) (q6 := q6) (x8 := x8) (x10 := x10) (x11 := x11) (x13 := x13) hM h7 hcs hcl hp hw h1 h2 h3 hL (by omega)
    have hsub : ∀ s ∈ L, s ∈ (if putR r p = w then (if r ∈ L then L else L ++ [r]) else L) := fun s hs => by
      split
      · split
        · exact hs
        · exact List.mem_append_left _ hs
      · exact hs
    have hin : putR r p = w → r ∈ (if putR r p = w then (if r ∈ L then L else L ++ [r]) else L) := fun hq => by
      rw [if_pos hq]
      split
      · assumption
      · simp
    have hM' : ∀ s ∈ (if putR r p = w then (if r ∈ L then L else L ++ [r]) else L), s ∈ M := fun s hs => by
      split at hs
      · rename_i hq
        split at hs
        · exact hL s hs
        · rcases List.mem_append.mp hs with hs | hs
          · exact hL s hs
          · simp at hs; subst hs; exact h3 hq
      · exact hL s hs
    have hnd : (if putR r p = w then (if r ∈ L then L else L ++ [r]) else L).Nodup := by
      split
      · split
        · exact hn
        · rename_i hq
          rw [List.nodup_append]
          exact ⟨hn, by simp, fun a ha b hb => by simp at hb; subst hb; exact fun z => hq (z ▸ ha)⟩
      · exact hn
    have hlen : (if putR r p = w then (if r ∈ L then L else L ++ [r]) else L).length ≤ L.length + 1 := by
      split
      · split <;> simp
      · omega
    obtain ⟨L', x9', g1, g2, g3, g4, g5, e⟩ := order_loop (l := l) (q4 := q4) (x5 := x5) (q6 := q6) (x8 := x8) (x10 := x10) (x11 := x11) (x13 := x13) hM h7 hcs hcl hp hw rs _ (roT r) (fun r h => hr r (List.mem_cons_of_mem _ h)) hM' hnd (by omega)
    refine ⟨L', x9', g1, g2, fun s hs => g3 s (hsub s hs), fun s hs hq => ?_, g5, ?_⟩
    · rcases List.mem_cons.mp hs with rfl | hs
      · exact g3 _ (hin hq)
      · exact g4 s hs hq
    · rw [List.map_cons, forL_cons (ρ1 := LE p w l (.sh (.lst (cs.map fun c => .str [c]))) q4 x5 q6 x7 x8 (roT r) x10 x11 (.dct true (L.map ent)) x13) (by simp [LE, roT]), es, loopK_nx, e]
/-- what the law shows of a match -/
def outR (r : Row) : D := .tup ((srt r).map tup2)
theorem sortK {L M : List Row} (hM : M.Pairwise fun r s => lexN (lens r) (lens s) = true) {cs : List Nat} (hcs : ∀ r ∈ M, r.map (·.1) = cs) (hp : M.Perm L) (hl : L.length ≤ 1000000) (hc2 : cs.length ≤ 2) : fSorted (.dct true (L.map fun r => (keyL (lens r), .dct false (rowD r)))) = some (.lst (M.map fun r => keyL (lens r))) := by
  have hlen : ∀ r ∈ M, (lens r).length = cs.length := fun r hr => by
    have := congrArg List.length (hcs r hr)
    rw [List.length_map] at this
    unfold lens; rw [List.length_map]; exact this
  have hlenL : ∀ r ∈ L, (lens r).length = cs.length := fun r hr => hlen r (hp.mem_iff.mpr hr)
  have e1 : collD (.dct true (L.map fun r => (keyL (lens r), .dct false (rowD r)))) = some (L.map fun r => keyL (lens r)) := by
    have ha : ((L.map fun r => ((keyL (lens r), D.dct false (rowD r)) : D × D)).all fun p => okC p.1) = true := by
      rw [List.all_map]; refine List.all_eq_true.mpr fun r _ => ?_
      show ((lens r).map fun (n : Nat) => D.int n).all _ = true
      rw [List.all_map]; exact List.all_eq_true.mpr fun _ _ => rfl
    show (if ((L.map fun r => ((keyL (lens r), D.dct false (rowD r)) : D × D)).all fun p => okC p.1) = true then some ((L.map fun r => ((keyL (lens r), D.dct false (rowD r)) : D × D)).map (·.1)) else none) = _
    rw [if_pos ha, List.map_map]; rfl
  have e2 : okSort (L.map fun r => keyL (lens r)) = true := by
    unfold okSort
    have h1 : decide ((L.map fun r => keyL (lens r)).length ≤ sizeLine) = true := by
      rw [decide_eq_true_eq, List.length_map]; exact Nat.le_trans hl (by decide)
    have h2 : ((L.map fun r => keyL (lens r)).all fun d => d.lay 60) = true := by
      rw [List.all_map]; refine List.all_eq_true.mpr fun r _ => ?_
      show D.lays ((lens r).map fun (n : Nat) => D.int n) 59 = true
      rw [lays_eq, List.all_map]; exact List.all_eq_true.mpr fun _ _ => rfl
    have h3 : ((L.map fun r => keyL (lens r)).all fun d => (L.map fun r => keyL (lens r)).all fun e => alike d.py e.py) = true := by
      rw [List.all_map]; refine List.all_eq_true.mpr fun r _ => ?_
      show ((L.map fun r => keyL (lens r)).all _) = true
      rw [List.all_map]; refine List.all_eq_true.mpr fun s _ => ?_
      show alike (keyL (lens r)).py (keyL (lens s)).py = true
      unfold keyL
      rw [D.py, D.py, alike, pys_eq, pys_eq, List.map_map, List.map_map]
      have := alike_ints ((lens r).map fun (n : Nat) => (n : Int)) ((lens s).map fun (n : Nat) => (n : Int))
      rw [List.map_map, List.map_map] at this
      have q : ∀ l : List Nat, l.map (D.py ∘ fun (n : Nat) => D.int n) = l.map (PyData.int ∘ fun (n : Nat) => (n : Int)) := fun l => List.map_congr_left fun n _ => by show D.py (.int n) = _; rw [D.py]; rfl
      rw [q, q]; exact this
    rw [h1, h2, h3]
    show (true && ((L.map fun r => keyL (lens r)).all isT1 || ((L.map fun r => keyL (lens r)).all isNT || isU1 (L.map fun r => keyL (lens r))))) = true
    by_cases hc : cs = []
    · have hz : ∀ r ∈ L, lens r = [] := fun r hr => List.eq_nil_of_length_eq_zero (by rw [hlenL r hr, hc]; rfl)
      have hone : L.length ≤ 1 := by
        rw [← hp.length_eq]
        match M, hM, hp with
        | [], _, _ => simp
        | [r], _, _ => simp
        | r :: s :: M, hM, hp =>
          have h1 := hM
          cases h1 with
          | cons a b =>
            have := a s (by simp)
            rw [hz r (hp.mem_iff.mp (by simp)), hz s (hp.mem_iff.mp (by simp))] at this
            cases this
      match L, hz, hone with
      | [], _, _ => rfl
      | [r], hz, _ =>
        have := hz r (by simp)
        show (true && (([keyL (lens r)] : List D).all isT1 || (([keyL (lens r)] : List D).all isNT || isU1 [keyL (lens r)]))) = true
        rw [this]; rfl
    · have : (L.map fun r => keyL (lens r)).all isT1 = true := by
        rw [List.all_map]; refine List.all_eq_true.mpr fun r hr => ?_
        have h1 := hlenL r hr
        show isT1 (keyL (lens r)) = true
        cases hq : lens r with
        | nil => rw [hq] at h1; exact absurd (List.eq_nil_of_length_eq_zero h1.symm) hc
        | cons a b => rfl
      rw [this]; rfl
  have e3 : sortD (L.map fun r => keyL (lens r)) = M.map fun r => keyL (lens r) := by
    refine sortD_is (hp.map _) ?_ ?_
    · rw [List.pairwise_map]
      refine hM.imp_of_mem fun {r s} hr hs h => leD_L (by rw [hlen r hr, hlen s hs]) h
    · intro a ha b hb e
      obtain ⟨r, hr, rfl⟩ := List.mem_map.mp ha
      obtain ⟨s, hs, rfl⟩ := List.mem_map.mp hb
      rw [keyL_anti (by rw [hlen r hr, hlen s hs]) e]
  unfold fSorted
  rw [e1]
  dsimp only
  rw [if_pos e2, e3]
theorem okSort_names {r : Row} (h : r.length ≤ 100) : okSort (r.map fun x => .str [x.1]) = true := by
  have := okSort_strs (ls := r.map fun x => [x.1]) (by rw [List.length_map]; omega)
  rw [List.map_map] at this; exact this
theorem sort_row {r : Row} (hf : Five (r.map (·.1))) : fSorted (.dct false (rowD r)) = some (.lst ((srt r).map fun x => .str [x.1])) := by
  obtain ⟨h1, h2⟩ := srt_ok hf
  have hlen : r.length ≤ 2 := by have := hf.len; rw [List.length_map] at this; exact this
  have hch : ∀ x ∈ r, x.1 = 88 ∨ x.1 = 89 := fun x hx => by
    have : x.1 ∈ r.map (·.1) := List.mem_map.mpr ⟨x, hx, rfl⟩
    rcases hf with h | h | h | h | h <;> rw [h] at this <;> simp at this <;> omega
  have e1 : collD (.dct false (rowD r)) = some (r.map fun x => .str [x.1]) := by
    have ha : ((rowD r).all fun p => okC p.1) = true := by
      unfold rowD
      rw [List.all_map]; refine List.all_eq_true.mpr fun x hx => ?_
      show ([x.1].all fun c => decide (c < 1114112)) = true
      have := hch x hx
      simp; omega
    show (if ((rowD r).all fun p => okC p.1) = true then some ((rowD r).map (·.1)) else none) = _
    rw [if_pos ha]; unfold rowD; rw [List.map_map]; rfl
  unfold fSorted
  rw [e1]
  dsimp only
  rw [if_pos (okSort_names (by omega)), sort_names h1 h2]
theorem sort_its {r : Row} (hf : Five (r.map (·.1))) : fSortItems (.dct false (rowD r)) = some (.lst ((srt r).map tup2)) := by
  obtain ⟨h1, h2⟩ := srt_ok hf
  have hlen : r.length ≤ 2 := by have := hf.len; rw [List.length_map] at this; exact this
  have hch : ∀ x ∈ r, x.1 = 88 ∨ x.1 = 89 := fun x hx => by
    have : x.1 ∈ r.map (·.1) := List.mem_map.mpr ⟨x, hx, rfl⟩
    rcases hf with h | h | h | h | h <;> rw [h] at this <;> simp at this <;> omega
  have e1 : itemsD (.dct false (rowD r)) = some (r.map tup2) := by
    have ha : ((rowD r).all fun p => okC p.1) = true := by
      unfold rowD
      rw [List.all_map]; refine List.all_eq_true.mpr fun x hx => ?_
      show ([x.1].all fun c => decide (c < 1114112)) = true
      have := hch x hx
      simp; omega
    show (if ((rowD r).all fun p => okC p.1) = true then some ((rowD r).map fun p => D.tup [p.1, p.2]) else none) = _
    rw [if_pos ha]; unfold rowD; rw [List.map_map]; rfl
  have e2 : okSort (r.map tup2) = true := by
    unfold okSort
    have h1 : decide ((r.map tup2).length ≤ sizeLine) = true := by
      rw [decide_eq_true_eq, List.length_map]; exact Nat.le_trans hlen (by decide)
    have h2 : ((r.map tup2).all fun d => d.lay 60) = true := by
      rw [List.all_map]; exact List.all_eq_true.mpr fun x _ => rfl
    have h3 : ((r.map tup2).all fun d => (r.map tup2).all fun e => alike d.py e.py) = true := by
      rw [List.all_map]; refine List.all_eq_true.mpr fun x _ => ?_
      show ((r.map tup2).all _) = true
      rw [List.all_map]; refine List.all_eq_true.mpr fun y _ => ?_
      simp [Function.comp, tup2, D.py, D.pys, alike, alikeAll]
    have h4 : (r.map tup2).all isT1 = true := by rw [List.all_map]; exact List.all_eq_true.mpr fun _ _ => rfl
    rw [h1, h2, h3, h4]; rfl
  unfold fSortItems
  rw [e1]
  dsimp only
  rw [if_pos e2, sort_items h1 h2]
theorem unk_sub : ∀ (p s : List Nat), ∀ c ∈ unk p s, c ∈ p
  | [], s, c, h => by simp [unk] at h
  | d :: p, s, c, h => by
    unfold unk at h
    split at h
    · rcases List.mem_cons.mp h with rfl | h
      · exact List.mem_cons_self ..
      · exact List.mem_cons_of_mem _ (unk_sub p _ c h)
    · exact List.mem_cons_of_mem _ (unk_sub p s c h)
theorem put_piece {r : Row} {c : Nat} {v : List Nat} (hv : r.lookup c = some v) : ∀ p : List Nat, c ∈ p → ∃ x y, putR r p = x ++ v ++ y
  | d :: p, h => by
    rcases List.mem_cons.mp h with rfl | h
    · exact ⟨[], putR r p, by rw [putR, hv]; rfl⟩
    · obtain ⟨x, y, e⟩ := put_piece hv p h
      exact ⟨(r.lookup d).getD [d] ++ x, y, by rw [putR, e]; simp⟩
theorem mem_parts {w x v y : List Nat} {l : Nat} (h : w = x ++ v ++ y) (hl : l ≤ v.length) : v ∈ (List.range' l (w.length + 1 - l)).flatMap (subs w) := by
  have hlen := congrArg List.length h
  simp at hlen
  refine List.mem_flatMap.mpr ⟨v.length, List.mem_range'_1.mpr (by omega), ?_⟩
  unfold subs
  refine List.mem_map.mpr ⟨x.length, List.mem_range.mpr (by omega), ?_⟩
  rw [h, List.append_assoc, List.drop_left, List.take_left]
theorem parts_mem {w v : List Nat} {l : Nat} (h : v ∈ (List.range' l (w.length + 1 - l)).flatMap (subs w)) : l ≤ v.length ∧ v.length ≤ w.length ∧ ∀ c ∈ v, c ∈ w := by
  obtain ⟨m, hm, h⟩ := List.mem_flatMap.mp h
  obtain ⟨a, ha, rfl⟩ := List.mem_map.mp h
  have h1 := List.mem_range'_1.mp hm
  have h2 := List.mem_range.mp ha
  refine ⟨by rw [List.length_take, List.length_drop]; omega, by rw [List.length_take, List.length_drop]; omega, fun c hc => List.mem_of_mem_drop (List.mem_of_mem_take hc)⟩
theorem parts_len {w : List Nat} {l : Nat} (hw : w.length ≤ 9) : ((List.range' l (w.length + 1 - l)).flatMap (subs w)).length ≤ 100 := by
  have : ∀ ms : List Nat, (ms.flatMap (subs w)).length ≤ 10 * ms.length := fun ms => by
    induction ms with
    | nil => simp
    | cons m ms ih =>
      have : (subs w m).length ≤ 10 := by unfold subs; simp; omega
      rw [List.flatMap_cons, List.length_append, List.length_cons]; omega
  have := this (List.range' l (w.length + 1 - l))
  rw [List.length_range'] at this
  omega
theorem law_matches_eq {p w : List Nat} {l : Nat} (hp : Pxy p) (hpl : p.length ≤ 5) (hw : Wd 9 w) (hl : l ≤ 1) : m__law_matches [.str p, .str w, .int l] = .ret (.lst ((mt w l p 0 []).map fun r => .sh (outR r))) := by
  have hwl := hw.1
  have hM := mt_sorted (w := w) (l := l) p 0 []
  have hmem := mt_mem (w := w) hl p 0 []
  have h5 : Five (unk p []) := by have := unk_five p [] hp (.inl rfl); simpa using this
  generalize hMe : mt w l p 0 [] = M at hM hmem
  have hmem' : ∀ r, r ∈ M ↔ r.map (·.1) = unk p [] ∧ (∀ x ∈ r, l ≤ x.2.length) ∧ putR r p = w := fun r => by
    rw [hmem r (Nat.zero_le _) (fun c hc => by simp at hc)]
    constructor
    · rintro ⟨e, rfl, h1, h2, h3⟩; exact ⟨by simpa using h1, by simpa using h2, by simpa using h3⟩
    · rintro ⟨h1, h2, h3⟩; exact ⟨r, by simp, h1, h2, by simpa using h3⟩
  have hun := m_unk_eq (Pxy.pt hp) (by omega)
  obtain ⟨P, hP, hPm, hPl⟩ := fSortSet_strs (ls := (List.range' l (w.length + 1 - l)).flatMap (subs w)) (by have := parts_len (l := l) hwl; omega) (fun v hv c hc => by have := hw.2 c ((parts_mem hv).2.2 c hc); omega)
  have hPl' : P.length ≤ 100 := Nat.le_trans hPl (parts_len hwl)
  generalize hcs : unk p [] = cs at h5 hmem' hun
  have eL : fLen (.str w) = some (.int w.length) := fLen_str (by omega)
  have er := rng2_nat (m := l) (n := w.length + 1) (by omega) (by omega)
  rw [Int.natCast_add, show ((1 : Nat) : Int) = 1 from rfl] at er
  obtain ⟨y5, ep⟩ := parts_loop (p := p) (w := w) (l := l) (n := .lst (cs.map fun c => .sh (.str [c]))) (q6 := .un) (x7 := .un) (x8 := .un) (x9 := .un) (x10 := .un) (x11 := .un) (x12 := .un) (x13 := .un) hwl (List.range' l (w.length + 1 - l)) [] .un (fun m hm => by have := List.mem_range'_1.mp hm; omega) (by simp; omega)
  rw [List.nil_append] at ep
  generalize hps : (List.range' l (w.length + 1 - l)).flatMap (subs w) = ps at hP hPm hPl ep
  have hpm : ∀ v ∈ ps, l ≤ v.length ∧ v.length ≤ w.length := fun v hv => by
    have := parts_mem (w := w) (l := l) (v := v) (by rw [hps]; exact hv)
    exact ⟨this.1, this.2.1⟩
  obtain ⟨q4, q6, x7, x8, x9, x10, x11, h4, h6, h7, en, hlen⟩ := names_loop (p := p) (w := w) (l := l) (n := .sh (.lst (cs.map fun c => .str [c]))) (x5 := y5) (x12 := .un) (x13 := .un) hP hPl' cs [[]] [] (.lst (ps.map strT)) (.lst ([[]].map roT)) .un .un .un .un .un (.inl rfl) (.inl rfl) (.inl rfl) (fun r hr => by simp at hr; subst hr; rfl) (by simpa using h5.nodup) (by have := h5.len; simp; omega) (by
    have h := h5.len
    have : 100 ^ cs.length ≤ 100 ^ 2 := Nat.pow_le_pow_right (by decide) h
    simp; omega)
  have hrows : ∀ r ∈ extR' P cs [[]], r.map (·.1) = cs ∧ Rl 9 r ∧ (putR r p = w → r ∈ M) := fun r hr => by
    obtain ⟨r0, h0, e, rfl, he, hv⟩ := (ext_mem cs [[]] r).mp hr
    simp at h0; subst h0
    refine ⟨by simpa using he, fun x hx => ?_, fun hq => (hmem' _).mpr ⟨by simpa using he, fun x hx => ?_, hq⟩⟩
    · exact Nat.le_trans (hpm _ ((hPm x.2).mp (hv x (by simpa using hx)))).2 hwl
    · exact (hpm _ ((hPm x.2).mp (hv x (by simpa using hx)))).1
  obtain ⟨L, x9', g1, g2, -, g4, g5, eo⟩ := order_loop (p := p) (w := w) (l := l) (q4 := q4) (x5 := y5) (q6 := .sh (.lst ((extR' P cs [[]]).map fun r => .dct false (rowD r)))) (x8 := x8) (x10 := x10) (x11 := x11) (x13 := .un) hM h7 h5.nodup h5.len hpl hwl (extR' P cs [[]]) [] x9 hrows (fun s hs => by simp at hs) .nil (by simpa using hlen)
  have hperm : M.Perm L := by
    refine (List.perm_ext_iff_of_nodup ?_ g1).mpr fun r => ⟨fun hr => ?_, fun hr => g2 r hr⟩
    · exact hM.imp fun {r s} h z => by rw [z, lexN_irrefl] at h; cases h
    · obtain ⟨h1, h2, h3⟩ := (hmem' r).mp hr
      refine g4 r ((ext_mem cs [[]] r).mpr ⟨[], by simp, r, by simp, h1, fun x hx => ?_⟩) h3
      have hx1 : x.1 ∈ p := unk_sub p [] _ (by rw [hcs, ← h1]; exact List.mem_map.mpr ⟨x, hx, rfl⟩)
      obtain ⟨u, v, e⟩ := put_piece (look_self (by rw [h1]; exact h5.nodup) x hx) p hx1
      rw [h3] at e
      exact (hPm _).mpr (by rw [← hps]; exact mem_parts e (h2 x hx))
  have hMl : M.length ≤ 1000000 := by rw [hperm.length_eq]; exact g5
  have hst : T.stripKs (L.map ent) = L.map fun r => (keyL (lens r), .dct false (rowD r)) := by rw [stripKs_eq, List.map_map]; rfl
  have hsk := sortK (cs := cs) hM (fun r hr => ((hmem' r).mp hr).1) hperm g5 h5.len
  have hlk : ∀ r ∈ M, fLook (.sh (.dct true (L.map fun r => (keyL (lens r), D.dct false (rowD r))))) (keyL (lens r)) = some (some (.sh (.dct false (rowD r)))) := fun r hr => by
    show (match dKey true (keyL (lens r)) with | some k => some (lookA true ((L.map fun r => (keyL (lens r), D.dct false (rowD r))).map shT) k) | none => none) = _
    rw [dKey_L]
    dsimp only
    have : (L.map fun r => (keyL (lens r), D.dct false (rowD r))).map shT = L.map ent := by rw [List.map_map]; rfl
    rw [this, look_ent hM g2 (hperm.mem_iff.mp hr)]
  have el := lcM_X (vs := [13]) (mi := bnd (opL (on1 fSorted) (cons1 (get 12) (pur []))) fun d => opt (items d)) (f := bName 13) (te := t__law_matches_4) (xs := M) (ρ0 := LE p w l (.sh (.lst (cs.map fun c => .str [c]))) q4 y5 (.sh (.lst ((extR' P cs [[]]).map fun r => .dct false (rowD r)))) x7 x8 x9' x10 x11 (.dct true (L.map ent)) .un) (ρ := LE p w l (.sh (.lst (cs.map fun c => .str [c]))) q4 y5 (.sh (.lst ((extR' P cs [[]]).map fun r => .dct false (rowD r)))) x7 x8 x9' x10 x11 (.sh (.dct true (L.map fun r => (keyL (lens r), .dct false (rowD r))))) .un)
    (fun r => keyL (lens r)) (fun r => .sh (outR r)) (by simp [LE, hst, hsk]) rfl (by omega) fun r hr => by
      have hr5 : Five (r.map (·.1)) := by rw [((hmem' r).mp hr).1]; exact h5
      have hrn := hr5.nodup
      have hs := (srt_ok hr5).1
      have hsl : (srt r).length ≤ 2 := by rw [hs.length_eq]; have := hr5.len; rw [List.length_map] at this; exact this
      refine ⟨LE p w l (.sh (.lst (cs.map fun c => .str [c]))) q4 y5 (.sh (.lst ((extR' P cs [[]]).map fun r => .dct false (rowD r)))) x7 x8 x9' x10 x11 (.sh (.dct true (L.map fun r => (keyL (lens r), .dct false (rowD r))))) (.sh (keyL (lens r))), LE p w l (.sh (.lst (cs.map fun c => .str [c]))) q4 y5 (.sh (.lst ((extR' P cs [[]]).map fun r => .dct false (rowD r)))) x7 x8 x9' x10 x11 (.sh (.dct true (L.map fun r => (keyL (lens r), .dct false (rowD r))))) (.sh (keyL (lens r))), by simp [LE], ?_, by simp [LE]⟩
      have ei := lcM_X (vs := [7]) (mi := bnd (opL (on1 fSorted) (cons1 (mDget 12 (get 13)) (pur []))) fun d => opt (items d)) (f := bName 7) (te := t__law_matches_3) (xs := srt r) (ρ0 := LE p w l (.sh (.lst (cs.map fun c => .str [c]))) q4 y5 (.sh (.lst ((extR' P cs [[]]).map fun r => .dct false (rowD r)))) x7 x8 x9' x10 x11 (.sh (.dct true (L.map fun r => (keyL (lens r), .dct false (rowD r))))) (.sh (keyL (lens r)))) (ρ := LE p w l (.sh (.lst (cs.map fun c => .str [c]))) q4 y5 (.sh (.lst ((extR' P cs [[]]).map fun r => .dct false (rowD r)))) x7 x8 x9' x10 x11 (.sh (.dct true (L.map fun r => (keyL (lens r), .dct false (rowD r))))) (.sh (keyL (lens r))))
        (fun x => .str [x.1]) (fun x => .sh (tup2 x)) (by simp [LE, hlk r hr, sort_row hr5]) (flat_7 h7) (by omega) fun x hx => by
          have hxv := look_self hrn x (hs.mem_iff.mp hx)
          have hfd : fDget (.dct false (rowD r)) (.str [x.1]) = some (.str x.2) := by
            unfold fDget; rw [fLook_row, hxv]; rfl
          refine ⟨LE p w l (.sh (.lst (cs.map fun c => .str [c]))) q4 y5 (.sh (.lst ((extR' P cs [[]]).map fun r => .dct false (rowD r)))) (.sh (.str [x.1])) x8 x9' x10 x11 (.sh (.dct true (L.map fun r => (keyL (lens r), .dct false (rowD r))))) (.sh (keyL (lens r))), LE p w l (.sh (.lst (cs.map fun c => .str [c]))) q4 y5 (.sh (.lst ((extR' P cs [[]]).map fun r => .dct false (rowD r)))) (.sh (.str [x.1])) x8 x9' x10 x11 (.sh (.dct true (L.map fun r => (keyL (lens r), .dct false (rowD r))))) (.sh (keyL (lens r))), by simp [LE], ?_, by simp [LE]⟩
          simp [t__law_matches_3, LE, hlk r hr, hfd, show big 2 = true from rfl, tup2]
      have e2 : T.strips ((srt r).map fun x => .sh (tup2 x)) = (srt r).map tup2 := strips_shf tup2 _
      simp only [t__law_matches_4, shar_ap, opL_ap, cons1_ap, froz_ap, ei, go_ok, pur_ap, strip_lst, e2, bnd_ap, on1_ap, fTup_lst, opt_sm]
      rfl
  have e0 : m__law_matches [.str p, .str w, .int l] = toOut (b__law_matches (LE p w l .un .un .un .un .un .un .un .un .un .un .un)) := rfl
  rw [e0]
  have hst3 : T.strips (cs.map fun c => T.sh (.str [c])) = cs.map fun c => .str [c] := strips_shf (fun c => D.str [c]) cs
  have ex1 : b__law_matches (LE p w l .un .un .un .un .un .un .un .un .un .un .un) = s__law_matches_0_2 (LE p w l (.lst (cs.map fun c => .sh (.str [c]))) .un .un .un .un .un .un .un .un .un .un) := by
    simp [b__law_matches, LE, hun]
  have ex2 : s__law_matches_0_2 (LE p w l (.lst (cs.map fun c => .sh (.str [c]))) .un .un .un .un .un .un .un .un .un .un) = s__law_matches_0_4 (LE p w l (.lst (cs.map fun c => .sh (.str [c]))) (.lst (ps.map strT)) y5 .un .un .un .un .un .un .un .un) := by
    unfold LE at ep ⊢
    simp only [List.map_nil] at ep
    simp [s__law_matches_0_2, s__law_matches_0_3, big, eL, er, ep]
  have ex3 : s__law_matches_0_4 (LE p w l (.lst (cs.map fun c => .sh (.str [c]))) (.lst (ps.map strT)) y5 .un .un .un .un .un .un .un .un) = s__law_matches_0_6 (LE p w l (.sh (.lst (cs.map fun c => .str [c]))) q4 y5 q6 x7 x8 x9 x10 x11 .un .un) := by
    unfold LE at en ⊢
    simp only [roT, rowD, List.map_cons, List.map_nil] at en
    simp [s__law_matches_0_4, s__law_matches_0_5, big, hst3, en]
  have ex4 : s__law_matches_0_6 (LE p w l (.sh (.lst (cs.map fun c => .str [c]))) q4 y5 q6 x7 x8 x9 x10 x11 .un .un) = s__law_matches_0_8 (LE p w l (.sh (.lst (cs.map fun c => .str [c]))) q4 y5 (.sh (.lst ((extR' P cs [[]]).map fun r => .dct false (rowD r)))) x7 x8 x9' x10 x11 (.dct true (L.map ent)) .un) := by
    unfold LE at eo ⊢
    simp only [List.map_nil] at eo
    rcases h6 with rfl | rfl
    · simp [s__law_matches_0_6, s__law_matches_0_7, strips_roT, eo]
    · simp [s__law_matches_0_6, s__law_matches_0_7, eo]
  rw [ex1, ex2, ex3, ex4]
  simp only [s__law_matches_0_8, sbnd_ap, el, ths_ok, toOut_rt]
end K36

end
section
set_option Elab.async false
set_option autoImplicit false
set_option linter.all false
set_option maxRecDepth 100000
set_option maxHeartbeats 0
namespace K36
open PySem L2 Mi PySem.W
def isRef : Out → Bool | .exc .refused => true | _ => false
theorem isRef_out {o : Out} (h : isRef o = true) : o = .exc .refused := by
  cases o with
  | ret t => cases h
  | exc c => cases c <;> first | rfl | cases h
  | bad => cases h
def isNon : Out → Bool | .ret (.sh .non) => true | _ => false
theorem isNon_out {o : Out} (h : isNon o = true) : o = .ret (.sh .non) := by
  cases o with
  | ret t =>
    cases t with
    | sh d => cases d <;> first | rfl | cases h
    | un => cases h
    | lst a => cases h
    | dct a b => cases h
  | exc c => cases h
  | bad => cases h
theorem w1 : m_matches [.str [88, 49], .str [97], .int 0] = .exc .refused := isRef_out (by decide +kernel)
theorem w2 : m_matches [.str [88], .str [65], .int 0] = .exc .refused := isRef_out (by decide +kernel)
theorem w3 : m_matches [.str [88], .str [97], .int 2] = .exc .refused := isRef_out (by decide +kernel)
theorem w4 : m_is_matched [.str (List.replicate 13 [88]).flatten, .str [97], .int 0] = .exc .refused := isRef_out (by decide +kernel)
theorem w5 : m_count_linear [.str [88, 88], .int 3, .int 2] = .exc .refused := isRef_out (by decide +kernel)
theorem w6 : m_count_linear [.str [88, 97, 89], .int 3, .int 2] = .exc .refused := isRef_out (by decide +kernel)
theorem w7 : m_count_linear [.str [88], .int 1001, .int 2] = .exc .refused := isRef_out (by decide +kernel)
theorem w8 : m_count_linear [.str [88], .int 3, .int 0] = .exc .refused := isRef_out (by decide +kernel)
theorem w9 : m_between [.str [97], .str [97], .int 61] = .exc .refused := isRef_out (by decide +kernel)
theorem w10 : m_commute [.str (List.replicate 61 [97]).flatten, .str []] = .exc .refused := isRef_out (by decide +kernel)
theorem big1 : decide (500 < (mt (List.replicate 30 97) 0 [87, 88, 89, 90] 0 []).length) = true := by decide +kernel
theorem least_ok {l : Nat} (hl : l ≤ 1) : m_check_least [.int l] = .ret (.sh .non) := by
  obtain rfl | rfl : l = 0 ∨ l = 1 := by omega
  · exact isNon_out (by decide +kernel)
  · exact isNon_out (by decide +kernel)
theorem pattern_ok {p : List Nat} (hp : Pt p) (hl : p.length ≤ 12) : m_check_pattern [.str p] = .ret (.sh .non) := by
  have e := lcM_X (vs := [1]) (mi := bnd (get 0) fun d => opt (items d)) (f := bName 1) (te := t_check_pattern_1) (xs := p) (ρ0 := [.sh (.str p), .un]) (ρ := [.sh (.str p), .un]) (fun c => .str [c]) (fun _ => .sh (.bl true)) (by simp) rfl (by omega) fun c hc => by
    refine ⟨[.sh (.str p), .sh (.str [c])], [.sh (.str p), .sh (.str [c])], by simp, ?_, by simp⟩
    have h1 : decide (c ∈ ([97, 98, 99, 100, 101, 102, 103, 104, 105, 106, 107, 108, 109, 110, 111, 112, 113, 114, 115, 116, 117, 118, 119, 120, 121, 122] : List Nat)) = decide (97 ≤ c ∧ c ≤ 122) := by rw [decide_eq_decide]; exact small_mem
    rcases hp c hc with h | h
    · have h2 : decide (97 ≤ c ∧ c ≤ 122) = false := by simp; omega
      have h3 : cap c = true := by unfold cap; simpa using h
      simp only [t_check_pattern_1, shar_ap, vOr_ap, op2_ap, get_ap, List.getElem?_cons_succ, List.getElem?_cons_zero, getT_sh, go_ok, bnd_ap, pur_ap, fIn_chr, opt_sm, h1, h2, selV_f, cap_mem, h3]
    · have h2 : decide (97 ≤ c ∧ c ≤ 122) = true := by simp; omega
      simp only [t_check_pattern_1, shar_ap, vOr_ap, op2_ap, get_ap, List.getElem?_cons_succ, List.getElem?_cons_zero, getT_sh, go_ok, bnd_ap, pur_ap, fIn_chr, opt_sm, h1, h2, selV_t]
  have e2 : fAll (.lst (p.map fun _ => .bl true)) = some (.bl true) := by rw [fAll_map (fun _ => true) p]; simp
  have e3 : T.strips (p.map fun _ => T.sh (.bl true)) = p.map fun _ => .bl true := strips_shf _ _
  show toOut (b_check_pattern [.sh (.str p), .un]) = _
  simp [b_check_pattern, fLen_str (show p.length ≤ 16777216 by omega), e, e3, show ¬ (12 : Int) < p.length by omega, e2]
theorem matches_eq {p w : List Nat} {l : Nat} (hp : Pxy p) (hpl : p.length ≤ 5) (hw : Wd 9 w) (hl : l ≤ 1) : m_matches [.str p, .str w, .int l] = .ret (.lst ((mt w l p 0 []).map fun r => .sh (outR r))) := by
  obtain ⟨done, rest, e, h1, h2⟩ := m_km_eq (most := 500) hpl hw.1 hl hp.pt (by omega)
  have h5 : Five (unk p []) := by have := unk_five p [] hp (.inl rfl); simpa using this
  have hln : (mt w l p 0 []).length ≤ 121 := by
    refine Nat.le_trans (mt_len hl p 0 []) ?_
    refine Nat.le_trans (Nat.pow_le_pow_left (show w.length + 2 ≤ 11 by have := hw.1; omega) _) ?_
    exact Nat.le_trans (Nat.pow_le_pow_right (by decide) (show (unk p (([] : Row).map (·.1))).length ≤ 2 from h5.len)) (by decide)
  have hdl : done.length ≤ (mt w l p 0 []).length := by rw [h1, List.length_append]; omega
  have hr := h2 (by omega)
  rw [hr, List.append_nil] at h1
  have hmem := mt_mem (w := w) hl p 0 []
  rw [h1] at hmem hln ⊢
  have hf : ∀ r ∈ done, Five (r.map (·.1)) := fun r hr => by
    obtain ⟨e', he, h, _⟩ := (hmem r (Nat.zero_le _) (fun c hc => by simp at hc)).mp hr
    have he : r = e' := he
    have h' : e'.map (·.1) = unk p [] := h
    rw [he, h']; exact h5
  rw [show ((500 : Nat) : Int) = 500 from rfl] at e
  have el := lcM_X (vs := [4]) (mi := bnd (get 3) fun d => opt (items d)) (f := bName 4) (te := t_matches_1) (xs := done) (ρ0 := [.sh (.str p), .sh (.str w), .sh (.int l), .lst (done.map roT), .un]) (ρ := [.sh (.str p), .sh (.str w), .sh (.int l), .sh (.lst (done.map fun r => .dct false (rowD r))), .un]) (fun r => .dct false (rowD r)) (fun r => .sh (outR r)) (by simp [strips_roT]) rfl (by omega) fun r hr => by
    refine ⟨[.sh (.str p), .sh (.str w), .sh (.int l), .sh (.lst (done.map fun r => .dct false (rowD r))), .sh (.dct false (rowD r))], [.sh (.str p), .sh (.str w), .sh (.int l), .sh (.lst (done.map fun r => .dct false (rowD r))), .sh (.dct false (rowD r))], by simp, ?_, by simp⟩
    simp [t_matches_1, sort_its (hf r hr), outR]
  show toOut (b_matches [.sh (.str p), .sh (.str w), .sh (.int l), .un, .un]) = _
  simp [b_matches, s_matches_0_2, s_matches_0_3, s_matches_0_4, s_matches_0_5, s_matches_0_6, pattern_ok hp.pt (by omega), wd_word hw (by omega), least_ok hl, e, show ¬ (500 : Int) < done.length by omega, el]
theorem is_matched_eq {p w : List Nat} {l : Nat} (hp : Pxy p) (hpl : p.length ≤ 5) (hw : Wd 9 w) (hl : l ≤ 1) : m_is_matched [.str p, .str w, .int l] = .ret (.sh (.bl (decide ((0 : Int) < ((mt w l p 0 []).length : Int))))) := by
  obtain ⟨done, rest, e, h1, h2⟩ := m_km_eq (most := 0) hpl hw.1 hl hp.pt (by omega)
  have hd : decide ((0 : Int) < (done.length : Int)) = decide ((0 : Int) < ((mt w l p 0 []).length : Int)) := by
    rw [decide_eq_decide, h1, List.length_append]
    constructor
    · intro h; omega
    · intro h
      by_cases hz : done.length ≤ 0
      · rw [h2 hz] at h; simp at h; omega
      · omega
  rw [show ((0 : Nat) : Int) = 0 from rfl] at e
  show toOut (b_is_matched [.sh (.str p), .sh (.str w), .sh (.int l)]) = _
  rw [← hd]
  simp [b_is_matched, s_is_matched_0_2, s_is_matched_0_3, s_is_matched_0_4, pattern_ok hp.pt (by omega), wd_word hw (by omega), least_ok hl, e, strips_roT]
theorem large_eq : m_matches [.str [87, 88, 89, 90], .str (List.replicate 30 [97]).flatten, .int 0] = .exc .large := by
  have hw : (List.replicate 30 [97]).flatten = List.replicate 30 97 := by decide
  rw [hw]
  have hPt : Pt [87, 88, 89, 90] := by intro c hc; simp at hc; omega
  have hww : Wd 60 (List.replicate 30 97) := ⟨by decide, fun c hc => by simp at hc; omega⟩
  obtain ⟨done, rest, e, h1, h2⟩ := m_km_eq' (p := [87, 88, 89, 90]) (w := List.replicate 30 97) (l := 0) (most := 500) (by decide) (by decide) (by decide) hPt (by decide) (Nat.le_trans (cn_le (by decide) _ _ _) (by decide))
  have hd : 500 < done.length := by
    have hb := of_decide_eq_true big1
    by_cases hz : done.length ≤ 500
    · rw [h1, h2 hz, List.append_nil] at hb; exact hb
    · omega
  rw [show ((500 : Nat) : Int) = 500 from rfl, show ((0 : Nat) : Int) = 0 from rfl] at e
  have hl0 := least_ok (l := 0) (by decide)
  rw [show ((0 : Nat) : Int) = 0 from rfl] at hl0
  generalize hW : List.replicate 30 97 = W at e hww
  show toOut (b_matches [.sh (.str [87, 88, 89, 90]), .sh (.str W), .sh (.int 0), .un, .un]) = _
  simp [b_matches, s_matches_0_2, s_matches_0_3, s_matches_0_4, s_matches_0_5, pattern_ok hPt (by decide), wd_word hww (by decide), hl0, e, show (500 : Int) < done.length by omega]
/-! linear patterns -/
def LIN : List (List Nat) := [[97, 98, 88], [88, 98], [97, 88, 89, 98], [88, 89], [97, 98], [], [98, 88, 89, 90, 97], [88]]
def fitsB (lin w : List Nat) : Bool := match m__law_fits [.str lin, .str w] with | .ret (.sh (.bl b)) => b | _ => false
def isBl : Out → Bool | .ret (.sh (.bl _)) => true | _ => false
def okCnt (n : Nat) : Out → Bool | .ret (.sh (.int c)) => decide (c = (n : Int)) | _ => false
def okLin (lin : List Nat) (many : Nat) : Bool := okCnt ((allw many).filter (fitsB lin)).length (m_count_linear [.str lin, .int many, .int 2]) && (allw many).all fun w => isBl (m__law_fits [.str lin, .str w])
theorem lin_all : LIN.all (fun lin => (List.range 7).all (okLin lin)) = true := by decide +kernel
theorem lin_ok {lin : List Nat} (h : lin ∈ LIN) {many : Nat} (hm : many < 7) : m_count_linear [.str lin, .int many, .int 2] = .ret (.sh (.int (((allw many).filter (fitsB lin)).length : Int))) ∧ ∀ w ∈ allw many, m__law_fits [.str lin, .str w] = .ret (.sh (.bl (fitsB lin w))) := by
  have h1 := List.all_eq_true.mp (List.all_eq_true.mp lin_all lin h) many (List.mem_range.mpr hm)
  unfold okLin at h1
  rw [Bool.and_eq_true] at h1
  obtain ⟨h1, h2⟩ := h1
  refine ⟨?_, fun w hw => ?_⟩
  · unfold okCnt at h1
    split at h1
    · rename_i c hc
      rw [hc, of_decide_eq_true h1]
    · cases h1
  · have h3 := List.all_eq_true.mp h2 w hw
    unfold fitsB
    unfold isBl at h3
    split at h3
    · rename_i b hb; rw [hb]
    · cases h3
theorem count_axb {far : Nat} (h1 : 50 ≤ far) (h2 : far < 950) : m_count_linear [.str [97, 88, 98], .int far, .int 3] = .ret (.sh (.int (3 ^ (far - 2)))) := by
  have hp := m_power_eq 3 (far - 2) (by omega) (by omega)
  have hPt : Pt [97, 88, 98] := by intro c hc; simp at hc; omega
  have hf : (far : Int) ≤ 1000 := by omega
  have e1 : (far : Int) - 1 - 1 = ((far - 2 : Nat) : Int) := by omega
  have e2 : (0 : Int) ≤ ((far - 2 : Nat) : Int) := by omega
  generalize far - 2 = m at hp e1 e2
  have l1 : lcM [6] (bnd (Mi.get 0) fun d => opt (items d)) (bName 6) c_count_linear_1 t_count_linear_1 [.sh (.str [97, 88, 98]), .sh (.int far), .sh (.int 3), .un, .un, .un, .un, .un] = .ok (.lst [.sh (.str [88])]) [.sh (.str [97, 88, 98]), .sh (.int far), .sh (.int 3), .un, .un, .un, .un, .un] := rfl
  have l2 : lcM [6] (bnd (Mi.get 0) fun d => opt (items d)) (bName 6) (pur true) t_count_linear_2 [.sh (.str [97, 88, 98]), .sh (.int far), .sh (.int 3), .sh (.lst [.str [88]]), .un, .un, .un, .un] = .ok (.lst [.sh (.str [97]), .sh (.str [46]), .sh (.str [98])]) [.sh (.str [97, 88, 98]), .sh (.int far), .sh (.int 3), .sh (.lst [.str [88]]), .un, .un, .un, .un] := rfl
  have l3 : fLenSet (.lst [.str [88]]) = some (.int 1) := rfl
  have l4 : fJoin (.str []) (.lst [.str [97], .str [46], .str [98]]) = some (.str [97, 46, 98]) := rfl
  have l5 : fSplit2 (.str [97, 46, 98]) (.str [46]) = some (.lst [.str [97], .str [98]]) := rfl
  have l6 : fLen (.str [97, 98, 99, 100, 101, 102, 103, 104, 105, 106, 107, 108, 109, 110, 111, 112, 113, 114, 115, 116, 117, 118, 119, 120, 121, 122]) = some (.int 26) := rfl
  have l7 : ∀ ρ : Mi.Env, (bnd (sl3 fSl (Mi.get 4) (bnd (pur (.int 1)) asI) (bnd (op1 fNeg (pur (.int 1))) asI)) fun d => opt (items d)) [.sh (.str [97, 88, 98]), .sh (.int far), .sh (.int 3), .sh (.lst [.str [88]]), .sh (.lst [.str [97], .str [98]]), .un, .un, .un] = .ok [] [.sh (.str [97, 88, 98]), .sh (.int far), .sh (.int 3), .sh (.lst [.str [88]]), .sh (.lst [.str [97], .str [98]]), .un, .un, .un] := fun _ => rfl
  have l8 : lcM [7] (bnd (sl3 fSl (Mi.get 4) (bnd (pur (.int 1)) asI) (bnd (op1 fNeg (pur (.int 1))) asI)) fun d => opt (items d)) (bName 7) (pur true) t_count_linear_3 [.sh (.str [97, 88, 98]), .sh (.int far), .sh (.int 3), .sh (.lst [.str [88]]), .sh (.lst [.str [97], .str [98]]), .un, .un, .un] = .ok (.lst []) [.sh (.str [97, 88, 98]), .sh (.int far), .sh (.int 3), .sh (.lst [.str [88]]), .sh (.lst [.str [97], .str [98]]), .un, .un, .un] := rfl
  have l9 : fAny (.lst []) = some (.bl false) := rfl
  have l10 : atI [D.str [97], D.str [98]] (-1) = some (.str [98]) := rfl
  show toOut (b_count_linear [.sh (.str [97, 88, 98]), .sh (.int far), .sh (.int 3), .un, .un, .un, .un, .un]) = _
  simp [b_count_linear, s_count_linear_0_2, pattern_ok hPt (by decide), l1]
  simp [s_count_linear_0_3, l3, hf, l6]
  simp [s_count_linear_0_4, l2, l4, l5]
  simp [s_count_linear_0_5, s_count_linear_0_6, -bnd_pur, l8, l9]
  simp [s_count_linear_0_7, s_count_linear_0_8, l10, fLen_str (l := [97]) (by decide), fLen_str (l := [98]) (by decide), e1, e2, hp]
end K36

end
section
set_option Elab.async false
set_option autoImplicit false
set_option linter.all false
set_option maxRecDepth 100000
set_option maxHeartbeats 4000000
namespace K36
open PySem L2 Mi PySem.W
def LW (sc s x2 k due told total wrong far least linear many p w : T) : Mi.Env := [sc, s, x2, k, due, told, total, wrong, far, least, linear, many, p, w, .un]
theorem pat_loop {n v : Nat} {s : T} (hs : St n s) (hn : n < 700000) (hv : v ≤ 5) {sc x2 k due told total wrong far least linear many w : T} : ∃ p s' k', forL (bName 3) l_law_1 ((List.range v).map fun (i : Nat) => .int i) (LW sc s x2 k due told total wrong far least linear many (.sh (.str [])) w) =
    .nx (LW sc s' x2 k' due told total wrong far least linear many (.sh (.str p)) w) ∧ Pxy p ∧ p.length ≤ v ∧ St (n + v) s' := by
  obtain ⟨ρ', e, p, s', k', rfl, h1, h2, h3⟩ := forL_inv (f := bName 3) (mb := l_law_1) (fun i ρ => ∃ p s' k', ρ = LW sc s' x2 k' due told total wrong far least linear many (.sh (.str p)) w ∧ Pxy p ∧ p.length ≤ i ∧ St (n + i) s') ((List.range v).map fun (i : Nat) => .int i) 0 (LW sc s x2 k due told total wrong far least linear many (.sh (.str [])) w) ⟨[], s, k, rfl, fun c hc => by simp at hc, by simp, hs⟩ (by
    rintro i d hd ρ ⟨p, s', k', rfl, hp, hpl, hs'⟩
    have hi : i < v := by simpa using (List.getElem?_eq_some_iff.mp hd).1
    obtain ⟨u, s2, eu, hu, hs2⟩ := next_eq (m := 6) hs' (by omega) (by omega)
    rw [show ((6 : Nat) : Int) = 6 from rfl] at eu
    obtain ⟨c, ec, hc⟩ : ∃ c, atI [88, 89, 97, 98, 88, 89] (u : Int) = some c ∧ (c = 88 ∨ c = 89 ∨ c = 97 ∨ c = 98) := by
      obtain rfl | rfl | rfl | rfl | rfl | rfl : u = 0 ∨ u = 1 ∨ u = 2 ∨ u = 3 ∨ u = 4 ∨ u = 5 := by omega
      · exact ⟨88, rfl, by simp⟩
      · exact ⟨89, rfl, by simp⟩
      · exact ⟨97, rfl, by simp⟩
      · exact ⟨98, rfl, by simp⟩
      · exact ⟨88, rfl, by simp⟩
      · exact ⟨89, rfl, by simp⟩
    refine ⟨LW sc s' x2 (.sh d) due told total wrong far least linear many (.sh (.str p)) w, LW sc s2 x2 (.sh d) due told total wrong far least linear many (.sh (.str (p ++ [c]))) w, by simp [LW], .inl ?_, p ++ [c], s2, .sh d, rfl, fun z hz => ?_, by simp; omega, hs2⟩
    · simp [l_law_1, LW, isUR_ne _ hs'.ne, callSR_ne _ _ _ _ hs'.ne, eu, fIx_str (l := [88, 89, 97, 98, 88, 89]) (by decide) ec, fAdd_str (a := p) (b := [c]) (by simp; omega)]
    · rcases List.mem_append.mp hz with hz | hz
      · exact hp z hz
      · simp at hz; subst hz; exact hc)
  simp only [List.length_map, List.length_range, Nat.zero_add] at h2 h3
  exact ⟨p, s', k', e, h1, h2, h3⟩
theorem tot_loop {sc s x2 due told wrong far least linear many p w : T} : ∀ (ds : List D) (c : Int) (k : T), ∃ k', forL (bName 3) l_law_2 ds (LW sc s x2 k due told (.sh (.int c)) wrong far least linear many p w) = .nx (LW sc s x2 k' due told (.sh (.int (c * 3 ^ ds.length))) wrong far least linear many p w)
  | [], c, k => ⟨k, by simp⟩
  | d :: ds, c, k => by
    obtain ⟨k', h⟩ := tot_loop (sc := sc) (s := s) (x2 := x2) (due := due) (told := told) (wrong := wrong) (far := far) (least := least) (linear := linear) (many := many) (p := p) (w := w) ds (c * 3) (.sh d)
    refine ⟨k', ?_⟩
    have e : l_law_2 (LW sc s x2 (.sh d) due told (.sh (.int c)) wrong far least linear many p w) = .nx (LW sc s x2 (.sh d) due told (.sh (.int (c * 3))) wrong far least linear many p w) := by
      simp [l_law_2, LW, fMul_int (i := c) (j := 3) (.inr (by omega))]
    rw [forL_cons (ρ1 := LW sc s x2 (.sh d) due told (.sh (.int c)) wrong far least linear many p w) (by simp [LW]), e, loopK_nx, h, List.length_cons, Int.pow_succ', ← Int.mul_assoc]
theorem put_wd {u v p : List Nat} (hu : Wd 2 u) (hv : Wd 3 v) (hp : Pxy p) : ∀ c ∈ putR [(88, u), (89, v)] p, c = 97 ∨ c = 98 := by
  induction p with
  | nil => intro c hc; simp [putR] at hc
  | cons d p ih =>
    intro c hc
    rw [putR] at hc
    rcases List.mem_append.mp hc with hc | hc
    · rcases hp d (List.mem_cons_self ..) with rfl | rfl | rfl | rfl
      · exact hu.2 c (by simpa [List.lookup] using hc)
      · exact hv.2 c (by simpa [List.lookup] using hc)
      · simp [List.lookup] at hc; omega
      · simp [List.lookup] at hc; omega
    · exact ih (fun z hz => hp z (List.mem_cons_of_mem _ hz)) c hc
theorem rows_xy (u v : List Nat) : rowsPut [] [(.str [88], .str u), (.str [89], .str v)] = some ((rowD [(88, u), (89, v)]).map shT) := rfl
/-- what is shown of matches can be shown -/
theorem out_ok {p w : List Nat} {l : Nat} (hp : Pxy p) (hw : Wd 9 w) (hl : l ≤ 1) : ∀ r ∈ mt w l p 0 [], (outR r).pl = true ∧ (outR r).sz ≤ 1000 ∧ (outR r).lay 50 = true := by
  intro r hr
  have h5 : Five (unk p []) := by have := unk_five p [] hp (.inl rfl); simpa using this
  obtain ⟨e, he, h1, h2, h3⟩ := (mt_mem hl p 0 [] r (Nat.zero_le _) (fun c hc => by simp at hc)).mp hr
  have he : e = r := he.symm
  subst he
  have h1 : e.map (·.1) = unk p [] := h1
  have h3 : putR e p = w := h3
  rw [← h1] at h5
  have hs := (srt_ok h5).1
  have hx : ∀ x ∈ srt e, x.1 < 100 ∧ x.2.length ≤ 9 ∧ ∀ c ∈ x.2, c = 97 ∨ c = 98 := fun x hx => by
    have hxe := hs.mem_iff.mp hx
    have hx1 : x.1 ∈ e.map (·.1) := List.mem_map.mpr ⟨x, hxe, rfl⟩
    obtain ⟨a, b, q⟩ := put_piece (look_self h5.nodup x hxe) p (unk_sub p [] _ (by rw [← h1]; exact hx1))
    rw [h3] at q
    have hlen := congrArg List.length q
    simp at hlen
    have := hw.1
    refine ⟨?_, by omega, fun c hc => hw.2 c (by rw [q]; simp [hc])⟩
    rcases h5 with h | h | h | h | h <;> rw [h] at hx1 <;> simp at hx1 <;> omega
  have hl2 : (srt e).length ≤ 2 := by rw [hs.length_eq]; have := h5.len; rw [List.length_map] at this; exact this
  refine ⟨?_, ?_, ?_⟩
  · show D.pls ((srt e).map tup2) = true
    rw [pls_eq, List.all_map]
    refine List.all_eq_true.mpr fun x hx' => ?_
    obtain ⟨a, b, c⟩ := hx x hx'
    have h1 : ([x.1].all fun c => decide (c < 1114112)) = true := by simp; omega
    have h2 : (x.2.all fun c => decide (c < 1114112)) = true := List.all_eq_true.mpr fun d hd => by have := c d hd; simp; omega
    simp only [Function.comp, tup2, D.pl, D.pls, h1, h2]; rfl
  · show D.szs ((srt e).map tup2) + 3 ≤ 1000
    have := szs_le (n := 200) ((srt e).map tup2) fun d hd => by
      obtain ⟨x, hx', rfl⟩ := List.mem_map.mp hd
      obtain ⟨a, b, c⟩ := hx x hx'
      simp [tup2, D.sz, D.szs]; omega
    rw [List.length_map] at this
    have h3 : (srt e).length * (200 + 2) ≤ 2 * 202 := Nat.mul_le_mul_right _ hl2
    omega
  · show D.lays ((srt e).map tup2) 49 = true
    rw [lays_eq, List.all_map]; exact List.all_eq_true.mpr fun x _ => rfl
theorem pl_pow {m : Nat} (h : m < 948) : D.pl (.int ((3 : Int) ^ m)) = true := by
  rw [D.pl, decide_eq_true_eq]
  have e : ((3 : Int) ^ m).natAbs = 3 ^ m := by rw [Int.natAbs_pow]; rfl
  rw [e]
  refine (Nat.log2_lt (by have := Nat.one_le_pow m 3 (by decide); omega)).mpr ?_
  refine Nat.lt_of_le_of_lt (Nat.pow_le_pow_left (show 3 ≤ 2 ^ 2 by decide) m) ?_
  rw [← Nat.pow_mul]
  exact Nat.pow_lt_pow_right (by decide) (by omega)
end K36

end
section
set_option Elab.async false
set_option autoImplicit false
set_option linter.all false
set_option maxRecDepth 100000
set_option maxHeartbeats 4000000
namespace K36
open PySem L2 Mi PySem.W
theorem turnA {n : Nat} {s : T} (hs : St n s) (hn : n < 600000) {sc x2 x3 x4 x5 x6 x7 x8 x9 x10 x11 x12 x13 : T} : ∃ p s' k', l_law_3 (LW sc s x2 x3 x4 x5 x6 x7 x8 x9 x10 x11 x12 x13) = s_law_2_3 (LW sc s' x2 k' x4 x5 x6 x7 x8 x9 x10 x11 (.sh (.str p)) x13) ∧ Pxy p ∧ p.length ≤ 5 ∧ St (n + 6) s' := by
  obtain ⟨v, s1, e1, hv, h1⟩ := next_eq (m := 5) hs (by omega) (by omega)
  rw [show ((5 : Nat) : Int) = 5 from rfl] at e1
  obtain ⟨p, s2, k', e2, hp, hpl, h2⟩ := pat_loop (v := 1 + v) h1 (by omega) (by omega) (sc := sc) (x2 := x2) (k := x3) (due := x4) (told := x5) (total := x6) (wrong := x7) (far := x8) (least := x9) (linear := x10) (many := x11) (w := x13)
  have er := rng1_nat (n := 1 + v) (by omega)
  rw [Int.natCast_add, show ((1 : Nat) : Int) = 1 from rfl] at er
  refine ⟨p, s2, k', ?_, hp, by omega, h2.mono (by omega)⟩
  unfold LW at e2 ⊢
  simp [l_law_3, s_law_2_2, isUR_ne _ hs.ne, callSR_ne _ _ _ _ hs.ne, e1, er, e2]
theorem turnB {n : Nat} {s : T} (hs : St n s) (hn : n < 600000) {p : List Nat} (hp : Pxy p) (hpl : p.length ≤ 5) {sc x2 x3 x4 x5 x6 x7 x8 x9 x10 x11 x13 : T} : ∃ (w : List Nat) (l : Nat) (s' : T), s_law_2_3 (LW sc s x2 x3 x4 x5 x6 x7 x8 x9 x10 x11 (.sh (.str p)) x13) = s_law_2_6 (LW sc s' x2 x3 x4 x5 x6 x7 x8 (.sh (.int l)) x10 x11 (.sh (.str p)) (.sh (.str w))) ∧ Wd 9 w ∧ l ≤ 1 ∧ St (n + 20) s' := by
  obtain ⟨l, s1, e1, hl, h1⟩ := next_eq (m := 2) hs (by omega) (by omega)
  obtain ⟨w, s2, e2, hw, h2⟩ := word_eq (m := 7) h1 (by omega) (by omega)
  obtain ⟨v, s3, e3, hv, h3⟩ := next_eq (m := 3) h2 (by omega) (by omega)
  rw [show ((2 : Nat) : Int) = 2 from rfl] at e1
  rw [show ((7 : Nat) : Int) = 7 from rfl] at e2
  rw [show ((3 : Nat) : Int) = 3 from rfl] at e3
  by_cases hv0 : 0 < v
  · obtain ⟨u1, s4, e4, hu1, h4⟩ := word_eq (m := 2) h3 (by omega) (by omega)
    obtain ⟨u2, s5, e5, hu2, h5⟩ := word_eq (m := 3) h4 (by omega) (by omega)
    rw [show ((2 : Nat) : Int) = 2 from rfl] at e4
    rw [show ((3 : Nat) : Int) = 3 from rfl] at e5
    have hrl : Rl 3 [(88, u1), (89, u2)] := fun x hx => by
      simp at hx
      rcases hx with rfl | rfl
      · have := hu1.1; show u1.length ≤ 3; omega
      · exact hu2.1
    have hpl2 := putR_len hrl (by omega) p
    have epu := m_put_eq (p := p) hrl (by omega) (by omega) (by omega)
    refine ⟨(putR [(88, u1), (89, u2)] p).take 9, l, s5, ?_, ⟨by simp; omega, fun c hc => put_wd hu1 hu2 hp c (List.mem_of_mem_take hc)⟩, by omega, h5.mono (by omega)⟩
    have hb : 3 * p.length ≤ 15 := by omega
    have ecut := cut_take (putR [(88, u1), (89, u2)] p) 9
    rw [show ((9 : Nat) : Int) = 9 from rfl] at ecut
    generalize putR [(88, u1), (89, u2)] p = z at epu ecut hpl2
    have ez : fSl (.str z) none (some 9) = some (.str (z.take 9)) := by rw [fSl_str (by omega), ecut]
    simp [s_law_2_3, s_law_2_4, s_law_2_5, LW, isUR_ne _ hs.ne, callSR_ne _ _ _ _ hs.ne, isUR_ne _ h1.ne, callSR_ne _ _ _ _ h1.ne, isUR_ne _ h2.ne, callSR_ne _ _ _ _ h2.ne, isUR_ne _ h3.ne, callSR_ne _ _ _ _ h3.ne, isUR_ne _ h4.ne, callSR_ne _ _ _ _ h4.ne, e1, e2, e3, e4, e5, hv0, rows_xy, epu, ez]
  · refine ⟨w, l, s3, ?_, hw.mono (by omega), by omega, h3.mono (by omega)⟩
    simp [s_law_2_3, s_law_2_4, s_law_2_5, LW, isUR_ne _ hs.ne, callSR_ne _ _ _ _ hs.ne, isUR_ne _ h1.ne, callSR_ne _ _ _ _ h1.ne, isUR_ne _ h2.ne, callSR_ne _ _ _ _ h2.ne, e1, e2, e3, hv0]
theorem turnC {s : T} {p w : List Nat} {l : Nat} (hp : Pxy p) (hpl : p.length ≤ 5) (hw : Wd 9 w) (hl : l ≤ 1) {sc x2 x3 x4 x5 x6 x7 x8 x10 x11 : T} : ∃ y4 y5, s_law_2_6 (LW sc s x2 x3 x4 x5 x6 x7 x8 (.sh (.int l)) x10 x11 (.sh (.str p)) (.sh (.str w))) = s_law_2_9 (LW sc s x2 x3 y4 y5 x6 x7 x8 (.sh (.int l)) x10 x11 (.sh (.str p)) (.sh (.str w))) := by
  have e1 := law_matches_eq hp hpl hw hl
  have e2 := matches_eq hp hpl hw hl
  have e3 := is_matched_eq hp hpl hw hl
  have h5 : Five (unk p []) := by have := unk_five p [] hp (.inl rfl); simpa using this
  have hln : (mt w l p 0 []).length ≤ 121 := by
    refine Nat.le_trans (mt_len hl p 0 []) ?_
    refine Nat.le_trans (Nat.pow_le_pow_left (show w.length + 2 ≤ 11 by have := hw.1; omega) _) ?_
    exact Nat.le_trans (Nat.pow_le_pow_right (by decide) (show (unk p (([] : Row).map (·.1))).length ≤ 2 from h5.len)) (by decide)
  have ho := out_ok hp hw hl
  generalize mt w l p 0 [] = M at e1 e2 e3 hln ho
  obtain ⟨b, hb⟩ : ∃ b, b = decide ((0 : Int) < (M.length : Int)) := ⟨_, rfl⟩
  rw [← hb] at e3
  have e4 := same_eq (d := .lst [.tup [.str [116, 111, 108, 100], .lst (M.map outR)], .tup [.str [116, 111, 108, 100], .bl b]]) (by
    have : D.lays (M.map outR) 50 = true ∧ D.lays (M.map outR) 56 = true := by
      constructor
      · rw [lays_eq, List.all_map]; exact List.all_eq_true.mpr fun r hr => (ho r hr).2.2
      · rw [lays_eq, List.all_map]; refine List.all_eq_true.mpr fun r hr => ?_
        show D.lays ((srt r).map tup2) 55 = true
        rw [lays_eq, List.all_map]; exact List.all_eq_true.mpr fun x _ => rfl
    simp [D.lay, D.lays, this.2]) (by
    have : D.pls (M.map outR) = true := by rw [pls_eq, List.all_map]; exact List.all_eq_true.mpr fun r hr => (ho r hr).1
    simp only [D.pl, D.pls, this]; rfl) (by
    have := szs_le (n := 1000) (M.map outR) fun d hd => by obtain ⟨r, hr, rfl⟩ := List.mem_map.mp hd; exact (ho r hr).2.1
    rw [List.length_map] at this
    have h3 : M.length * (1000 + 2) ≤ 121 * 1002 := Nat.mul_le_mul_right _ hln
    simp [D.sz, D.szs]; omega)
  have hst : T.strips (M.map fun r => T.sh (outR r)) = M.map outR := strips_shf outR M
  refine ⟨.sh (.lst (M.map outR)), .sh (.lst [.tup [.str [116, 111, 108, 100], .lst (M.map outR)], .tup [.str [116, 111, 108, 100], .bl b]]), ?_⟩
  have hb' : decide (0 < M.length) = b := by rw [hb, decide_eq_decide]; omega
  have hfl : fCmp (fun i j => decide (j < i)) (.int ((M.length : Nat) : Int)) (.int 0) = some (.bl b) := by rw [fCmp_int, hb]
  simp [s_law_2_6, s_law_2_7, LW, e1, e2, e3, hst, show big 2 = true from rfl]
  simp [s_law_2_8, hst, hb', show big 2 = true from rfl, e4]
theorem turnD {n : Nat} {s : T} (hs : St n s) (hn : n < 600000) {sc x2 x3 x4 x5 x6 x7 x8 x9 x10 x11 x12 x13 : T} : ∃ s' y3 y4 y5 y6 y8 y10 y11, s_law_2_9 (LW sc s x2 x3 x4 x5 x6 x7 x8 x9 x10 x11 x12 x13) = .nx (LW sc s' x2 y3 y4 y5 y6 x7 y8 x9 y10 y11 x12 x13) ∧ St (n + 40) s' := by
  obtain ⟨u, s1, e1, hu, h1⟩ := next_eq (m := 8) hs (by omega) (by omega)
  obtain ⟨m, s2, e2, hm, h2⟩ := next_eq (m := 7) h1 (by omega) (by omega)
  obtain ⟨f, s3, e3, hf, h3⟩ := next_eq (m := 900) h2 (by omega) (by omega)
  rw [show ((8 : Nat) : Int) = 8 from rfl] at e1
  rw [show ((7 : Nat) : Int) = 7 from rfl] at e2
  rw [show ((900 : Nat) : Int) = 900 from rfl] at e3
  obtain ⟨lin, el, hlin⟩ : ∃ lin, atI (LIN.map D.str) (u : Int) = some (.str lin) ∧ lin ∈ LIN := by
    obtain rfl | rfl | rfl | rfl | rfl | rfl | rfl | rfl : u = 0 ∨ u = 1 ∨ u = 2 ∨ u = 3 ∨ u = 4 ∨ u = 5 ∨ u = 6 ∨ u = 7 := by omega
    all_goals exact ⟨_, rfl, by simp [LIN]⟩
  obtain ⟨c1, c2⟩ := lin_ok hlin hm
  obtain ⟨ta, et, es, eu⟩ := aw_eq (m := m) (by omega)
  have hal := allw_len m
  have h128 : 2 ^ m ≤ 2 ^ 7 := Nat.pow_le_pow_right (by decide) (by omega)
  have elc := lcM_eq (vs := [14]) (mi := bnd (froz (callP m__law_all_words (cons1 (get 11) (cons1 (pur (.str [97, 98])) (pur []))))) fun d => opt (items d)) (f := bName 14) (mc := c_law_1) (te := t_law_1) (ds := (allw m).map .str) (ρ0 := LW sc s2 x2 x3 x4 x5 x6 x7 x8 x9 (.sh (.str lin)) (.sh (.int m)) x12 x13) (ρ := LW sc s2 x2 x3 x4 x5 x6 x7 x8 x9 (.sh (.str lin)) (.sh (.int m)) x12 x13)
    (fun d => match d with | .str w => fitsB lin w | _ => false) (fun d => .sh d) (by simp [LW, et, es]) rfl (by rw [List.length_map]; omega) fun d hd => by
      obtain ⟨w, hw, rfl⟩ := List.mem_map.mp hd
      refine ⟨[sc, s2, x2, x3, x4, x5, x6, x7, x8, x9, .sh (.str lin), .sh (.int m), x12, x13, .sh (.str w)], [sc, s2, x2, x3, x4, x5, x6, x7, x8, x9, .sh (.str lin), .sh (.int m), x12, x13, .sh (.str w)], by simp [LW], ?_, by simp [LW], fun _ => ⟨[sc, s2, x2, x3, x4, x5, x6, x7, x8, x9, .sh (.str lin), .sh (.int m), x12, x13, .sh (.str w)], by simp [t_law_1], by simp [LW]⟩⟩
      simp [c_law_1, c2 w hw]
  rw [List.filter_map] at elc
  have hcn : (((allw m).filter ((fun d => match d with | .str w => fitsB lin w | _ => false) ∘ D.str)).map D.str).length = ((allw m).filter (fitsB lin)).length := by rw [List.length_map]; rfl
  have hcl : ((allw m).filter (fitsB lin)).length ≤ 128 := Nat.le_trans (List.length_filter_le _ _) (by omega)
  generalize ((allw m).filter ((fun d => match d with | .str w => fitsB lin w | _ => false) ∘ D.str)).map D.str = Z at elc hcn
  generalize ((allw m).filter (fitsB lin)).length = cnt at c1 hcn hcl
  have hst : T.strips (Z.map fun d => T.sh d) = Z := strips_sh Z
  obtain ⟨y3, etot⟩ := tot_loop (sc := sc) (s := s3) (x2 := x2) (due := .sh (.int cnt)) (told := x5) (wrong := x7) (far := .sh (.int ((50 + f : Nat) : Int))) (least := x9) (linear := .sh (.str lin)) (many := .sh (.int m)) (p := x12) (w := x13) ((List.range (50 + f - 2)).map fun (i : Nat) => .int i) 1 x3
  simp only [List.length_map, List.length_range, Int.one_mul] at etot
  have eax := count_axb (far := 50 + f) (by omega) (by omega)
  have er := rng1_nat (n := 50 + f - 2) (by omega)
  have ei : (((50 + f : Nat) : Int) - 2) = ((50 + f - 2 : Nat) : Int) := by omega
  have e50 : (50 : Int) + (f : Int) = ((50 + f : Nat) : Int) := by omega
  have hpw := pl_pow (m := 50 + f - 2) (by omega)
  obtain ⟨X, hX⟩ : ∃ X : Int, X = 3 ^ (50 + f - 2) := ⟨_, rfl⟩
  rw [← hX] at etot eax hpw
  generalize 50 + f - 2 = f2 at er ei etot
  generalize 50 + f = far at eax ei e50 etot
  obtain ⟨s4, etn, h4⟩ := turns_eq h3 (by omega)
  have e4 := same_eq (d := .lst [.tup [.str [116, 111, 108, 100], .int cnt], .tup [.str [116, 111, 108, 100], .int X]]) (by simp [D.lay, D.lays]) (by
    have := pl_int (i := (cnt : Int)) (by simp; omega)
    simp only [D.pl, D.pls] at this hpw ⊢
    rw [this, hpw]; rfl) (by simp [D.sz, D.szs])
  have hms : ∀ s : T, s ≠ .un → True := fun _ _ => trivial
  refine ⟨s4, y3, .sh (.int cnt), .sh (.lst [.tup [.str [116, 111, 108, 100], .int cnt], .tup [.str [116, 111, 108, 100], .int X]]), .sh (.int X), .sh (.int far), .sh (.str lin), .sh (.int m), ?_, h4.mono (by omega)⟩
  have ex1 : s_law_2_9 (LW sc s x2 x3 x4 x5 x6 x7 x8 x9 x10 x11 x12 x13) = s_law_2_11 (LW sc s2 x2 x3 x4 x5 x6 x7 x8 x9 (.sh (.str lin)) (.sh (.int m)) x12 x13) := by
    simp only [LIN, List.map_cons, List.map_nil] at el
    simp [s_law_2_9, s_law_2_10, LW, show big 8 = true from rfl, isUR_ne _ hs.ne, callSR_ne _ _ _ _ hs.ne, isUR_ne _ h1.ne, callSR_ne _ _ _ _ h1.ne, e1, e2, el]
  have ex2 : s_law_2_11 (LW sc s2 x2 x3 x4 x5 x6 x7 x8 x9 (.sh (.str lin)) (.sh (.int m)) x12 x13) = s_law_2_14 (LW sc s3 x2 x3 (.sh (.int cnt)) x5 (.sh (.int 1)) x7 (.sh (.int far)) x9 (.sh (.str lin)) (.sh (.int m)) x12 x13) := by
    unfold LW at elc ⊢
    simp [s_law_2_11, s_law_2_12, s_law_2_13, elc, hst, hcn, isUR_ne _ h2.ne, callSR_ne _ _ _ _ h2.ne, e3, e50]
  have ex3 : s_law_2_14 (LW sc s3 x2 x3 (.sh (.int cnt)) x5 (.sh (.int 1)) x7 (.sh (.int far)) x9 (.sh (.str lin)) (.sh (.int m)) x12 x13) = s_law_2_15 (LW sc s3 x2 y3 (.sh (.int cnt)) x5 (.sh (.int X)) x7 (.sh (.int far)) x9 (.sh (.str lin)) (.sh (.int m)) x12 x13) := by
    unfold LW at etot ⊢
    simp [s_law_2_14, ei, er, etot]
  rw [ex1, ex2, ex3]
  simp [s_law_2_15, LW, c1, eax, show big 2 = true from rfl]
  simp [s_law_2_16, show big 2 = true from rfl, e4, isUR_ne _ h3.ne, callSR_ne _ _ _ _ h3.ne, etn]
end K36

end
section
set_option Elab.async false
set_option autoImplicit false
set_option linter.all false
set_option maxRecDepth 100000
set_option maxHeartbeats 4000000
namespace K36
open PySem L2 Mi PySem.W
abbrev dRef : D := .tup [.str [114, 101, 102, 117, 115, 101, 100]]
theorem eq_self_of {d : D} (h1 : d.lay 64 = true) (h2 : dEq d d = true) : fEq d d = some (.bl true) := by
  show (pyEq d d).map _ = _
  unfold pyEq
  rw [h1, h2]; rfl
theorem eq_ten : fEq (.lst [dRef, dRef, dRef, dRef, dRef, dRef, dRef, dRef, dRef, dRef]) (.lst [dRef, dRef, dRef, dRef, dRef, dRef, dRef, dRef, dRef, dRef]) = some (.bl true) :=
  eq_self_of (by decide) (by decide +kernel)
theorem eq_large : fEq (.tup [.str [108, 97, 114, 103, 101]]) (.tup [.str [108, 97, 114, 103, 101]]) = some (.bl true) := eq_self_of (by decide) (by decide +kernel)
theorem ne_max : fNe (.tup [.int 500, .int 12, .int 1000, .int 60]) (.tup [.int 500, .int 12, .int 1000, .int 60]) = some (.bl false) := by
  have h : dEq (.tup [.int 500, .int 12, .int 1000, .int 60]) (.tup [.int 500, .int 12, .int 1000, .int 60]) = true := by decide +kernel
  show (pyEq _ _).map _ = _
  unfold pyEq
  rw [h]; rfl
theorem law_eq {d : D} {zs : List Int} (hd : d = .lst (zs.map .int) ∨ d = .frl (zs.map .int)) : m_law [d] = .ret (.sh (.bl true)) := by
  obtain ⟨ns, e1, hne, hb, hl⟩ := stream_eq hd
  have h0 : St 0 (.lst [.sh (.lst (ns.map .int)), .sh (.int 0)]) := ⟨ns, 0, rfl, hne, hb, hl, Nat.le_refl _⟩
  have hst : T.strips (ns.map fun i => T.sh (.int i)) = ns.map .int := strips_shf D.int ns
  obtain ⟨ρ', e2, s, y2, y3, y4, y5, y6, y7, y8, y9, y10, y11, y12, y13, rfl, hs⟩ := forL_inv (f := bName 2) (mb := l_law_3) (fun i ρ => ∃ s y2 y3 y4 y5 y6 y7 y8 y9 y10 y11 y12 y13, ρ = LW (.sh d) s y2 y3 y4 y5 y6 y7 y8 y9 y10 y11 y12 y13 ∧ St (66 * i) s) ((List.range 7).map fun (i : Nat) => .int i) 0 (LW (.sh d) (.lst [.sh (.lst (ns.map .int)), .sh (.int 0)]) .un .un .un .un .un .un .un .un .un .un .un .un) ⟨_, _, _, _, _, _, _, _, _, _, _, _, _, rfl, h0⟩ (by
    rintro i u hu ρ ⟨s, y2, y3, y4, y5, y6, y7, y8, y9, y10, y11, y12, y13, rfl, hs⟩
    have hi : i < 7 := by simpa using (List.getElem?_eq_some_iff.mp hu).1
    obtain ⟨p, s1, k1, a1, hp, hpl, hs1⟩ := turnA hs (by omega) (sc := .sh d) (x2 := .sh u) (x3 := y3) (x4 := y4) (x5 := y5) (x6 := y6) (x7 := y7) (x8 := y8) (x9 := y9) (x10 := y10) (x11 := y11) (x12 := y12) (x13 := y13)
    obtain ⟨w, l, s2, a2, hw, hl, hs2⟩ := turnB hs1 (by omega) hp hpl (sc := .sh d) (x2 := .sh u) (x3 := k1) (x4 := y4) (x5 := y5) (x6 := y6) (x7 := y7) (x8 := y8) (x9 := y9) (x10 := y10) (x11 := y11) (x13 := y13)
    obtain ⟨z4, z5, a3⟩ := turnC (s := s2) hp hpl hw hl (sc := .sh d) (x2 := .sh u) (x3 := k1) (x4 := y4) (x5 := y5) (x6 := y6) (x7 := y7) (x8 := y8) (x10 := y10) (x11 := y11)
    obtain ⟨s3, b3, b4, b5, b6, b8, b10, b11, a4, hs3⟩ := turnD hs2 (by omega) (sc := .sh d) (x2 := .sh u) (x3 := k1) (x4 := z4) (x5 := z5) (x6 := y6) (x7 := y7) (x8 := y8) (x9 := .sh (.int l)) (x10 := y10) (x11 := y11) (x12 := .sh (.str p)) (x13 := .sh (.str w))
    refine ⟨_, _, (show bName 2 u (LW (.sh d) s y2 y3 y4 y5 y6 y7 y8 y9 y10 y11 y12 y13) = some (LW (.sh d) s (.sh u) y3 y4 y5 y6 y7 y8 y9 y10 y11 y12 y13) by simp [LW]), .inl (by rw [a1, a2, a3, a4]), _, _, _, _, _, _, _, _, _, _, _, _, _, rfl, hs3.mono (by omega)⟩)
  have e0 : m_law [d] = toOut (b_law (LW (.sh d) .un .un .un .un .un .un .un .un .un .un .un .un .un)) := rfl
  rw [e0]
  have r7 : rng1 [.int 7] = some ((List.range 7).map fun (i : Nat) => .int i) := rng1_nat (n := 7) (by omega)
  have ex1 : b_law (LW (.sh d) .un .un .un .un .un .un .un .un .un .un .un .un .un) = s_law_0_4 (LW (.sh d) s y2 y3 y4 y5 y6 y7 y8 y9 y10 y11 y12 y13) := by
    unfold LW at e2 ⊢
    simp [b_law, e1, hst, show big 2 = true from rfl]
    simp [s_law_0_2, ne_max, show big 4 = true from rfl]
    simp only [s_law_0_3, sq_ap, sbnd_ap, bnd_ap, cons1_ap, pur_ap, go_ok, r7, opt_sm, ths_ok, e2, th_nx]
  rw [ex1]
  have m13 : fMul (.str [88]) (.int 13) = some (.str (List.replicate 13 [88]).flatten) := fMul_strN (k := 13) (by omega) (by decide)
  have m61 : fMul (.str [97]) (.int 61) = some (.str (List.replicate 61 [97]).flatten) := fMul_strN (k := 61) (by omega) (by decide)
  have m30 : fMul (.str [97]) (.int 30) = some (.str (List.replicate 30 [97]).flatten) := fMul_strN (k := 30) (by omega) (by decide)
  have m10 : fMul (.lst [dRef]) (.int 10) = some (.lst [dRef, dRef, dRef, dRef, dRef, dRef, dRef, dRef, dRef, dRef]) := by
    rw [fMul_lst (by decide) (by decide)]; rfl
  have w4' := w4; have w10' := w10; have wl := large_eq
  generalize (List.replicate 13 [88]).flatten = A at m13 w4'
  generalize (List.replicate 61 [97]).flatten = B at m61 w10'
  generalize (List.replicate 30 [97]).flatten = C at m30 wl
  simp [s_law_0_4, LW, w1, w2, w3, m13, w4', w5, show big 5 = true from rfl]
  simp [s_law_0_5, w6, w7, w8, w9, m61, w10', show big 5 = true from rfl, fAdd_lst]
  simp [s_law_0_6, show big 1 = true from rfl, m10, eq_ten, m30, wl, eq_large]
end K36

end
section
open PySem PySem.W PyProof.Rows
set_option Elab.async false
set_option maxRecDepth 100000
set_option maxHeartbeats 8000000
open_top head36 for PySem.Challenge.rw_termsalike_k36_whole_words

end
section
set_option Elab.async false
set_option autoImplicit false
set_option linter.all false
set_option maxRecDepth 100000
set_option maxHeartbeats 1000000
namespace K36
open PySem L2 Mi LamX
theorem top_of {K : PySem.W.Frag} {Tb : List (Addr × Str)} {cl : Exc → Value} {mg : Str → Option Value} {h : Heap} {x : Str} {st : Stmt} {ps : List Str} {f : Addr} {oc : Value} {od an : Option Addr} {kV dc pm cd ct : Value} {sl : Array (Option Value)} (X : K.In h) (G : h.Ns mainGlobals mg) (a : PySem.W.nsIn K mainGlobals x = some (some (.ref f)))
    (l : K.lookup f = some ⟨oc, od, .func (PySem.W.fnOf x x (defArgs st) (defBody st) (defScope st) .none kV dc pm an cd ct), sl⟩) (c : PySem.W.codeIn K cd x = true) (k : PySem.W.keepIn K (.ref f) = true)
    (b : ∀ kV dc pm an cd ct, Binds K (PySem.W.fnOf x x (defArgs st) (defBody st) (defScope st) .none kV dc pm an cd ct) ps []) : Top ⟨K, Tb, cl⟩ mg x st ps :=
  ⟨f, _, fun_mk l c k, PySem.W.mg_of X G a, b _ _ _ _ _ _⟩
end K36

end
section
set_option Elab.async false
set_option autoImplicit false
set_option linter.all false
set_option maxRecDepth 100000
set_option maxHeartbeats 8000000
namespace K36
open PySem L2 Mi LamX
theorem warm : PySem.Challenge.rw_termsalike_k36_whole_words = PySem.Challenge.rw_termsalike_k36_whole_words ∧ head36.heap_39 = head36.heap_39 := by k_fill; exact ⟨rfl, rfl⟩
def cl36 : Exc → Value
  | .refused => .ref 37
  | .large => .ref 49
  | .missing => .ref 61
  | .form _ => .ref 82
  | .broken _ => .ref 103
def Tb36 : List (Addr × Str) := [(266, ("_law_turns" ++ ".<locals>.") ++ "<lambda>"), (271, ("law" ++ ".<locals>.") ++ "<lambda>")]
noncomputable abbrev g36 (p : Params) : DX := ⟨head36.heap_39 p, Tb36, cl36⟩
theorem ci_of {K : PySem.W.Frag} {mg : Str → Option Value} {h : Heap} {x : Str} {i : Int} {t : Tok} (X : K.In h) (G : h.Ns mainGlobals mg) (a : PySem.W.nsIn K mainGlobals x = some (some (.int i t))) : ∃ t, mg x = some (.int i t) := ⟨_, PySem.W.mg_of X G a⟩
theorem cs_of {K : PySem.W.Frag} {mg : Str → Option Value} {h : Heap} {x : Str} {i : Str} {t : Tok} (X : K.In h) (G : h.Ns mainGlobals mg) (a : PySem.W.nsIn K mainGlobals x = some (some (.str i t))) : ∃ t, mg x = some (.str i t) := ⟨_, PySem.W.mg_of X G a⟩
section
variable {w : World} {mg : Str → Option Value} {h : Heap} (X : (head36.heap_39 w.params).In h) (G : h.Ns mainGlobals mg)
include X G
theorem f_check_word : Top (g36 w.params) mg "check_word" (topS 14) ["word"] := by
  refine' top_of X G ?a ?l ?c ?k ?b
  (case a => k_is)
  (case l => k_is)
  (case c => k_is)
  (case k => k_is)
  (case b => exact fun kV dc pm an cd ct => Binds.all fun us hl => match us, hl with | [_], _ => rfl)
theorem f_check_pattern : Top (g36 w.params) mg "check_pattern" (topS 15) ["pattern"] := by
  refine' top_of X G ?a ?l ?c ?k ?b
  (case a => k_is)
  (case l => k_is)
  (case c => k_is)
  (case k => k_is)
  (case b => exact fun kV dc pm an cd ct => Binds.all fun us hl => match us, hl with | [_], _ => rfl)
theorem f_room_for : Top (g36 w.params) mg "room_for" (topS 16) ["pattern", "new", "least"] := by
  refine' top_of X G ?a ?l ?c ?k ?b
  (case a => k_is)
  (case l => k_is)
  (case c => k_is)
  (case k => k_is)
  (case b => exact fun kV dc pm an cd ct => Binds.all fun us hl => match us, hl with | [_, _, _], _ => rfl)
theorem f_known_matches : Top (g36 w.params) mg "known_matches" (topS 17) ["pattern", "word", "least", "most"] := by
  refine' top_of X G ?a ?l ?c ?k ?b
  (case a => k_is)
  (case l => k_is)
  (case c => k_is)
  (case k => k_is)
  (case b => exact fun kV dc pm an cd ct => Binds.all fun us hl => match us, hl with | [_, _, _, _], _ => rfl)
theorem f_matches : Top (g36 w.params) mg "matches" (topS 18) ["pattern", "word", "least"] := by
  refine' top_of X G ?a ?l ?c ?k ?b
  (case a => k_is)
  (case l => k_is)
  (case c => k_is)
  (case k => k_is)
  (case b => exact fun kV dc pm an cd ct => Binds.all fun us hl => match us, hl with | [_, _, _], _ => rfl)
theorem f_check_least : Top (g36 w.params) mg "check_least" (topS 19) ["least"] := by
  refine' top_of X G ?a ?l ?c ?k ?b
  (case a => k_is)
  (case l => k_is)
  (case c => k_is)
  (case k => k_is)
  (case b => exact fun kV dc pm an cd ct => Binds.all fun us hl => match us, hl with | [_], _ => rfl)
theorem f_is_matched : Top (g36 w.params) mg "is_matched" (topS 20) ["pattern", "word", "least"] := by
  refine' top_of X G ?a ?l ?c ?k ?b
  (case a => k_is)
  (case l => k_is)
  (case c => k_is)
  (case k => k_is)
  (case b => exact fun kV dc pm an cd ct => Binds.all fun us hl => match us, hl with | [_, _, _], _ => rfl)
theorem f_count_linear : Top (g36 w.params) mg "count_linear" (topS 21) ["pattern", "many", "letters"] := by
  refine' top_of X G ?a ?l ?c ?k ?b
  (case a => k_is)
  (case l => k_is)
  (case c => k_is)
  (case k => k_is)
  (case b => exact fun kV dc pm an cd ct => Binds.all fun us hl => match us, hl with | [_, _, _], _ => rfl)
theorem f_power : Top (g36 w.params) mg "power" (topS 22) ["number", "many"] := by
  refine' top_of X G ?a ?l ?c ?k ?b
  (case a => k_is)
  (case l => k_is)
  (case c => k_is)
  (case k => k_is)
  (case b => exact fun kV dc pm an cd ct => Binds.all fun us hl => match us, hl with | [_, _], _ => rfl)
theorem f_root_of : Top (g36 w.params) mg "root_of" (topS 23) ["word"] := by
  refine' top_of X G ?a ?l ?c ?k ?b
  (case a => k_is)
  (case l => k_is)
  (case c => k_is)
  (case k => k_is)
  (case b => exact fun kV dc pm an cd ct => Binds.all fun us hl => match us, hl with | [_], _ => rfl)
theorem f_known_root : Top (g36 w.params) mg "known_root" (topS 24) ["word"] := by
  refine' top_of X G ?a ?l ?c ?k ?b
  (case a => k_is)
  (case l => k_is)
  (case c => k_is)
  (case k => k_is)
  (case b => exact fun kV dc pm an cd ct => Binds.all fun us hl => match us, hl with | [_], _ => rfl)
theorem f_commute : Top (g36 w.params) mg "commute" (topS 25) ["first", "second"] := by
  refine' top_of X G ?a ?l ?c ?k ?b
  (case a => k_is)
  (case l => k_is)
  (case c => k_is)
  (case k => k_is)
  (case b => exact fun kV dc pm an cd ct => Binds.all fun us hl => match us, hl with | [_, _], _ => rfl)
theorem f_turned : Top (g36 w.params) mg "turned" (topS 26) ["first", "second"] := by
  refine' top_of X G ?a ?l ?c ?k ?b
  (case a => k_is)
  (case l => k_is)
  (case c => k_is)
  (case k => k_is)
  (case b => exact fun kV dc pm an cd ct => Binds.all fun us hl => match us, hl with | [_, _], _ => rfl)
theorem f_between : Top (g36 w.params) mg "between" (topS 27) ["first", "second", "most"] := by
  refine' top_of X G ?a ?l ?c ?k ?b
  (case a => k_is)
  (case l => k_is)
  (case c => k_is)
  (case k => k_is)
  (case b => exact fun kV dc pm an cd ct => Binds.all fun us hl => match us, hl with | [_, _, _], _ => rfl)
theorem f_is_between : Top (g36 w.params) mg "is_between" (topS 28) ["first", "second", "word"] := by
  refine' top_of X G ?a ?l ?c ?k ?b
  (case a => k_is)
  (case l => k_is)
  (case c => k_is)
  (case k => k_is)
  (case b => exact fun kV dc pm an cd ct => Binds.all fun us hl => match us, hl with | [_, _, _], _ => rfl)
theorem f__law_same : Top (g36 w.params) mg "_law_same" (topS 30) ["told", "due"] := by
  refine' top_of X G ?a ?l ?c ?k ?b
  (case a => k_is)
  (case l => k_is)
  (case c => k_is)
  (case k => k_is)
  (case b => exact fun kV dc pm an cd ct => Binds.all fun us hl => match us, hl with | [_, _], _ => rfl)
theorem f__law_stream : Top (g36 w.params) mg "_law_stream" (topS 31) ["script"] := by
  refine' top_of X G ?a ?l ?c ?k ?b
  (case a => k_is)
  (case l => k_is)
  (case c => k_is)
  (case k => k_is)
  (case b => exact fun kV dc pm an cd ct => Binds.all fun us hl => match us, hl with | [_], _ => rfl)
theorem f__law_next : Top (g36 w.params) mg "_law_next" (topS 32) ["state", "many"] := by
  refine' top_of X G ?a ?l ?c ?k ?b
  (case a => k_is)
  (case l => k_is)
  (case c => k_is)
  (case k => k_is)
  (case b => exact fun kV dc pm an cd ct => Binds.all fun us hl => match us, hl with | [_, _], _ => rfl)
theorem f__law_told : Top (g36 w.params) mg "_law_told" (topS 33) ["call"] := by
  refine' top_of X G ?a ?l ?c ?k ?b
  (case a => k_is)
  (case l => k_is)
  (case c => k_is)
  (case k => k_is)
  (case b => exact fun kV dc pm an cd ct => Binds.all fun us hl => match us, hl with | [_], _ => rfl)
theorem f__law_word : Top (g36 w.params) mg "_law_word" (topS 34) ["state", "most"] := by
  refine' top_of X G ?a ?l ?c ?k ?b
  (case a => k_is)
  (case l => k_is)
  (case c => k_is)
  (case k => k_is)
  (case b => exact fun kV dc pm an cd ct => Binds.all fun us hl => match us, hl with | [_, _], _ => rfl)
theorem f__law_put : Top (g36 w.params) mg "_law_put" (topS 35) ["pattern", "row"] := by
  refine' top_of X G ?a ?l ?c ?k ?b
  (case a => k_is)
  (case l => k_is)
  (case c => k_is)
  (case k => k_is)
  (case b => exact fun kV dc pm an cd ct => Binds.all fun us hl => match us, hl with | [_, _], _ => rfl)
theorem f__law_unknowns : Top (g36 w.params) mg "_law_unknowns" (topS 36) ["pattern"] := by
  refine' top_of X G ?a ?l ?c ?k ?b
  (case a => k_is)
  (case l => k_is)
  (case c => k_is)
  (case k => k_is)
  (case b => exact fun kV dc pm an cd ct => Binds.all fun us hl => match us, hl with | [_], _ => rfl)
theorem f__law_matches : Top (g36 w.params) mg "_law_matches" (topS 37) ["pattern", "word", "least"] := by
  refine' top_of X G ?a ?l ?c ?k ?b
  (case a => k_is)
  (case l => k_is)
  (case c => k_is)
  (case k => k_is)
  (case b => exact fun kV dc pm an cd ct => Binds.all fun us hl => match us, hl with | [_, _, _], _ => rfl)
theorem f__law_all_words : Top (g36 w.params) mg "_law_all_words" (topS 38) ["many", "letters"] := by
  refine' top_of X G ?a ?l ?c ?k ?b
  (case a => k_is)
  (case l => k_is)
  (case c => k_is)
  (case k => k_is)
  (case b => exact fun kV dc pm an cd ct => Binds.all fun us hl => match us, hl with | [_, _], _ => rfl)
theorem f__law_fits : Top (g36 w.params) mg "_law_fits" (topS 39) ["pattern", "word"] := by
  refine' top_of X G ?a ?l ?c ?k ?b
  (case a => k_is)
  (case l => k_is)
  (case c => k_is)
  (case k => k_is)
  (case b => exact fun kV dc pm an cd ct => Binds.all fun us hl => match us, hl with | [_, _], _ => rfl)
theorem f__law_turns : Top (g36 w.params) mg "_law_turns" (topS 40) ["state"] := by
  refine' top_of X G ?a ?l ?c ?k ?b
  (case a => k_is)
  (case l => k_is)
  (case c => k_is)
  (case k => k_is)
  (case b => exact fun kV dc pm an cd ct => Binds.all fun us hl => match us, hl with | [_], _ => rfl)
theorem f_law : Top (g36 w.params) mg "law" (topS 41) ["script"] := by
  refine' top_of X G ?a ?l ?c ?k ?b
  (case a => k_is)
  (case l => k_is)
  (case c => k_is)
  (case k => k_is)
  (case b => exact fun kV dc pm an cd ct => Binds.all fun us hl => match us, hl with | [_], _ => rfl)
theorem fc_SMALL : ∃ t, mg "SMALL" = some (.str "abcdefghijklmnopqrstuvwxyz" t) := by
  refine' cs_of X G ?a
  (case a => k_is)
theorem fc_CAPITALS : ∃ t, mg "CAPITALS" = some (.str "ABCDEFGHIJKLMNOPQRSTUVWXYZ" t) := by
  refine' cs_of X G ?a
  (case a => k_is)
theorem fc_MAX_WORD : ∃ t, mg "MAX_WORD" = some (.int 60 t) := by
  refine' ci_of X G ?a
  (case a => k_is)
theorem fc_MAX_PATTERN : ∃ t, mg "MAX_PATTERN" = some (.int 12 t) := by
  refine' ci_of X G ?a
  (case a => k_is)
theorem fc_MAX_MATCHES : ∃ t, mg "MAX_MATCHES" = some (.int 500 t) := by
  refine' ci_of X G ?a
  (case a => k_is)
theorem fc_MAX_TIMES : ∃ t, mg "MAX_TIMES" = some (.int 1000 t) := by
  refine' ci_of X G ?a
  (case a => k_is)
theorem fm_TermError : mg "TermError" = some (.ref 24) := by
  refine' PySem.W.mg_of X G ?a
  (case a => k_is)
theorem fm_NotAllowed : mg "NotAllowed" = some (.ref 37) := by
  refine' PySem.W.mg_of X G ?a
  (case a => k_is)
theorem fm_TooLarge : mg "TooLarge" = some (.ref 49) := by
  refine' PySem.W.mg_of X G ?a
  (case a => k_is)
theorem fm_Missing : mg "Missing" = some (.ref 61) := by
  refine' PySem.W.mg_of X G ?a
  (case a => k_is)
theorem fm_BadForm : mg "BadForm" = some (.ref 82) := by
  refine' PySem.W.mg_of X G ?a
  (case a => k_is)
theorem fm_Broken : mg "Broken" = some (.ref 103) := by
  refine' PySem.W.mg_of X G ?a
  (case a => k_is)
theorem fx_NotAllowed : ExcOk (g36 w.params) mg "NotAllowed" .refused := by
  have h1 : PySem.W.excIn (head36.heap_39 w.params) 37 PySem.HandSPX.veTail "ValueError.__new__" = true := by k_exc
  have h2 : PySem.W.keepIn (head36.heap_39 w.params) (.ref 37) = true := by k_is
  have h3 : PySem.W.subIn (head36.heap_39 w.params) (.ref 37) (.type "BaseException") = some true := by k_is
  have h4 : PySem.W.typeIn (head36.heap_39 w.params) (.ref 37) = some (.type "type") := by k_is
  exact ⟨rfl, 37, rfl, fm_NotAllowed X G, h1, h2, h3, h4⟩
theorem fx_TooLarge : ExcOk (g36 w.params) mg "TooLarge" .large := by
  have h1 : PySem.W.excIn (head36.heap_39 w.params) 49 PySem.HandSPX.veTail "ValueError.__new__" = true := by k_exc
  have h2 : PySem.W.keepIn (head36.heap_39 w.params) (.ref 49) = true := by k_is
  have h3 : PySem.W.subIn (head36.heap_39 w.params) (.ref 49) (.type "BaseException") = some true := by k_is
  have h4 : PySem.W.typeIn (head36.heap_39 w.params) (.ref 49) = some (.type "type") := by k_is
  exact ⟨rfl, 49, rfl, fm_TooLarge X G, h1, h2, h3, h4⟩
theorem fx_Missing : ExcOk (g36 w.params) mg "Missing" .missing := by
  have h1 : PySem.W.excIn (head36.heap_39 w.params) 61 PySem.HandSPX.veTail "ValueError.__new__" = true := by k_exc
  have h2 : PySem.W.keepIn (head36.heap_39 w.params) (.ref 61) = true := by k_is
  have h3 : PySem.W.subIn (head36.heap_39 w.params) (.ref 61) (.type "BaseException") = some true := by k_is
  have h4 : PySem.W.typeIn (head36.heap_39 w.params) (.ref 61) = some (.type "type") := by k_is
  exact ⟨rfl, 61, rfl, fm_Missing X G, h1, h2, h3, h4⟩
theorem fn_len : mg "len" = none := by
  refine' PySem.W.mg_none_of X G ?a
  (case a => k_is)
theorem fn_int : mg "int" = none := by
  refine' PySem.W.mg_none_of X G ?a
  (case a => k_is)
theorem fn_abs : mg "abs" = none := by
  refine' PySem.W.mg_none_of X G ?a
  (case a => k_is)
theorem fn_all : mg "all" = none := by
  refine' PySem.W.mg_none_of X G ?a
  (case a => k_is)
theorem fn_any : mg "any" = none := by
  refine' PySem.W.mg_none_of X G ?a
  (case a => k_is)
theorem fn_sum : mg "sum" = none := by
  refine' PySem.W.mg_none_of X G ?a
  (case a => k_is)
theorem fn_tuple : mg "tuple" = none := by
  refine' PySem.W.mg_none_of X G ?a
  (case a => k_is)
theorem fn_list : mg "list" = none := by
  refine' PySem.W.mg_none_of X G ?a
  (case a => k_is)
theorem fn_max : mg "max" = none := by
  refine' PySem.W.mg_none_of X G ?a
  (case a => k_is)
theorem fn_min : mg "min" = none := by
  refine' PySem.W.mg_none_of X G ?a
  (case a => k_is)
theorem fn_repr : mg "repr" = none := by
  refine' PySem.W.mg_none_of X G ?a
  (case a => k_is)
theorem fn_isinstance : mg "isinstance" = none := by
  refine' PySem.W.mg_none_of X G ?a
  (case a => k_is)
theorem fn_range : mg "range" = none := by
  refine' PySem.W.mg_none_of X G ?a
  (case a => k_is)
theorem fn_zip : mg "zip" = none := by
  refine' PySem.W.mg_none_of X G ?a
  (case a => k_is)
theorem fn_enumerate : mg "enumerate" = none := by
  refine' PySem.W.mg_none_of X G ?a
  (case a => k_is)
theorem fn_reversed : mg "reversed" = none := by
  refine' PySem.W.mg_none_of X G ?a
  (case a => k_is)
theorem fn_sorted : mg "sorted" = none := by
  refine' PySem.W.mg_none_of X G ?a
  (case a => k_is)
theorem fn_set : mg "set" = none := by
  refine' PySem.W.mg_none_of X G ?a
  (case a => k_is)
theorem fn_dict : mg "dict" = none := by
  refine' PySem.W.mg_none_of X G ?a
  (case a => k_is)
theorem fn_str : mg "str" = none := by
  refine' PySem.W.mg_none_of X G ?a
  (case a => k_is)
theorem f_nb : noBuiltin mg := by
  intro x hx
  simp only [List.mem_cons, List.not_mem_nil, or_false] at hx
  rcases hx with rfl | rfl | rfl | rfl | rfl | rfl | rfl | rfl | rfl | rfl | rfl | rfl | rfl | rfl | rfl | rfl | rfl | rfl | rfl | rfl
  · exact fn_len X G
  · exact fn_int X G
  · exact fn_abs X G
  · exact fn_all X G
  · exact fn_any X G
  · exact fn_sum X G
  · exact fn_tuple X G
  · exact fn_list X G
  · exact fn_max X G
  · exact fn_min X G
  · exact fn_repr X G
  · exact fn_isinstance X G
  · exact fn_range X G
  · exact fn_zip X G
  · exact fn_enumerate X G
  · exact fn_reversed X G
  · exact fn_sorted X G
  · exact fn_set X G
  · exact fn_dict X G
  · exact fn_str X G
end
section
variable {p : Params}
theorem ec_NotAllowed : ExcC (head36.heap_39 p) 37 := by
  refine' ⟨?a, ?b, ?c, ?d, ?e, ?f, ?g, ?h⟩
  (case a => k_is)
  (case b => k_is)
  (case c => k_is)
  (case d => k_is)
  (case e => k_is)
  (case f => k_is)
  (case g => k_is)
  (case h => k_is)
theorem ec_TooLarge : ExcC (head36.heap_39 p) 49 := by
  refine' ⟨?a, ?b, ?c, ?d, ?e, ?f, ?g, ?h⟩
  (case a => k_is)
  (case b => k_is)
  (case c => k_is)
  (case d => k_is)
  (case e => k_is)
  (case f => k_is)
  (case g => k_is)
  (case h => k_is)
theorem ec_Missing : ExcC (head36.heap_39 p) 61 := by
  refine' ⟨?a, ?b, ?c, ?d, ?e, ?f, ?g, ?h⟩
  (case a => k_is)
  (case b => k_is)
  (case c => k_is)
  (case d => k_is)
  (case e => k_is)
  (case f => k_is)
  (case g => k_is)
  (case h => k_is)
theorem ec_BadForm : ExcC (head36.heap_39 p) 82 := by
  refine' ⟨?a, ?b, ?c, ?d, ?e, ?f, ?g, ?h⟩
  (case a => k_is)
  (case b => k_is)
  (case c => k_is)
  (case d => k_is)
  (case e => k_is)
  (case f => k_is)
  (case g => k_is)
  (case h => k_is)
theorem ec_Broken : ExcC (head36.heap_39 p) 103 := by
  refine' ⟨?a, ?b, ?c, ?d, ?e, ?f, ?g, ?h⟩
  (case a => k_is)
  (case b => k_is)
  (case c => k_is)
  (case d => k_is)
  (case e => k_is)
  (case f => k_is)
  (case g => k_is)
  (case h => k_is)
theorem ex_NotAllowed_TermError : PySem.W.exmOne (head36.heap_39 p) (.ref 37) (.ref 24) = some true := by kernel_rfl
theorem ex_NotAllowed_NotAllowed : PySem.W.exmOne (head36.heap_39 p) (.ref 37) (.ref 37) = some true := by kernel_rfl
theorem kt_NotAllowed_NotAllowed : PySem.W.kitOne (head36.heap_39 p) (.ref 37) (.ref 37) = some true := by kernel_rfl
theorem ex_NotAllowed_TooLarge : PySem.W.exmOne (head36.heap_39 p) (.ref 37) (.ref 49) = some false := by kernel_rfl
theorem kt_NotAllowed_TooLarge : PySem.W.kitOne (head36.heap_39 p) (.ref 37) (.ref 49) = some false := by kernel_rfl
theorem ex_NotAllowed_Missing : PySem.W.exmOne (head36.heap_39 p) (.ref 37) (.ref 61) = some false := by kernel_rfl
theorem kt_NotAllowed_Missing : PySem.W.kitOne (head36.heap_39 p) (.ref 37) (.ref 61) = some false := by kernel_rfl
theorem ex_NotAllowed_BadForm : PySem.W.exmOne (head36.heap_39 p) (.ref 37) (.ref 82) = some false := by kernel_rfl
theorem kt_NotAllowed_BadForm : PySem.W.kitOne (head36.heap_39 p) (.ref 37) (.ref 82) = some false := by kernel_rfl
theorem ex_NotAllowed_Broken : PySem.W.exmOne (head36.heap_39 p) (.ref 37) (.ref 103) = some false := by kernel_rfl
theorem kt_NotAllowed_Broken : PySem.W.kitOne (head36.heap_39 p) (.ref 37) (.ref 103) = some false := by kernel_rfl
theorem ex_TooLarge_TermError : PySem.W.exmOne (head36.heap_39 p) (.ref 49) (.ref 24) = some true := by kernel_rfl
theorem ex_TooLarge_NotAllowed : PySem.W.exmOne (head36.heap_39 p) (.ref 49) (.ref 37) = some false := by kernel_rfl
theorem kt_TooLarge_NotAllowed : PySem.W.kitOne (head36.heap_39 p) (.ref 49) (.ref 37) = some false := by kernel_rfl
theorem ex_TooLarge_TooLarge : PySem.W.exmOne (head36.heap_39 p) (.ref 49) (.ref 49) = some true := by kernel_rfl
theorem kt_TooLarge_TooLarge : PySem.W.kitOne (head36.heap_39 p) (.ref 49) (.ref 49) = some true := by kernel_rfl
theorem ex_TooLarge_Missing : PySem.W.exmOne (head36.heap_39 p) (.ref 49) (.ref 61) = some false := by kernel_rfl
theorem kt_TooLarge_Missing : PySem.W.kitOne (head36.heap_39 p) (.ref 49) (.ref 61) = some false := by kernel_rfl
theorem ex_TooLarge_BadForm : PySem.W.exmOne (head36.heap_39 p) (.ref 49) (.ref 82) = some false := by kernel_rfl
theorem kt_TooLarge_BadForm : PySem.W.kitOne (head36.heap_39 p) (.ref 49) (.ref 82) = some false := by kernel_rfl
theorem ex_TooLarge_Broken : PySem.W.exmOne (head36.heap_39 p) (.ref 49) (.ref 103) = some false := by kernel_rfl
theorem kt_TooLarge_Broken : PySem.W.kitOne (head36.heap_39 p) (.ref 49) (.ref 103) = some false := by kernel_rfl
theorem ex_Missing_TermError : PySem.W.exmOne (head36.heap_39 p) (.ref 61) (.ref 24) = some true := by kernel_rfl
theorem ex_Missing_NotAllowed : PySem.W.exmOne (head36.heap_39 p) (.ref 61) (.ref 37) = some false := by kernel_rfl
theorem kt_Missing_NotAllowed : PySem.W.kitOne (head36.heap_39 p) (.ref 61) (.ref 37) = some false := by kernel_rfl
theorem ex_Missing_TooLarge : PySem.W.exmOne (head36.heap_39 p) (.ref 61) (.ref 49) = some false := by kernel_rfl
theorem kt_Missing_TooLarge : PySem.W.kitOne (head36.heap_39 p) (.ref 61) (.ref 49) = some false := by kernel_rfl
theorem ex_Missing_Missing : PySem.W.exmOne (head36.heap_39 p) (.ref 61) (.ref 61) = some true := by kernel_rfl
theorem kt_Missing_Missing : PySem.W.kitOne (head36.heap_39 p) (.ref 61) (.ref 61) = some true := by kernel_rfl
theorem ex_Missing_BadForm : PySem.W.exmOne (head36.heap_39 p) (.ref 61) (.ref 82) = some false := by kernel_rfl
theorem kt_Missing_BadForm : PySem.W.kitOne (head36.heap_39 p) (.ref 61) (.ref 82) = some false := by kernel_rfl
theorem ex_Missing_Broken : PySem.W.exmOne (head36.heap_39 p) (.ref 61) (.ref 103) = some false := by kernel_rfl
theorem kt_Missing_Broken : PySem.W.kitOne (head36.heap_39 p) (.ref 61) (.ref 103) = some false := by kernel_rfl
theorem ex_BadForm_TermError : PySem.W.exmOne (head36.heap_39 p) (.ref 82) (.ref 24) = some true := by kernel_rfl
theorem ex_BadForm_NotAllowed : PySem.W.exmOne (head36.heap_39 p) (.ref 82) (.ref 37) = some false := by kernel_rfl
theorem kt_BadForm_NotAllowed : PySem.W.kitOne (head36.heap_39 p) (.ref 82) (.ref 37) = some false := by kernel_rfl
theorem ex_BadForm_TooLarge : PySem.W.exmOne (head36.heap_39 p) (.ref 82) (.ref 49) = some false := by kernel_rfl
theorem kt_BadForm_TooLarge : PySem.W.kitOne (head36.heap_39 p) (.ref 82) (.ref 49) = some false := by kernel_rfl
theorem ex_BadForm_Missing : PySem.W.exmOne (head36.heap_39 p) (.ref 82) (.ref 61) = some false := by kernel_rfl
theorem kt_BadForm_Missing : PySem.W.kitOne (head36.heap_39 p) (.ref 82) (.ref 61) = some false := by kernel_rfl
theorem ex_BadForm_BadForm : PySem.W.exmOne (head36.heap_39 p) (.ref 82) (.ref 82) = some true := by kernel_rfl
theorem kt_BadForm_BadForm : PySem.W.kitOne (head36.heap_39 p) (.ref 82) (.ref 82) = some true := by kernel_rfl
theorem ex_BadForm_Broken : PySem.W.exmOne (head36.heap_39 p) (.ref 82) (.ref 103) = some false := by kernel_rfl
theorem kt_BadForm_Broken : PySem.W.kitOne (head36.heap_39 p) (.ref 82) (.ref 103) = some false := by kernel_rfl
theorem ex_Broken_TermError : PySem.W.exmOne (head36.heap_39 p) (.ref 103) (.ref 24) = some true := by kernel_rfl
theorem ex_Broken_NotAllowed : PySem.W.exmOne (head36.heap_39 p) (.ref 103) (.ref 37) = some false := by kernel_rfl
theorem kt_Broken_NotAllowed : PySem.W.kitOne (head36.heap_39 p) (.ref 103) (.ref 37) = some false := by kernel_rfl
theorem ex_Broken_TooLarge : PySem.W.exmOne (head36.heap_39 p) (.ref 103) (.ref 49) = some false := by kernel_rfl
theorem kt_Broken_TooLarge : PySem.W.kitOne (head36.heap_39 p) (.ref 103) (.ref 49) = some false := by kernel_rfl
theorem ex_Broken_Missing : PySem.W.exmOne (head36.heap_39 p) (.ref 103) (.ref 61) = some false := by kernel_rfl
theorem kt_Broken_Missing : PySem.W.kitOne (head36.heap_39 p) (.ref 103) (.ref 61) = some false := by kernel_rfl
theorem ex_Broken_BadForm : PySem.W.exmOne (head36.heap_39 p) (.ref 103) (.ref 82) = some false := by kernel_rfl
theorem kt_Broken_BadForm : PySem.W.kitOne (head36.heap_39 p) (.ref 103) (.ref 82) = some false := by kernel_rfl
theorem ex_Broken_Broken : PySem.W.exmOne (head36.heap_39 p) (.ref 103) (.ref 103) = some true := by kernel_rfl
theorem kt_Broken_Broken : PySem.W.kitOne (head36.heap_39 p) (.ref 103) (.ref 103) = some true := by kernel_rfl
end
end K36

end
section
set_option Elab.async false
set_option autoImplicit false
set_option linter.all false
set_option maxRecDepth 100000
set_option maxHeartbeats 8000000
namespace K36
open PySem L2 Mi LamX
theorem warm2 : PySem.Challenge.rw_termsalike_k36_whole_words = PySem.Challenge.rw_termsalike_k36_whole_words ∧ head36.heap_39 = head36.heap_39 := by k_fill; exact ⟨rfl, rfl⟩
theorem made_of {K : PySem.W.Frag} {Tb : List (Addr × Str)} {cl : Exc → Value} {mg : Str → Option Value} {h base : Heap} {x : Str} {st : Stmt} {ps : List Str} {f : Addr} {oc : Value} {od an : Option Addr} {kV dc pm cd ct : Value} {sl : Array (Option Value)} (X : K.In h) (G : h.Ns mainGlobals mg) (a : PySem.W.nsIn K mainGlobals x = some (some (.ref f)))
    (l : K.lookup f = some ⟨oc, od, .func (PySem.W.fnOf x x (defArgs st) (defBody st) (defScope st) .none kV dc pm an cd ct), sl⟩) (c : PySem.W.codeIn K cd x = true) (k : PySem.W.keepIn K (.ref f) = true)
    (b : ∀ kV dc pm an cd ct, Binds K (PySem.W.fnOf x x (defArgs st) (defBody st) (defScope st) .none kV dc pm an cd ct) ps []) (m : MkCode ⟨K, Tb, cl⟩ mg base ((x ++ ".<locals>.") ++ "<lambda>") cd) : Made ⟨K, Tb, cl⟩ mg base x st ps :=
  ⟨f, _, fun_mk l c k, PySem.W.mg_of X G a, b _ _ _ _ _ _, m⟩
theorem tb1 : (266, (("_law_turns" : Str) ++ ".<locals>.") ++ "<lambda>") ∈ Tb36 := List.mem_cons_self ..
theorem tb2 : (271, (("law" : Str) ++ ".<locals>.") ++ "<lambda>") ∈ Tb36 := List.mem_cons_of_mem _ (List.mem_cons_self ..)
theorem tb1' : ∀ p ∈ Tb36, p.1 = 266 → p.2 = (("_law_turns" : Str) ++ ".<locals>.") ++ "<lambda>" := fun p hp h => by
  rcases List.mem_cons.mp hp with e | hp
  · rw [e]
  · rcases List.mem_cons.mp hp with e | hp
    · rw [e] at h; exact absurd h (by decide)
    · cases hp
theorem tb2' : ∀ p ∈ Tb36, p.1 = 271 → p.2 = (("law" : Str) ++ ".<locals>.") ++ "<lambda>" := fun p hp h => by
  rcases List.mem_cons.mp hp with e | hp
  · rw [e] at h; exact absurd h (by decide)
  · rcases List.mem_cons.mp hp with e | hp
    · rw [e]
    · cases hp
section
variable {w : World} {mg : Str → Option Value} {h : Heap} (X : (head36.heap_39 w.params).In h) (G : h.Ns mainGlobals mg)
include X G
omit X G in
theorem cl36_inj {c c' : Exc} (h1 : c.load = none) (h2 : c'.load = none) (h : cl36 c = cl36 c') : c = c' := by
  cases c <;> first | (cases h1; done) | (cases c' <;> first | rfl | (cases h2; done) | (exact absurd (Value.ref.inj h) (by decide)))
theorem kinds36 : Kinds (g36 w.params) mg where
  te := ⟨24, fm_TermError X G, fun c hl => by
    cases c with
    | refused => exact ex_NotAllowed_TermError
    | large => exact ex_TooLarge_TermError
    | missing => exact ex_Missing_TermError
    | form n => cases hl
    | broken s => cases hl⟩
  cl := fun c hl => by
    cases c with
    | refused => exact ⟨37, rfl, ec_NotAllowed⟩
    | large => exact ⟨49, rfl, ec_TooLarge⟩
    | missing => exact ⟨61, rfl, ec_Missing⟩
    | form n => cases hl
    | broken s => cases hl
  inj := fun c c' h1 h2 h => by
    have h : cl36 c = cl36 c' := h
    exact cl36_inj h1 h2 h
  is := fun c D hl hD i x b hx hb => by
    match i, hx, hb with
    | 0, hx, hb =>
      cases hx
      refine ⟨37, fm_NotAllowed X G, ?_⟩
      cases c with
      | refused => cases hb; have hD : D = _ := (Value.ref.inj hD).symm; rw [hD]; exact kt_NotAllowed_NotAllowed
      | large => cases hb; have hD : D = _ := (Value.ref.inj hD).symm; rw [hD]; exact kt_TooLarge_NotAllowed
      | missing => cases hb; have hD : D = _ := (Value.ref.inj hD).symm; rw [hD]; exact kt_Missing_NotAllowed
      | form n => cases hl
      | broken s => cases hl
    | 1, hx, hb =>
      cases hx
      refine ⟨49, fm_TooLarge X G, ?_⟩
      cases c with
      | refused => cases hb; have hD : D = _ := (Value.ref.inj hD).symm; rw [hD]; exact kt_NotAllowed_TooLarge
      | large => cases hb; have hD : D = _ := (Value.ref.inj hD).symm; rw [hD]; exact kt_TooLarge_TooLarge
      | missing => cases hb; have hD : D = _ := (Value.ref.inj hD).symm; rw [hD]; exact kt_Missing_TooLarge
      | form n => cases hl
      | broken s => cases hl
    | 2, hx, hb =>
      cases hx
      refine ⟨61, fm_Missing X G, ?_⟩
      cases c with
      | refused => cases hb; have hD : D = _ := (Value.ref.inj hD).symm; rw [hD]; exact kt_NotAllowed_Missing
      | large => cases hb; have hD : D = _ := (Value.ref.inj hD).symm; rw [hD]; exact kt_TooLarge_Missing
      | missing => cases hb; have hD : D = _ := (Value.ref.inj hD).symm; rw [hD]; exact kt_Missing_Missing
      | form n => cases hl
      | broken s => cases hl
    | 3, hx, hb =>
      cases hx
      refine ⟨82, fm_BadForm X G, ?_⟩
      cases c with
      | refused => cases hb; have hD : D = _ := (Value.ref.inj hD).symm; rw [hD]; exact kt_NotAllowed_BadForm
      | large => cases hb; have hD : D = _ := (Value.ref.inj hD).symm; rw [hD]; exact kt_TooLarge_BadForm
      | missing => cases hb; have hD : D = _ := (Value.ref.inj hD).symm; rw [hD]; exact kt_Missing_BadForm
      | form n => cases hl
      | broken s => cases hl
    | 4, hx, hb =>
      cases hx
      refine ⟨103, fm_Broken X G, ?_⟩
      cases c with
      | refused => cases hb; have hD : D = _ := (Value.ref.inj hD).symm; rw [hD]; exact kt_NotAllowed_Broken
      | large => cases hb; have hD : D = _ := (Value.ref.inj hD).symm; rw [hD]; exact kt_TooLarge_Broken
      | missing => cases hb; have hD : D = _ := (Value.ref.inj hD).symm; rw [hD]; exact kt_Missing_Broken
      | form n => cases hl
      | broken s => cases hl
    | i + 5, hx, hb => cases hx
theorem facts36 : Facts (g36 w.params) mg where
  c_SMALL := fc_SMALL X G
  c_CAPITALS := fc_CAPITALS X G
  c_MAX_WORD := fc_MAX_WORD X G
  c_MAX_PATTERN := fc_MAX_PATTERN X G
  c_MAX_MATCHES := fc_MAX_MATCHES X G
  c_MAX_TIMES := fc_MAX_TIMES X G
  x_NotAllowed := fx_NotAllowed X G
  x_TooLarge := fx_TooLarge X G
  x_Missing := fx_Missing X G
  t_check_word := f_check_word X G
  t_check_pattern := f_check_pattern X G
  t_room_for := f_room_for X G
  t_known_matches := f_known_matches X G
  t_matches := f_matches X G
  t_check_least := f_check_least X G
  t_is_matched := f_is_matched X G
  t_count_linear := f_count_linear X G
  t_power := f_power X G
  t_root_of := f_root_of X G
  t_known_root := f_known_root X G
  t_commute := f_commute X G
  t_turned := f_turned X G
  t_between := f_between X G
  t_is_between := f_is_between X G
  t__law_same := f__law_same X G
  t__law_stream := f__law_stream X G
  t__law_next := f__law_next X G
  t__law_told := f__law_told X G
  t__law_word := f__law_word X G
  t__law_put := f__law_put X G
  t__law_unknowns := f__law_unknowns X G
  t__law_matches := f__law_matches X G
  t__law_all_words := f__law_all_words X G
  t__law_fits := f__law_fits X G
  t__law_turns := f__law_turns X G
  t_law := f_law X G
  m_Missing := fm_Missing X G
  k_Missing := fun c b hb => by
    cases c with
    | refused => cases hb; exact ex_NotAllowed_Missing
    | large => cases hb; exact ex_TooLarge_Missing
    | missing => cases hb; exact ex_Missing_Missing
    | form n => cases hb
    | broken s => cases hb
  nb := f_nb X G
  kd := kinds36 X G
theorem md__law_turns {base : Heap} (hT : TabB base mg 268 266) : Made (g36 w.params) mg base "_law_turns" (topS 40) ["state"] := by
  refine' made_of X G ?a ?l ?c ?k ?b ?m
  (case a => k_is)
  (case l => k_is)
  (case c => k_is)
  (case k => k_is)
  (case b => exact fun kV dc pm an cd ct => Binds.all fun us hl => match us, hl with | [_], _ => rfl)
  (case m => exact ⟨268, 266, hT, rfl, tb1, tb1'⟩)
theorem md_law {base : Heap} (hT : TabB base mg 273 271) : Made (g36 w.params) mg base "law" (topS 41) ["script"] := by
  refine' made_of X G ?a ?l ?c ?k ?b ?m
  (case a => k_is)
  (case l => k_is)
  (case c => k_is)
  (case k => k_is)
  (case b => exact fun kV dc pm an cd ct => Binds.all fun us hl => match us, hl with | [_], _ => rfl)
  (case m => exact ⟨273, 271, hT, rfl, tb2, tb2'⟩)
end
theorem noL {p : Params} : ((head36.heap_39 p).all fun e => match e.2.cls with | .type t => t != "list" | _ => true) = true := by kernel_rfl
theorem n266 {p : Params} : (head36.heap_39 p).lookup 266 = none := by kernel_rfl
theorem n271 {p : Params} : (head36.heap_39 p).lookup 271 = none := by kernel_rfl
theorem cd266 {p : Params} : PySem.W.codeHdIn (head36.heap_39 p) 268 266 = true := by kernel_rfl
theorem cd271 {p : Params} : PySem.W.codeHdIn (head36.heap_39 p) 273 271 = true := by kernel_rfl
def cs36 : List (Addr × Addr) := [(268, 266), (273, 271)]
end K36

end
set_option Elab.async false
open PySem PySem.W PyProof.Rows
set_option maxRecDepth 100000 in
set_option maxHeartbeats 1000000 in
theorem PySem.Challenge.cw_termsalike_k36_whole_words_holds : PySem.Challenge.rw_termsalike_k36_whole_words.Holds := by
  refine head36 (Mi.walk_ofG (l := PySem.Challenge.rw_termsalike_k36_whole_words) (n := 63) (k := 7) (CX := fun w => L2N.CX (PySem.W.OpenLaw.prog PySem.Challenge.rw_termsalike_k36_whole_words) w) (by rfl) (by decide) (by kernel_rfl) ⟨⟨rfl, by decide, by decide⟩, rfl⟩ ?F ?X)
  case X => exact fun w H s e s' ⟨_, _, _, _, _, _, _, _, _, _, _, _, z⟩ => z
  case F =>
    intro w mg fa a h vs Y G hmg0 hobj
    have KX : (head36.heap_39 w.params).In h := Y.1
    have hT := km_tabs_of Y
    have hmg : mg ("law" : PySem.Str) = some (.ref fa) := hmg0
    refine ⟨head36.heap_39 w.params, KX, Mi.lawAt_of KX K36.noL hobj (Tb := K36.Tb36) (cl := K36.cl36) (m := K36.m_law) (cs := K36.cs36) ?_ ?_ ?_ ?_ hmg (fun zs d hd => K36.law_eq hd) fun base bK bG bT => ?_⟩
    · intro p hp
      simp [K36.cs36] at hp
      rcases hp with rfl | rfl
      · exact hT 266 (by simp)
      · exact hT 271 (by simp)
    · intro p hp
      simp [K36.cs36] at hp
      rcases hp with rfl | rfl
      · exact K36.n266
      · exact K36.n271
    · intro p hp
      simp [K36.cs36] at hp
      rcases hp with rfl | rfl
      · exact codeHd_of_K KX K36.cd266
      · exact codeHd_of_K KX K36.cd271
    · intro p hp
      rcases List.mem_cons.mp hp with e | hp
      · rw [e]; exact ⟨268, by simp [K36.cs36]⟩
      · rcases List.mem_cons.mp hp with e | hp
        · rw [e]; exact ⟨273, by simp [K36.cs36]⟩
        · cases hp
    · exact K36.d_law (K36.facts36 bK bG) (K36.md__law_turns bK bG (bT (268, 266) (by simp [K36.cs36]))) (K36.md_law bK bG (bT (273, 271) (by simp [K36.cs36])))
