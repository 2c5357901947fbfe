import PyProof.Rows.All
import Wide.All
import OpenK.AllK
import Wide.FinOn
import HandS.ForMost
import HandS.ForExc
import HandS.IsInst
import HandS.Deep
import HandS.CallSlots
import HandS.Wide
import HandS.Conv
import HandS.Flow
import PyProof.NeData
import HandS.TupAny
import HandS.WordsDict
import HandS.Defaults
import HandS.Zip
import HandS.Codes
import PySem.Challenge.RW_namehold_k02_words_and_dates
set_option Elab.async false
set_option linter.all false
set_option maxRecDepth 100000
set_option maxHeartbeats 4000000
namespace En
open PySem PySem.Spec L2

/-- data: a value with all that hangs on it; adr: a mutable object by its number -/
inductive D where
  | non | bl (b : Bool) | int (i : Int) | str (x : Str)
  | lst (xs : List D) | tup (xs : List D)
  | dct (ks : List Key) (ds : List D)
  | obj (c : Nat) (ns : List Nat) (ds : List D)
  | adr (n : Nat)
  | fzl (xs : List D)

/-- the static world: the written part, class addresses, names by number -/
structure SX where
  K : PySem.W.Frag
  ca : Nat → Addr
  nm : Nat → Str

mutual
def Rp (x : SX) (G : Hp) (io : List Addr) : D → V → Prop
  | .non, v => v = .non
  | .bl b, v => v = .bl b
  | .int i, v => v = .int i
  | .str s, v => v = .str s
  | .lst ds, v => ∃ a vs, v = .ref a ∧ G a = some (.lst vs) ∧ RpL x G io ds vs
  | .fzl ds, v => ∃ a vs, v = .ref a ∧ SqL x.K G a vs ∧ RpL x G io ds vs
  | .tup ds, v => ∃ a vs, v = .ref a ∧ SqT x.K G a vs ∧ RpL x G io ds vs
  | .dct ks ds, v => ∃ a vs, v = .ref a ∧ G a = some (.dK (ks.zip vs)) ∧ vs.length = ks.length ∧ RpL x G io ds vs
  | .obj c ns ds, v => ∃ a dx vs, v = .ref a ∧ G a = some (.ins (x.ca c) dx ((ns.map x.nm).zip vs)) ∧ vs.length = ns.length ∧ RpL x G io ds vs
  | .adr n, v => ∃ a, v = .ref a ∧ io[n]? = some a
def RpL (x : SX) (G : Hp) (io : List Addr) : List D → List V → Prop
  | [], vs => vs = []
  | d :: ds, vs => ∃ v r, vs = v :: r ∧ Rp x G io d v ∧ RpL x G io ds r
end

def Pre (io io' : List Addr) : Prop := ∃ m, io' = io ++ m
theorem Pre.refl (io : List Addr) : Pre io io := ⟨[], by simp⟩
theorem Pre.trans {a b c : List Addr} (h : Pre a b) (g : Pre b c) : Pre a c := by
  obtain ⟨m, rfl⟩ := h
  obtain ⟨n, rfl⟩ := g
  exact ⟨m ++ n, by simp⟩
theorem Pre.get {a b : List Addr} (h : Pre a b) {n : Nat} {p : Addr} (e : a[n]? = some p) : b[n]? = some p := by
  obtain ⟨m, rfl⟩ := h
  obtain ⟨hn, _⟩ := List.getElem?_eq_some_iff.mp e
  rw [List.getElem?_append_left hn]
  exact e
theorem Same.tup {K : PySem.W.Frag} {H H' : Hp} {a : Addr} {xs : List V} (e : Same H H') (h : SqT K H a xs) : SqT K H' a xs := by
  rcases h with (h | ⟨o, h⟩) | h
  · exact .inl (.inl (e _ _ h))
  · exact .inl (.inr ⟨o, e _ _ h⟩)
  · exact .inr h

section
variable {x : SX} {G G' : Hp} {io io' : List Addr}
mutual
theorem Rp.mono (s : Same G G') (i : Pre io io') : ∀ {d : D} {v : V}, Rp x G io d v → Rp x G' io' d v
  | .non, _, h => h
  | .bl _, _, h => h
  | .int _, _, h => h
  | .str _, _, h => h
  | .lst ds, _, h => by
    obtain ⟨a, vs, e, q, r⟩ := h
    exact ⟨a, vs, e, s _ _ q, RpL.mono s i r⟩
  | .fzl ds, _, h => by
    obtain ⟨a, vs, e, q, r⟩ := h
    exact ⟨a, vs, e, s.seq q, RpL.mono s i r⟩
  | .tup ds, _, h => by
    obtain ⟨a, vs, e, q, r⟩ := h
    exact ⟨a, vs, e, Same.tup s q, RpL.mono s i r⟩
  | .dct ks ds, _, h => by
    obtain ⟨a, vs, e, q, l, r⟩ := h
    exact ⟨a, vs, e, s _ _ q, l, RpL.mono s i r⟩
  | .obj c ns ds, _, h => by
    obtain ⟨a, dx, vs, e, q, l, r⟩ := h
    exact ⟨a, dx, vs, e, s _ _ q, l, RpL.mono s i r⟩
  | .adr n, _, h => by
    obtain ⟨a, e, q⟩ := h
    exact ⟨a, e, i.get q⟩
theorem RpL.mono (s : Same G G') (i : Pre io io') : ∀ {ds : List D} {vs : List V}, RpL x G io ds vs → RpL x G' io' ds vs
  | [], _, h => h
  | d :: ds, _, h => by
    obtain ⟨v, r, e, q, t⟩ := h
    exact ⟨v, r, e, Rp.mono s i q, RpL.mono s i t⟩
end
theorem RpL.nil : RpL x G io [] [] := rfl
theorem RpL.cons {d : D} {ds : List D} {v : V} {vs : List V} (h : Rp x G io d v) (t : RpL x G io ds vs) : RpL x G io (d :: ds) (v :: vs) := ⟨v, vs, rfl, h, t⟩
theorem RpL.length : ∀ {ds : List D} {vs : List V}, RpL x G io ds vs → vs.length = ds.length
  | [], _, h => by
    have e : _ = [] := h
    rw [e]
    rfl
  | d :: ds, _, h => by
    obtain ⟨v, r, rfl, _, t⟩ := h
    simp [RpL.length t]
theorem RpL.append : ∀ {ds es : List D} {vs us : List V}, RpL x G io ds vs → RpL x G io es us → RpL x G io (ds ++ es) (vs ++ us)
  | [], _, _, _, h, k => by
    have e : _ = [] := h
    rw [e]
    exact k
  | d :: ds, _, _, _, h, k => by
    obtain ⟨v, r, rfl, q, t⟩ := h
    exact ⟨v, r ++ _, rfl, q, RpL.append t k⟩
theorem RpL.get : ∀ {ds : List D} {vs : List V} {i : Nat} {d : D}, RpL x G io ds vs → ds[i]? = some d → ∃ v, vs[i]? = some v ∧ Rp x G io d v
  | [], _, _, _, _, e => by simp at e
  | d :: ds, _, 0, _, h, e => by
    obtain ⟨v, r, rfl, q, t⟩ := h
    simp at e
    subst e
    exact ⟨v, rfl, q⟩
  | d :: ds, _, i + 1, _, h, e => by
    obtain ⟨v, r, rfl, q, t⟩ := h
    simpa using RpL.get (i := i) t (by simpa using e)
theorem RpL.of_get {ds : List D} {vs : List V} {i : Nat} {v : V} (h : RpL x G io ds vs) (e : vs[i]? = some v) : ∃ d, ds[i]? = some d ∧ Rp x G io d v := by
  obtain ⟨hi, _⟩ := List.getElem?_eq_some_iff.mp e
  rw [h.length] at hi
  obtain ⟨u, e2, r⟩ := h.get (List.getElem?_eq_getElem hi)
  rw [e] at e2
  cases e2
  exact ⟨_, List.getElem?_eq_getElem hi, r⟩
theorem RpL.take : ∀ {ds : List D} {vs : List V} (n : Nat), RpL x G io ds vs → RpL x G io (ds.take n) (vs.take n)
  | ds, _, 0, h => by simp; exact .nil
  | [], _, n + 1, h => by
    have e : _ = [] := h
    subst e
    simp
    exact .nil
  | d :: ds, _, n + 1, h => by
    obtain ⟨v, r, rfl, q, t⟩ := h
    exact ⟨v, r.take n, rfl, q, RpL.take n t⟩
theorem RpL.drop : ∀ {ds : List D} {vs : List V} (n : Nat), RpL x G io ds vs → RpL x G io (ds.drop n) (vs.drop n)
  | ds, _, 0, h => by simpa using h
  | [], _, n + 1, h => by
    have e : _ = [] := h
    subst e
    simp
    exact .nil
  | d :: ds, _, n + 1, h => by
    obtain ⟨v, r, rfl, q, t⟩ := h
    exact RpL.drop n t
theorem RpL.set : ∀ {ds : List D} {vs : List V} (n : Nat) {d : D} {v : V}, RpL x G io ds vs → Rp x G io d v → RpL x G io (ds.set n d) (vs.set n v)
  | [], _, n, _, _, h, _ => by
    have e : _ = [] := h
    subst e
    simp
    exact .nil
  | d :: ds, _, 0, _, _, h, k => by
    obtain ⟨v, r, rfl, q, t⟩ := h
    exact ⟨_, r, rfl, k, t⟩
  | d :: ds, _, n + 1, _, _, h, k => by
    obtain ⟨v, r, rfl, q, t⟩ := h
    exact ⟨v, _, rfl, q, RpL.set n t k⟩
end

/-- what a slot holds: data, or a list or dict of its own that nothing else knows -/
inductive Cell where
  | val (d : D) | ol (ds : List D) | od (ks : List Key) (ds : List D)
/-- a mutable object of the store -/
inductive MO where
  | bx (ds : List D)
/-- the state -/
structure S where
  r : List (Option Cell)
  m : List MO
/-- what a run comes to -/
inductive Out where
  | val (d : D) | frs (ds : List D) | vals (ds : List D) | exc (c : Nat) (ns : List Nat) (ds : List D)
  | nx | rt (o : D) | rtf (ds : List D) | bk | ct

/-- the frame's entry -/
structure Fr where
  h : Hp
  g : Hp
  i : List Addr

def OwnL (x : SX) (F : Fr) (G : Hp) (io : List Addr) (H : Hp) (ds : List D) (a : Addr) : Prop :=
  ∃ vs, H a = some (.lst vs) ∧ G a = none ∧ F.h a = none ∧ RpL x G io ds vs
def OwnD (x : SX) (F : Fr) (G : Hp) (io : List Addr) (H : Hp) (ks : List Key) (ds : List D) (a : Addr) : Prop :=
  ∃ vs, H a = some (.dK (ks.zip vs)) ∧ G a = none ∧ F.h a = none ∧ vs.length = ks.length ∧ RpL x G io ds vs
def CellR (x : SX) (F : Fr) (G : Hp) (io : List Addr) (H : Hp) : Cell → V → Prop
  | .val d, v => Rp x G io d v
  | .ol ds, v => ∃ a, v = .ref a ∧ a ∉ io ∧ OwnL x F G io H ds a
  | .od ks ds, v => ∃ a, v = .ref a ∧ a ∉ io ∧ OwnD x F G io H ks ds a
def isOwn : Cell → Bool
  | .val _ => false
  | _ => true
def MemR (x : SX) (G : Hp) (io : List Addr) (H : Hp) : MO → Addr → Prop
  | .bx ds, a => ∃ vs, H a = some (.lst vs) ∧ G a = none ∧ RpL x G io ds vs
def MemA (x : SX) (G : Hp) (io : List Addr) (H : Hp) (m : List MO) : Prop :=
  m.length = io.length ∧ io.Nodup ∧ ∀ (n : Nat) (o : MO) (a : Addr), m[n]? = some o → io[n]? = some a → MemR x G io H o a

structure StR (x : SX) (F : Fr) (s : S) (G : Hp) (io : List Addr) (σ : St) (H : Hp) : Prop where
  gh : Same G H
  len : s.r.length = σ.length
  slot : ∀ (i : Nat) (c : Cell), s.r[i]? = some (some c) → ∃ v, σ[i]? = some (some v) ∧ CellR x F G io H c v
  own : ∀ (i j : Nat) (c c' : Cell) (v : V), i ≠ j → s.r[i]? = some (some c) → s.r[j]? = some (some c') → isOwn c = true → isOwn c' = true → σ[i]? = some (some v) → σ[j]? = some (some v) → False
  mem : MemA x G io H s.m
  kh : ∀ b o, F.h b = some o → b ∉ F.i → H b = some o
  kg : ∀ b, F.h b ≠ none → G b = F.g b
  ki : Pre F.i io
  ni : ∀ (n : Nat) (a : Addr), F.i.length ≤ n → io[n]? = some a → F.h a = none

/-- an exception as it leaves: its class, its fields -/
def ExcR (x : SX) (G : Hp) (io : List Addr) (c : Nat) (ns : List Nat) (ds : List D) (cls : Value) (dd : Option Addr) (H : Hp) : Prop :=
  cls = .ref (x.ca c) ∧ ∃ a vs, dd = some a ∧ H a = some (.xd ((ns.map x.nm).zip vs)) ∧ vs.length = ns.length ∧ RpL x G io ds vs

abbrev Res := Option (Out × S)

def Post (x : SX) (F : Fr) (W : WX) (G : Hp) (io : List Addr) (o : Res) (σ : St) (Q : VK) : Prop :=
  match o with
  | some (.val d, s) => ∀ v H' G' io', Same G G' → Pre io io' → StR x F s G' io' σ H' → Rp x G' io' d v → Q v H'
  | some (.frs ds, s) => ∀ a H' G' io', Same G G' → Pre io io' → StR x F s G' io' σ H' → a ∉ io' → OwnL x F G' io' H' ds a →
      (∀ (i : Nat) (c : Cell), s.r[i]? = some (some c) → isOwn c = true → σ[i]? ≠ some (some (.ref a))) → Q (.ref a) H'
  | some (.exc c ns ds, s) => ∀ cls dd H' G' io', Same G G' → Pre io io' → StR x F s G' io' σ H' → ExcR x G' io' c ns ds cls dd H' → W cls dd σ H'
  | _ => False

def PostA (x : SX) (F : Fr) (W : WX) (G : Hp) (io : List Addr) (o : Res) (σ : St) (Q : List V → Hp → Prop) : Prop :=
  match o with
  | some (.vals ds, s) => ∀ vs H' G' io', Same G G' → Pre io io' → StR x F s G' io' σ H' → RpL x G' io' ds vs → Q vs H'
  | some (.exc c ns ds, s) => ∀ cls dd H' G' io', Same G G' → Pre io io' → StR x F s G' io' σ H' → ExcR x G' io' c ns ds cls dd H' → W cls dd σ H'
  | _ => False

def PostS (x : SX) (F : Fr) (W : WX) (G : Hp) (io : List Addr) (o : Res) (D : Ends) : Prop :=
  match o with
  | some (.nx, s) => ∀ σ' H' G' io', Same G G' → Pre io io' → StR x F s G' io' σ' H' → D.nx σ' H'
  | some (.bk, s) => ∀ σ' H' G' io', Same G G' → Pre io io' → StR x F s G' io' σ' H' → D.bk σ' H'
  | some (.ct, s) => ∀ σ' H' G' io', Same G G' → Pre io io' → StR x F s G' io' σ' H' → D.ct σ' H'
  | some (.rt d, s) => ∀ v σ' H' G' io', Same G G' → Pre io io' → StR x F s G' io' σ' H' → Rp x G' io' d v → D.rt v H'
  | some (.rtf ds, s) => ∀ a σ' H' G' io', Same G G' → Pre io io' → StR x F s G' io' σ' H' → a ∉ io' → OwnL x F G' io' H' ds a → D.rt (.ref a) H'
  | some (.exc c ns ds, s) => ∀ cls dd σ' H' G' io', Same G G' → Pre io io' → StR x F s G' io' σ' H' → ExcR x G' io' c ns ds cls dd H' → W cls dd σ' H'
  | _ => False

section
variable {x : SX} {F : Fr} {W : WX} {G G1 H : Hp} {io io1 : List Addr} {σ : St} {s : S}

theorem Post.anti {o : Res} {Q : VK} (h : Post x F W G io o σ Q) (a : Same G G1) (b : Pre io io1) : Post x F W G1 io1 o σ Q := by
  unfold Post at h ⊢
  split at h
  · exact fun v H' G' io' c d => h v H' G' io' (a.trans c) (b.trans d)
  · exact fun v H' G' io' c d => h v H' G' io' (a.trans c) (b.trans d)
  · exact fun v dd H' G' io' c d => h v dd H' G' io' (a.trans c) (b.trans d)
  · exact h.elim
theorem PostA.anti {o : Res} {Q : List V → Hp → Prop} (h : PostA x F W G io o σ Q) (a : Same G G1) (b : Pre io io1) : PostA x F W G1 io1 o σ Q := by
  unfold PostA at h ⊢
  split at h
  · exact fun v H' G' io' c d => h v H' G' io' (a.trans c) (b.trans d)
  · exact fun v dd H' G' io' c d => h v dd H' G' io' (a.trans c) (b.trans d)
  · exact h.elim
theorem PostS.anti {o : Res} {D : Ends} (h : PostS x F W G io o D) (a : Same G G1) (b : Pre io io1) : PostS x F W G1 io1 o D := by
  unfold PostS at h ⊢
  split at h
  · exact fun v H' G' io' c d => h v H' G' io' (a.trans c) (b.trans d)
  · exact fun v H' G' io' c d => h v H' G' io' (a.trans c) (b.trans d)
  · exact fun v H' G' io' c d => h v H' G' io' (a.trans c) (b.trans d)
  · exact fun v dd H' G' io' c d => h v dd H' G' io' (a.trans c) (b.trans d)
  · exact fun v dd H' G' io' c d => h v dd H' G' io' (a.trans c) (b.trans d)
  · exact fun v dd σ' H' G' io' c d => h v dd σ' H' G' io' (a.trans c) (b.trans d)
  · exact h.elim

theorem same_upd {p : Addr} {o : HO} (h : H p = none) : Same H (upd H p o) := fun b u e => by
  rw [upd_ne (ne_of_none e h)]
  exact e
/-- a new object is laid beside: all stands -/
theorem StR.grow {H' : Hp} (t : StR x F s G io σ H) (k : Same H H') : StR x F s G io σ H' where
  gh := t.gh.trans k
  len := t.len
  slot := fun i c e => by
    obtain ⟨v, e1, r⟩ := t.slot i c e
    refine ⟨v, e1, ?_⟩
    cases c with
    | val d => exact r
    | ol ds =>
      obtain ⟨a, q1, q2, vs, q3, q4⟩ := r
      exact ⟨a, q1, q2, vs, k _ _ q3, q4⟩
    | od ks ds =>
      obtain ⟨a, q1, q2, vs, q3, q4⟩ := r
      exact ⟨a, q1, q2, vs, k _ _ q3, q4⟩
  own := t.own
  mem := ⟨t.mem.1, t.mem.2.1, fun n o a e1 e2 => by
    have q := t.mem.2.2 n o a e1 e2
    cases o with
    | bx ds =>
      obtain ⟨vs, q1, q2⟩ := q
      exact ⟨vs, k _ _ q1, q2⟩⟩
  kh := fun b o e n => k _ _ (t.kh b o e n)
  kg := t.kg
  ki := t.ki
  ni := t.ni
/-- an object nobody owns is made fast: it is data from now on -/
theorem StR.fast {a : Addr} {o : HO} (t : StR x F s G io σ H) (ha : H a = some o) (hg : G a = none) (hf : F.h a = none) (hi : a ∉ io)
    (ho : ∀ (i : Nat) (c : Cell), s.r[i]? = some (some c) → isOwn c = true → σ[i]? ≠ some (some (.ref a))) : StR x F s (upd G a o) io σ H := by
  have sg : Same G (upd G a o) := same_upd hg
  refine ⟨fun b u e => ?_, t.len, fun i c e => ?_, t.own, ⟨t.mem.1, t.mem.2.1, fun n u b e1 e2 => ?_⟩, t.kh, fun b hb => ?_, t.ki, t.ni⟩
  · by_cases hb : b = a
    · subst hb
      rw [upd_same] at e
      cases e
      exact ha
    · rw [upd_ne hb] at e
      exact t.gh _ _ e
  · obtain ⟨v, e1, r⟩ := t.slot i c e
    refine ⟨v, e1, ?_⟩
    cases c with
    | val d => exact Rp.mono sg (Pre.refl _) r
    | ol ds =>
      obtain ⟨b, rfl, q2, vs, q3, q4, q5, q6⟩ := r
      have nb : b ≠ a := fun z => ho i _ e rfl (by rw [← z]; exact e1)
      exact ⟨b, rfl, q2, vs, q3, by rw [upd_ne nb]; exact q4, q5, RpL.mono sg (Pre.refl _) q6⟩
    | od ks ds =>
      obtain ⟨b, rfl, q2, vs, q3, q4, q5, q6, q7⟩ := r
      have nb : b ≠ a := fun z => ho i _ e rfl (by rw [← z]; exact e1)
      exact ⟨b, rfl, q2, vs, q3, by rw [upd_ne nb]; exact q4, q5, q6, RpL.mono sg (Pre.refl _) q7⟩
  · have q := t.mem.2.2 n u b e1 e2
    have nb : b ≠ a := fun z => hi (by rw [← z]; exact List.mem_of_getElem? e2)
    cases u with
    | bx ds =>
      obtain ⟨vs, q1, q2, q3⟩ := q
      exact ⟨vs, q1, by rw [upd_ne nb]; exact q2, RpL.mono sg (Pre.refl _) q3⟩
  · have nb : b ≠ a := fun z => hb (by rw [z]; exact hf)
    rw [upd_ne nb]
    exact t.kg b hb
/-- a new object, made fast at once -/
theorem StR.newfast {a : Addr} {o : HO} (t : StR x F s G io σ H) (ha : H a = none) : StR x F s (upd G a o) io σ (upd H a o) ∧ Same G (upd G a o) := by
  have hg : G a = none := by
    cases e : G a with
    | none => rfl
    | some u => rw [t.gh _ _ e] at ha; cases ha
  have hi : a ∉ io := fun hm => by
    obtain ⟨n, hn, e⟩ := List.getElem_of_mem hm
    have e2 : io[n]? = some a := by rw [List.getElem?_eq_getElem hn, e]
    have hl : n < s.m.length := by rw [t.mem.1]; exact hn
    have q := t.mem.2.2 n _ a (List.getElem?_eq_getElem hl) e2
    cases hmo : s.m[n] with
    | bx ds =>
      rw [hmo] at q
      obtain ⟨vs, q1, _⟩ := q
      rw [ha] at q1; cases q1
  have hf : F.h a = none := by
    cases e : F.h a with
    | none => rfl
    | some u =>
      by_cases hm : a ∈ F.i
      · obtain ⟨m, hm2⟩ := t.ki
        exact absurd (by rw [hm2]; exact List.mem_append_left _ hm) hi
      · rw [t.kh _ _ e hm] at ha; cases ha
  refine ⟨(t.grow (same_upd ha)).fast upd_same hg hf hi fun i c e ho z => ?_, same_upd hg⟩
  obtain ⟨v, e1, r⟩ := t.slot i c e
  rw [z] at e1
  cases e1
  cases c with
  | val d => cases ho
  | ol ds =>
    obtain ⟨b, e2, _, vs, q3, _⟩ := r
    cases e2
    rw [ha] at q3; cases q3
  | od ks ds =>
    obtain ⟨b, e2, _, vs, q3, _⟩ := r
    cases e2
    rw [ha] at q3; cases q3
/-- a new object, nobody's yet -/
theorem StR.new {a : Addr} {o : HO} (t : StR x F s G io σ H) (ha : H a = none) : StR x F s G io σ (upd H a o) ∧ G a = none ∧ F.h a = none ∧ a ∉ io ∧
    ∀ (i : Nat) (c : Cell), s.r[i]? = some (some c) → isOwn c = true → σ[i]? ≠ some (some (.ref a)) := by
  have hg : G a = none := by
    cases e : G a with
    | none => rfl
    | some u => rw [t.gh _ _ e] at ha; cases ha
  have hi : a ∉ io := fun hm => by
    obtain ⟨n, hn, e⟩ := List.getElem_of_mem hm
    have e2 : io[n]? = some a := by rw [List.getElem?_eq_getElem hn, e]
    have hl : n < s.m.length := by rw [t.mem.1]; exact hn
    have q := t.mem.2.2 n _ a (List.getElem?_eq_getElem hl) e2
    cases hmo : s.m[n] with
    | bx ds =>
      rw [hmo] at q
      obtain ⟨vs, q1, _⟩ := q
      rw [ha] at q1; cases q1
  have hf : F.h a = none := by
    cases e : F.h a with
    | none => rfl
    | some u =>
      by_cases hm : a ∈ F.i
      · obtain ⟨m, hm2⟩ := t.ki
        exact absurd (by rw [hm2]; exact List.mem_append_left _ hm) hi
      · rw [t.kh _ _ e hm] at ha; cases ha
  refine ⟨t.grow (same_upd ha), hg, hf, hi, fun i c e ho z => ?_⟩
  obtain ⟨v, e1, r⟩ := t.slot i c e
  rw [z] at e1
  cases e1
  cases c with
  | val d => cases ho
  | ol ds =>
    obtain ⟨b, e2, _, vs, q3, _⟩ := r
    cases e2
    rw [ha] at q3; cases q3
  | od ks ds =>
    obtain ⟨b, e2, _, vs, q3, _⟩ := r
    cases e2
    rw [ha] at q3; cases q3
end

/-- the value of what came: a fresh list is made fast -/
def bnd (o : Res) (k : D → S → Res) : Res :=
  match o with
  | some (.val d, s) => k d s
  | some (.frs ds, s) => k (.lst ds) s
  | some (.exc c ns ds, s) => some (.exc c ns ds, s)
  | _ => none
def bndA (o : Res) (k : List D → S → Res) : Res :=
  match o with
  | some (.vals ds, s) => k ds s
  | some (.exc c ns ds, s) => some (.exc c ns ds, s)
  | _ => none
section
variable {x : SX} {F : Fr} {W : WX} {G G1 H : Hp} {io io1 : List Addr} {σ : St} {s : S}
theorem Post.bnd {o : Res} {k : D → S → Res} {Q Q1 : VK} (h : Post x F W G io (bnd o k) σ Q)
    (hk : ∀ d s v H' G' io', Same G G' → Pre io io' → StR x F s G' io' σ H' → Rp x G' io' d v → Post x F W G' io' (k d s) σ Q → Q1 v H') : Post x F W G io o σ Q1 := by
  unfold Post
  split
  · exact fun v H' G' io' a b t r => hk _ _ v H' G' io' a b t r (h.anti a b)
  · rename_i ds s
    refine fun a H' G' io' sg sp t ni ow no => ?_
    obtain ⟨vs, e1, e2, e3, r⟩ := id ow
    have t' := t.fast e1 e2 e3 ni no
    have s2 : Same G' (upd G' a (.lst vs)) := same_upd e2
    exact hk (.lst ds) s (.ref a) H' _ io' (sg.trans s2) sp t' ⟨a, vs, rfl, upd_same, r.mono s2 (Pre.refl _)⟩ (h.anti (sg.trans s2) sp)
  · exact h
  · rename_i h1 h2 h3
    unfold En.bnd at h
    split at h
    · exact h1 _ _ rfl
    · exact h2 _ _ rfl
    · exact h3 _ _ _ _ rfl
    · exact h
theorem Post.bndA {o : Res} {k : List D → S → Res} {Q : VK} {Q1 : List V → Hp → Prop} (h : Post x F W G io (bndA o k) σ Q)
    (hk : ∀ d s v H' G' io', Same G G' → Pre io io' → StR x F s G' io' σ H' → RpL x G' io' d v → Post x F W G' io' (k d s) σ Q → Q1 v H') : PostA x F W G io o σ Q1 := by
  unfold PostA
  split
  · exact fun v H' G' io' a b t r => hk _ _ v H' G' io' a b t r (h.anti a b)
  · exact h
  · rename_i h1 h3
    unfold En.bndA at h
    split at h
    · exact h1 _ _ rfl
    · exact h3 _ _ _ _ rfl
    · exact h
theorem PostA.bnd {o : Res} {k : D → S → Res} {Q : List V → Hp → Prop} {Q1 : VK} (h : PostA x F W G io (bnd o k) σ Q)
    (hk : ∀ d s v H' G' io', Same G G' → Pre io io' → StR x F s G' io' σ H' → Rp x G' io' d v → PostA x F W G' io' (k d s) σ Q → Q1 v H') : Post x F W G io o σ Q1 := by
  unfold Post
  split
  · exact fun v H' G' io' a b t r => hk _ _ v H' G' io' a b t r (h.anti a b)
  · rename_i ds s
    refine fun a H' G' io' sg sp t ni ow no => ?_
    obtain ⟨vs, e1, e2, e3, r⟩ := id ow
    have t' := t.fast e1 e2 e3 ni no
    have s2 : Same G' (upd G' a (.lst vs)) := same_upd e2
    exact hk (.lst ds) s (.ref a) H' _ io' (sg.trans s2) sp t' ⟨a, vs, rfl, upd_same, r.mono s2 (Pre.refl _)⟩ (h.anti (sg.trans s2) sp)
  · exact h
  · rename_i h1 h2 h3
    unfold En.bnd at h
    split at h
    · exact h1 _ _ rfl
    · exact h2 _ _ rfl
    · exact h3 _ _ _ _ rfl
    · exact h
theorem PostA.bndA {o : Res} {k : List D → S → Res} {Q Q1 : List V → Hp → Prop} (h : PostA x F W G io (bndA o k) σ Q)
    (hk : ∀ d s v H' G' io', Same G G' → Pre io io' → StR x F s G' io' σ H' → RpL x G' io' d v → PostA x F W G' io' (k d s) σ Q → Q1 v H') : PostA x F W G io o σ Q1 := by
  unfold PostA
  split
  · exact fun v H' G' io' a b t r => hk _ _ v H' G' io' a b t r (h.anti a b)
  · exact h
  · rename_i h1 h3
    unfold En.bndA at h
    split at h
    · exact h1 _ _ rfl
    · exact h3 _ _ _ _ rfl
    · exact h
end
end En

namespace En
open PySem PySem.Spec L2

/-! ### values: equality as Python has it, for data without objects -/
/-- data without objects, at most so deep -/
def flat : D → Bool
  | .non => true
  | .bl _ => true
  | .int _ => true
  | .str _ => true
  | _ => false
def okD : Nat → D → Bool
  | n + 1, .lst ds => ds.all (okD n)
  | n + 1, .tup ds => ds.all (okD n)
  | _, .non => true
  | _, .bl _ => true
  | _, .int _ => true
  | _, .str _ => true
  | _, _ => false
mutual
def eqD : D → D → Bool
  | .non, .non => true
  | .bl a, .bl b => a == b
  | .bl a, .int j => (if a then (1 : Int) else 0) == j
  | .int i, .bl b => i == (if b then (1 : Int) else 0)
  | .int i, .int j => i == j
  | .str a, .str b => a == b
  | .lst a, .lst b => eqDs a b
  | .tup a, .tup b => eqDs a b
  | _, _ => false
def eqDs : List D → List D → Bool
  | [], [] => true
  | a :: as, b :: bs => eqD a b && eqDs as bs
  | _, _ => false
end

inductive Bop where | add | sub | mul | div | mod | pow
  deriving DecidableEq
inductive Cop where | eq | ne | lt | le | gt | ge | isin | notin
  deriving DecidableEq
inductive Ty where | int | bool | str | list | tuple | dict | own (c : Nat)
  deriving DecidableEq
inductive Bi where | len | int | all | any | list | tuple | str | bool
  deriving DecidableEq
inductive Bm where | join | append | insert
  deriving DecidableEq

/-- code -/
inductive E where
  | var (i : Nat) | mv (i : Nat) | fz (i : Nat) | cst (d : D) | gv (g : Nat)
  | one (a : E) | bop (o : Bop) (a b : E) | neg (a : E) | nt (a : E) | band (a b : E) | bor (a b : E) | ite (c a b : E)
  | cmp (o : Cop) (a b : E) | chn (o p : Cop) (a b c : E) | isn (a : E) | nin (a : E)
  | ix (a b : E) | sl (a lo hi : E) | fld (a : E) (f : Nat)
  | cal (f : Nat) (as : E) | calk (f n : Nat) (as : E) (m : Nat) (ks : E) | met (m : Nat) (o as : E) | bi (b : Bi) (as : E) | bm (m : Bm) (o as : E)
  | lst (as : E) | tpl (as : E) | isi (a : E) (ts : List Ty)
  | lc (own : List Nat) (tg it cd el : E)
  | nil | cns (a b : E) | abs
  | it (a : E) | rng (a : E) | rng2 (a b : E) | enm (a : E) | zp (a b : E)
  | tn (i : Nat) | tt (is : List Nat)
  | skp | seq (a b : E) | asg (i : Nat) (e : E) | ast (tg e : E) | aso (i : Nat) (e : E) | asb (i : Nat) (e : E) | par (i j : Nat) (a b : E) | sit (o k e : E)
  | ret (e : E) | rtn | iff (c a b : E) | frr (tg i b : E) | exp (e : E) | apo (i : Nat) (e : E) | ino (i : Nat) (k e : E)

def big : Nat := 16777216
def bopF : Bop → D → D → S → Res
  | .add, .int i, .int j, s => some (.val (.int (i + j)), s)
  | .add, .str a, .str b, s => if a.length + b.length ≤ big then some (.val (.str (a ++ b)), s) else none
  | .add, .lst a, .lst b, s => if a.length + b.length ≤ big then some (.frs (a ++ b), s) else none
  | .add, .tup a, .tup b, s => if a.length + b.length ≤ big ∧ a ≠ [] then some (.val (.tup (a ++ b)), s) else none
  | .sub, .int i, .int j, s => some (.val (.int (i - j)), s)
  | .mul, .int i, .int j, s => if (-(2 ^ 64) < i ∧ i < 2 ^ 64) ∨ (-(2 ^ 64) < j ∧ j < 2 ^ 64) then some (.val (.int (i * j)), s) else none
  | .mul, .lst a, .int k, s => if -(2 ^ 63) ≤ k ∧ k < 2 ^ 63 ∧ a.length * k.toNat ≤ big then some (.frs (List.replicate k.toNat a).flatten, s) else none
  | .div, .int i, .int j, s => if 0 < j ∧ j < 1073741824 then some (.val (.int (i / j)), s) else none
  | .mod, .int i, .int j, s => if 0 < j then some (.val (.int (i % j)), s) else none
  | .pow, .int i, .int j, s => if 0 ≤ j ∧ j ≤ 1000000 ∧ i.natAbs < 2 ^ 64 then some (.val (.int (i ^ j.toNat)), s) else none
  | _, _, _, _ => none
/-- what a value holds for reading: a list's, a tuple's items; a box's -/
def viewL (s : S) : D → Option (List D)
  | .lst ds => some ds
  | .adr n => match s.m[n]? with
    | some (.bx ds) => some ds
    | _ => none
  | _ => none
def viewQ (s : S) : D → Option (List D)
  | .tup ds => some ds
  | d => viewL s d
def keyD : D → Option Key
  | .int i => some (.inl i)
  | .str x => some (.inr x)
  | _ => none
def lookK (k : Key) : List Key → List D → Option D
  | a :: ks, d :: ds => if a = k then some d else lookK k ks ds
  | _, _ => none
def inF (x y : D) (s : S) : Option Bool :=
  match x, y with
  | .str a, .str z => match a.cps.toList with
    | [c] => some (decide (c ∈ z.cps.toList))
    | _ => none
  | x, .dct ks ds => match keyD x with
    | some k => some (ks.any fun a => decide (a = k))
    | none => none
  | x, y => match viewQ s y with
    | some ds => if flat x && ds.all flat then some (ds.any fun z => eqD z x) else none
    | none => none
def cmpF : Cop → D → D → S → Option Bool
  | .eq, x, y, _ => if okD 8 x && okD 8 y then some (eqD x y) else none
  | .ne, x, y, _ => if okD 8 x && okD 8 y then some (!eqD x y) else none
  | .lt, .int i, .int j, _ => some (decide (i < j))
  | .le, .int i, .int j, _ => some (decide (i ≤ j))
  | .gt, .int i, .int j, _ => some (decide (j < i))
  | .ge, .int i, .int j, _ => some (decide (j ≤ i))
  | .isin, x, y, s => inF x y s
  | .notin, x, y, s => (inF x y s).map (!·)
  | _, _, _, _ => none
def resB (s : S) : Option Bool → Res
  | some b => some (.val (.bl b), s)
  | none => none
def resD (s : S) : Option D → Res
  | some d => some (.val d, s)
  | none => none
def ixF (x y : D) (s : S) : Option D :=
  match x, y with
  | .str z, .int i => if z.length ≤ big then (atI z.cps.toList i).map fun c => .str ⟨#[c]⟩ else none
  | .dct ks ds, y => match keyD y with
    | some k => lookK k ks ds
    | none => none
  | x, .int i => match viewQ s x with
    | some ds => atI ds i
    | none => none
  | _, _ => none
def cutD (ds : List D) (lo hi : Option Int) : List D := (ds.drop (HT.sIx ds.length 0 lo)).take (HT.sIx ds.length ds.length hi - HT.sIx ds.length 0 lo)
def slF (x : D) (lo hi : Option Int) (s : S) : Res :=
  match x with
  | .str z => if z.length ≤ big then some (.val (.str (cutS z lo hi)), s) else none
  | .tup ds => some (.val (.tup (cutD ds lo hi)), s)
  | .fzl ds => some (.frs (cutD ds lo hi), s)
  | x => match viewL s x with
    | some ds => some (.frs (cutD ds lo hi), s)
    | none => none
def tyIs : D → Ty → Option Bool
  | .non, t => match t with
    | .own _ => none
    | _ => some false
  | .bl _, t => match t with
    | .own _ => none
    | .bool => some true
    | .int => some true
    | _ => some false
  | .int _, t => match t with
    | .own _ => none
    | .int => some true
    | _ => some false
  | .str _, t => match t with
    | .own _ => none
    | .str => some true
    | _ => some false
  | .lst _, t => match t with
    | .own _ => none
    | .list => some true
    | _ => some false
  | .tup _, t => match t with
    | .own _ => none
    | .tuple => some true
    | _ => some false
  | .dct _ _, t => match t with
    | .own _ => none
    | .dict => some true
    | _ => some false
  | _, _ => none
def tyAny (d : D) : List Ty → Option Bool
  | [] => some false
  | t :: ts => match tyIs d t, tyAny d ts with
    | some b, some c => some (b || c)
    | _, _ => none
def blsOf : List D → Option (List Bool)
  | [] => some []
  | .bl b :: ds => (blsOf ds).map (b :: ·)
  | _ => none
def strsOf : List D → Option (List Str)
  | [] => some []
  | .str b :: ds => (strsOf ds).map (b :: ·)
  | _ => none
def biF : Bi → List D → S → Res
  | .len, [.str z], s => if z.length ≤ big then some (.val (.int z.length), s) else none
  | .len, [.dct ks _], s => some (.val (.int ks.length), s)
  | .len, [x], s => match viewQ s x with
    | some ds => some (.val (.int ds.length), s)
    | none => none
  | .int, [.int i], s => some (.val (.int i), s)
  | .int, [.bl b], s => some (.val (.int (if b then 1 else 0)), s)
  | .all, [x], s => match viewL s x with
    | some ds => match blsOf ds with
      | some bs => some (.val (.bl (bs.all id)), s)
      | none => none
    | none => none
  | .any, [x], s => match viewL s x with
    | some ds => match blsOf ds with
      | some bs => some (.val (.bl (bs.any id)), s)
      | none => none
    | none => none
  | .list, [x], s => match viewQ s x with
    | some ds => some (.frs ds, s)
    | none => none
  | .tuple, [.tup ds], s => some (.val (.tup ds), s)
  | .tuple, [x], s => match viewL s x with
    | some ds => some (.val (.tup ds), s)
    | none => none
  | .str, [.int i], s => if i.natAbs.log2 < 1920 then some (.val (.str (toString i : String)), s) else none
  | .bool, [.bl b], s => some (.val (.bl b), s)
  | _, _, _ => none
def bmR : Bm → D → Bool
  | .join, .str _ => true
  | _, _ => false
def bmF : Bm → D → List D → S → Res
  | .join, .str a, [x], s => match viewQ s x with
    | some ds => match strsOf ds with
      | some ys => if (ys.map (·.length)).sum + ys.length * a.length ≤ big then some (.val (.str (Txt.join a ys)), s) else none
      | none => none
    | none => none
  | _, _, _, _ => none

def S.set (s : S) (i : Nat) (c : Option Cell) : S := { s with r := s.r.set i c }
/-- a target's stores -/
def storeAll : List Nat → List D → S → Option S
  | [], [], s => some s
  | i :: is, d :: ds, s => storeAll is ds (s.set i (some (.val d)))
  | _, _, _ => none
def store : E → D → S → Option S
  | .tn i, d, s => some (s.set i (some (.val d)))
  | .tt is, .tup ds, s => storeAll is ds s
  | .tt is, .lst ds, s => storeAll is ds s
  | _, _, _ => none
def wipeR (r : List (Option Cell)) : List Nat → List (Option Cell)
  | [] => r
  | v :: vs => (wipeR r vs).set v none
/-- the slots that hold data -/
def valR : List (Option Cell) → List (Option Cell)
  | [] => []
  | some (.val d) :: r => some (.val d) :: valR r
  | _ :: r => none :: valR r
/-- a comprehension's turns -/
def compL (st : D → S → Option S) (cd el : S → Res) (r : List (Option Cell)) : List D → List D → List MO → Res
  | [], acc, m => some (.frs acc, ⟨r, m⟩)
  | d :: ds, acc, m => match st d ⟨r, m⟩ with
    | none => none
    | some s1 => bnd (cd s1) fun c s2 => match c with
      | .bl true => bnd (el s2) fun y s3 => if acc.length < big then compL st cd el r ds (acc ++ [y]) s3.m else none
      | .bl false => compL st cd el r ds acc s2.m
      | _ => none
/-- a for's turns -/
def forL (st : D → S → Option S) (body : S → Res) : List D → S → Res
  | [], s => some (.nx, s)
  | d :: ds, s => match st d s with
    | none => none
    | some s1 => match body s1 with
      | some (.nx, s2) => forL st body ds s2
      | some (.ct, s2) => forL st body ds s2
      | some (.bk, s2) => some (.nx, s2)
      | r => r
def itemsOf : D → Option (List D)
  | .str z => some (z.cps.toList.map fun c => .str ⟨#[c]⟩)
  | .lst ds => some ds
  | .tup ds => some ds
  | _ => none
def lstOf : D → Option (List D)
  | .lst ds => some ds
  | _ => none
def zipOf : D → D → Option (List D)
  | .lst ds, .lst es => some (List.zipWith (fun p q => .tup [p, q]) ds es)
  | .tup ds, .tup es => some (List.zipWith (fun p q => .tup [p, q]) ds es)
  | _, _ => none
def enumF : Nat → List D → List D
  | _, [] => []
  | n, d :: ds => .tup [.int n, d] :: enumF (n + 1) ds
def isAbs : E → Bool
  | .abs => true
  | _ => false
def prt (b : Bool) (o : Res) (s : S) (k : Option Int → S → Res) : Res :=
  match b with
  | true => k none s
  | false => bnd o fun d s => match d with
    | .int i => k (some i) s
    | _ => none
section
variable (P : Nat → List D → List MO → Option (Out × List MO)) (Gm : Nat → D)
def callF (f : Nat) (ds : List D) (s : S) : Res :=
  match P f ds s.m with
  | some (.val d, m) => some (.val d, { s with m := m })
  | some (.frs d, m) => some (.frs d, { s with m := m })
  | some (.exc c ns es, m) => some (.exc c ns es, { s with m := m })
  | _ => none
/-- the run of code -/
def ev : E → S → Res
  | .var i, s => match s.r[i]? with
    | some (some (.val d)) => some (.val d, s)
    | _ => none
  | .mv i, s => match s.r[i]? with
    | some (some (.ol ds)) => some (.frs ds, s.set i none)
    | _ => none
  | .fz i, s => match s.r[i]? with
    | some (some (.ol ds)) => some (.val (.lst ds), s.set i (some (.val (.lst ds))))
    | some (some (.val d)) => some (.val d, s)
    | _ => none
  | .cst d, s => if flat d then some (.val d, s) else none
  | .gv g, s => some (.val (Gm g), s)
  | .one a, s => ev a s
  | .bop o a b, s => bnd (ev a s) fun x s => bnd (ev b s) fun y s => bopF o x y s
  | .neg a, s => bnd (ev a s) fun x s => match x with
    | .int i => some (.val (.int (-i)), s)
    | _ => none
  | .nt a, s => bnd (ev a s) fun x s => match x with
    | .bl b => some (.val (.bl (!b)), s)
    | _ => none
  | .band a b, s => bnd (ev a s) fun x s => match x with
    | .bl c => if c then ev b s else some (.val (.bl false), s)
    | _ => none
  | .bor a b, s => bnd (ev a s) fun x s => match x with
    | .bl c => if c then some (.val (.bl true), s) else ev b s
    | _ => none
  | .ite c a b, s => bnd (ev c s) fun x s => match x with
    | .bl c => if c then ev a s else ev b s
    | _ => none
  | .cmp o a b, s => bnd (ev a s) fun x s => bnd (ev b s) fun y s => resB s (cmpF o x y s)
  | .chn o p a b c, s => bnd (ev a s) fun x s => bnd (ev b s) fun y s => match cmpF o x y s with
    | some true => bnd (ev c s) fun z s => resB s (cmpF p y z s)
    | some false => some (.val (.bl false), s)
    | none => none
  | .isn a, s => bnd (ev a s) fun x s => match x with
    | .non => some (.val (.bl true), s)
    | _ => some (.val (.bl false), s)
  | .nin a, s => bnd (ev a s) fun x s => match x with
    | .non => some (.val (.bl false), s)
    | _ => some (.val (.bl true), s)
  | .ix a b, s => bnd (ev a s) fun x s => bnd (ev b s) fun y s => resD s (ixF x y s)
  | .sl a lo hi, s => bnd (ev a s) fun x s => prt (isAbs lo) (ev lo s) s fun l s => prt (isAbs hi) (ev hi s) s fun h s => slF x l h s
  | .abs, s => some (.val .non, s)
  | .cal f as, s => bndA (ev as s) fun ds s => callF P f ds s
  | .calk f n as m ks, s => bndA (ev as s) fun ds s => bndA (ev ks s) fun es s => if ds.length = n ∧ es.length = m then callF P f (ds ++ es) s else none
  | .bi b as, s => bndA (ev as s) fun ds s => biF b ds s
  | .bm m o as, s => bnd (ev o s) fun x s => if bmR m x then bndA (ev as s) fun ds s => bmF m x ds s else none
  | .lst as, s => bndA (ev as s) fun ds s => if ds.length ≤ big then some (.frs ds, s) else none
  | .tpl as, s => bndA (ev as s) fun ds s => if ds.length ≤ big then some (.val (.tup ds), s) else none
  | .isi a ts, s => bnd (ev a s) fun x s => resB s (tyAny x ts)
  | .nil, s => some (.vals [], s)
  | .cns a b, s => bnd (ev a s) fun d s => bndA (ev b s) fun ds s => some (.vals (d :: ds), s)
  | .it a, s => bnd (ev a s) fun x s => match itemsOf x with
    | some ds => some (.vals ds, s)
    | none => none
  | .rng a, s => bnd (ev a s) fun x s => match x with
    | .int j => if -(2 ^ 62) ≤ j ∧ j < 2 ^ 62 then some (.vals ((List.range j.toNat).map fun (k : Nat) => .int k), s) else none
    | _ => none
  | .rng2 a b, s => bnd (ev a s) fun x s => bnd (ev b s) fun y s => match x, y with
    | .int i, .int j => if -(2 ^ 62) ≤ i ∧ i < 2 ^ 62 ∧ -(2 ^ 62) ≤ j ∧ j < 2 ^ 62 then some (.vals ((List.range (j - i).toNat).map fun (k : Nat) => .int (i + k)), s) else none
    | _, _ => none
  | .enm a, s => bnd (ev a s) fun x s => match lstOf x with
    | some ds => some (.vals (enumF 0 ds), s)
    | none => none
  | .zp a b, s => bnd (ev a s) fun x s => bnd (ev b s) fun y s => match zipOf x y with
    | some ds => some (.vals ds, s)
    | none => none
  | .lc own tg it cd el, s => bndA (ev it s) fun ds s => match compL (store tg) (ev cd) (ev el) (wipeR (valR s.r) own) ds [] s.m with
    | some (.frs acc, s') => some (.frs acc, { s with m := s'.m })
    | _ => none
  | .skp, s => some (.nx, s)
  | .seq a b, s => match ev a s with
    | some (.nx, s) => ev b s
    | r => r
  | .asg i e, s => bnd (ev e s) fun d s => some (.nx, s.set i (some (.val d)))
  | .ast tg e, s => bnd (ev e s) fun d s => match store tg d s with
    | some s => some (.nx, s)
    | none => none
  | .aso i e, s => match ev e s with
    | some (.frs ds, s) => some (.nx, s.set i (some (.ol ds)))
    | some (.exc c ns ds, s) => some (.exc c ns ds, s)
    | _ => none
  | .asb i e, s => match ev e s with
    | some (.frs ds, s) => some (.nx, { r := s.r.set i (some (.val (.adr s.m.length))), m := s.m ++ [.bx ds] })
    | some (.exc c ns ds, s) => some (.exc c ns ds, s)
    | _ => none
  | .par i j a b, s => bnd (ev a s) fun x s => bnd (ev b s) fun y s => some (.nx, (s.set i (some (.val x))).set j (some (.val y)))
  | .sit o k e, s => bnd (ev e s) fun d s => bnd (ev o s) fun x s => bnd (ev k s) fun y s => match x, y with
    | .adr n, .int i => match s.m[n]? with
      | some (.bx ds) => match ixN ds.length i with
        | some j => some (.nx, { s with m := s.m.set n (.bx (ds.set j d)) })
        | none => none
      | _ => none
    | _, _ => none
  | .ret e, s => match ev e s with
    | some (.val d, s) => some (.rt d, s)
    | some (.frs ds, s) => some (.rtf ds, s)
    | some (.exc c ns ds, s) => some (.exc c ns ds, s)
    | _ => none
  | .rtn, s => some (.rt .non, s)
  | .iff c a b, s => bnd (ev c s) fun x s => match x with
    | .bl c => if c then ev a s else ev b s
    | _ => none
  | .frr tg i b, s => bndA (ev i s) fun ds s => forL (store tg) (ev b) ds s
  | .exp e, s => bnd (ev e s) fun _ s => some (.nx, s)
  | .apo i e, s => match s.r[i]? with
    | some (some (.ol _)) => bnd (ev e s) fun d s => match s.r[i]? with
      | some (some (.ol ds)) => if ds.length < big then some (.nx, s.set i (some (.ol (ds ++ [d])))) else none
      | _ => none
    | _ => none
  | _, _ => none
end
end En

namespace En
open PySem PySem.Spec L2

/-! ### equality of data in the model -/
def pairE (ds es : List D) (j : Nat) : Bool := match ds[j]?, es[j]? with
  | some a, some b => eqD a b
  | _, _ => false
theorem pairE_all : ∀ (ds es : List D), ds.length = es.length → (List.range ds.length).all (pairE ds es) = eqDs ds es
  | [], [], _ => rfl
  | [], _ :: _, h => by simp at h
  | _ :: _, [], h => by simp at h
  | a :: ds, b :: es, h => by
    have ih := pairE_all ds es (by simpa using h)
    rw [List.length_cons, List.range_succ_eq_map, List.all_cons, List.all_map]
    have e1 : pairE (a :: ds) (b :: es) 0 = eqD a b := rfl
    have e2 : (pairE (a :: ds) (b :: es) ∘ Nat.succ) = pairE ds es := by
      funext j
      simp [pairE, Function.comp]
    rw [e1, e2, ih, eqDs]
theorem eqDs_len : ∀ (ds es : List D), ds.length ≠ es.length → eqDs ds es = false
  | [], [], h => absurd rfl h
  | [], _ :: _, _ => rfl
  | _ :: _, [], _ => rfl
  | a :: ds, b :: es, h => by
    rw [eqDs, eqDs_len ds es (by simpa using h), Bool.and_false]
theorem pairE_tup : ∀ (ds es : List D), ((List.range (min ds.length es.length)).all (pairE ds es) && ds.length == es.length) = eqDs ds es
  | ds, es => by
    by_cases h : ds.length = es.length
    · rw [h, Nat.min_self, ← h, pairE_all ds es h]
      simp
    · rw [eqDs_len ds es h]
      simp [h]

section
variable {X : Cx} {pins : List (Addr × Obj)} {σ : L2.St} {H G : Hp} {s : Shared} {x : SX} {io : List Addr}
theorem okD_flat {n : Nat} {d : D} (f : flat d = true) : okD n d = true := by
  cases d <;> cases n <;> first | rfl | cases f
def Deq (n : Nat) (X : Cx) (x : SX) (G : Hp) (io : List Addr) (s : Shared) : Prop :=
  ∀ (d e : D) (v w : V) (u t : Value) (A : Around), okD n d = true → okD n e = true → Rp x G io d v → Rp x G io e w → RelV v u → RelV w t → A.units + n < cLine →
    SeqAt.EqAt A s u t (eqD d e) ∧ SeqAt.RcAt A s u t (eqD d e) ∧ SeqAt.RcNeAt A s u t (!eqD d e)
theorem lstAt (I : Inv X pins σ H s) (gh : Same G H) {a : Addr} {vs : List V} (h : G a = some (.lst vs)) : ∃ its : List Value, Vals vs its ∧ s.heap.IsList a its.toArray ∧ vs.length ≤ sizeLine := by
  obtain ⟨its, r, p, l⟩ := I.list (xs := vs) (SqL.of (gh _ _ h))
  exact ⟨its, r, p.isList, l⟩
theorem tupAt (I : Inv X pins σ H s) (ek : X.K = x.K) (gh : Same G H) {a : Addr} {vs : List V} (h : SqT x.K G a vs) : ∃ its : List Value, Vals vs its ∧ s.heap.IsTuple a its.toArray ∧ vs.length ≤ sizeLine := by
  have h' : SqT X.K H a vs := by rw [ek]; exact Same.tup gh h
  exact I.tuple h'
theorem deq_items {n : Nat} (ih : Deq n X x G io s) {A : Around} {ds es : List D} {vs ws : List V} {us ts : List Value} (o1 : ds.all (okD n) = true) (o2 : es.all (okD n) = true)
    (r1 : RpL x G io ds vs) (r2 : RpL x G io es ws) (q1 : Vals vs us) (q2 : Vals ws ts) (hu : A.units + (n + 1) < cLine) :
    ∀ j (h1 : j < us.toArray.size) (h2 : j < ts.toArray.size), SeqAt.EqAt A.in1 s us.toArray[j] ts.toArray[j] (pairE ds es j) := fun j h1 h2 => by
  have l1 : us.toArray.size = ds.length := by rw [List.size_toArray, ← q1.length, r1.length]
  have l2 : ts.toArray.size = es.length := by rw [List.size_toArray, ← q2.length, r2.length]
  have e1 : ds[j]? = some ds[j] := List.getElem?_eq_getElem (by omega)
  have e2 : es[j]? = some es[j] := List.getElem?_eq_getElem (by omega)
  obtain ⟨v, v1, v2⟩ := r1.get e1
  obtain ⟨w, w1, w2⟩ := r2.get e2
  obtain ⟨u, u1, u2⟩ := q1.get v1
  obtain ⟨t, t1, t2⟩ := q2.get w1
  have z1 : us.toArray[j] = u := by
    have : us[j]? = some us.toArray[j] := by simp
    rw [u1] at this; exact (Option.some.inj this).symm
  have z2 : ts.toArray[j] = t := by
    have : ts[j]? = some ts.toArray[j] := by simp
    rw [t1] at this; exact (Option.some.inj this).symm
  rw [z1, z2]
  have ep : pairE ds es j = eqD ds[j] es[j] := by simp [pairE, e1, e2]
  rw [ep]
  refine (ih _ _ v w u t A.in1 ?_ ?_ v2 w2 u2 t2 (by show A.units + 1 + n < cLine; omega)).1
  · exact List.all_eq_true.mp o1 _ (List.getElem_mem _)
  · exact List.all_eq_true.mp o2 _ (List.getElem_mem _)
theorem deq_flat (n : Nat) {d e : D} {v w : V} {u t : Value} {A : Around} (f1 : flat d = true) (f2 : flat e = true) (r1 : Rp x G io d v) (r2 : Rp x G io e w) (q1 : RelV v u) (q2 : RelV w t) :
    SeqAt.EqAt A s u t (eqD d e) ∧ SeqAt.RcAt A s u t (eqD d e) ∧ SeqAt.RcNeAt A s u t (!eqD d e) := by
  cases d with
  | non =>
    cases (show v = .non from r1)
    cases (show u = Value.none from q1)
    cases e with
    | non => cases (show w = .non from r2); cases (show t = Value.none from q2); exact ⟨SeqAt.EqAt.same _, SeqAt.RcAt.none_none, SeqAt.RcNeAt.none_none⟩
    | bl b => cases (show w = .bl b from r2); cases (show t = Value.bool b from q2); exact ⟨SeqAt.EqAt.none_bool b, SeqAt.RcAt.none_bool b, SeqAt.RcNeAt.none_bool b⟩
    | int i => cases (show w = .int i from r2); obtain ⟨k, rfl⟩ := (show ∃ k, t = Value.int i k from q2); exact ⟨SeqAt.EqAt.none_int i k, SeqAt.RcAt.none_int i k, SeqAt.RcNeAt.none_int i k⟩
    | str i => cases (show w = .str i from r2); obtain ⟨k, rfl⟩ := (show ∃ k, t = Value.str i k from q2); exact ⟨SeqAt.EqAt.none_str i k, SeqAt.RcAt.none_str i k, SeqAt.RcNeAt.none_str i k⟩
    | _ => cases f2
  | bl a =>
    cases (show v = .bl a from r1)
    cases (show u = Value.bool a from q1)
    cases e with
    | non => cases (show w = .non from r2); cases (show t = Value.none from q2); exact ⟨SeqAt.EqAt.bool_none a, SeqAt.RcAt.bool_none a, SeqAt.RcNeAt.bool_none a⟩
    | bl b => cases (show w = .bl b from r2); cases (show t = Value.bool b from q2); exact ⟨SeqAt.EqAt.bool_bool a b, SeqAt.RcAt.bool_bool a b, SeqAt.RcNeAt.bool_bool a b⟩
    | int i => cases (show w = .int i from r2); obtain ⟨k, rfl⟩ := (show ∃ k, t = Value.int i k from q2); exact ⟨SeqAt.EqAt.bool_int a i k, SeqAt.RcAt.bool_int a i k, SeqAt.RcNeAt.bool_int a i k⟩
    | str i => cases (show w = .str i from r2); obtain ⟨k, rfl⟩ := (show ∃ k, t = Value.str i k from q2); exact ⟨SeqAt.EqAt.bool_str a i k, SeqAt.RcAt.bool_str a i k, SeqAt.RcNeAt.bool_str a i k⟩
    | _ => cases f2
  | int a =>
    cases (show v = .int a from r1)
    obtain ⟨m, rfl⟩ := (show ∃ k, u = Value.int a k from q1)
    cases e with
    | non => cases (show w = .non from r2); cases (show t = Value.none from q2); exact ⟨SeqAt.EqAt.int_none a m, SeqAt.RcAt.int_none a m, SeqAt.RcNeAt.int_none a m⟩
    | bl b => cases (show w = .bl b from r2); cases (show t = Value.bool b from q2); exact ⟨SeqAt.EqAt.int_bool a m b, SeqAt.RcAt.int_bool a m b, SeqAt.RcNeAt.int_bool a m b⟩
    | int i => cases (show w = .int i from r2); obtain ⟨k, rfl⟩ := (show ∃ k, t = Value.int i k from q2); exact ⟨SeqAt.EqAt.int_int a m i k, SeqAt.RcAt.int_int a m i k, SeqAt.RcNeAt.int_int a m i k⟩
    | str i => cases (show w = .str i from r2); obtain ⟨k, rfl⟩ := (show ∃ k, t = Value.str i k from q2); exact ⟨SeqAt.EqAt.int_str a m i k, SeqAt.RcAt.int_str a m i k, SeqAt.RcNeAt.int_str a m i k⟩
    | _ => cases f2
  | str a =>
    cases (show v = .str a from r1)
    obtain ⟨m, rfl⟩ := (show ∃ k, u = Value.str a k from q1)
    cases e with
    | non => cases (show w = .non from r2); cases (show t = Value.none from q2); exact ⟨SeqAt.EqAt.str_none a m, SeqAt.RcAt.str_none a m, SeqAt.RcNeAt.str_none a m⟩
    | bl b => cases (show w = .bl b from r2); cases (show t = Value.bool b from q2); exact ⟨SeqAt.EqAt.str_bool a m b, SeqAt.RcAt.str_bool a m b, SeqAt.RcNeAt.str_bool a m b⟩
    | int i => cases (show w = .int i from r2); obtain ⟨k, rfl⟩ := (show ∃ k, t = Value.int i k from q2); exact ⟨SeqAt.EqAt.str_int a m i k, SeqAt.RcAt.str_int a m i k, SeqAt.RcNeAt.str_int a m i k⟩
    | str i => cases (show w = .str i from r2); obtain ⟨k, rfl⟩ := (show ∃ k, t = Value.str i k from q2); exact ⟨SeqAt.EqAt.str_str a m i k, SeqAt.RcAt.str_str a m i k, SeqAt.RcNeAt.str_str a m i k⟩
    | _ => cases f2
  | _ => cases f1
theorem eqD_self (K : PySem.W.Frag) (I : Inv X pins σ H s) (ek : X.K = x.K) (gh : Same G H) : ∀ (n : Nat) (d e : D) (v : V), okD n d = true → okD n e = true → Rp x G io d v → Rp x G io e v → eqD d e = true
  | n, d, e, v, o1, o2, r1, r2 => by
    have all : ∀ (n : Nat), (∀ d e v, okD n d = true → okD n e = true → Rp x G io d v → Rp x G io e v → eqD d e = true) → ∀ (ds es : List D) (vs : List V), ds.all (okD n) = true → es.all (okD n) = true → RpL x G io ds vs → RpL x G io es vs → eqDs ds es = true := by
      intro n ih ds
      induction ds with
      | nil =>
        intro es vs _ _ r1 r2
        have e1 : vs = [] := r1
        subst e1
        cases es with
        | nil => rfl
        | cons e es => obtain ⟨_, _, z, _⟩ := r2; cases z
      | cons d ds ihl =>
        intro es vs o1 o2 r1 r2
        obtain ⟨v, r, rfl, q, t⟩ := r1
        cases es with
        | nil => have z : v :: r = [] := r2; cases z
        | cons e es =>
          obtain ⟨v', r', z, q', t'⟩ := r2
          cases z
          rw [List.all_cons, Bool.and_eq_true] at o1 o2
          rw [eqDs, ih d e v o1.1 o2.1 q q', ihl es r o1.2 o2.2 t t']
          rfl
    cases n with
    | zero =>
      cases d <;> cases e <;> simp_all [okD, Rp, eqD] <;> (try (have z := r1.symm.trans r2; first | (injection z with z; simp [z]) | cases z))
    | succ n =>
      have ih := fun d e v => eqD_self K I ek gh n d e v
      cases d with
      | lst ds =>
        obtain ⟨a, vs, rfl, h, r⟩ := r1
        cases e with
        | lst es =>
          obtain ⟨b, ws, z, h', r'⟩ := r2
          cases z
          rw [h] at h'
          cases h'
          exact all n ih ds es vs o1 o2 r r'
        | tup es =>
          obtain ⟨b, ws, z, h', r'⟩ := r2
          cases z
          obtain ⟨its, _, p1, _⟩ := lstAt I gh h
          obtain ⟨its2, _, p2, _⟩ := tupAt I ek gh h'
          obtain ⟨o, e1, e2, _⟩ := p1
          obtain ⟨o', e3, e4, _⟩ := p2
          rw [e1] at e3; cases e3
          rw [e2] at e4; exact absurd e4 (by decide)
        | non => cases r2
        | bl b => cases r2
        | int b => cases r2
        | str b => cases r2
        | _ => cases o2
      | tup ds =>
        obtain ⟨a, vs, rfl, h, r⟩ := r1
        cases e with
        | tup es =>
          obtain ⟨b, ws, z, h', r'⟩ := r2
          cases z
          have h1 : SqT X.K H a vs := by rw [ek]; exact Same.tup gh h
          have h2 : SqT X.K H a ws := by rw [ek]; exact Same.tup gh h'
          have z := I.tuple_inj h1 h2
          subst z
          exact all n ih ds es vs o1 o2 r r'
        | lst es =>
          obtain ⟨b, ws, z, h', r'⟩ := r2
          cases z
          obtain ⟨its, _, p1, _⟩ := lstAt I gh h'
          obtain ⟨its2, _, p2, _⟩ := tupAt I ek gh h
          obtain ⟨o, e1, e2, _⟩ := p1
          obtain ⟨o', e3, e4, _⟩ := p2
          rw [e1] at e3; cases e3
          rw [e2] at e4; exact absurd e4 (by decide)
        | non => cases r2
        | bl b => cases r2
        | int b => cases r2
        | str b => cases r2
        | _ => cases o2
      | non => cases e <;> simp_all [okD, Rp, eqD] <;> (try (have z := r1.symm.trans r2; cases z))
      | bl b => cases e <;> simp_all [okD, Rp, eqD] <;> (try (have z := r1.symm.trans r2; first | (injection z with z; simp [z]) | cases z))
      | int b => cases e <;> simp_all [okD, Rp, eqD] <;> (try (have z := r1.symm.trans r2; first | (injection z with z; simp [z]) | cases z))
      | str b => cases e <;> simp_all [okD, Rp, eqD] <;> (try (have z := r1.symm.trans r2; first | (injection z with z; simp [z]) | cases z))
      | _ => cases o1
end
end En

namespace En
open PySem PySem.Spec L2
section
variable {X : Cx} {pins : List (Addr × Obj)} {σ : L2.St} {H G : Hp} {s : Shared} {x : SX} {io : List Addr}
theorem deq (I : Inv X pins σ H s) (ek : X.K = x.K) (gh : Same G H) : ∀ n, Deq n X x G io s
  | n, d, e, v, w, u, t, A, o1, o2, r1, r2, q1, q2, hu => by
    by_cases f1 : flat d = true
    · by_cases f2 : flat e = true
      · exact deq_flat n f1 f2 r1 r2 q1 q2
      · have hu' : A.units < cLine := by omega
        cases e with
        | lst es =>
          obtain ⟨b, ws, rfl, h', r'⟩ := r2
          cases (show t = Value.ref b from q2)
          obtain ⟨its, _, p, _⟩ := lstAt I gh h'
          cases d with
          | non => cases (show v = .non from r1); cases (show u = Value.none from q1); exact ⟨.none_list p hu', .none_list p hu', .none_list p hu'⟩
          | bl a => cases (show v = .bl a from r1); cases (show u = Value.bool a from q1); exact ⟨.bool_list a p hu', .bool_list a p hu', .bool_list a p hu'⟩
          | int a => cases (show v = .int a from r1); obtain ⟨k, rfl⟩ := (show ∃ k, u = Value.int a k from q1); exact ⟨.int_list a k p hu', .int_list a k p hu', .int_list a k p hu'⟩
          | str a => cases (show v = .str a from r1); obtain ⟨k, rfl⟩ := (show ∃ k, u = Value.str a k from q1); exact ⟨.str_list a k p hu', .str_list a k p hu', .str_list a k p hu'⟩
          | _ => cases f1
        | tup es =>
          obtain ⟨b, ws, rfl, h', r'⟩ := r2
          cases (show t = Value.ref b from q2)
          obtain ⟨its, _, p, _⟩ := tupAt I ek gh h'
          cases d with
          | non => cases (show v = .non from r1); cases (show u = Value.none from q1); exact ⟨.none_tuple p hu', .none_tuple p hu', .none_tuple p hu'⟩
          | bl a => cases (show v = .bl a from r1); cases (show u = Value.bool a from q1); exact ⟨.bool_tuple a p hu', .bool_tuple a p hu', .bool_tuple a p hu'⟩
          | int a => cases (show v = .int a from r1); obtain ⟨k, rfl⟩ := (show ∃ k, u = Value.int a k from q1); exact ⟨.int_tuple a k p hu', .int_tuple a k p hu', .int_tuple a k p hu'⟩
          | str a => cases (show v = .str a from r1); obtain ⟨k, rfl⟩ := (show ∃ k, u = Value.str a k from q1); exact ⟨.str_tuple a k p hu', .str_tuple a k p hu', .str_tuple a k p hu'⟩
          | _ => cases f1
        | non => exact absurd rfl f2
        | bl _ => exact absurd rfl f2
        | int _ => exact absurd rfl f2
        | str _ => exact absurd rfl f2
        | _ => cases n <;> cases o2
    · have hu' : A.units < cLine := by omega
      cases d with
      | lst ds =>
        cases n with
        | zero => cases o1
        | succ n =>
          obtain ⟨a, vs, rfl, h, r⟩ := id r1
          cases (show u = Value.ref a from q1)
          obtain ⟨its, rv, p, _⟩ := lstAt I gh h
          cases e with
          | non => cases (show w = .non from r2); cases (show t = Value.none from q2); exact ⟨.list_none p hu', .list_none p hu', .list_none p hu'⟩
          | bl b => cases (show w = .bl b from r2); cases (show t = Value.bool b from q2); exact ⟨.list_bool b p hu', .list_bool b p hu', .list_bool b p hu'⟩
          | int b => cases (show w = .int b from r2); obtain ⟨k, rfl⟩ := (show ∃ k, t = Value.int b k from q2); exact ⟨.list_int b k p hu', .list_int b k p hu', .list_int b k p hu'⟩
          | str b => cases (show w = .str b from r2); obtain ⟨k, rfl⟩ := (show ∃ k, t = Value.str b k from q2); exact ⟨.list_str b k p hu', .list_str b k p hu', .list_str b k p hu'⟩
          | tup es =>
            obtain ⟨b, ws, rfl, h', r'⟩ := r2
            cases (show t = Value.ref b from q2)
            obtain ⟨its2, _, p2, _⟩ := tupAt I ek gh h'
            exact ⟨.list_tuple p p2 hu', .list_tuple p p2 hu', .list_tuple p p2 hu'⟩
          | lst es =>
            obtain ⟨b, ws, rfl, h', r'⟩ := id r2
            cases (show t = Value.ref b from q2)
            obtain ⟨its2, rv2, p2, _⟩ := lstAt I gh h'
            have l1 : its.toArray.size = ds.length := by rw [List.size_toArray, ← rv.length, r.length]
            have l2 : its2.toArray.size = es.length := by rw [List.size_toArray, ← rv2.length, r'.length]
            have both : SeqAt.RcAt A s (.ref a) (.ref b) (eqD (.lst ds) (.lst es)) ∧ SeqAt.RcNeAt A s (.ref a) (.ref b) (!eqD (.lst ds) (.lst es)) := by
              by_cases hl : ds.length = es.length
              · have he := deq_items (deq I ek gh n) (A := A) o1 o2 r r' rv rv2 hu
                have z1 := SeqAt.RcAt.lists p p2 (by omega) hu' he
                have z2 := SeqAt.RcNeAt.lists p p2 (by omega) hu' he
                rw [l1, pairE_all ds es hl] at z1 z2
                exact ⟨z1, z2⟩
              · have hb : (its.toArray.size != its2.toArray.size) = true := by rw [l1, l2]; simpa using hl
                have z1 := SeqAt.RcAt.lists_lengths p p2 hb hu'
                have z2 := SeqAt.RcNeAt.lists_lengths p p2 hb hu'
                rw [show eqD (.lst ds) (.lst es) = false from eqDs_len ds es hl]
                exact ⟨z1, z2⟩
            refine ⟨?_, both⟩
            by_cases hab : a = b
            · subst hab
              rw [eqD_self X.K I ek gh (n + 1) (.lst ds) (.lst es) (.ref a) o1 o2 r1 r2]
              exact .same _
            · exact .of_refs hab both.1
          | _ => cases o2
      | tup ds =>
        cases n with
        | zero => cases o1
        | succ n =>
          obtain ⟨a, vs, rfl, h, r⟩ := id r1
          cases (show u = Value.ref a from q1)
          obtain ⟨its, rv, p, _⟩ := tupAt I ek gh h
          cases e with
          | non => cases (show w = .non from r2); cases (show t = Value.none from q2); exact ⟨.tuple_none p hu', .tuple_none p hu', .tuple_none p hu'⟩
          | bl b => cases (show w = .bl b from r2); cases (show t = Value.bool b from q2); exact ⟨.tuple_bool b p hu', .tuple_bool b p hu', .tuple_bool b p hu'⟩
          | int b => cases (show w = .int b from r2); obtain ⟨k, rfl⟩ := (show ∃ k, t = Value.int b k from q2); exact ⟨.tuple_int b k p hu', .tuple_int b k p hu', .tuple_int b k p hu'⟩
          | str b => cases (show w = .str b from r2); obtain ⟨k, rfl⟩ := (show ∃ k, t = Value.str b k from q2); exact ⟨.tuple_str b k p hu', .tuple_str b k p hu', .tuple_str b k p hu'⟩
          | lst es =>
            obtain ⟨b, ws, rfl, h', r'⟩ := r2
            cases (show t = Value.ref b from q2)
            obtain ⟨its2, _, p2, _⟩ := lstAt I gh h'
            exact ⟨.tuple_list p p2 hu', .tuple_list p p2 hu', .tuple_list p p2 hu'⟩
          | tup es =>
            obtain ⟨b, ws, rfl, h', r'⟩ := id r2
            cases (show t = Value.ref b from q2)
            obtain ⟨its2, rv2, p2, _⟩ := tupAt I ek gh h'
            have l1 : its.toArray.size = ds.length := by rw [List.size_toArray, ← rv.length, r.length]
            have l2 : its2.toArray.size = es.length := by rw [List.size_toArray, ← rv2.length, r'.length]
            have he := deq_items (deq I ek gh n) (A := A) o1 o2 r r' rv rv2 hu
            have z1 := SeqAt.RcAt.tuples p p2 hu' he
            have z2 := SeqAt.RcNeAt.tuples p p2 hu' he
            rw [l1, l2, pairE_tup ds es] at z1 z2
            refine ⟨?_, z1, z2⟩
            by_cases hab : a = b
            · subst hab
              rw [eqD_self X.K I ek gh (n + 1) (.tup ds) (.tup es) (.ref a) o1 o2 r1 r2]
              exact .same _
            · exact .of_refs hab z1
          | _ => cases o2
      | non => exact absurd rfl f1
      | bl _ => exact absurd rfl f1
      | int _ => exact absurd rfl f1
      | str _ => exact absurd rfl f1
      | _ => cases n <;> cases o1
end
end En

namespace En
open PySem PySem.Spec L2
theorem big_line {n : Nat} (h : n ≤ big) : n ≤ sizeLine := by rw [sizeLine_eq]; exact h
theorem big_lt {n : Nat} (h : n < big) : n < sizeLine := by rw [sizeLine_eq]; exact h
section
variable {x : SX} {F : Fr} {W : WX} {G H : Hp} {io : List Addr} {σ : L2.St} {s : S}
theorem Post.v {d : D} {v : V} {Q : VK} (h : Post x F W G io (some (.val d, s)) σ Q) (t : StR x F s G io σ H) (r : Rp x G io d v) : Q v H := h v H G io (Same.refl _) (Pre.refl _) t r
theorem Post.f {ds : List D} {vs : List V} {Q : VK} (h : Post x F W G io (some (.frs ds, s)) σ Q) (t : StR x F s G io σ H) (r : RpL x G io ds vs) : ∀ p, H p = none → Q (.ref p) (upd H p (.lst vs)) := fun p hp => by
  obtain ⟨t', hg, hf, hi, ho⟩ := t.new (o := .lst vs) hp
  exact h p _ G io (Same.refl _) (Pre.refl _) t' hi ⟨vs, upd_same, hg, hf, r⟩ ho
theorem Post.tn {ds : List D} {vs : List V} {Q : VK} (h : Post x F W G io (some (.val (.tup ds), s)) σ Q) (t : StR x F s G io σ H) (r : RpL x G io ds vs) : ∀ p, H p = none → Q (.ref p) (upd H p (.tup vs)) := fun p hp => by
  obtain ⟨t', sg⟩ := t.newfast (o := .tup vs) hp
  exact h _ _ _ io sg (Pre.refl _) t' ⟨p, vs, rfl, .of upd_same, r.mono sg (Pre.refl _)⟩
theorem view_lst {d : D} {ds : List D} {v : V} (t : StR x F s G io σ H) (h : viewL s d = some ds) (r : Rp x G io d v) : ∃ a vs, v = .ref a ∧ H a = some (.lst vs) ∧ RpL x G io ds vs := by
  cases d with
  | lst es =>
    cases h
    obtain ⟨a, vs, e, q, r⟩ := r
    exact ⟨a, vs, e, t.gh _ _ q, r⟩
  | adr n =>
    obtain ⟨a, e, q⟩ := r
    simp only [viewL] at h
    cases hm : s.m[n]? with
    | none => rw [hm] at h; cases h
    | some mo =>
      rw [hm] at h
      cases mo with
      | bx es =>
        cases h
        obtain ⟨vs, q1, _, q3⟩ := t.mem.2.2 n _ a hm q
        exact ⟨a, vs, e, q1, q3⟩
  | _ => cases h
theorem view_seq {d : D} {ds : List D} {v : V} (t : StR x F s G io σ H) (h : viewQ s d = some ds) (r : Rp x G io d v) : ∃ a vs, v = .ref a ∧ (H a = some (.lst vs) ∨ SqT x.K H a vs) ∧ RpL x G io ds vs := by
  cases d with
  | tup es =>
    cases h
    obtain ⟨a, vs, e, q, r⟩ := r
    exact ⟨a, vs, e, .inr (Same.tup t.gh q), r⟩
  | lst es =>
    obtain ⟨a, vs, e, q, r⟩ := view_lst t (d := .lst es) h r
    exact ⟨a, vs, e, .inl q, r⟩
  | adr n =>
    obtain ⟨a, vs, e, q, r⟩ := view_lst t (d := .adr n) h r
    exact ⟨a, vs, e, .inl q, r⟩
  | _ => cases h
/-- the state stands, two values and what is wanted -/
def rB (x : SX) (F : Fr) (W : WX) (f : D → D → S → Res) : R2 := fun v w H Q => ∃ σ s G io d e, StR x F s G io σ H ∧ Rp x G io d v ∧ Rp x G io e w ∧ Post x F W G io (f d e s) σ Q
def opOf : Bop → Operator
  | .add => .Add
  | .sub => .Sub
  | .mul => .Mult
  | .div => .FloorDiv
  | .mod => .Mod
  | .pow => .Pow
theorem RpL.nil_iff : ∀ {ds : List D} {vs : List V}, RpL x G io ds vs → (vs = [] ↔ ds = [])
  | [], _, h => by
    have e : _ = [] := h
    simp [e]
  | d :: ds, _, h => by
    obtain ⟨v, r, rfl, _⟩ := h
    simp
theorem RpL.reps {ds : List D} {vs : List V} (r : RpL x G io ds vs) : ∀ n, RpL x G io (List.replicate n ds).flatten (List.replicate n vs).flatten
  | 0 => by simp; exact .nil
  | n + 1 => by
    rw [List.replicate_succ, List.replicate_succ, List.flatten_cons, List.flatten_cons]
    exact r.append (r.reps n)
end
/-! ### what is in a dict -/
theorem keyD_rp {x : SX} {G : Hp} {io : List Addr} {d : D} {v : V} {k : Key} (r : Rp x G io d v) (h : keyD d = some k) : v = kV k := by
  cases d with
  | int i => cases h; exact r
  | str s => cases h; exact r
  | _ => cases h
theorem look_rp {x : SX} {G : Hp} {io : List Addr} {k : Key} : ∀ {ks : List Key} {ds : List D} {vs : List V} {d : D}, RpL x G io ds vs → lookK k ks ds = some d → ∃ v, valV (ks.zip vs) k = some v ∧ Rp x G io d v
  | [], _, _, _, _, h => by simp [lookK] at h
  | _ :: _, [], _, _, _, h => by simp [lookK] at h
  | a :: ks, e :: ds, _, d, r, h => by
    obtain ⟨v, vs, rfl, q, t⟩ := r
    rw [lookK] at h
    by_cases z : a = k
    · rw [if_pos z] at h
      cases h
      exact ⟨v, by simp [valV, z], q⟩
    · rw [if_neg z] at h
      obtain ⟨w, e1, e2⟩ := look_rp t h
      exact ⟨w, by simpa [valV, z] using e1, e2⟩
theorem has_rp {k : Key} : ∀ {ks : List Key} {vs : List V}, vs.length = ks.length → (valV (ks.zip vs) k).isSome = ks.any fun a => decide (a = k)
  | [], _, _ => by simp [valV]
  | a :: ks, [], h => by simp at h
  | a :: ks, v :: vs, h => by
    have ih := has_rp (k := k) (ks := ks) (vs := vs) (by simpa using h)
    by_cases z : a = k
    · simp [valV, z]
    · simp [valV, z] at ih ⊢
      exact ih
section
variable {X : Cx} {x : SX} {F : Fr} {W : WX}
theorem bop_ok (ek : X.K = x.K) (o : Bop) : OpR X (binaryOp (opOf o)) (rB x F W (bopF o)) := by
  intro pins s' σ' H v w u t Q I r1 r2 h
  obtain ⟨σ, s, G, io, d, e, st, q1, q2, hp⟩ := h
  unfold bopF at hp
  split at hp
  · rename_i i j; cases (show v = .int i from q1); cases (show w = .int j from q2)
    exact op_add pins s' σ' H _ _ u t Q I r1 r2 ⟨i, j, rfl, rfl, hp.v st rfl⟩
  · rename_i a b; cases (show v = .str a from q1); cases (show w = .str b from q2)
    split at hp
    · rename_i hl
      exact op_add_str pins s' σ' H _ _ u t Q I r1 r2 ⟨a, b, rfl, rfl, big_line hl, hp.v st rfl⟩
    · exact hp.elim
  · rename_i a b
    obtain ⟨p, vs, rfl, e1, k1⟩ := q1
    obtain ⟨p', ws, rfl, e2, k2⟩ := q2
    split at hp
    · rename_i hl
      exact op_cat pins s' σ' H _ _ u t Q I r1 r2 ⟨p, p', vs, ws, rfl, rfl, st.gh _ _ e1, st.gh _ _ e2, by rw [k1.length, k2.length]; exact big_line hl, hp.f st (k1.append k2)⟩
    · exact hp.elim
  · rename_i a b
    obtain ⟨p, vs, rfl, e1, k1⟩ := id q1
    obtain ⟨p', ws, rfl, e2, k2⟩ := id q2
    split at hp
    · rename_i hl
      refine op_catT pins s' σ' H _ _ u t Q I r1 r2 ⟨p, p', vs, ws, rfl, rfl, by rw [ek]; exact Same.tup st.gh e1, by rw [ek]; exact Same.tup st.gh e2, fun z => hl.2 (k1.nil_iff.mp z), by rw [k1.length, k2.length]; exact big_line hl.1, fun z => ?_, fun _ => hp.tn st (k1.append k2)⟩
      have z' := k2.nil_iff.mp z
      subst z'
      rw [List.append_nil] at hp
      exact hp.v st q1
    · exact hp.elim
  · rename_i i j; cases (show v = .int i from q1); cases (show w = .int j from q2)
    exact op_sub pins s' σ' H _ _ u t Q I r1 r2 ⟨i, j, rfl, rfl, hp.v st rfl⟩
  · rename_i i j; cases (show v = .int i from q1); cases (show w = .int j from q2)
    split at hp
    · rename_i hc
      exact op_mul pins s' σ' H _ _ u t Q I r1 r2 ⟨i, j, rfl, rfl, hc, hp.v st rfl⟩
    · exact hp.elim
  · rename_i a k
    obtain ⟨p, vs, rfl, e1, k1⟩ := q1
    cases (show w = .int k from q2)
    split at hp
    · rename_i hl
      exact op_rep pins s' σ' H _ _ u t Q I r1 r2 ⟨p, k, vs, rfl, rfl, st.gh _ _ e1, hl.1, hl.2.1, by rw [k1.length]; exact big_line hl.2.2, hp.f st (k1.reps _)⟩
    · exact hp.elim
  · rename_i i j; cases (show v = .int i from q1); cases (show w = .int j from q2)
    split at hp
    · rename_i hc
      exact op_fdiv pins s' σ' H _ _ u t Q I r1 r2 ⟨i, j, rfl, rfl, hc, hp.v st rfl⟩
    · exact hp.elim
  · rename_i i j; cases (show v = .int i from q1); cases (show w = .int j from q2)
    split at hp
    · rename_i hc
      exact op_mod pins s' σ' H _ _ u t Q I r1 r2 ⟨i, j, rfl, rfl, hc, hp.v st rfl⟩
    · exact hp.elim
  · rename_i i j; cases (show v = .int i from q1); cases (show w = .int j from q2)
    split at hp
    · rename_i hc
      exact op_pow pins s' σ' H _ _ u t Q I r1 r2 ⟨i, j, rfl, rfl, hc, hp.v st rfl⟩
    · exact hp.elim
  · exact hp.elim

/-! ### comparisons -/
def copOf : Cop → CmpOp
  | .eq => .Eq
  | .ne => .NotEq
  | .lt => .Lt
  | .le => .LtE
  | .gt => .Gt
  | .ge => .GtE
  | .isin => .In
  | .notin => .NotIn
def rC (x : SX) (F : Fr) (o : Cop) : R2 := fun v w H Q => ∃ σ s G io d e b, StR x F s G io σ H ∧ Rp x G io d v ∧ Rp x G io e w ∧ cmpF o d e s = some b ∧ Q (.bl b) H
theorem op_inK (hu : X.A.units + 1 < cLine) : OpR X (compareOp .In) (fun y x H Q => ∃ a o, x = .ref a ∧ DGet H a y o ∧ Q (.bl o.isSome) H) := by
  intro pins s σ H y x v u Q I ry rx h
  obtain ⟨a, ov, ex, g, q⟩ := h
  subst ex
  obtain rfl : u = Value.ref a := rx
  exact d_in hu I g ry fun s3 I3 => ⟨.bl ov.isSome, H, I3, rfl, q⟩
theorem op_notInK (hu : X.A.units + 1 < cLine) : OpR X (compareOp .NotIn) (fun y x H Q => ∃ a o, x = .ref a ∧ DGet H a y o ∧ Q (.bl (!o.isSome)) H) := by
  intro pins s σ H y x v u Q I ry rx h
  obtain ⟨a, ov, ex, g, q⟩ := h
  subst ex
  obtain rfl : u = Value.ref a := rx
  exact d_notIn hu I g ry fun s3 I3 => ⟨.bl (!ov.isSome), H, I3, rfl, q⟩
theorem ix_dct (hu : X.A.units + 1 < cLine) : IxR X (fun x y H Q => ∃ a v, x = .ref a ∧ DGet H a y (some v) ∧ Q v H) := by
  intro value slice pins s σ H x y v u Q I rx ry h hs
  obtain ⟨a, w, ex, g, q⟩ := h
  subst ex
  obtain rfl : v = Value.ref a := rx
  exact PyProof.Rows.tail_any (dict_typeIs I g) PySem.F.slot_dict_getitem.lookup (d_getItem hu I g ry fun w' s3 I3 rw' => ⟨w, H, I3, rw', q⟩) hs
theorem flat_fv {G : Hp} {io : List Addr} {d : D} {v : V} (r : Rp x G io d v) (f : flat d = true) : flatV v = true := by
  cases d with
  | non => cases (show v = .non from r); rfl
  | bl b => cases (show v = .bl b from r); rfl
  | int b => cases (show v = .int b from r); rfl
  | str b => cases (show v = .str b from r); rfl
  | _ => cases f
theorem flat_eqV {G : Hp} {io : List Addr} {d e : D} {v w : V} (r : Rp x G io d v) (q : Rp x G io e w) (f : flat d = true) (g : flat e = true) : eqV w v = eqD e d := by
  cases d with
  | non => cases (show v = .non from r); cases e <;> first | (cases g; done) | (cases (show w = _ from q); rfl)
  | bl b => cases (show v = .bl b from r); cases e <;> first | (cases g; done) | (cases (show w = _ from q); rfl)
  | int b => cases (show v = .int b from r); cases e <;> first | (cases g; done) | (cases (show w = _ from q); rfl)
  | str b => cases (show v = .str b from r); cases e <;> first | (cases g; done) | (cases (show w = _ from q); rfl)
  | _ => cases f
theorem inV_eq {G : Hp} {io : List Addr} {d : D} {v : V} (r : Rp x G io d v) (f : flat d = true) : ∀ {es : List D} {ws : List V}, RpL x G io es ws → es.all flat = true → ws.all flatV = true ∧ inV v ws = es.any fun z => eqD z d
  | [], _, h, _ => by
    have e : _ = [] := h
    subst e
    exact ⟨rfl, rfl⟩
  | e :: es, _, h, g => by
    obtain ⟨w, ws, rfl, q, t⟩ := h
    rw [List.all_cons, Bool.and_eq_true] at g
    obtain ⟨a1, a2⟩ := inV_eq r f t g.2
    refine ⟨by rw [List.all_cons, flat_fv q g.1, a1]; rfl, ?_⟩
    unfold inV at a2 ⊢
    rw [List.any_cons, List.any_cons, a2, flat_eqV r q f g.1]
theorem cmp_ok (ek : X.K = x.K) (hu : X.A.units + 64 < cLine) (o : Cop) : OpR X (compareOp (copOf o)) (rC x F o) := by
  intro pins s' σ' H v w u t Q I r1 r2 h
  obtain ⟨σ, s, G, io, d, e, b, st, q1, q2, hc, q⟩ := h
  have hin : ∀ b', inF d e s = some b' → (∃ a o, w = .ref a ∧ DGet H a v o ∧ b' = o.isSome) ∨ (∃ (c : Nat) (z : Str), v = .str ⟨#[c]⟩ ∧ w = .str z ∧ b' = decide (c ∈ z.cps.toList)) ∨
      (∃ p xs, w = .ref p ∧ (SqL X.K H p xs ∨ SqT X.K H p xs) ∧ flatV v = true ∧ xs.all flatV = true ∧ b' = inV v xs) := by
    intro b' hb
    unfold inF at hb
    split at hb
    · rename_i a z
      cases (show v = .str a from q1); cases (show w = .str z from q2)
      split at hb
      · rename_i c hc
        cases hb
        refine .inr (.inl ⟨c, z, ?_, rfl, rfl⟩)
        obtain ⟨arr⟩ := a
        have : arr = #[c] := by
          apply Array.ext'
          simpa using hc
        rw [this]
      · cases hb
    · rename_i ks ds _
      split at hb
      · rename_i k hk
        cases hb
        obtain ⟨a, vs, rfl, e1, hl, rr⟩ := q2
        exact .inl ⟨a, _, rfl, .inl ⟨_, k, .of (st.gh _ _ e1), keyD_rp q1 hk, rfl⟩, (has_rp hl).symm⟩
      · cases hb
    · split at hb
      · rename_i ds hv
        split at hb
        · rename_i hf
          rw [Bool.and_eq_true] at hf
          cases hb
          obtain ⟨a, vs, rfl, hq, hr⟩ := view_seq st hv q2
          obtain ⟨a1, a2⟩ := inV_eq q1 hf.1 hr hf.2
          refine .inr (.inr ⟨a, vs, rfl, ?_, flat_fv q1 hf.1, a1, a2.symm⟩)
          rcases hq with hq | hq
          · exact .inl (.of hq)
          · exact .inr (by rw [ek]; exact hq)
        · cases hb
      · cases hb
  unfold cmpF at hc
  split at hc
  · split at hc
    · rename_i _ ho
      rw [Bool.and_eq_true] at ho
      cases hc
      exact ((deq I ek st.gh 8 d e v w u t X.A ho.1 ho.2 q1 q2 r1 r2 (by omega)).2.1) _ _ _ _ ⟨.bl _, H, I, rfl, q⟩
    · cases hc
  · split at hc
    · rename_i _ ho
      rw [Bool.and_eq_true] at ho
      cases hc
      exact ((deq I ek st.gh 8 d e v w u t X.A ho.1 ho.2 q1 q2 r1 r2 (by omega)).2.2) _ _ _ _ ⟨.bl _, H, I, rfl, q⟩
    · cases hc
  · rename_i i j; cases (show v = .int i from q1); cases (show w = .int j from q2); cases hc
    exact op_lt pins s' σ' H _ _ u t Q I r1 r2 ⟨i, j, rfl, rfl, q⟩
  · rename_i i j; cases (show v = .int i from q1); cases (show w = .int j from q2); cases hc
    exact op_le pins s' σ' H _ _ u t Q I r1 r2 ⟨i, j, rfl, rfl, q⟩
  · rename_i i j; cases (show v = .int i from q1); cases (show w = .int j from q2); cases hc
    exact op_gt pins s' σ' H _ _ u t Q I r1 r2 ⟨i, j, rfl, rfl, q⟩
  · rename_i i j; cases (show v = .int i from q1); cases (show w = .int j from q2); cases hc
    exact op_ge pins s' σ' H _ _ u t Q I r1 r2 ⟨i, j, rfl, rfl, q⟩
  · rcases hin b hc with ⟨a, ov, rfl, g, rfl⟩ | ⟨c, z, rfl, rfl, rfl⟩ | ⟨p, xs, rfl, a1, a2, a3, rfl⟩
    · exact op_inK (by omega) pins s' σ' H _ _ u t Q I r1 r2 ⟨a, ov, rfl, g, q⟩
    · exact op_in_sign pins s' σ' H _ _ u t Q I r1 r2 ⟨c, z, rfl, rfl, q⟩
    · exact op_in_seq pins s' σ' H _ _ u t Q I r1 r2 ⟨p, xs, rfl, a1, a2, a3, q⟩
  · obtain ⟨b', hb, rfl⟩ := Option.map_eq_some_iff.mp hc
    rcases hin b' hb with ⟨a, ov, rfl, g, rfl⟩ | ⟨c, z, rfl, rfl, rfl⟩ | ⟨p, xs, rfl, a1, a2, a3, rfl⟩
    · exact op_notInK (by omega) pins s' σ' H _ _ u t Q I r1 r2 ⟨a, ov, rfl, g, q⟩
    · exact op_notIn_sign pins s' σ' H _ _ u t Q I r1 r2 ⟨c, z, rfl, rfl, q⟩
    · exact op_notIn_seq pins s' σ' H _ _ u t Q I r1 r2 ⟨p, xs, rfl, a1, a2, a3, q⟩
  · cases hc

/-! ### items, slices -/
def rX (x : SX) (F : Fr) : R2 := fun v w H Q => ∃ σ s G io d e y, StR x F s G io σ H ∧ Rp x G io d v ∧ Rp x G io e w ∧ ixF d e s = some y ∧ ∀ z, Rp x G io y z → Q z H
theorem atI_rp {G : Hp} {io : List Addr} {ds : List D} {vs : List V} {i : Int} {y : D} (r : RpL x G io ds vs) (h : atI ds i = some y) : ∃ z, atI vs i = some z ∧ Rp x G io y z := by
  unfold atI at h ⊢
  rw [r.length]
  cases hj : ixN ds.length i with
  | none => rw [hj] at h; cases h
  | some j =>
    rw [hj] at h
    exact r.get (by simpa using h)
theorem ix_ok (ek : X.K = x.K) (hu : X.A.units + 64 < cLine) : IxR X (rX x F) := by
  intro value slice pins s' σ' H v w u t Q I r1 r2 h hs
  obtain ⟨σ, s, G, io, d, e, y, st, q1, q2, hc, q⟩ := h
  unfold ixF at hc
  split at hc
  · rename_i z i; cases (show v = .str z from q1); cases (show w = .int i from q2)
    split at hc
    · rename_i hl
      obtain ⟨c, hc2, rfl⟩ := Option.map_eq_some_iff.mp hc
      exact ix_str value slice pins s' σ' H _ _ u t Q I r1 r2 ⟨z, i, c, rfl, rfl, big_line hl, hc2, q _ rfl⟩ hs
    · cases hc
  · rename_i ks ds _
    split at hc
    · rename_i k hk
      obtain ⟨a, vs, rfl, e1, hl, rr⟩ := q1
      obtain ⟨z, e2, rz⟩ := look_rp rr hc
      exact ix_dct (by omega) value slice pins s' σ' H _ _ u t Q I r1 r2 ⟨a, z, rfl, .inl ⟨_, k, .of (st.gh _ _ e1), keyD_rp q2 hk, e2.symm⟩, q z rz⟩ hs
    · cases hc
  · rename_i i _ _; cases (show w = .int i from q2)
    split at hc
    · rename_i ds hv
      obtain ⟨a, vs, rfl, hq, hr⟩ := view_seq st hv q1
      obtain ⟨z, hz, rz⟩ := atI_rp hr hc
      rcases hq with hq | hq
      · exact ix_list value slice pins s' σ' H _ _ u t Q I r1 r2 ⟨a, vs, i, z, rfl, rfl, .of hq, hz, q z rz⟩ hs
      · exact ix_tup value slice pins s' σ' H _ _ u t Q I r1 r2 ⟨a, vs, i, z, rfl, rfl, by rw [ek]; exact hq, hz, q z rz⟩ hs
    · cases hc
  · cases hc
def rS (x : SX) (F : Fr) (W : WX) : V → Option Int → Option Int → Hp → VK → Prop := fun v lo hi H Q => ∃ σ s G io d, StR x F s G io σ H ∧ Rp x G io d v ∧ Post x F W G io (slF d lo hi s) σ Q
theorem cut_rp {G : Hp} {io : List Addr} {ds : List D} {vs : List V} (lo hi : Option Int) (r : RpL x G io ds vs) : RpL x G io (cutD ds lo hi) (cutV vs lo hi) := by
  unfold cutD cutV
  rw [r.length]
  exact (r.drop _).take _
theorem sl_ok (ek : X.K = x.K) : SlR X (rS x F W) := by
  intro pins s' σ' H v u vl vu lo hi sl Q I r1 hs pl pu h
  obtain ⟨σ, s, G, io, d, st, q1, hp⟩ := h
  unfold slF at hp
  split at hp
  · rename_i z; cases (show v = .str z from q1)
    split at hp
    · rename_i hl
      exact sl_str pins s' σ' H _ u vl vu lo hi sl Q I r1 hs pl pu ⟨z, rfl, big_line hl, hp.v st rfl⟩
    · exact hp.elim
  · rename_i ds
    obtain ⟨a, vs, rfl, hq, hr⟩ := id q1
    have hq' : SqT X.K H a vs := by rw [ek]; exact Same.tup st.gh hq
    refine sl_tupA pins s' σ' H _ u vl vu lo hi sl Q I r1 hs pl pu ⟨a, vs, rfl, hq', fun hw => ?_, fun _ => hp.tn st (cut_rp lo hi hr)⟩
    have e : cutD ds lo hi = ds := by
      unfold cutD
      rw [← hr.length, hw.1, hw.2, List.drop_zero, Nat.sub_zero, hr.length, List.take_length]
    rw [e] at hp
    exact hp.v st q1
  · rename_i ds
    obtain ⟨a, vs, rfl, hq, hr⟩ := id q1
    exact sl_list pins s' σ' H _ u vl vu lo hi sl Q I r1 hs pl pu ⟨a, vs, rfl, by rw [ek]; exact st.gh.seq hq, hp.f st (cut_rp lo hi hr)⟩
  · split at hp
    · rename_i ds hv
      obtain ⟨a, vs, rfl, hq, hr⟩ := view_lst st hv q1
      exact sl_list pins s' σ' H _ u vl vu lo hi sl Q I r1 hs pl pu ⟨a, vs, rfl, .of hq, hp.f st (cut_rp lo hi hr)⟩
    · exact hp.elim
end
end En

namespace En
open PySem PySem.Spec L2
section
variable {x : SX} {G H : Hp} {io : List Addr}
theorem bls_rp : ∀ {ds : List D} {bs : List Bool} {vs : List V}, blsOf ds = some bs → RpL x G io ds vs → vs = bs.map V.bl
  | [], _, _, h, r => by
    cases h
    exact r
  | d :: ds, _, _, h, r => by
    obtain ⟨v, r, rfl, q, t⟩ := r
    cases d with
    | bl b =>
      simp only [blsOf] at h
      obtain ⟨bs, hb, rfl⟩ := Option.map_eq_some_iff.mp h
      rw [bls_rp hb t, show v = .bl b from q]
      rfl
    | _ => cases h
theorem strs_rp : ∀ {ds : List D} {bs : List Str} {vs : List V}, strsOf ds = some bs → RpL x G io ds vs → vs = bs.map V.str
  | [], _, _, h, r => by
    cases h
    exact r
  | d :: ds, _, _, h, r => by
    obtain ⟨v, r, rfl, q, t⟩ := r
    cases d with
    | str b =>
      simp only [strsOf] at h
      obtain ⟨bs, hb, rfl⟩ := Option.map_eq_some_iff.mp h
      rw [strs_rp hb t, show v = .str b from q]
      rfl
    | _ => cases h
end
def biV : Bi → Value
  | .len => .builtin "len"
  | .int => .type "int"
  | .all => .builtin "all"
  | .any => .builtin "any"
  | .list => .type "list"
  | .tuple => .type "tuple"
  | .str => .type "str"
  | .bool => .type "bool"
def biN : Bi → Str
  | .len => "len"
  | .int => "int"
  | .all => "all"
  | .any => "any"
  | .list => "list"
  | .tuple => "tuple"
  | .str => "str"
  | .bool => "bool"
def rBi (x : SX) (F : Fr) (W : WX) (b : Bi) : List V → Hp → VK → Prop := fun vs H Q => ∃ σ s G io ds, StR x F s G io σ H ∧ RpL x G io ds vs ∧ Post x F W G io (biF b ds s) σ Q
theorem RpL.one {x : SX} {G : Hp} {io : List Addr} {d : D} {vs : List V} (h : RpL x G io [d] vs) : ∃ v, vs = [v] ∧ Rp x G io d v := by
  obtain ⟨v, r, rfl, q, t⟩ := h
  have e : r = [] := t
  subst e
  exact ⟨v, rfl, q⟩
section
variable {X : Cx} {x : SX} {F : Fr} {W : WX}
theorem bi_ok (ek : X.K = x.K) (hc : X.calm = true) (b : Bi) : CallR X (biV b) (rBi x F W b) := by
  intro pins s' σ' H vs us Q I r h
  obtain ⟨σ, s, G, io, ds, st, q1, hp⟩ := h
  unfold biF at hp
  split at hp
  · rename_i z
    obtain ⟨v, rfl, q⟩ := q1.one
    cases (show v = .str z from q)
    split at hp
    · rename_i hl
      exact call_len_str pins s' σ' H _ us Q I r ⟨z, rfl, big_line hl, hp.v st rfl⟩
    · exact hp.elim
  · rename_i ks es
    obtain ⟨v, rfl, q⟩ := q1.one
    obtain ⟨a, ws, rfl, e, hl, rr⟩ := q
    refine call_lenD pins s' σ' H _ us Q I r ⟨a, _, rfl, st.gh _ _ e, ?_⟩
    have el : (ks.zip ws).length = ks.length := by rw [List.length_zip, hl, Nat.min_self]
    rw [el]
    exact hp.v st rfl
  · rename_i d _ _
    obtain ⟨v, rfl, q⟩ := q1.one
    split at hp
    · rename_i es hv
      obtain ⟨a, ws, rfl, hq, hr⟩ := view_seq st hv q
      refine call_len_seq pins s' σ' H _ us Q I r ⟨a, ws, rfl, ?_, by rw [hr.length]; exact hp.v st rfl⟩
      rcases hq with hq | hq
      · exact .inl (.of hq)
      · exact .inr (by rw [ek]; exact hq)
    · exact hp.elim
  · rename_i i
    obtain ⟨v, rfl, q⟩ := q1.one
    cases (show v = .int i from q)
    exact call_int1 pins s' σ' H _ us Q I r (.inl ⟨i, rfl, hp.v st rfl⟩)
  · rename_i b
    obtain ⟨v, rfl, q⟩ := q1.one
    cases (show v = .bl b from q)
    exact call_int1 pins s' σ' H _ us Q I r (.inr ⟨b, rfl, hp.v st rfl⟩)
  · obtain ⟨v, rfl, q⟩ := q1.one
    split at hp
    · rename_i es hv
      split at hp
      · rename_i bs hb
        obtain ⟨a, ws, rfl, hq, hr⟩ := view_lst st hv q
        have e := bls_rp hb hr
        subst e
        exact cr_all hc pins s' σ' H _ us Q I r ⟨a, bs, rfl, .of hq, hp.v st rfl⟩
      · exact hp.elim
    · exact hp.elim
  · obtain ⟨v, rfl, q⟩ := q1.one
    split at hp
    · rename_i es hv
      split at hp
      · rename_i bs hb
        obtain ⟨a, ws, rfl, hq, hr⟩ := view_lst st hv q
        have e := bls_rp hb hr
        subst e
        exact cr_any hc pins s' σ' H _ us Q I r ⟨a, bs, rfl, .of hq, hp.v st rfl⟩
      · exact hp.elim
    · exact hp.elim
  · obtain ⟨v, rfl, q⟩ := q1.one
    split at hp
    · rename_i es hv
      obtain ⟨a, ws, rfl, hq, hr⟩ := view_seq st hv q
      refine call_list_of pins s' σ' H _ us Q I r ⟨a, ws, rfl, ?_, hp.f st hr⟩
      rcases hq with hq | hq
      · exact .inl (.of hq)
      · exact .inr (by rw [ek]; exact hq)
    · exact hp.elim
  · rename_i es
    obtain ⟨v, rfl, q⟩ := q1.one
    obtain ⟨a, ws, rfl, hq, hr⟩ := id q
    exact call_tuple_of pins s' σ' H _ us Q I r ⟨a, ws, rfl, .inr ⟨by rw [ek]; exact Same.tup st.gh hq, hp.v st q⟩⟩
  · obtain ⟨v, rfl, q⟩ := q1.one
    split at hp
    · rename_i es hv
      obtain ⟨a, ws, rfl, hq, hr⟩ := view_lst st hv q
      exact call_tuple_of pins s' σ' H _ us Q I r ⟨a, ws, rfl, .inl ⟨.of hq, hp.tn st hr⟩⟩
    · exact hp.elim
  · rename_i i
    obtain ⟨v, rfl, q⟩ := q1.one
    cases (show v = .int i from q)
    split at hp
    · rename_i hl
      exact call_str_int pins s' σ' H _ us Q I r ⟨i, rfl, hl, hp.v st rfl⟩
    · exact hp.elim
  · rename_i b
    obtain ⟨v, rfl, q⟩ := q1.one
    cases (show v = .bl b from q)
    exact call_bool1 pins s' σ' H _ us Q I r (.inr ⟨b, rfl, hp.v st rfl⟩)
  · exact hp.elim

/-! ### isinstance -/
def tyV : Ty → Value
  | .int => .type "int"
  | .bool => .type "bool"
  | .str => .type "str"
  | .list => .type "list"
  | .tuple => .type "tuple"
  | .dict => .type "dict"
  | .own _ => .none
def tyN : Ty → Str
  | .int => "int"
  | .bool => "bool"
  | .str => "str"
  | .list => "list"
  | .tuple => "tuple"
  | .dict => "dict"
  | .own _ => ""
/-- the class a value is of -/
def clD : D → Option String
  | .non => some "NoneType"
  | .bl _ => some "bool"
  | .int _ => some "int"
  | .str _ => some "str"
  | .lst _ => some "list"
  | .tup _ => some "tuple"
  | .dct _ _ => some "dict"
  | _ => none
theorem tyx_of {G H : Hp} {io : List Addr} {d : D} {v : V} {c : String} (gh : Same G H) (r : Rp x G io d v) (h : clD d = some c) : TyX x.K H v (.type c) := by
  cases d with
  | non => cases h; cases (show v = .non from r); exact .base .non
  | bl b => cases h; cases (show v = .bl b from r); exact .base (.bl b)
  | int b => cases h; cases (show v = .int b from r); exact .base (.int b)
  | str b => cases h; cases (show v = .str b from r); exact .base (.str b)
  | lst ds =>
    cases h
    obtain ⟨a, vs, rfl, e, _⟩ := r
    exact .base (.lst (gh _ _ e))
  | tup ds =>
    cases h
    obtain ⟨a, vs, rfl, e, _⟩ := r
    rcases Same.tup gh e with (e | ⟨o, e⟩) | ⟨o, its, n, e1, e2, _⟩
    · exact .base (.tup e)
    · exact .fTuple e
    · exact .kTuple e1 e2
  | dct ks ds =>
    cases h
    obtain ⟨a, vs, rfl, e, _⟩ := r
    exact .base (.dK (gh _ _ e))
  | _ => cases h
theorem tyIs_kit {K : PySem.W.Frag} {d : D} {t : Ty} {b : Bool} (h : tyIs d t = some b) : ∃ c, clD d = some c ∧ PySem.W.kitOne K (.type c) (tyV t) = some b := by
  cases d <;> cases t <;> simp only [tyIs] at h <;> first
    | (cases h; done)
    | (cases h; exact ⟨_, rfl, kit_ty (by decide +kernel)⟩)
theorem tyAny_kit {K : PySem.W.Frag} {d : D} {c : String} (hcl : clD d = some c) : ∀ {ts : List Ty} {b : Bool}, tyAny d ts = some b → PySem.W.kitAny K (.type c) (ts.map tyV) = some b
  | [], b, h => by
    cases h
    rfl
  | t :: ts, b, h => by
    simp only [tyAny] at h
    split at h
    · rename_i b1 b2 h1 h2
      cases h
      obtain ⟨c', e1, e2⟩ := tyIs_kit (K := K) h1
      rw [hcl] at e1; cases e1
      refine kitAny_cons e2 (fun z => ?_) (fun z => by rw [z]; rfl)
      rw [z, Bool.false_or]
      exact tyAny_kit hcl h2
    · cases h
theorem tyAny_cl {K : PySem.W.Frag} {d : D} {t : Ty} {ts : List Ty} {b : Bool} (h : tyAny d (t :: ts) = some b) : ∃ c, clD d = some c := by
  simp only [tyAny] at h
  split at h
  · rename_i b1 b2 h1 h2
    obtain ⟨c, e, _⟩ := tyIs_kit (K := K) h1
    exact ⟨c, e⟩
  · cases h
end
end En

namespace En
open PySem PySem.Spec L2
/-! ### side conditions of the model's syntax -/
def isStar : Expr → Bool
  | .Starred _ _ => true
  | _ => false
def isComp : Expr → Bool
  | .ListComp _ _ _ _ => true
  | .SetComp _ _ _ _ => true
  | .DictComp _ _ _ _ _ => true
  | _ => false
def isSet : Expr → Bool
  | .Set _ _ _ => true
  | _ => false
def isSl : Expr → Bool
  | .Slice _ _ _ _ => true
  | _ => false
def isSup : Expr → Bool
  | .Call (.Name _ _) [] [] _ => true
  | _ => false
def plainT : Expr → Bool
  | .UnaryOp .Not _ _ => false
  | .BoolOp _ _ _ => false
  | .IfExp _ _ _ _ => false
  | .Compare _ _ _ _ => false
  | _ => true
theorem star_no {e : Expr} {es : List Expr} {env : Env} (h : isStar e = false) : starEach (e :: es) env = (false, eval e env) :: starEach es env := by
  cases e <;> first | rfl | cases h
theorem star_any {es : List Expr} {env : Env} {pos : Pos} (h : es.all (fun e => !isStar e) = true) : (backTo pos (starEach es env)).any (·.1) = false := by
  induction es with
  | nil => rfl
  | cons e es ih =>
    rw [List.all_cons, Bool.and_eq_true] at h
    have he : isStar e = false := by simpa using h.1
    rw [star_no he]
    have ih' := ih h.2
    unfold backTo at ih' ⊢
    simp only [List.map_cons, List.any_cons]
    simpa using ih'
theorem swaps_no {e : Expr} {t : Option Expr} {l : Nat} {env : Env} (h : isComp e = false) : swapsWith e t l env = pure false := by
  cases e <;> first | rfl | cases h
theorem swapsSole_no {e : Expr} {ts : List Expr} {l : Nat} {env : Env} (h : isComp e = false) : swapsWithSole ts e l env = pure false := by
  cases ts with
  | nil => rfl
  | cons t ts =>
    cases ts with
    | nil => exact swaps_no h
    | cons _ _ => rfl
theorem marks_no {op : CmpOp} {e : Expr} (h : isSet e = false) : behindInMarks op e = false := by
  cases e <;> first | rfl | cases h
theorem folded_no {e : Expr} {env : Env} (h : isSet e = false) : ∀ v, foldedSetIterable e env v = pure v := by
  cases e <;> first | (intro v; rfl) | cases h
theorem ix_plain {e : Expr} (h : isSl e = false) : PlainIx e := by
  cases e <;> first | exact fun _ _ => rfl | exact Bool.noConfusion h
theorem isTrue_plain {e : Expr} {env : Env} (h : plainT e = true) : ∀ whole, isTrue e env whole = (do let v ← whole; standAt e.pos; holding [v] (truthy v)) := by
  cases e with
  | UnaryOp op a p => cases op <;> first | (intro w; rfl) | cases h
  | BoolOp op a p => cases h
  | IfExp a b c p => cases h
  | Compare a b c p => cases h
  | _ => intro w; rfl
theorem base_no {e : Expr} {f : Str} {env : Env} (h : isSup e = false) : attributeBase e f env (eval e env) = eval e env := by
  cases e with
  | Call g as ks p =>
    cases g <;> first
      | rfl
      | (cases as <;> cases ks <;> first | rfl | cases h)
  | _ => rfl

/-! ### the context -/
structure CC where
  N : List Str
  sc : Scope
  loc : List Str
structure NT where
  fnm : Nat → Str
  gvn : Nat → Str
  isF : Nat → Bool
  isK : Nat → Bool
  kn : Nat → Nat
  kk : Nat → List Str
def vis (cc : CC) (i : Nat) (x : Str) : Bool :=
  decide (cc.N[i]? = some x) && (decide (cc.sc.names.lookup x = some .local) || decide (cc.sc.names.lookup x = some .cell) || decide (cc.sc.names.lookup x = some .free)) &&
    !(x == ("__debug__" : Str)) && !(x == ("__classdict__" : Str))
def glo (cc : CC) (x : Str) : Bool := decide (cc.sc.names.lookup x = some .globalImplicit) && !(x == ("__debug__" : Str)) && !decide (x = ("__name__" : Str))
def tgt (cc : CC) (i : Nat) (x : Str) : Bool := decide (cc.N[i]? = some x) && decide (x ∈ cc.loc)
def bltNames : List Str := ["len", "int", "all", "any", "list", "tuple", "str", "bool", "isinstance", "dict", "range", "enumerate", "zip", "sorted", "min", "max", "repr", "sum"]
def CC.blk (cc : CC) (scope : Scope) : CC :=
  { N := cc.N, sc := relS scope cc.sc, loc := (scope.names.filter fun p => decide (p.2 = .local) || decide (p.2 = .cell)).map (·.1) }
/-- the def's own -/
def CC.fn (N : List Str) (sc : Scope) : CC := { N := N, sc := sc, loc := (sc.names.map (·.1)).filter fun y => decide (sc.names.lookup y = some .local) || decide (sc.names.lookup y = some .cell) }

structure Tb where
  x : SX
  lv : Nat
  nt : NT
  prog : Program
  w : World
  mg : Str → Option Value
  base : Heap
  P : Nat → List D → List MO → Option (Out × List MO)
  Gm : Nat → D

def FF (x : SX) (H G : Hp) (io : List Addr) (m' : List MO) (H' G' : Hp) (io' : List Addr) : Prop :=
  Same G' H' ∧ MemA x G' io' H' m' ∧ (∀ b o, H b = some o → b ∉ io → H' b = some o) ∧ (∀ b, H b ≠ none → G' b = G b) ∧ Pre io io' ∧
    ∀ (n : Nat) (a : Addr), io.length ≤ n → io'[n]? = some a → H a = none
def PostF (x : SX) (H G : Hp) (io : List Addr) (r : Option (Out × List MO)) (Q : VK) (E : XK) : Prop :=
  match r with
  | some (.val d, m') => ∀ v H' G' io', FF x H G io m' H' G' io' → Rp x G' io' d v → Q v H'
  | some (.frs ds, m') => ∀ a H' G' io', FF x H G io m' H' G' io' → a ∉ io' → H a = none → (∃ vs, H' a = some (.lst vs) ∧ G' a = none ∧ RpL x G' io' ds vs) → Q (.ref a) H'
  | some (.exc c ns ds, m') => ∀ cls dd H' G' io', FF x H G io m' H' G' io' → ExcR x G' io' c ns ds cls dd H' → E cls dd H'
  | _ => False
def spP (x : SX) (Pf : List D → List MO → Option (Out × List MO)) (n : Nat) : Sp := fun vs H Q E => vs.length = n ∧ ∃ ds m G io, Same G H ∧ MemA x G io H m ∧ RpL x G io ds vs ∧ PostF x H G io (Pf ds m) Q E
def spOf (T : Tb) (f n : Nat) : Sp := spP T.x (T.P f) n
def FnAt (T : Tb) (f : Nat) : Prop := ∃ (a : Addr) (fd : FuncData) (ps : List Str), T.mg (T.nt.fnm f) = some (.ref a) ∧ PySem.W.keepIn T.x.K (.ref a) = true ∧
  FnOk T.prog T.w T.x.K T.mg T.base (L2.CX T.prog T.w) T.lv a fd ps (spOf T f ps.length) ∧ Binds T.x.K fd ps [] ∧ ∀ ds m r, T.P f ds m = some r → ds.length = ps.length
/-- a def called with n values and these keywords -/
def FnAtK (T : Tb) (f : Nat) : Prop := ∃ (a : Addr) (fd : FuncData) (ps : List Str) (g : List Value → List Value → List Value) (gV : List V → List V → List V) (sp : Sp), T.mg (T.nt.fnm f) = some (.ref a) ∧ PySem.W.keepIn T.x.K (.ref a) = true ∧
  FnOk T.prog T.w T.x.K T.mg T.base (L2.CX T.prog T.w) T.lv a fd ps sp ∧ KBn T.x.K fd ps (T.nt.kn f) (T.nt.kk f) g gV ∧
  ∀ vs zs H Q E, vs.length = T.nt.kn f → zs.length = (T.nt.kk f).length → (∃ ds es m G io, Same G H ∧ MemA T.x G io H m ∧ RpL T.x G io ds vs ∧ RpL T.x G io es zs ∧ PostF T.x H G io (T.P f (ds ++ es) m) Q E) → sp (gV vs zs) H Q E
theorem FnAtK.mk {T : Tb} {j : Nat} {Pf : List D → List MO → Option (Out × List MO)} {a : Addr} {fd : FuncData} {ps : List Str} {g : List Value → List Value → List Value} {gV : List V → List V → List V} (hm : T.mg (T.nt.fnm j) = some (.ref a)) (hk : PySem.W.keepIn T.x.K (.ref a) = true)
    (F : FnOk T.prog T.w T.x.K T.mg T.base (L2.CX T.prog T.w) T.lv a fd ps (spP T.x Pf ps.length)) (hb : KBn T.x.K fd ps (T.nt.kn j) (T.nt.kk j) g gV)
    (h : ∀ (G : Hp) (io : List Addr) ds es vs zs, vs.length = T.nt.kn j → zs.length = (T.nt.kk j).length → RpL T.x G io ds vs → RpL T.x G io es zs → (gV vs zs).length = ps.length ∧ ∃ ds', RpL T.x G io ds' (gV vs zs) ∧ ∀ m, T.P j (ds ++ es) m = Pf ds' m) : FnAtK T j := by
  refine ⟨a, fd, ps, g, gV, _, hm, hk, F, hb, ?_⟩
  rintro vs zs H Q E l1 l2 ⟨ds, es, m, G, io, gh, hmem, r1, r2, hp⟩
  obtain ⟨q1, ds', q2, q3⟩ := h G io ds es vs zs l1 l2 r1 r2
  rw [q3] at hp
  exact ⟨q1, ds', m, G, io, gh, hmem, q2, hp⟩
structure TOk (T : Tb) : Prop where
  fn : ∀ f, T.nt.isF f = true → FnAt T f
  fk : ∀ f, T.nt.isK f = true → FnAtK T f
  gv : ∀ g, T.nt.gvn g ≠ "" → ∃ u v, T.mg (T.nt.gvn g) = some u ∧ RelV v u ∧ ∀ G io, Rp T.x G io (T.Gm g) v
  bl : ∀ n ∈ bltNames, T.mg n = none
structure XOk (T : Tb) (cc : CC) (X : Cx) (W : WX) : Prop where
  prog : X.prog = T.prog
  w : X.w = T.w
  K : X.K = T.x.K
  mg : X.mg = T.mg
  base : X.base = T.base
  N : X.N = cc.N
  nd : X.N.Nodup
  sc : X.env.scope = cc.sc
  calm : X.calm = true
  tk : Takes X W
  po : PassesOwn (model X.prog X.w) X.A X.env X.xe
  room : Room T.lv X.A
  loc : ∀ y ∈ cc.loc, Loc X.env.scope y ∧ (X.fn y = true ∨ X.env.scope.names.lookup y = some .local)
section
variable {T : Tb} {cc : CC} {X : Cx} {W : WX}
theorem XOk.vis (o : XOk T cc X W) {i : Nat} {y : Str} (h : vis cc i y = true) : X.N[i]? = some y ∧ Vis X.env.scope y ∧ (y == ("__debug__" : Str)) = false ∧ (y == ("__classdict__" : Str)) = false := by
  unfold En.vis at h
  simp only [Bool.and_eq_true, Bool.or_eq_true, decide_eq_true_eq, Bool.not_eq_true'] at h
  obtain ⟨⟨⟨h1, h2⟩, h3⟩, h4⟩ := h
  refine ⟨by rw [o.N]; exact h1, ?_, h3, h4⟩
  unfold Vis
  rw [o.sc]
  rcases h2 with (h2 | h2) | h2
  · exact .inl h2
  · exact .inr (.inl h2)
  · exact .inr (.inr h2)
theorem XOk.glo (o : XOk T cc X W) {y : Str} (h : glo cc y = true) : Gl X y ∧ (y == ("__debug__" : Str)) = false ∧ y ≠ ("__name__" : Str) := by
  unfold En.glo at h
  simp only [Bool.and_eq_true, decide_eq_true_eq, Bool.not_eq_true', decide_eq_false_iff_not] at h
  refine ⟨?_, h.1.2, h.2⟩
  show X.env.scope.names.lookup y = _
  rw [o.sc]
  exact h.1.1
theorem XOk.tgt (o : XOk T cc X W) {i : Nat} {y : Str} (h : tgt cc i y = true) : X.N[i]? = some y ∧ Loc X.env.scope y ∧ (X.fn y = true ∨ X.env.scope.names.lookup y = some .local) := by
  unfold En.tgt at h
  simp only [Bool.and_eq_true, decide_eq_true_eq] at h
  exact ⟨by rw [o.N]; exact h.1, o.loc y h.2⟩
theorem XOk.blt (o : XOk T cc X W) (t : TOk T) {y : Str} (h : y ∈ bltNames) : X.mg y = none := by rw [o.mg]; exact t.bl y h
theorem XOk.hu (o : XOk T cc X W) : X.A.units + 64 < cLine := o.room.units
end
/-! ### behind a call -/
theorem StR.call {x : SX} {F : Fr} {s : S} {G G' H H' : Hp} {io io' : List Addr} {σ : L2.St} {m' : List MO} (t : StR x F s G io σ H) (f : FF x H G io m' H' G' io') :
    StR x F { s with m := m' } G' io' σ H' ∧ Same G G' := by
  obtain ⟨f1, f2, f3, f4, f5, f6⟩ := f
  have sg : Same G G' := fun b o e => by rw [f4 b (by rw [t.gh _ _ e]; simp)]; exact e
  have mem : ∀ {b : Addr}, b ∈ io → ∃ o, H b = some o := fun {b} hb => by
    obtain ⟨n, hn, e⟩ := List.getElem_of_mem hb
    have hl : n < s.m.length := by rw [t.mem.1]; exact hn
    have q := t.mem.2.2 n _ b (List.getElem?_eq_getElem hl) (by rw [List.getElem?_eq_getElem hn, e])
    cases hmo : s.m[n] with
    | bx ds =>
      rw [hmo] at q
      obtain ⟨vs, q1, _⟩ := q
      exact ⟨_, q1⟩
  have fh : ∀ {b : Addr}, H b = none → F.h b = none := fun {b} e => by
    cases z : F.h b with
    | none => rfl
    | some o =>
      by_cases hm : b ∈ F.i
      · obtain ⟨k, hk⟩ := t.ki
        obtain ⟨o', e'⟩ := mem (b := b) (by rw [hk]; exact List.mem_append_left _ hm)
        rw [e] at e'; cases e'
      · rw [t.kh _ _ z hm] at e; cases e
  have nio : ∀ {b : Addr}, b ∉ io → H b ≠ none → b ∉ io' := fun {b} h1 h2 hm => by
    obtain ⟨n, hn, e⟩ := List.getElem_of_mem hm
    by_cases hl : n < io.length
    · obtain ⟨k, hk⟩ := f5
      apply h1
      have : io'[n] = io[n] := by simp [hk, List.getElem_append_left hl]
      rw [← e, this]
      exact List.getElem_mem _
    · exact h2 (f6 n b (by omega) (by rw [List.getElem?_eq_getElem hn, e]))
  refine ⟨⟨f1, t.len, fun i c e => ?_, t.own, f2, fun b o e n => ?_, fun b hb => ?_, t.ki.trans f5, fun n a hn e => ?_⟩, sg⟩
  · obtain ⟨v, e1, r⟩ := t.slot i c e
    refine ⟨v, e1, ?_⟩
    cases c with
    | val d => exact Rp.mono sg f5 r
    | ol ds =>
      obtain ⟨a, q1, q2, vs, q3, q4, q5, q6⟩ := r
      have hn : H a ≠ none := by rw [q3]; simp
      exact ⟨a, q1, nio q2 hn, vs, f3 _ _ q3 q2, by rw [f4 a hn]; exact q4, q5, q6.mono sg f5⟩
    | od ks ds =>
      obtain ⟨a, q1, q2, vs, q3, q4, q5, q6, q7⟩ := r
      have hn : H a ≠ none := by rw [q3]; simp
      exact ⟨a, q1, nio q2 hn, vs, f3 _ _ q3 q2, by rw [f4 a hn]; exact q4, q5, q6, q7.mono sg f5⟩
  · refine f3 _ _ (t.kh b o e n) fun hm => ?_
    obtain ⟨k, hk, e2⟩ := List.getElem_of_mem hm
    by_cases hl : k < F.i.length
    · obtain ⟨z, hz⟩ := t.ki
      apply n
      have : io[k] = F.i[k] := by simp [hz, List.getElem_append_left hl]
      rw [← e2, this]
      exact List.getElem_mem _
    · rw [t.ni k b (by omega) (by rw [List.getElem?_eq_getElem hk, e2])] at e; cases e
  · rw [f4 b (fun z => hb (fh z)), t.kg b hb]
  · by_cases hl : n < io.length
    · obtain ⟨k, hk⟩ := f5
      refine t.ni n a hn ?_
      rw [hk, List.getElem?_append_left hl] at e
      exact e
    · exact fh (f6 n a (by omega) e)
end En

namespace En
open PySem PySem.Spec L2
/-! ### weakening, joining of rules -/
theorem PE.wk {X : Cx} {e : Expr} {t t' : TE} (h : PE X e t) (i : ∀ σ H Q, t' σ H Q → t σ H Q) : PE X e t' := ⟨fun pins s σ H Q I q => h.run pins s σ H Q I (i σ H Q q)⟩
theorem PT.wk {X : Cx} {e : Expr} {t t' : TT} (h : PT X e t) (i : ∀ σ H Q, t' σ H Q → t σ H Q) : PT X e t' := ⟨fun pins s σ H Q I q => h.run pins s σ H Q I (i σ H Q q)⟩
theorem PW.wk {X : Cx} {e : Expr} {t t' : TT} (h : PW X e t) (i : ∀ σ H Q, t' σ H Q → t σ H Q) : PW X e t' := ⟨fun wh pins s σ H Q I q => h.run wh pins s σ H Q I (i σ H Q q)⟩
theorem PA.wk {X : Cx} {e : List Expr} {t t' : TA} (h : PA X e t) (i : ∀ σ H Q, t' σ H Q → t σ H Q) : PA X e t' := ⟨fun p pins s σ H Q I q => h.run p pins s σ H Q I (i σ H Q q)⟩
theorem PS.wk {X : Cx} {e : Stmt} {t t' : TS} (h : PS X e t) (i : ∀ D σ H, t' D σ H → t D σ H) : PS X e t' := ⟨fun pins s σ H D I q => h.run pins s σ H D I (i D σ H q)⟩
theorem PSs.wk {X : Cx} {e : List Stmt} {t t' : TS} (h : PSs X e t) (i : ∀ D σ H, t' D σ H → t D σ H) : PSs X e t' := ⟨fun pins s σ H D I q => h.run pins s σ H D I (i D σ H q)⟩
theorem PG.wk {X : Cx} {e : Expr} {t t' : TG} (h : PG X e t) (i : ∀ v σ H Q, t' v σ H Q → t v σ H Q) : PG X e t' := ⟨fun pins s σ H v u Q I r q => h.run pins s σ H v u Q I r (i v σ H Q q)⟩
theorem PGs.wk {X : Cx} {e : List Expr} {t t' : TGs} (h : PGs X e t) (i : ∀ v σ H Q, t' v σ H Q → t v σ H Q) : PGs X e t' := ⟨fun pins s σ H v u Q I r q => h.run pins s σ H v u Q I r (i v σ H Q q)⟩
theorem PI.wk {X : Cx} {tg e : Expr} {t t' : TI} (h : PI X tg e t) (i : ∀ σ H R, t' σ H R → t σ H R) : PI X tg e t' := ⟨fun pins s σ H R I q => h.run pins s σ H R I (i σ H R q)⟩
theorem PE.or {X : Cx} {e : Expr} {t u : TE} (h : PE X e t) (k : PE X e u) : PE X e (fun σ H Q => t σ H Q ∨ u σ H Q) := ⟨fun pins s σ H Q I q => q.elim (h.run pins s σ H Q I) (k.run pins s σ H Q I)⟩
theorem PG.or {X : Cx} {e : Expr} {t u : TG} (h : PG X e t) (k : PG X e u) : PG X e (fun v σ H Q => t v σ H Q ∨ u v σ H Q) := ⟨fun pins s σ H v w Q I r q => q.elim (h.run pins s σ H v w Q I r) (k.run pins s σ H v w Q I r)⟩
theorem PI.or {X : Cx} {tg e : Expr} {t u : TI} (h : PI X tg e t) (k : PI X tg e u) : PI X tg e (fun σ H R => t σ H R ∨ u σ H R) := ⟨fun pins s σ H R I q => q.elim (h.run pins s σ H R I) (k.run pins s σ H R I)⟩

/-! ### readings -/
section
variable (T : Tb) (F : Fr) (W : WX)
def rd (c : E) : TE := fun σ H Q => ∃ s G io, StR T.x F s G io σ H ∧ Post T.x F W G io (ev T.P T.Gm c s) σ Q
def rdT (c : E) : TT := fun σ H Q => rd T F W c σ H fun v H' => ∃ b, v = .bl b ∧ Q b H'
def rdA (c : E) : TA := fun σ H Q => ∃ s G io, StR T.x F s G io σ H ∧ PostA T.x F W G io (ev T.P T.Gm c s) σ Q
def rdS (c : E) : TS := fun D σ H => ∃ s G io, StR T.x F s G io σ H ∧ PostS T.x F W G io (ev T.P T.Gm c s) D
end
/-- a walk that yields just these data -/
structure WalkD (x : SX) (G0 : Hp) (io0 : List Addr) (J : It) (ds : List D) : Prop where
  go : ∀ (i : Nat) H, i < ds.length → Same G0 H → J.go i H
  stop : ∀ H, Same G0 H → J.stop ds.length H
  yld : ∀ (i : Nat) H v H' d, Same G0 H → ds[i]? = some d → J.yld i H v H' →
    (H' = H ∧ (∀ G io, Same G0 G → Pre io0 io → Rp x G io d v)) ∨ ∃ p vs es, H p = none ∧ H' = upd H p (.tup vs) ∧ v = .ref p ∧ d = .tup es ∧ ∀ G io, Same G0 G → Pre io0 io → RpL x G io es vs
def PostI (x : SX) (F : Fr) (W : WX) (G : Hp) (io : List Addr) (o : Res) (σ : L2.St) (R : It → Hp → Prop) : Prop :=
  match o with
  | some (.vals ds, s) => ∀ J H' G' io', Same G G' → Pre io io' → StR x F s G' io' σ H' → WalkD x G' io' J ds → R J H'
  | some (.exc c ns ds, s) => ∀ cls dd H' G' io', Same G G' → Pre io io' → StR x F s G' io' σ H' → ExcR x G' io' c ns ds cls dd H' → W cls dd σ H'
  | _ => False
def rdI (T : Tb) (F : Fr) (W : WX) (c : E) : TI := fun σ H R => ∃ s G io, StR T.x F s G io σ H ∧ PostI T.x F W G io (ev T.P T.Gm c s) σ R
def tgIx : E → List Nat
  | .tn i => [i]
  | .tt is => is
  | _ => []
theorem wipe_set {σ : L2.St} {i : Nat} {v : Option V} : ∀ {js : List Nat}, i ∈ js → wipe (σ.set i v) js = wipe σ js
  | [], h => by cases h
  | j :: js, h => by
    have key : ∀ (js : List Nat) (σ : L2.St) (v : Option V), (wipe (σ.set i v) js).set i none = (wipe σ js).set i none := by
      intro js
      induction js with
      | nil => intro σ v; simp [wipe]
      | cons k js ih =>
        intro σ v
        unfold wipe
        by_cases hk : k = i
        · subst hk
          rw [List.set_set, List.set_set]
          exact ih σ v
        · rw [List.set_comm _ _ hk, List.set_comm _ _ hk, ih σ v]
    by_cases hj : i ∈ js
    · unfold wipe
      rw [wipe_set hj]
    · have e : i = j := by
        rcases List.mem_cons.mp h with h | h
        · exact h
        · exact absurd h hj
      subst e
      unfold wipe
      exact key js σ v
def rdG (T : Tb) (F : Fr) (c : E) : TG := fun v σ H Q => ∃ s G io d s', StR T.x F s G io σ H ∧ Rp T.x G io d v ∧ store c d s = some s' ∧ ∀ σ', StR T.x F s' G io σ' H → (∀ js, (∀ j ∈ tgIx c, j ∈ js) → wipe σ' js = wipe σ js) → Q σ' H
def rdGs (T : Tb) (F : Fr) (is : List Nat) : TGs := fun vs σ H Q => ∃ s G io ds s', StR T.x F s G io σ H ∧ RpL T.x G io ds vs ∧ storeAll is ds s = some s' ∧ ∀ σ', StR T.x F s' G io σ' H → (∀ js, (∀ j ∈ is, j ∈ js) → wipe σ' js = wipe σ js) → Q σ' H

section
variable {x : SX} {F : Fr} {W : WX} {G G1 H : Hp} {io io1 : List Addr} {σ : L2.St} {s : S}
theorem PostI.anti {o : Res} {R : It → Hp → Prop} (h : PostI x F W G io o σ R) (a : Same G G1) (b : Pre io io1) : PostI x F W G1 io1 o σ R := by
  unfold PostI at h ⊢
  split at h
  · exact fun v H' G' io' c d => h v H' G' io' (a.trans c) (b.trans d)
  · exact fun v dd H' G' io' c d => h v dd H' G' io' (a.trans c) (b.trans d)
  · exact h.elim
theorem PostI.bnd {o : Res} {k : D → S → Res} {Q : It → Hp → Prop} {Q1 : VK} (h : PostI x F W G io (bnd o k) σ Q)
    (hk : ∀ d s v H' G' io', Same G G' → Pre io io' → StR x F s G' io' σ H' → Rp x G' io' d v → PostI x F W G' io' (k d s) σ Q → Q1 v H') : Post x F W G io o σ Q1 := by
  unfold Post
  split
  · exact fun v H' G' io' a b t r => hk _ _ v H' G' io' a b t r (h.anti a b)
  · rename_i ds s
    refine fun a H' G' io' sg sp t ni ow no => ?_
    obtain ⟨vs, e1, e2, e3, r⟩ := id ow
    have t' := t.fast e1 e2 e3 ni no
    have s2 : Same G' (upd G' a (.lst vs)) := same_upd e2
    exact hk (.lst ds) s (.ref a) H' _ io' (sg.trans s2) sp t' ⟨a, vs, rfl, upd_same, r.mono s2 (Pre.refl _)⟩ (h.anti (sg.trans s2) sp)
  · exact h
  · rename_i h1 h2 h3
    unfold En.bnd at h
    split at h
    · exact h1 _ _ rfl
    · exact h2 _ _ rfl
    · exact h3 _ _ _ _ rfl
    · exact h
theorem PostS.bnd {o : Res} {k : D → S → Res} {D : Ends} {Q1 : VK} (h : PostS x F W G io (bnd o k) D)
    (hk : ∀ d s v H' G' io', Same G G' → Pre io io' → StR x F s G' io' σ H' → Rp x G' io' d v → PostS x F W G' io' (k d s) D → Q1 v H') : Post x F W G io o σ Q1 := by
  unfold Post
  split
  · exact fun v H' G' io' a b t r => hk _ _ v H' G' io' a b t r (h.anti a b)
  · rename_i ds s
    refine fun a H' G' io' sg sp t ni ow no => ?_
    obtain ⟨vs, e1, e2, e3, r⟩ := id ow
    have t' := t.fast e1 e2 e3 ni no
    have s2 : Same G' (upd G' a (.lst vs)) := same_upd e2
    exact hk (.lst ds) s (.ref a) H' _ io' (sg.trans s2) sp t' ⟨a, vs, rfl, upd_same, r.mono s2 (Pre.refl _)⟩ (h.anti (sg.trans s2) sp)
  · exact fun cls dd H' G' io' a b t r => h cls dd σ H' G' io' a b t r
  · rename_i h1 h2 h3
    unfold En.bnd at h
    split at h
    · exact h1 _ _ rfl
    · exact h2 _ _ rfl
    · exact h3 _ _ _ _ rfl
    · exact h
theorem PostS.bndI {o : Res} {k : List D → S → Res} {D : Ends} {R : It → Hp → Prop} (h : PostS x F W G io (bndA o k) D)
    (hk : ∀ ds s J H' G' io', Same G G' → Pre io io' → StR x F s G' io' σ H' → WalkD x G' io' J ds → PostS x F W G' io' (k ds s) D → R J H') : PostI x F W G io o σ R := by
  unfold PostI
  split
  · exact fun v H' G' io' a b t r => hk _ _ v H' G' io' a b t r (h.anti a b)
  · exact fun cls dd H' G' io' a b t r => h cls dd σ H' G' io' a b t r
  · rename_i h1 h3
    unfold En.bndA at h
    split at h
    · exact h1 _ _ rfl
    · exact h3 _ _ _ _ rfl
    · exact h
theorem Post.bndI {o : Res} {k : List D → S → Res} {Q : VK} {R : It → Hp → Prop} (h : Post x F W G io (En.bndA o k) σ Q)
    (hk : ∀ ds s J H' G' io', Same G G' → Pre io io' → StR x F s G' io' σ H' → WalkD x G' io' J ds → Post x F W G' io' (k ds s) σ Q → R J H') : PostI x F W G io o σ R := by
  unfold PostI
  split
  · exact fun v H' G' io' a b t r => hk _ _ v H' G' io' a b t r (h.anti a b)
  · exact h
  · rename_i h1 h3
    unfold En.bndA at h
    split at h
    · exact h1 _ _ rfl
    · exact h3 _ _ _ _ rfl
    · exact h
/-- a slot is stored -/
theorem StR.setv {i : Nat} {d : D} {v : V} (t : StR x F s G io σ H) (r : Rp x G io d v) : StR x F (s.set i (some (.val d))) G io (σ.set i (some v)) H where
  gh := t.gh
  len := by simp [S.set, t.len]
  slot := fun j c e => by
    have e : (s.r.set i (some (.val d)))[j]? = some (some c) := e
    by_cases hj : i = j
    · subst hj
      by_cases hi : i < s.r.length
      · rw [List.getElem?_set_self hi] at e
        cases e
        refine ⟨v, ?_, r⟩
        rw [List.getElem?_set_self (by rw [← t.len]; exact hi)]
      · rw [List.getElem?_eq_none (by simpa using hi)] at e; cases e
    · rw [List.getElem?_set_ne hj] at e
      obtain ⟨w, e1, q⟩ := t.slot j c e
      exact ⟨w, by rw [List.getElem?_set_ne hj]; exact e1, q⟩
  own := fun j k c c' w hjk e1 e2 o1 o2 z1 z2 => by
    have e1 : (s.r.set i (some (.val d)))[j]? = some (some c) := e1
    have e2 : (s.r.set i (some (.val d)))[k]? = some (some c') := e2
    have nv : ∀ {j : Nat} {c : Cell}, (s.r.set i (some (.val d)))[j]? = some (some c) → isOwn c = true → i ≠ j := fun {j c} e o z => by
      subst z
      by_cases hi : i < s.r.length
      · rw [List.getElem?_set_self hi] at e; cases e; cases o
      · rw [List.getElem?_eq_none (by simpa using hi)] at e; cases e
    have h1 := nv e1 o1
    have h2 := nv e2 o2
    rw [List.getElem?_set_ne h1] at e1 z1
    rw [List.getElem?_set_ne h2] at e2 z2
    exact t.own j k c c' w hjk e1 e2 o1 o2 z1 z2
  mem := t.mem
  kh := t.kh
  kg := t.kg
  ki := t.ki
  ni := t.ni
/-- what is known of slots is forgotten -/
theorem StR.weak {r' : List (Option Cell)} (t : StR x F s G io σ H) (hl : r'.length = s.r.length) (h : ∀ (i : Nat) c, r'[i]? = some (some c) → s.r[i]? = some (some c)) : StR x F { s with r := r' } G io σ H where
  gh := t.gh
  len := hl.trans t.len
  slot := fun i c e => t.slot i c (h i c e)
  own := fun i j c c' v a e1 e2 => t.own i j c c' v a (h i c e1) (h j c' e2)
  mem := t.mem
  kh := t.kh
  kg := t.kg
  ki := t.ki
  ni := t.ni
end

/-! ### targets -/
section
variable {T : Tb} {cc : CC} {X : Cx} {W : WX} {F : Fr}
theorem g_name (o : XOk T cc X W) {i : Nat} {y : Str} {p : Pos} (h : tgt cc i y = true) : PG X (.Name y p) (rdG T F (.tn i)) := by
  obtain ⟨h1, h2, h3⟩ := o.tgt h
  refine PG.wk (pg_name (i := i) o.nd h1 h2 h3) fun v σ H Q hq => ?_
  obtain ⟨s, G, io, d, s', t, r, e, q⟩ := hq
  cases e
  exact q _ (t.setv r) fun js hj => wipe_set (hj i (by simp [tgIx]))
def tgtAll (cc : CC) : List Nat → List Expr → Bool
  | [], [] => true
  | i :: is, .Name y _ :: es => tgt cc i y && tgtAll cc is es
  | _, _ => false
theorem g_names (o : XOk T cc X W) : ∀ {is : List Nat} {es : List Expr}, tgtAll cc is es = true → PGs X es (rdGs T F is)
  | [], [], _ => PGs.wk pgs_nil fun v σ H Q hq => by
    obtain ⟨s, G, io, ds, s', t, r, e, q⟩ := hq
    cases ds with
    | nil =>
      cases e
      exact ⟨r, q σ t fun _ _ => rfl⟩
    | cons _ _ => cases e
  | i :: is, e :: es, h => by
    cases e with
    | Name y p =>
      rw [tgtAll, Bool.and_eq_true] at h
      refine PGs.wk (pgs_cons (g_name (F := F) o h.1) (g_names o h.2)) fun v σ H Q hq => ?_
      obtain ⟨s, G, io, ds, s', t, r, e, q⟩ := hq
      cases ds with
      | nil => cases e
      | cons d ds =>
        obtain ⟨v, rest, rfl, r1, r2⟩ := r
        exact ⟨v, rest, rfl, s, G, io, d, _, t, r1, rfl, fun σ' t' w => ⟨_, G, io, ds, s', t', r2, e, fun σ2 t2 w2 => q σ2 t2 fun js hj => (w2 js fun j h => hj j (List.mem_cons_of_mem _ h)).trans (w js fun j h => hj j (by simp [tgIx] at h; subst h; exact List.mem_cons_self))⟩⟩
    | _ => cases h
  | [], _ :: _, h => by cases h
  | _ :: _, [], h => by cases h
theorem asg_len {env : Env} {cc : CC} : ∀ {is : List Nat} {es : List Expr}, tgtAll cc is es = true → (assignEach es env).length = is.length ∧ List.findIdx? (fun x => x.1) (assignEach es env) = none
  | [], [], _ => ⟨rfl, rfl⟩
  | i :: is, e :: es, h => by
    cases e with
    | Name y p =>
      rw [tgtAll, Bool.and_eq_true] at h
      obtain ⟨a, b⟩ := asg_len (env := env) h.2
      refine ⟨by simp only [assignEach, List.length_cons, a], ?_⟩
      simp only [assignEach, List.findIdx?_cons, b]
      rfl
    | _ => cases h
  | [], _ :: _, h => by cases h
  | _ :: _, [], h => by cases h
theorem storeAll_len : ∀ {is : List Nat} {ds : List D} {s s' : S}, storeAll is ds s = some s' → ds.length = is.length
  | [], [], _, _, _ => rfl
  | i :: is, d :: ds, _, _, h => by rw [List.length_cons, List.length_cons, storeAll_len (is := is) h]
  | [], _ :: _, _, _, h => by cases h
  | _ :: _, [], _, _, h => by cases h
theorem g_tup (o : XOk T cc X W) {is : List Nat} {es : List Expr} {k : Nat} {p : Pos} (h : tgtAll cc is es = true) : PG X (.Tuple es k p) (rdG T F (.tt is)) := by
  refine PG.wk (PG.or (pg_tup (n := is.length) o.calm (g_names (F := F) o h) (asg_len h).1 (asg_len h).2) (pg_lst (n := is.length) o.calm (g_names (F := F) o h) (asg_len h).1 (asg_len h).2)) fun v σ H Q hq => ?_
  obtain ⟨s, G, io, d, s', t, r, e, q⟩ := hq
  cases d with
  | tup ds =>
    obtain ⟨a, vs, rfl, q1, rr⟩ := r
    exact .inl ⟨a, vs, rfl, by rw [o.K]; exact Same.tup t.gh q1, by rw [rr.length, storeAll_len e], s, G, io, ds, s', t, rr, e, q⟩
  | lst ds =>
    obtain ⟨a, vs, rfl, q1, rr⟩ := r
    exact .inr ⟨a, vs, rfl, .of (t.gh _ _ q1), by rw [rr.length, storeAll_len e], s, G, io, ds, s', t, rr, e, q⟩
  | _ => cases e
end
end En

namespace En
open PySem PySem.Spec L2
section
variable {T : Tb} {cc : CC} {X : Cx} {W : WX} {F : Fr} {e l r c : Expr} {es : List Expr} {a b : E} {pos : Pos}
/-! ### names, constants -/
theorem s_var (o : XOk T cc X W) {i : Nat} {y : Str} (h : vis cc i y = true) : PE X (.Name y pos) (rd T F W (.var i)) := by
  obtain ⟨h1, h2, h3, h4⟩ := o.vis h
  refine PE.wk (pe_var h1 h2 h3 h4) fun σ H Q hq => ?_
  obtain ⟨s, G, io, t, hp⟩ := hq
  simp only [ev] at hp
  split at hp
  · rename_i d hd
    obtain ⟨v, e1, q⟩ := t.slot i _ hd
    exact ⟨v, e1, hp.v t q⟩
  · exact hp.elim
theorem s_mv (o : XOk T cc X W) {i : Nat} {y : Str} (h : vis cc i y = true) : PE X (.Name y pos) (rd T F W (.mv i)) := by
  obtain ⟨h1, h2, h3, h4⟩ := o.vis h
  refine PE.wk (pe_var h1 h2 h3 h4) fun σ H Q hq => ?_
  obtain ⟨s, G, io, t, hp⟩ := hq
  simp only [ev] at hp
  split at hp
  · rename_i ds hd
    obtain ⟨v, e1, a, rfl, q1, q2⟩ := t.slot i _ hd
    refine ⟨_, e1, hp a H G io (Same.refl _) (Pre.refl _) (t.weak (by simp) fun j c e => ?_) q1 q2 fun j c e ho z => ?_⟩
    · by_cases hj : i = j
      · subst hj
        by_cases hi : i < s.r.length
        · rw [List.getElem?_set_self hi] at e; cases e
        · rw [List.getElem?_eq_none (by simpa using hi)] at e; cases e
      · rw [List.getElem?_set_ne hj] at e; exact e
    · have e : (s.r.set i none)[j]? = some (some c) := e
      by_cases hj : i = j
      · subst hj
        by_cases hi : i < s.r.length
        · rw [List.getElem?_set_self hi] at e; cases e
        · rw [List.getElem?_eq_none (by simpa using hi)] at e; cases e
      · rw [List.getElem?_set_ne hj] at e
        exact t.own i j _ _ _ hj hd e rfl ho e1 z
  · exact hp.elim
theorem s_cst {d : D} {k : Const} {j : Nat} (h : (match d, k with
    | .non, .none => true
    | .bl b, .bool c => b == c
    | .int i, .int m => i == m
    | .str x, .str y => decide (x = y)
    | _, _ => false) = true) : PE X (.Constant k j pos) (rd T F W (.cst d)) := by
  have fin : ∀ {v : V}, (∀ G io, Rp T.x G io d v) → flat d = true → ∀ σ H Q, rd T F W (.cst d) σ H Q → Q v H := fun {v} r f σ H Q hq => by
    obtain ⟨s, G, io, t, hp⟩ := hq
    simp only [ev, f, if_true] at hp
    exact hp.v t (r _ _)
  split at h
  · exact PE.wk pe_non (fin (fun _ _ => rfl) rfl)
  · have e := eq_of_beq h
    subst e
    exact PE.wk pe_bl (fin (fun _ _ => rfl) rfl)
  · have e := eq_of_beq h
    subst e
    exact PE.wk pe_int (fin (fun _ _ => rfl) rfl)
  · have e := of_decide_eq_true h
    subst e
    exact PE.wk pe_str (fin (fun _ _ => rfl) rfl)
  · cases h
theorem s_gv (o : XOk T cc X W) (t : TOk T) {g : Nat} {y : Str} (h : glo cc y = true) (hn : T.nt.gvn g = y) (h0 : y ≠ "") : PE X (.Name y pos) (rd T F W (.gv g)) := by
  obtain ⟨h1, h2, _⟩ := o.glo h
  obtain ⟨u, v, e1, e2, e3⟩ := t.gv g (by rw [hn]; exact h0)
  rw [hn, ← o.mg] at e1
  refine PE.wk (pe_glob h1 e1 e2 h2) fun σ H Q hq => ?_
  obtain ⟨s, G, io, t, hp⟩ := hq
  exact hp.v t (e3 G io)
/-! ### operators -/
theorem s_bop (o : XOk T cc X W) {op : Bop} (ha : PE X l (rd T F W a)) (hb : PE X r (rd T F W b)) : PE X (.BinOp l (opOf op) r pos) (rd T F W (.bop op a b)) := by
  refine PE.wk (pe_op (bop_ok (F := F) (W := W) o.K op) ha hb) fun σ H Q ⟨s, G, io, t, hp⟩ => ⟨s, G, io, t, ?_⟩
  refine Post.bnd hp fun d s v H1 G1 io1 sg si t1 r1 hp1 => ⟨s, G1, io1, t1, ?_⟩
  refine Post.bnd hp1 fun d2 s2 v2 H2 G2 io2 sg2 si2 t2 r2 hp2 => ?_
  exact ⟨σ, s2, G2, io2, d, d2, t2, r1.mono sg2 si2, r2, hp2⟩
theorem s_neg (o : XOk T cc X W) (ha : PE X l (rd T F W a)) : PE X (.UnaryOp .USub l pos) (rd T F W (.neg a)) := by
  refine PE.wk (pe_un un_neg ha) fun σ H Q ⟨s, G, io, t, hp⟩ => ⟨s, G, io, t, ?_⟩
  refine Post.bnd hp fun d s v H1 G1 io1 sg si t1 r1 hp1 => ?_
  split at hp1
  · rename_i i
    exact ⟨i, r1, hp1.v t1 rfl⟩
  · exact hp1.elim
theorem s_nt (ha : PE X l (rd T F W a)) : PE X (.UnaryOp .Not l pos) (rd T F W (.nt a)) := by
  refine PE.wk (pe_not ha) fun σ H Q ⟨s, G, io, t, hp⟩ => ⟨s, G, io, t, ?_⟩
  refine Post.bnd hp fun d s v H1 G1 io1 sg si t1 r1 hp1 => ?_
  split at hp1
  · rename_i i
    exact ⟨i, r1, hp1.v t1 rfl⟩
  · exact hp1.elim
theorem t_nt (ha : PT X l (rdT T F W a)) : PT X (.UnaryOp .Not l pos) (rdT T F W (.nt a)) := by
  refine PT.wk (pt_not ha) fun σ H Q ⟨s, G, io, t, hp⟩ => ⟨s, G, io, t, ?_⟩
  refine Post.bnd hp fun d s v H1 G1 io1 sg si t1 r1 hp1 => ?_
  split at hp1
  · rename_i i
    obtain ⟨b, e, q⟩ := hp1.v t1 rfl
    cases e
    exact ⟨i, r1, q⟩
  · exact hp1.elim
theorem s_band {es : List Expr} (ha : PE X l (rd T F W a)) (hb : PE X (.BoolOp .And (r :: es) pos) (rd T F W b)) : PE X (.BoolOp .And (l :: r :: es) pos) (rd T F W (.band a b)) := by
  refine PE.wk (pe_and ha hb) fun σ H Q ⟨s, G, io, t, hp⟩ => ⟨s, G, io, t, ?_⟩
  refine Post.bnd hp fun d s v H1 G1 io1 sg si t1 r1 hp1 => ?_
  split at hp1
  · rename_i k
    refine ⟨k, r1, ?_⟩
    cases k with
    | true => exact iteT ⟨s, G1, io1, t1, hp1⟩
    | false => exact iteF (hp1.v t1 rfl)
  · exact hp1.elim
theorem s_bor {es : List Expr} (ha : PE X l (rd T F W a)) (hb : PE X (.BoolOp .Or (r :: es) pos) (rd T F W b)) : PE X (.BoolOp .Or (l :: r :: es) pos) (rd T F W (.bor a b)) := by
  refine PE.wk (pe_or ha hb) fun σ H Q ⟨s, G, io, t, hp⟩ => ⟨s, G, io, t, ?_⟩
  refine Post.bnd hp fun d s v H1 G1 io1 sg si t1 r1 hp1 => ?_
  split at hp1
  · rename_i k
    refine ⟨k, r1, ?_⟩
    cases k with
    | true => exact iteT (hp1.v t1 rfl)
    | false => exact iteF ⟨s, G1, io1, t1, hp1⟩
  · exact hp1.elim
theorem w_band {es : List Expr} (ha : PT X l (rdT T F W a)) (hb : PW X (.BoolOp .And (r :: es) pos) (rdT T F W b)) : PW X (.BoolOp .And (l :: r :: es) pos) (rdT T F W (.band a b)) := by
  refine PW.wk (pw_and ha hb) fun σ H Q ⟨s, G, io, t, hp⟩ => ⟨s, G, io, t, ?_⟩
  refine Post.bnd hp fun d s v H1 G1 io1 sg si t1 r1 hp1 => ?_
  split at hp1
  · rename_i k
    refine ⟨k, r1, ?_⟩
    cases k with
    | true => exact iteT ⟨s, G1, io1, t1, hp1⟩
    | false =>
      obtain ⟨b, e, q⟩ := hp1.v t1 rfl
      cases e
      exact iteF q
  · exact hp1.elim
theorem w_bor {es : List Expr} (ha : PT X l (rdT T F W a)) (hb : PW X (.BoolOp .Or (r :: es) pos) (rdT T F W b)) : PW X (.BoolOp .Or (l :: r :: es) pos) (rdT T F W (.bor a b)) := by
  refine PW.wk (pw_or ha hb) fun σ H Q ⟨s, G, io, t, hp⟩ => ⟨s, G, io, t, ?_⟩
  refine Post.bnd hp fun d s v H1 G1 io1 sg si t1 r1 hp1 => ?_
  split at hp1
  · rename_i k
    refine ⟨k, r1, ?_⟩
    cases k with
    | true =>
      obtain ⟨b, e, q⟩ := hp1.v t1 rfl
      cases e
      exact iteT q
    | false => exact iteF ⟨s, G1, io1, t1, hp1⟩
  · exact hp1.elim
theorem w_one_and (ha : PT X l (rdT T F W a)) : PW X (.BoolOp .And [l] pos) (rdT T F W (.one a)) := pw_and1 ha
theorem w_one_or (ha : PT X l (rdT T F W a)) : PW X (.BoolOp .Or [l] pos) (rdT T F W (.one a)) := pw_or1 ha
theorem s_one {op : BoolOp} (ha : PE X l (rd T F W a)) : PE X (.BoolOp op [l] pos) (rd T F W (.one a)) := pe_one ha
theorem s_ite {k : E} (hc : PT X c (rdT T F W k)) (ha : PE X l (rd T F W a)) (hb : PE X r (rd T F W b)) : PE X (.IfExp c l r pos) (rd T F W (.ite k a b)) := by
  refine PE.wk (pe_ifExp hc ha hb) fun σ H Q ⟨s, G, io, t, hp⟩ => ⟨s, G, io, t, ?_⟩
  refine Post.bnd hp fun d s v H1 G1 io1 sg si t1 r1 hp1 => ?_
  split at hp1
  · rename_i k
    refine ⟨k, r1, ?_⟩
    cases k with
    | true => exact iteT ⟨s, G1, io1, t1, hp1⟩
    | false => exact iteF ⟨s, G1, io1, t1, hp1⟩
  · exact hp1.elim
/-- a test of any other form -/
theorem t_plain (ha : PE X e (rd T F W a)) (h : plainT e = true) : PT X e (rdT T F W a) := pt_val ha (isTrue_plain h)
/-! ### comparisons -/
theorem s_cmp (o : XOk T cc X W) {op : Cop} (hm : isSet r = false) (ha : PE X l (rd T F W a)) (hb : PE X r (rd T F W b)) : PE X (.Compare l [copOf op] [r] pos) (rd T F W (.cmp op a b)) := by
  refine PE.wk (pe_cmpR (cmp_ok (F := F) o.K o.hu op) ha hb (marks_no hm)) fun σ H Q ⟨s, G, io, t, hp⟩ => ⟨s, G, io, t, ?_⟩
  refine Post.bnd hp fun d s v H1 G1 io1 sg si t1 r1 hp1 => ⟨s, G1, io1, t1, ?_⟩
  refine Post.bnd hp1 fun d2 s2 v2 H2 G2 io2 sg2 si2 t2 r2 hp2 => ?_
  cases hc : cmpF op d d2 s2 with
  | none => rw [hc] at hp2; exact hp2.elim
  | some k =>
    rw [hc] at hp2
    exact ⟨σ, s2, G2, io2, d, d2, k, t2, r1.mono sg2 si2, r2, hc, hp2.v t2 rfl⟩
theorem t_cmp (o : XOk T cc X W) {op : Cop} (hm : isSet r = false) (ha : PE X l (rd T F W a)) (hb : PE X r (rd T F W b)) : PT X (.Compare l [copOf op] [r] pos) (rdT T F W (.cmp op a b)) := by
  refine PT.wk (pt_cmpR (cmp_ok (F := F) o.K o.hu op) ha hb (marks_no hm)) fun σ H Q ⟨s, G, io, t, hp⟩ => ⟨s, G, io, t, ?_⟩
  refine Post.bnd hp fun d s v H1 G1 io1 sg si t1 r1 hp1 => ⟨s, G1, io1, t1, ?_⟩
  refine Post.bnd hp1 fun d2 s2 v2 H2 G2 io2 sg2 si2 t2 r2 hp2 => ?_
  cases hc : cmpF op d d2 s2 with
  | none => rw [hc] at hp2; exact hp2.elim
  | some k =>
    rw [hc] at hp2
    exact ⟨σ, s2, G2, io2, d, d2, k, t2, r1.mono sg2 si2, r2, hc, hp2.v t2 rfl⟩
theorem isn_key {σ : L2.St} {H : Hp} {Q : VK} (hq : rd T F W (.isn a) σ H Q) : tIsN (rd T F W a) σ H Q := by
  obtain ⟨s, G, io, t, hp⟩ := hq
  refine ⟨s, G, io, t, ?_⟩
  refine Post.bnd hp fun d s v H1 G1 io1 sg si t1 r1 hp1 => ?_
  have key : ∀ b, (decide (v = V.non)) = b → Post T.x F W G1 io1 (some (.val (.bl b), s)) σ Q → Q (.bl (decide (v = V.non))) H1 := fun b e h => by rw [e]; exact h.v t1 rfl
  split at hp1
  · cases (show v = .non from r1)
    exact hp1.v t1 rfl
  · rename_i hd
    refine key false (decide_eq_false fun z => ?_) hp1
    subst z
    cases d with
    | non => exact hd rfl
    | bl b => cases r1
    | int b => cases r1
    | str b => cases r1
    | lst ds => obtain ⟨_, _, z, _⟩ := r1; cases z
    | fzl ds => obtain ⟨_, _, z, _⟩ := r1; cases z
    | tup ds => obtain ⟨_, _, z, _⟩ := r1; cases z
    | dct ks ds => obtain ⟨_, _, z, _⟩ := r1; cases z
    | obj k ns ds => obtain ⟨_, _, _, z, _⟩ := r1; cases z
    | adr n => obtain ⟨_, z, _⟩ := r1; cases z
theorem nin_key {σ : L2.St} {H : Hp} {Q : VK} (hq : rd T F W (.nin a) σ H Q) : tNotN (rd T F W a) σ H Q := by
  obtain ⟨s, G, io, t, hp⟩ := hq
  refine ⟨s, G, io, t, ?_⟩
  refine Post.bnd hp fun d s v H1 G1 io1 sg si t1 r1 hp1 => ?_
  have key : ∀ b, (!decide (v = V.non)) = b → Post T.x F W G1 io1 (some (.val (.bl b), s)) σ Q → Q (.bl (!decide (v = V.non))) H1 := fun b e h => by rw [e]; exact h.v t1 rfl
  split at hp1
  · cases (show v = .non from r1)
    exact hp1.v t1 rfl
  · rename_i hd
    refine key true (by
      rw [decide_eq_false fun z => ?_]; rfl
      subst z
      cases d with
      | non => exact hd rfl
      | bl b => cases r1
      | int b => cases r1
      | str b => cases r1
      | lst ds => obtain ⟨_, _, z, _⟩ := r1; cases z
      | fzl ds => obtain ⟨_, _, z, _⟩ := r1; cases z
      | tup ds => obtain ⟨_, _, z, _⟩ := r1; cases z
      | dct ks ds => obtain ⟨_, _, z, _⟩ := r1; cases z
      | obj k ns ds => obtain ⟨_, _, _, z, _⟩ := r1; cases z
      | adr n => obtain ⟨_, z, _⟩ := r1; cases z) hp1
theorem s_isn (ha : PE X l (rd T F W a)) {j : Nat} {p' : Pos} : PE X (.Compare l [.Is] [.Constant .none j p'] pos) (rd T F W (.isn a)) := PE.wk (pe_cmp (pc_isN ha) rfl) fun σ H Q hq => isn_key hq
theorem s_nin (ha : PE X l (rd T F W a)) {j : Nat} {p' : Pos} : PE X (.Compare l [.IsNot] [.Constant .none j p'] pos) (rd T F W (.nin a)) := PE.wk (pe_cmp (pc_notN ha) rfl) fun σ H Q hq => nin_key hq
theorem s_isn2 (ha : PE X l (rd T F W a)) {j : Nat} {p' : Pos} : PE X (.Compare l [.Is] [.Constant .none j p'] pos) (rd T F W (.isn a)) ∧ PT X (.Compare l [.Is] [.Constant .none j p'] pos) (rdT T F W (.isn a)) :=
  ⟨s_isn ha, PT.wk (pt_cmp (pc_isN ha) rfl) fun σ H Q hq => isn_key hq⟩
theorem s_nin2 (ha : PE X l (rd T F W a)) {j : Nat} {p' : Pos} : PE X (.Compare l [.IsNot] [.Constant .none j p'] pos) (rd T F W (.nin a)) ∧ PT X (.Compare l [.IsNot] [.Constant .none j p'] pos) (rdT T F W (.nin a)) :=
  ⟨s_nin ha, PT.wk (pt_cmp (pc_notN ha) rfl) fun σ H Q hq => nin_key hq⟩
/-- a comparison as a test by its value -/
theorem t_of_cmp {op : CmpOp} (h : PC X op l r (rd T F W a)) (h1 : behindInMarks op r = false) : PT X (.Compare l [op] [r] pos) (rdT T F W a) := pt_cmp h h1
end
end En

namespace En
open PySem PySem.Spec L2
theorem lastMarks_no {o p : CmpOp} {l r : Expr} (h : isSet r = false) : lastMarks [o, p] [l, r] = false := marks_no h
section
variable {T : Tb} {cc : CC} {X : Cx} {W : WX} {F : Fr} {e l r c : Expr} {es : List Expr} {a b : E} {pos : Pos}
theorem s_chn (o : XOk T cc X W) {op op2 : Cop} {k : E} (hm : isSet c = false) (ha : PE X l (rd T F W a)) (hb : PE X r (rd T F W b)) (hc : PE X c (rd T F W k)) :
    PE X (.Compare l [copOf op, copOf op2] [r, c] pos) (rd T F W (.chn op op2 a b k)) ∧ PT X (.Compare l [copOf op, copOf op2] [r, c] pos) (rdT T F W (.chn op op2 a b k)) := by
  have key : ∀ σ H Q, rd T F W (.chn op op2 a b k) σ H Q → tChain (rC T.x F op) (rC T.x F op2) (rd T F W a) (rd T F W b) (rd T F W k) σ H Q := fun σ H Q ⟨s, G, io, t, hp⟩ => ⟨s, G, io, t, by
    refine Post.bnd hp fun d s v H1 G1 io1 sg si t1 r1 hp1 => ⟨s, G1, io1, t1, ?_⟩
    refine Post.bnd hp1 fun d2 s2 v2 H2 G2 io2 sg2 si2 t2 r2 hp2 => ?_
    split at hp2
    · rename_i hcm
      refine ⟨σ, s2, G2, io2, d, d2, true, t2, r1.mono sg2 si2, r2, hcm, true, rfl, iteT ⟨s2, G2, io2, t2, ?_⟩⟩
      refine Post.bnd hp2 fun d3 s3 v3 H3 G3 io3 sg3 si3 t3 r3 hp3 => ?_
      cases hc3 : cmpF op2 d2 d3 s3 with
      | none => rw [hc3] at hp3; exact hp3.elim
      | some q =>
        rw [hc3] at hp3
        exact ⟨σ, s3, G3, io3, d2, d3, q, t3, r2.mono sg3 si3, r3, hc3, hp3.v t3 rfl⟩
    · rename_i hcm
      exact ⟨σ, s2, G2, io2, d, d2, false, t2, r1.mono sg2 si2, r2, hcm, false, rfl, iteF (hp2.v t2 rfl)⟩
    · exact hp2.elim⟩
  refine ⟨PE.wk (pe_chain (cmp_ok (F := F) o.K o.hu op) (cmp_ok (F := F) o.K o.hu op2) ha hb hc (lastMarks_no hm)) key, PT.wk (pt_chain (cmp_ok (F := F) o.K o.hu op) (cmp_ok (F := F) o.K o.hu op2) ha hb hc (lastMarks_no hm)) fun σ H Q hq => ?_⟩
  exact key σ H _ hq
theorem s_ix (o : XOk T cc X W) (hs : PlainIx r) (ha : PE X l (rd T F W a)) (hb : PE X r (rd T F W b)) : PE X (.Subscript l r pos) (rd T F W (.ix a b)) := by
  refine PE.wk (pe_ix (ix_ok (F := F) o.K o.hu) ha hb hs) fun σ H Q ⟨s, G, io, t, hp⟩ => ⟨s, G, io, t, ?_⟩
  refine Post.bnd hp fun d s v H1 G1 io1 sg si t1 r1 hp1 => ⟨s, G1, io1, t1, ?_⟩
  refine Post.bnd hp1 fun d2 s2 v2 H2 G2 io2 sg2 si2 t2 r2 hp2 => ?_
  cases hc : ixF d d2 s2 with
  | none => rw [hc] at hp2; exact hp2.elim
  | some y =>
    rw [hc] at hp2
    exact ⟨σ, s2, G2, io2, d, d2, y, t2, r1.mono sg2 si2, r2, hc, fun z rz => hp2.v t2 rz⟩
/-- a slice's part -/
def rdO (T : Tb) (F : Fr) (W : WX) (c : E) : TO := fun σ H Q => match isAbs c with
  | true => Q none H
  | false => rd T F W c σ H fun v H' => ∃ i, v = .int i ∧ Q (some i) H'
theorem o_abs : PO X none (rdO T F W .abs) := (po_none : PO X none tNoPart)
theorem o_some (h : PE X e (rd T F W a)) (hn : isAbs a = false) : PO X (some e) (rdO T F W a) := by
  have h := po_some h
  exact ⟨fun pins s σ H Q I q => h.run pins s σ H Q I (by
    unfold rdO at q
    rw [hn] at q
    exact q)⟩
theorem part_step {G H : Hp} {io : List Addr} {σ : L2.St} {s : S} {k : Option Int → S → Res} {Q : VK} {R : Option Int → Hp → Prop} (t : StR T.x F s G io σ H) (hp : Post T.x F W G io (prt (isAbs a) (ev T.P T.Gm a s) s k) σ Q)
    (hk : ∀ l s' H' G' io', Same G G' → Pre io io' → StR T.x F s' G' io' σ H' → Post T.x F W G' io' (k l s') σ Q → R l H') : rdO T F W a σ H R := by
  unfold rdO
  unfold prt at hp
  cases h : isAbs a with
  | true =>
    rw [h] at hp
    exact hk none s H G io (Same.refl _) (Pre.refl _) t hp
  | false =>
    rw [h] at hp
    refine ⟨s, G, io, t, ?_⟩
    refine Post.bnd hp fun d s v H1 G1 io1 sg si t1 r1 hp1 => ?_
    split at hp1
    · rename_i i
      exact ⟨i, r1, hk _ _ _ _ _ sg si t1 hp1⟩
    · exact hp1.elim
theorem s_sl (o : XOk T cc X W) {lo hi : E} {p2 : Pos} {ol oh : Option Expr} (ha : PE X l (rd T F W a)) (hl : PO X ol (rdO T F W lo)) (hh : PO X oh (rdO T F W hi)) : PE X (.Subscript l (.Slice ol oh none p2) pos) (rd T F W (.sl a lo hi)) := by
  refine PE.wk (pe_slice (sl_ok (F := F) (W := W) o.K) ha hl hh) fun σ H Q ⟨s, G, io, t, hp⟩ => ⟨s, G, io, t, ?_⟩
  refine Post.bnd hp fun d s v H1 G1 io1 sg si t1 r1 hp1 => ?_
  refine part_step t1 hp1 fun l s2 H2 G2 io2 sg2 si2 t2 hp2 => ?_
  refine part_step t2 hp2 fun h s3 H3 G3 io3 sg3 si3 t3 hp3 => ?_
  exact ⟨σ, s3, G3, io3, d, t3, (r1.mono sg2 si2).mono sg3 si3, hp3⟩
/-! ### arguments, displays -/
theorem a_nil : PA X [] (rdA T F W .nil) := PA.wk pa_nil fun σ H Q ⟨s, G, io, t, hp⟩ => hp [] H G io (Same.refl _) (Pre.refl _) t .nil
theorem a_cns {es : List Expr} (hs : isStar e = false) (ha : PE X e (rd T F W a)) (hb : PA X es (rdA T F W b)) : PA X (e :: es) (rdA T F W (.cns a b)) := by
  refine PA.wk (pa_cons ha hb (star_no hs)) fun σ H Q ⟨s, G, io, t, hp⟩ => ⟨s, G, io, t, ?_⟩
  refine PostA.bnd hp fun d s v H1 G1 io1 sg si t1 r1 hp1 => ⟨s, G1, io1, t1, ?_⟩
  refine PostA.bndA hp1 fun ds s2 vs H2 G2 io2 sg2 si2 t2 r2 hp2 => ?_
  exact hp2 _ H2 G2 io2 (Same.refl _) (Pre.refl _) t2 (.cons (r1.mono sg2 si2) r2)
theorem s_lst {es : List Expr} (ha : PA X es (rdA T F W a)) : PE X (.List es pos) (rd T F W (.lst a)) := by
  refine PE.wk (pe_lst ha) fun σ H Q ⟨s, G, io, t, hp⟩ => ⟨s, G, io, t, ?_⟩
  refine Post.bndA hp fun ds s vs H1 G1 io1 sg si t1 r1 hp1 => ?_
  split at hp1
  · rename_i hl
    exact ⟨by rw [r1.length]; exact big_line hl, hp1.f t1 r1⟩
  · exact hp1.elim
theorem s_tpl {es : List Expr} {k : Nat} (ha : PA X es (rdA T F W a)) : PE X (.Tuple es k pos) (rd T F W (.tpl a)) := by
  refine PE.wk (pe_tup ha) fun σ H Q ⟨s, G, io, t, hp⟩ => ⟨s, G, io, t, ?_⟩
  refine Post.bndA hp fun ds s vs H1 G1 io1 sg si t1 r1 hp1 => ?_
  split at hp1
  · rename_i hl
    exact ⟨by rw [r1.length]; exact big_line hl, hp1.tn t1 r1⟩
  · exact hp1.elim
/-! ### built-ins -/
theorem s_bi (o : XOk T cc X W) (t : TOk T) {k : Bi} {p : Pos} {es : List Expr} (hg : glo cc (biN k) = true) (hs : (e :: es).all (fun e => !isStar e) = true) (ha : PA X (e :: es) (rdA T F W a)) :
    PE X (.Call (.Name (biN k) p) (e :: es) [] pos) (rd T F W (.bi k a)) := by
  obtain ⟨h1, h2, h3⟩ := o.glo hg
  rw [List.all_cons, Bool.and_eq_true] at hs
  have hs1 : isStar e = false := by simpa using hs.1
  have hm : X.mg (biN k) = none := o.blt t (by cases k <;> decide +kernel)
  have key : ∀ σ H Q, rd T F W (.bi k a) σ H Q → tCB (rBi T.x F W k) (rdA T F W a) σ H Q := fun σ H Q ⟨s, G, io, t, hp⟩ => ⟨s, G, io, t, by
    refine Post.bndA hp fun ds s vs H1 G1 io1 sg si t1 r1 hp1 => ?_
    exact ⟨σ, s, G1, io1, ds, t1, r1, hp1⟩⟩
  have B := bi_ok (F := F) (W := W) o.K o.calm k
  have hst := star_no (es := es) (env := X.env) hs1
  have hpl := star_any (env := X.env) (pos := pos) hs.2
  cases k with
  | len => exact PE.wk (pe_callB B h1 hm PySem.boot_len ha h3 h2 hst hpl) key
  | all => exact PE.wk (pe_callB B h1 hm (by decide +kernel) ha h3 h2 hst hpl) key
  | any => exact PE.wk (pe_callB B h1 hm (by decide +kernel) ha h3 h2 hst hpl) key
  | int => exact PE.wk (pe_callTy B h1 hm (by decide +kernel) ha h3 h2 hst hpl) key
  | list => exact PE.wk (pe_callTy B h1 hm (by decide +kernel) ha h3 h2 hst hpl) key
  | tuple => exact PE.wk (pe_callTy B h1 hm (by decide +kernel) ha h3 h2 hst hpl) key
  | str => exact PE.wk (pe_callTy B h1 hm (by decide +kernel) ha h3 h2 hst hpl) key
  | bool => exact PE.wk (pe_callTy B h1 hm (by decide +kernel) ha h3 h2 hst hpl) key
/-- a built-in class by its name -/
theorem s_ty (o : XOk T cc X W) (t : TOk T) {k : Ty} {p : Pos} (hk : tyN k ≠ "") (hg : glo cc (tyN k) = true) : ∃ n, tyV k = .type n ∧ PE X (.Name (tyN k) p) (tC (.ty n)) := by
  obtain ⟨h1, h2, h3⟩ := o.glo hg
  cases k with
  | own c => exact absurd rfl hk
  | int => exact ⟨_, rfl, pe_bltn h1 (o.blt t (by decide +kernel)) (by decide +kernel) rfl h3 h2⟩
  | bool => exact ⟨_, rfl, pe_bltn h1 (o.blt t (by decide +kernel)) (by decide +kernel) rfl h3 h2⟩
  | str => exact ⟨_, rfl, pe_bltn h1 (o.blt t (by decide +kernel)) (by decide +kernel) rfl h3 h2⟩
  | list => exact ⟨_, rfl, pe_bltn h1 (o.blt t (by decide +kernel)) (by decide +kernel) rfl h3 h2⟩
  | tuple => exact ⟨_, rfl, pe_bltn h1 (o.blt t (by decide +kernel)) (by decide +kernel) rfl h3 h2⟩
  | dict => exact ⟨_, rfl, pe_bltn h1 (o.blt t (by decide +kernel)) (by decide +kernel) rfl h3 h2⟩
theorem s_isi (o : XOk T cc X W) (t : TOk T) {k : Ty} {p p2 : Pos} (hs : isStar e = false) (hi : glo cc "isinstance" = true) (hk : tyN k ≠ "") (hg : glo cc (tyN k) = true) (ha : PE X e (rd T F W a)) :
    PE X (.Call (.Name "isinstance" p) [e, .Name (tyN k) p2] [] pos) (rd T F W (.isi a [k])) := by
  obtain ⟨h1, h2, h3⟩ := o.glo hi
  obtain ⟨n, e1, hn⟩ := s_ty (p := p2) o t hk hg
  have hm : X.mg "isinstance" = none := o.blt t (by decide +kernel)
  refine PE.wk (pe_callB call_isi h1 hm (by decide +kernel) (pa_cons ha (pa_cons hn pa_nil) (star_no hs)) h3 h2 (star_no hs)) fun σ H Q ⟨s, G, io, t, hp⟩ => ⟨s, G, io, t, ?_⟩
  refine Post.bnd hp fun d s v H1 G1 io1 sg si t1 r1 hp1 => ?_
  cases hc : tyAny d [k] with
  | none => rw [hc] at hp1; exact hp1.elim
  | some q =>
    rw [hc] at hp1
    obtain ⟨c, hcl⟩ := tyAny_cl (K := X.K) hc
    have hk2 := tyAny_kit (K := X.K) hcl hc
    have hone : PySem.W.kitOne X.K (.type c) (tyV k) = some q := by
      simp only [tyAny] at hc
      split at hc
      · rename_i b1 b2 z1 z2
        cases hc
        cases z2
        obtain ⟨c', z3, z4⟩ := tyIs_kit (K := X.K) z1
        rw [hcl] at z3; cases z3
        rw [Bool.or_false]
        exact z4
      · cases hc
    rw [e1] at hone
    have ty := tyx_of (x := T.x) t1.gh r1 hcl
    rw [← o.K] at ty
    exact ⟨v, .ty n, .type c, .type n, q, rfl, .ty n, ty, hone, hp1.v t1 rfl⟩
end
end En

namespace En
open PySem PySem.Spec L2
section
variable {T : Tb} {cc : CC} {X : Cx} {W : WX} {F : Fr} {e l r c : Expr} {es : List Expr} {a b : E} {pos : Pos}
/-! ### isinstance with a tuple of classes -/
def tysAre : List Ty → List Expr → Bool
  | [], [] => true
  | t :: ts, .Name y _ :: es => decide (tyN t = y) && decide (y ≠ "") && tysAre ts es
  | _, _ => false
theorem s_tys (o : XOk T cc X W) (t : TOk T) : ∀ {ts : List Ty} {es : List Expr}, tysAre ts es = true → (ts.all fun k => glo cc (tyN k)) = true → ∃ cs, PA X es (fun σ H Q => Q cs H) ∧ Paired ClsV cs (ts.map tyV)
  | [], [], _, _ => ⟨[], pa_nil, .nil⟩
  | k :: ts, e :: es, h, g => by
    cases e with
    | Name y p =>
      simp only [tysAre, Bool.and_eq_true, decide_eq_true_eq] at h
      obtain ⟨⟨h1, h2⟩, h3⟩ := h
      rw [List.all_cons, Bool.and_eq_true] at g
      subst h1
      obtain ⟨cs, q1, q2⟩ := s_tys o t h3 g.2
      obtain ⟨n, e1, hn⟩ := s_ty (p := p) o t h2 g.1
      refine ⟨.ty n :: cs, PA.wk (pa_cons hn q1 (star_no rfl)) fun σ H Q hq => hq, ?_⟩
      rw [List.map_cons, e1]
      exact .cons (.ty n) q2
    | _ => cases h
  | [], _ :: _, h, _ => by cases h
  | _ :: _, [], h, _ => by cases h
theorem s_isis (o : XOk T cc X W) (t : TOk T) {k : Ty} {ts : List Ty} {p p2 : Pos} {es : List Expr} {j : Nat} (hs : isStar e = false) (hi : glo cc "isinstance" = true) (hk : tysAre (k :: ts) es = true) (hg : ((k :: ts).all fun k => glo cc (tyN k)) = true)
    (hl : (k :: ts).length ≤ 1000) (ha : PE X e (rd T F W a)) : PE X (.Call (.Name "isinstance" p) [e, .Tuple es j p2] [] pos) (rd T F W (.isi a (k :: ts))) := by
  obtain ⟨h1, h2, h3⟩ := o.glo hi
  obtain ⟨cs, q1, q2⟩ := s_tys o t hk hg
  have hm : X.mg "isinstance" = none := o.blt t (by decide +kernel)
  refine PE.wk (pe_callB call_isiT h1 hm (by decide +kernel) (pa_cons ha (pa_cons (pe_tup q1) pa_nil) (star_no hs)) h3 h2 (star_no hs)) fun σ H Q ⟨s, G, io, t, hp⟩ => ⟨s, G, io, t, ?_⟩
  refine Post.bnd hp fun d s v H1 G1 io1 sg si t1 r1 hp1 => ?_
  cases hc : tyAny d (k :: ts) with
  | none => rw [hc] at hp1; exact hp1.elim
  | some q =>
    rw [hc] at hp1
    have lc : cs.length ≤ sizeLine := by
      have := Paired.length q2
      rw [this, List.length_map]
      exact Nat.le_of_lt (small1000 hl)
    refine ⟨lc, fun tp hn => ?_⟩
    obtain ⟨c, hcl⟩ := tyAny_cl (K := X.K) hc
    have hk2 := tyAny_kit (K := X.K) hcl hc
    obtain ⟨t2, sg2⟩ := t1.newfast (o := .tup cs) hn
    have ty := tyx_of (x := T.x) t2.gh (r1.mono sg2 (Pre.refl _)) hcl
    rw [← o.K] at ty
    exact ⟨v, tp, cs, .type c, _, q, rfl, upd_same, q2, ty, hk2, (hp1.anti sg2 (Pre.refl _)).v t2 rfl⟩
/-! ### calls of defs -/
theorem pe_callSD0 {CX : CXT} {k : Nat} {f : Addr} {fd : FuncData} {ps : List Str} {sp : Sp} {dvs : List V} {ds : List Value} {E : L2.St → XK} {x : Str} {p : Pos} (Fn : FnOk X.prog X.w X.K X.mg X.base CX k f fd ps sp) (hr : Room k X.A) (hg : Gl X x) (hm : X.mg x = some (.ref f))
    (hk : PySem.W.keepIn X.K (.ref f) = true) (hb : Binds X.K fd ps ds) (hd : Vals dvs ds) (hx : ∀ σ, PassesAt CX X σ (E σ)) (hdb : (x == ("__debug__" : Str)) = false) : PE X (.Call (.Name x p) [] [] pos) (tCallSD sp dvs E tNil) := by
  refine ⟨fun pins s σ H Q I h => ?_⟩
  refine wpAny_Call_Name_kw (ld_glob I hg hm ?_ hdb)
  exact PySem.W.callWith_K0 I.kIn hk (run_fnSD (us := []) Fn hr hb hd (hx σ) I .nil h)
/-- behind a call: what the callee promises gives what is wanted here -/
theorem post_call {f n : Nat} {σ : L2.St} {s : S} {G H : Hp} {io : List Addr} {ds : List D} {vs : List V} {Q : VK} (t : StR T.x F s G io σ H) (r : RpL T.x G io ds vs) (hn : ∀ ds m r, T.P f ds m = some r → ds.length = n) (hp : Post T.x F W G io (callF T.P f ds s) σ Q) :
    spOf T f n vs H Q (WE W σ) := by
  have hl : vs.length = n := by
    rw [r.length]
    cases hc : T.P f ds s.m with
    | none => unfold callF at hp; rw [hc] at hp; exact hp.elim
    | some q => exact hn _ _ _ hc
  refine ⟨hl, ds, s.m, G, io, t.gh, t.mem, r, ?_⟩
  unfold callF at hp
  unfold PostF
  split at hp
  · rename_i d m he
    try rw [he]
    intro v H' G' io' ff rv
    obtain ⟨t', sg⟩ := t.call ff
    exact hp v H' G' io' sg ff.2.2.2.2.1 t' rv
  · rename_i d m he
    try rw [he]
    intro p H' G' io' ff ni hn ⟨ws, e1, e2, e3⟩
    obtain ⟨t', sg⟩ := t.call ff
    obtain ⟨_, _, hf, _, ho⟩ := t.new (a := p) (o := .lst []) hn
    exact hp p H' G' io' sg ff.2.2.2.2.1 t' ni ⟨ws, e1, e2, hf, e3⟩ ho
  · rename_i k ns es m he
    try rw [he]
    intro cls dd H' G' io' ff ex
    obtain ⟨t', sg⟩ := t.call ff
    exact hp cls dd H' G' io' sg ff.2.2.2.2.1 t' ex
  · exact hp.elim
theorem s_cal (o : XOk T cc X W) (t : TOk T) {f : Nat} {p : Pos} {es : List Expr} (hg : glo cc (T.nt.fnm f) = true) (hlv : T.nt.isF f = true) (hne : es.isEmpty = false) (hs : es.all (fun e => !isStar e) = true) (ha : PA X es (rdA T F W a)) :
    PE X (.Call (.Name (T.nt.fnm f) p) es [] pos) (rd T F W (.cal f a)) := by
  obtain ⟨h1, h2, h3⟩ := o.glo hg
  obtain ⟨g, fd, ps, hm, hk, hF, hb, har⟩ := t.fn f hlv
  have hm' : X.mg (T.nt.fnm f) = some (.ref g) := by rw [o.mg]; exact hm
  have hF' : FnOk X.prog X.w X.K X.mg X.base (L2.CX X.prog X.w) T.lv g fd ps (spOf T f ps.length) := by
    rw [o.prog, o.w, o.K, o.mg, o.base]
    exact hF
  have hk' : PySem.W.keepIn X.K (.ref g) = true := by rw [o.K]; exact hk
  have hb' : Binds X.K fd ps [] := by rw [o.K]; exact hb
  have hr := o.room
  have key : ∀ σ H Q, rd T F W (.cal f a) σ H Q → tCallSD (spOf T f ps.length) [] (WE W) (rdA T F W a) σ H Q := fun σ H Q ⟨s, G, io, t, hp⟩ => ⟨s, G, io, t, by
    refine Post.bndA hp fun ds s vs H1 G1 io1 sg si t1 r1 hp1 => ?_
    have q := post_call (n := ps.length) t1 r1 har hp1
    rw [List.append_nil]
    exact q⟩
  cases es with
  | nil => cases hne
  | cons e es =>
    rw [List.all_cons, Bool.and_eq_true] at hs
    have hs1 : isStar e = false := by simpa using hs.1
    exact PE.wk (pe_callSD hF' hr h1 hm' hk' hb' .nil (fun σ => passAt o.tk σ) ha h2 (star_no hs1) (star_any hs.2)) key
theorem s_cal0 (o : XOk T cc X W) (t : TOk T) {f : Nat} {p : Pos} (hg : glo cc (T.nt.fnm f) = true) (hlv : T.nt.isF f = true) : PE X (.Call (.Name (T.nt.fnm f) p) [] [] pos) (rd T F W (.cal f .nil)) := by
  obtain ⟨h1, h2, h3⟩ := o.glo hg
  obtain ⟨g, fd, ps, hm, hk, hF, hb, har⟩ := t.fn f hlv
  have hm' : X.mg (T.nt.fnm f) = some (.ref g) := by rw [o.mg]; exact hm
  have hF' : FnOk X.prog X.w X.K X.mg X.base (L2.CX X.prog X.w) T.lv g fd ps (spOf T f ps.length) := by
    rw [o.prog, o.w, o.K, o.mg, o.base]
    exact hF
  have hk' : PySem.W.keepIn X.K (.ref g) = true := by rw [o.K]; exact hk
  have hb' : Binds X.K fd ps [] := by rw [o.K]; exact hb
  refine PE.wk (pe_callSD0 hF' (o.room) h1 hm' hk' hb' .nil (fun σ => passAt o.tk σ) h2) fun σ H Q ⟨s, G, io, t, hp⟩ => ?_
  exact post_call (n := ps.length) t .nil har hp
end
end En

namespace En
open PySem PySem.Spec L2
section
variable {x : SX} {G0 : Hp} {io0 : List Addr}
theorem RpL.at {ds : List D} {vs : List V} {G : Hp} {io : List Addr} {i : Nat} {v : V} {d : D} (r : RpL x G io ds vs) (e : vs[i]? = some v) (h : ds[i]? = some d) : Rp x G io d v := by
  obtain ⟨w, e1, q⟩ := r.get h
  rw [e] at e1
  cases e1
  exact q
theorem walk_lst {a : Addr} {ds : List D} {vs : List V} (h : G0 a = some (.lst vs)) (r : RpL x G0 io0 ds vs) : WalkD x G0 io0 (Itl x.K a) ds where
  go := fun i H hi sg => ⟨vs, vs[i]'(by rw [r.length]; exact hi), .of (sg _ _ h), List.getElem?_eq_getElem _⟩
  stop := fun H sg => ⟨vs, .of (sg _ _ h), by rw [r.length]; exact Nat.le_refl _⟩
  yld := fun i H v H' d sg hd hy => by
    obtain ⟨rfl, hy⟩ := hy
    have e := hy vs (.of (sg _ _ h))
    exact .inl ⟨rfl, fun G io s p => (r.at e hd).mono s p⟩
theorem walk_tup {a : Addr} {ds : List D} {vs : List V} (h : SqT x.K G0 a vs) (r : RpL x G0 io0 ds vs) : WalkD x G0 io0 (Itt x.K a) ds where
  go := fun i H hi sg => ⟨vs, vs[i]'(by rw [r.length]; exact hi), Same.tup sg h, List.getElem?_eq_getElem _⟩
  stop := fun H sg => ⟨vs, Same.tup sg h, by rw [r.length]; exact Nat.le_refl _⟩
  yld := fun i H v H' d sg hd hy => by
    obtain ⟨rfl, hy⟩ := hy
    have e := hy vs (Same.tup sg h)
    exact .inl ⟨rfl, fun G io s p => (r.at e hd).mono s p⟩
theorem walk_str {z : Str} : WalkD x G0 io0 (Its z) (z.cps.toList.map fun c => .str ⟨#[c]⟩) where
  go := fun i H hi sg => by show i < z.cps.size; simpa using hi
  stop := fun H sg => by show z.cps.size ≤ _; simp
  yld := fun i H v H' d sg hd hy => by
    obtain ⟨rfl, c, e, rfl⟩ := hy
    refine .inl ⟨rfl, fun G io s p => ?_⟩
    rw [List.getElem?_map] at hd
    have e' : z.cps.toList[i]? = some c := by simpa using e
    rw [e'] at hd
    cases hd
    rfl
theorem walk_rng {lo : Int} {n : Nat} : WalkD x G0 io0 (Itr lo n) ((List.range n).map fun (k : Nat) => .int (lo + k)) where
  go := fun i H hi sg => by show i < n; simpa using hi
  stop := fun H sg => by show n ≤ _; simp
  yld := fun i H v H' d sg hd hy => by
    obtain ⟨rfl, rfl⟩ := hy
    refine .inl ⟨rfl, fun G io s p => ?_⟩
    rw [List.getElem?_map] at hd
    by_cases hi : i < n
    · rw [List.getElem?_range hi] at hd
      cases hd
      rfl
    · rw [List.getElem?_eq_none (by simpa using hi)] at hd
      cases hd
theorem enumF_len : ∀ (n : Nat) (ds : List D), (enumF n ds).length = ds.length
  | _, [] => rfl
  | n, d :: ds => by simp [enumF, enumF_len (n + 1) ds]
theorem enumF_get : ∀ (n i : Nat) (ds : List D), (enumF n ds)[i]? = ds[i]?.map fun d => .tup [.int ((n + i : Nat) : Int), d]
  | _, _, [] => by simp [enumF]
  | n, 0, d :: ds => by simp [enumF]
  | n, i + 1, d :: ds => by
    rw [enumF, List.getElem?_cons_succ, List.getElem?_cons_succ, enumF_get (n + 1) i ds]
    have : n + 1 + i = n + (i + 1) := by omega
    rw [this]
theorem walk_enm {a : Addr} {ds : List D} {vs : List V} (h : G0 a = some (.lst vs)) (r : RpL x G0 io0 ds vs) : WalkD x G0 io0 (Ite x.K a) (enumF 0 ds) where
  go := fun i H hi sg => ⟨vs, vs[i]'(by rw [r.length]; rw [enumF_len] at hi; exact hi), .of (sg _ _ h), List.getElem?_eq_getElem _⟩
  stop := fun H sg => ⟨vs, .of (sg _ _ h), by rw [r.length, enumF_len]; exact Nat.le_refl _⟩
  yld := fun i H v H' d sg hd hy => by
    obtain ⟨p, w, rfl, hn, rfl, hy⟩ := hy
    have e := hy vs (.of (sg _ _ h))
    rw [enumF_get, Nat.zero_add] at hd
    obtain ⟨d', hd', rfl⟩ := Option.map_eq_some_iff.mp hd
    exact .inr ⟨p, _, _, hn, rfl, rfl, rfl, fun G io s q => .cons rfl (.cons ((r.at e hd').mono s q) .nil)⟩
theorem walk_zp {a b : Addr} {ds es : List D} {vs ws : List V} (h : G0 a = some (.lst vs)) (r : RpL x G0 io0 ds vs) (h2 : G0 b = some (.lst ws)) (r2 : RpL x G0 io0 es ws) :
    WalkD x G0 io0 (Itz x.K a b) (List.zipWith (fun p q => .tup [p, q]) ds es) where
  go := fun i H hi sg => by
    rw [List.length_zipWith] at hi
    exact ⟨vs, ws, vs[i]'(by rw [r.length]; omega), ws[i]'(by rw [r2.length]; omega), .of (sg _ _ h), .of (sg _ _ h2), List.getElem?_eq_getElem _, List.getElem?_eq_getElem _⟩
  stop := fun H sg => ⟨vs, ws, .of (sg _ _ h), .of (sg _ _ h2), by rw [r.length, r2.length, List.length_zipWith]; omega⟩
  yld := fun i H v H' d sg hd hy => by
    obtain ⟨p, w, w2, rfl, hn, rfl, hy1, hy2⟩ := hy
    have e := hy1 vs (.of (sg _ _ h))
    have e2 := hy2 ws (.of (sg _ _ h2))
    rw [List.getElem?_zipWith] at hd
    cases q1 : ds[i]? with
    | none => rw [q1] at hd; cases hd
    | some d1 =>
      cases q2 : es[i]? with
      | none => rw [q1, q2] at hd; cases hd
      | some d2 =>
        rw [q1, q2] at hd
        cases hd
        exact .inr ⟨p, _, _, hn, rfl, rfl, rfl, fun G io s q => .cons ((r.at e q1).mono s q) (.cons ((r2.at e2 q2).mono s q) .nil)⟩
theorem walk_zpT {H0 : Hp} {a b : Addr} {ds es : List D} {vs ws : List V} (gh : Same G0 H0) (h : SqT x.K G0 a vs) (r : RpL x G0 io0 ds vs) (h2 : SqT x.K G0 b ws) (r2 : RpL x G0 io0 es ws) :
    WalkD x G0 io0 (RZ.ItzT x.K a b) (List.zipWith (fun p q => .tup [p, q]) ds es) where
  go := fun i H hi sg => by
    rw [List.length_zipWith] at hi
    exact ⟨vs, ws, vs[i]'(by rw [r.length]; omega), ws[i]'(by rw [r2.length]; omega), Same.tup sg h, Same.tup sg h2, List.getElem?_eq_getElem _, List.getElem?_eq_getElem _⟩
  stop := fun H sg => ⟨vs, ws, Same.tup sg h, Same.tup sg h2, by rw [r.length, r2.length, List.length_zipWith]; omega⟩
  yld := fun i H v H' d sg hd hy => by
    obtain ⟨p, w, w2, rfl, hn, rfl, hy1, hy2⟩ := hy
    have e := hy1 vs (Same.tup sg h)
    have e2 := hy2 ws (Same.tup sg h2)
    rw [List.getElem?_zipWith] at hd
    cases q1 : ds[i]? with
    | none => rw [q1] at hd; cases hd
    | some d1 =>
      cases q2 : es[i]? with
      | none => rw [q1, q2] at hd; cases hd
      | some d2 =>
        rw [q1, q2] at hd
        cases hd
        exact .inr ⟨p, _, _, hn, rfl, rfl, rfl, fun G io s q => .cons ((r.at e q1).mono s q) (.cons ((r2.at e2 q2).mono s q) .nil)⟩
end
section
variable {T : Tb} {cc : CC} {X : Cx} {W : WX} {F : Fr} {e l r c tg : Expr} {es : List Expr} {a b : E} {pos : Pos}
theorem PostI.vals {x : SX} {G H : Hp} {io : List Addr} {σ : L2.St} {s : S} {ds : List D} {R : It → Hp → Prop} {J : It} (h : PostI x F W G io (some (.vals ds, s)) σ R) (t : StR x F s G io σ H) (w : WalkD x G io J ds) : R J H :=
  h J H G io (Same.refl _) (Pre.refl _) t w
theorem i_it (o : XOk T cc X W) (ha : PE X e (rd T F W a)) : PI X tg e (rdI T F W (.it a)) := by
  refine PI.wk (PI.or (pi_list ha) (PI.or (pi_tup ha) (pi_str ha))) fun σ H R ⟨s, G, io, t, hp⟩ => ?_
  have pick : ∀ (P : Prop), ((∃ ds s1, bnd (ev T.P T.Gm a s) (fun d s => some (.val d, s)) = some (.val (.lst ds), s1)) → P) → ((∃ ds s1, bnd (ev T.P T.Gm a s) (fun d s => some (.val d, s)) = some (.val (.tup ds), s1)) → P) →
      (((∀ ds s1, bnd (ev T.P T.Gm a s) (fun d s => some (.val d, s)) ≠ some (.val (.lst ds), s1)) ∧ ∀ ds s1, bnd (ev T.P T.Gm a s) (fun d s => some (.val d, s)) ≠ some (.val (.tup ds), s1)) → P) → P := by
    intro P h1 h2 h3
    by_cases z1 : ∃ ds s1, bnd (ev T.P T.Gm a s) (fun d s => some (.val d, s)) = some (.val (.lst ds), s1)
    · exact h1 z1
    · by_cases z2 : ∃ ds s1, bnd (ev T.P T.Gm a s) (fun d s => some (.val d, s)) = some (.val (.tup ds), s1)
      · exact h2 z2
      · exact h3 ⟨fun ds s1 z => z1 ⟨ds, s1, z⟩, fun ds s1 z => z2 ⟨ds, s1, z⟩⟩
  -- the value, told by what a comes to
  have step : ∀ (Q1 : VK), (∀ d s1 v H1 G1 io1, bnd (ev T.P T.Gm a s) (fun d s => some (.val d, s)) = some (.val d, s1) → StR T.x F s1 G1 io1 σ H1 → Rp T.x G1 io1 d v → PostI T.x F W G1 io1 (match itemsOf d with | some ds => some (.vals ds, s1) | none => none) σ R → Q1 v H1) → rd T F W a σ H Q1 := by
    intro Q1 hk
    refine ⟨s, G, io, t, ?_⟩
    have hp' : PostI T.x F W G io (bnd (ev T.P T.Gm a s) fun x s => match itemsOf x with | some ds => some (.vals ds, s) | none => none) σ R := hp
    unfold Post
    unfold bnd at hp' hk
    split
    · rename_i d s1 he
      rw [he] at hp' hk
      exact fun v H' G' io' sg si t' r' => hk d s1 v H' G' io' rfl t' r' (hp'.anti sg si)
    · rename_i ds s1 he
      rw [he] at hp' hk
      intro p H' G' io' sg si t' ni ow no
      obtain ⟨vs, e1, e2, e3, rr⟩ := id ow
      have s2 : Same G' (upd G' p (.lst vs)) := same_upd e2
      exact hk (.lst ds) s1 (.ref p) H' _ io' rfl (t'.fast e1 e2 e3 ni no) ⟨p, vs, rfl, upd_same, rr.mono s2 (Pre.refl _)⟩ (hp'.anti (sg.trans s2) si)
    · rename_i k ns ds s1 he
      rw [he] at hp'
      exact hp'
    · rename_i h1 h2 h3
      split at hp'
      · exact h1 _ _ (by assumption)
      · exact h2 _ _ (by assumption)
      · exact h3 _ _ _ _ (by assumption)
      · exact hp'
  refine pick _ (fun ⟨ds, s1, he⟩ => .inl (step _ fun d s2 v H1 G1 io1 he2 t1 r1 hp1 => ?_)) (fun ⟨ds, s1, he⟩ => .inr (.inl (step _ fun d s2 v H1 G1 io1 he2 t1 r1 hp1 => ?_))) (fun ⟨n1, n2⟩ => .inr (.inr (step _ fun d s2 v H1 G1 io1 he2 t1 r1 hp1 => ?_)))
  · rw [he] at he2
    cases he2
    obtain ⟨p, vs, rfl, e1, rr⟩ := r1
    refine ⟨p, rfl, ⟨vs, .of (t1.gh _ _ e1)⟩, ?_⟩
    rw [o.K]
    exact hp1.vals t1 (walk_lst e1 rr)
  · rw [he] at he2
    cases he2
    obtain ⟨p, vs, rfl, e1, rr⟩ := r1
    refine ⟨p, rfl, ⟨vs, by rw [o.K]; exact Same.tup t1.gh e1⟩, ?_⟩
    rw [o.K]
    exact hp1.vals t1 (walk_tup e1 rr)
  · cases d with
    | lst ds => exact absurd he2 (n1 _ _)
    | tup ds => exact absurd he2 (n2 _ _)
    | str z =>
      cases (show v = .str z from r1)
      exact ⟨z, rfl, hp1.vals t1 walk_str⟩
    | _ => exact hp1.elim
theorem i_rng (o : XOk T cc X W) (t : TOk T) {p : Pos} (hs : isStar e = false) (hi : glo cc "range" = true) (ha : PE X e (rd T F W a)) : PI X tg (.Call (.Name "range" p) [e] [] pos) (rdI T F W (.rng a)) := by
  obtain ⟨h1, h2, h3⟩ := o.glo hi
  refine PI.wk (pi_range1 h1 (o.blt t (by decide +kernel)) (pa_cons ha pa_nil (star_no hs)) (star_no hs)) fun σ H R ⟨s, G, io, t, hp⟩ => ⟨s, G, io, t, ?_⟩
  refine PostI.bnd hp fun d s v H1 G1 io1 sg si t1 r1 hp1 => ?_
  split at hp1
  · rename_i j
    cases (show v = .int j from r1)
    split at hp1
    · rename_i hj
      refine ⟨j, rfl, hj.1, hj.2, ?_⟩
      have w := walk_rng (x := T.x) (G0 := G1) (io0 := io1) (lo := 0) (n := j.toNat)
      simp only [Int.zero_add] at w
      exact hp1.vals t1 w
    · exact hp1.elim
  · exact hp1.elim
theorem i_rng2 (o : XOk T cc X W) (t : TOk T) {p : Pos} (hs : isStar l = false) (hs2 : isStar r = false) (hi : glo cc "range" = true) (ha : PE X l (rd T F W a)) (hb : PE X r (rd T F W b)) : PI X tg (.Call (.Name "range" p) [l, r] [] pos) (rdI T F W (.rng2 a b)) := by
  obtain ⟨h1, h2, h3⟩ := o.glo hi
  refine PI.wk (pi_range2 h1 (o.blt t (by decide +kernel)) (pa_cons ha (pa_cons hb pa_nil (star_no hs2)) (star_no hs)) ((star_no hs).trans (by rw [star_no hs2]; rfl)) (star_no hs2)) fun σ H R ⟨s, G, io, t, hp⟩ => ⟨s, G, io, t, ?_⟩
  refine PostI.bnd hp fun d s v H1 G1 io1 sg si t1 r1 hp1 => ⟨s, G1, io1, t1, ?_⟩
  refine PostI.bnd hp1 fun d2 s2 v2 H2 G2 io2 sg2 si2 t2 r2 hp2 => ?_
  split at hp2
  · rename_i i j
    cases (show v = .int i from r1)
    cases (show v2 = .int j from r2)
    split at hp2
    · rename_i hj
      refine ⟨i, j, rfl, hj, ?_⟩
      exact hp2.vals t2 walk_rng
    · exact hp2.elim
  · exact hp2.elim
theorem i_enm (o : XOk T cc X W) (t : TOk T) {p tp : Pos} {elts : List Expr} {kk : Nat} (hs : isStar e = false) (hi : glo cc "enumerate" = true) (ha : PE X e (rd T F W a)) : PI X (.Tuple elts kk tp) (.Call (.Name "enumerate" p) [e] [] pos) (rdI T F W (.enm a)) := by
  obtain ⟨h1, h2, h3⟩ := o.glo hi
  refine PI.wk (pi_enum h1 (o.blt t (by decide +kernel)) (pa_cons ha pa_nil (star_no hs)) (star_no hs)) fun σ H R ⟨s, G, io, t, hp⟩ => ⟨s, G, io, t, ?_⟩
  refine PostI.bnd hp fun d s v H1 G1 io1 sg si t1 r1 hp1 => ?_
  split at hp1
  · rename_i ds hv
    cases d with
    | lst es =>
      cases hv
      obtain ⟨q, vs, rfl, e1, rr⟩ := r1
      refine ⟨q, vs, rfl, .of (t1.gh _ _ e1), ?_⟩
      rw [o.K]
      exact hp1.vals t1 (walk_enm e1 rr)
    | _ => cases hv
  · exact hp1.elim
theorem i_zp (o : XOk T cc X W) (t : TOk T) {p tp : Pos} {elts : List Expr} {kk : Nat} (hs : isStar l = false) (hs2 : isStar r = false) (hi : glo cc "zip" = true) (ha : PE X l (rd T F W a)) (hb : PE X r (rd T F W b)) :
    PI X (.Tuple elts kk tp) (.Call (.Name "zip" p) [l, r] [] pos) (rdI T F W (.zp a b)) := by
  obtain ⟨h1, h2, h3⟩ := o.glo hi
  refine PI.wk (RZ.pi_zipA h1 (o.blt t (by decide +kernel)) (pa_cons ha (pa_cons hb pa_nil (star_no hs2)) (star_no hs)) (star_no hs) (star_any (es := [r]) (by simp [hs2]))) fun σ H R ⟨s, G, io, t, hp⟩ => ⟨s, G, io, t, ?_⟩
  refine PostI.bnd hp fun d s v H1 G1 io1 sg si t1 r1 hp1 => ⟨s, G1, io1, t1, ?_⟩
  refine PostI.bnd hp1 fun d2 s2 v2 H2 G2 io2 sg2 si2 t2 r2 hp2 => ?_
  cases d with
  | lst ds =>
    cases d2 with
    | lst es =>
      obtain ⟨q, vs, rfl, e1, rr⟩ := r1.mono sg2 si2
      obtain ⟨q2, ws, rfl, e2, rr2⟩ := r2
      refine ⟨q, q2, vs, ws, rfl, .inl ⟨.of (t2.gh _ _ e1), .of (t2.gh _ _ e2), ?_⟩⟩
      rw [o.K]
      exact (show PostI T.x F W G2 io2 (some (.vals (List.zipWith (fun p q => .tup [p, q]) ds es), s2)) σ R from hp2).vals t2 (walk_zp e1 rr e2 rr2)
    | _ => exact (show False from hp2).elim
  | tup ds =>
    cases d2 with
    | tup es =>
      obtain ⟨q, vs, rfl, e1, rr⟩ := r1.mono sg2 si2
      obtain ⟨q2, ws, rfl, e2, rr2⟩ := r2
      refine ⟨q, q2, vs, ws, rfl, .inr ⟨by rw [o.K]; exact Same.tup t2.gh e1, by rw [o.K]; exact Same.tup t2.gh e2, ?_⟩⟩
      rw [o.K]
      exact (show PostI T.x F W G2 io2 (some (.vals (List.zipWith (fun p q => .tup [p, q]) ds es), s2)) σ R from hp2).vals t2 (walk_zpT t2.gh e1 rr e2 rr2)
    | _ => exact (show False from hp2).elim
  | _ => exact (show False from hp2).elim
end
end En

namespace En
open PySem PySem.Spec L2
/-! ### a frame within a frame -/
section
variable {x : SX} {F : Fr} {G H G1 H1 : Hp} {io io1 : List Addr} {σ σ1 : L2.St} {s s1 : S} {m : List MO}
theorem FF.refl (gh : Same G H) (hm : MemA x G io H m) : FF x H G io m H G io :=
  ⟨gh, hm, fun _ _ e _ => e, fun _ _ => rfl, Pre.refl _, fun n a hn e => by
    rw [List.getElem?_eq_none (by omega)] at e; cases e⟩
/-- a state over the frame that begins at H is behind H as a call is -/
theorem StR.ff (t : StR x ⟨H, G, io⟩ s1 G1 io1 σ1 H1) : FF x H G io s1.m H1 G1 io1 := ⟨t.gh, t.mem, t.kh, t.kg, t.ki, t.ni⟩
theorem FF.trans {H2 G2 : Hp} {io2 : List Addr} {m2 : List MO} (hm : MemA x G io H m) (a : FF x H G io s1.m H1 G1 io1) (b : FF x H1 G1 io1 m2 H2 G2 io2) : FF x H G io m2 H2 G2 io2 := by
  obtain ⟨a1, a2, a3, a4, a5, a6⟩ := a
  obtain ⟨b1, b2, b3, b4, b5, b6⟩ := b
  have mem : ∀ {b : Addr}, b ∈ io → ∃ o, H b = some o := fun {b} hb => by
    obtain ⟨n, hn, e⟩ := List.getElem_of_mem hb
    have hl : n < m.length := by rw [hm.1]; exact hn
    have q := hm.2.2 n _ b (List.getElem?_eq_getElem hl) (by rw [List.getElem?_eq_getElem hn, e])
    cases hmo : m[n] with
    | bx ds =>
      rw [hmo] at q
      obtain ⟨vs, q1, _⟩ := q
      exact ⟨_, q1⟩
  have n1 : ∀ {b : Addr}, b ∉ io → H b ≠ none → b ∉ io1 := fun {b} h1 h2 hm => by
    obtain ⟨n, hn, e⟩ := List.getElem_of_mem hm
    by_cases hl : n < io.length
    · obtain ⟨k, hk⟩ := a5
      apply h1
      have : io1[n] = io[n] := by simp [hk, List.getElem_append_left hl]
      rw [← e, this]
      exact List.getElem_mem _
    · exact h2 (a6 n b (by omega) (by rw [List.getElem?_eq_getElem hn, e]))
  have up : ∀ {b : Addr}, H1 b = none → H b = none := fun {b} e => by
    cases z : H b with
    | none => rfl
    | some o =>
      by_cases hb : b ∈ io
      · obtain ⟨n, hn, e2⟩ := List.getElem_of_mem hb
        obtain ⟨k, hk⟩ := a5
        have hn1 : n < io1.length := by rw [hk, List.length_append]; omega
        have hl : n < s1.m.length := by rw [a2.1]; exact hn1
        have q := a2.2.2 n _ b (List.getElem?_eq_getElem hl) (by rw [List.getElem?_eq_getElem hn1]; simp [hk, List.getElem_append_left hn, e2])
        cases hmo : s1.m[n] with
        | bx ds =>
          rw [hmo] at q
          obtain ⟨vs, q1, _⟩ := q
          rw [e] at q1; cases q1
      · rw [a3 b o z hb] at e; cases e
  refine ⟨b1, b2, fun b o e n => b3 b o (a3 b o e n) (n1 n (by rw [e]; simp)), fun b hb => ?_, a5.trans b5, fun n a hn e => ?_⟩
  · rw [b4 b (fun z => hb (up z)), a4 b hb]
  · by_cases hl : n < io1.length
    · obtain ⟨k, hk⟩ := b5
      rw [hk, List.getElem?_append_left hl] at e
      exact a6 n a hn e
    · exact up (b6 n a (by omega) e)
theorem valR_get : ∀ {r : List (Option Cell)} {i : Nat} {c : Cell}, (valR r)[i]? = some (some c) → r[i]? = some (some c) ∧ isOwn c = false
  | [], i, c, h => by simp [valR] at h
  | o :: r, 0, c, h => by
    cases o with
    | none => simp [valR] at h
    | some c' => cases c' <;> simp [valR] at h <;> (subst h; exact ⟨rfl, rfl⟩)
  | o :: r, i + 1, c, h => by
    have h' : (valR r)[i]? = some (some c) := by
      cases o with
      | none => simpa [valR] using h
      | some c' => cases c' <;> simpa [valR] using h
    simpa using valR_get h'
theorem valR_len : ∀ (r : List (Option Cell)), (valR r).length = r.length
  | [] => rfl
  | none :: r => by simp [valR, valR_len r]
  | some (.val _) :: r => by simp [valR, valR_len r]
  | some (.ol _) :: r => by simp [valR, valR_len r]
  | some (.od _ _) :: r => by simp [valR, valR_len r]
theorem wipeR_len (r : List (Option Cell)) : ∀ (vs : List Nat), (wipeR r vs).length = r.length
  | [] => rfl
  | v :: vs => by unfold wipeR; rw [List.length_set, wipeR_len r vs]
theorem wipeR_get {r : List (Option Cell)} {i : Nat} {c : Cell} : ∀ {vs : List Nat}, (wipeR r vs)[i]? = some (some c) → r[i]? = some (some c) ∧ i ∉ vs
  | [], h => ⟨h, by simp⟩
  | v :: vs, h => by
    unfold wipeR at h
    by_cases hi : v = i
    · subst hi
      by_cases hv : v < (wipeR r vs).length
      · rw [List.getElem?_set_self hv] at h; cases h
      · rw [List.getElem?_eq_none (by simpa using hv)] at h; cases h
    · rw [List.getElem?_set_ne hi] at h
      obtain ⟨a, b⟩ := wipeR_get h
      exact ⟨a, by simp [b, Ne.symm hi]⟩
theorem wipe_get {σ : L2.St} {i : Nat} {v : V} : ∀ {vs : List Nat}, i ∉ vs → σ[i]? = some (some v) → (wipe σ vs)[i]? = some (some v)
  | [], _, h => h
  | w :: vs, hn, h => by
    unfold wipe
    rw [List.getElem?_set_ne (fun z => hn (by simp [z]))]
    exact wipe_get (fun z => hn (List.mem_cons_of_mem _ z)) h
/-- the data of a frame, for a block that begins now -/
theorem StR.inner {own : List Nat} (t : StR x F s G io σ H) (ff : FF x H G io m H1 G1 io1) (sg : Same G G1) : StR x ⟨H1, G1, io1⟩ ⟨wipeR (valR s.r) own, m⟩ G1 io1 (wipe σ own) H1 where
  gh := ff.1
  len := by rw [wipeR_len, valR_len, wipe_length]; exact t.len
  slot := fun i c e => by
    obtain ⟨e1, hn⟩ := wipeR_get e
    obtain ⟨e2, ho⟩ := valR_get e1
    obtain ⟨v, q1, q2⟩ := t.slot i c e2
    refine ⟨v, wipe_get hn q1, ?_⟩
    cases c with
    | val d => exact Rp.mono sg ff.2.2.2.2.1 q2
    | _ => cases ho
  own := fun i j c c' v _ e1 _ o1 => by
    obtain ⟨e2, _⟩ := wipeR_get e1
    obtain ⟨_, ho⟩ := valR_get e2
    rw [o1] at ho; cases ho
  mem := ff.2.1
  kh := fun _ _ e _ => e
  kg := fun _ _ => rfl
  ki := Pre.refl _
  ni := fun n a hn e => by
    have hn : io1.length ≤ n := hn
    rw [List.getElem?_eq_none (by omega)] at e; cases e
end
/-! ### the block of a comprehension -/
theorem relS_lookup {scope sc : Scope} {y : Str} {k : NameKind} (h : scope.names.lookup y = some k) (hk : k ≠ .free) : (relS scope sc).names.lookup y = some k := by
  unfold relS
  have key : ∀ (l : List (Str × NameKind)), l.lookup y = some k → (l.map fun (p : Str × NameKind) => if (p.2 == .free && sc.kind == .function && sc.names.lookup p.1 == some .cell) then (p.1, NameKind.cell) else (p.1, p.2)).lookup y = some k := by
    intro l
    induction l with
    | nil => intro h; cases h
    | cons p l ih =>
      intro h
      obtain ⟨n, q⟩ := p
      rw [List.lookup_cons] at h
      rw [List.map_cons]
      cases hn : (y == n) with
      | true =>
        rw [hn] at h
        have h : some q = some k := h
        injection h with h
        subst h
        have hq : (q == NameKind.free) = false := by
          cases q <;> first | rfl | exact absurd rfl hk
        show List.lookup y ((if (q == .free && sc.kind == .function && sc.names.lookup n == some .cell) = true then (n, NameKind.cell) else (n, q)) :: _) = _
        rw [hq, Bool.false_and, Bool.false_and, if_neg Bool.false_ne_true, List.lookup_cons, hn]
      | false =>
        rw [hn] at h
        have ih' := ih h
        show List.lookup y ((if (q == .free && sc.kind == .function && sc.names.lookup n == some .cell) = true then (n, NameKind.cell) else (n, q)) :: _) = _
        split
        · rw [List.lookup_cons, hn]
          exact ih'
        · rw [List.lookup_cons, hn]
          exact ih'
  exact key _ h
section
variable {T : Tb} {cc : CC} {X : Cx} {W : WX} {F : Fr}
abbrev W0 : WX := fun _ _ _ _ => False
theorem takesW0 {X : Cx} : Takes X W0 := fun _ _ x => by
  obtain ⟨_, _, _, _, _, _, _, _, _, _, _, _, _, _, _, _, z⟩ := x
  exact z.elim
theorem XOk.blk (o : XOk T cc X W) {scope : Scope} {own : List (Str × Nat)} (hb : BlkOk X.N X.env.scope scope own) (s : Shared) (H : Hp) (C : Addr) (cl : List (Str × Addr)) (fp : List Addr) :
    XOk T (cc.blk scope) (X.blk s H scope (compEnvC scope cl C X.env) fp) W0 where
  prog := o.prog
  w := o.w
  K := o.K
  mg := o.mg
  base := o.base
  N := o.N
  nd := o.nd
  sc := by show relS scope X.env.scope = relS scope cc.sc; rw [o.sc]
  calm := o.calm
  tk := takesW0
  po := PassesOwn.never
  room := o.room
  loc := fun y hy => by
    obtain ⟨⟨n, k⟩, hp, rfl⟩ := List.mem_map.mp hy
    obtain ⟨hp1, hp2⟩ := List.mem_filter.mp hp
    have hu := hb.uniq _ hp1
    simp only [Bool.or_eq_true, decide_eq_true_eq] at hp2
    show Loc (relS scope X.env.scope) n ∧ ((scope.names.lookup n == some .cell) = true ∨ (relS scope X.env.scope).names.lookup n = some .local)
    rcases hp2 with z | z
    · subst z
      exact ⟨.inl (relS_lookup hu (by decide)), .inr (relS_lookup hu (by decide))⟩
    · subst z
      refine ⟨.inr (relS_lookup hu (by decide)), .inl ?_⟩
      rw [show scope.names.lookup n = some NameKind.cell from hu]
      rfl
/-- a reading whatever the frame is -/
def rdF (T : Tb) (W : WX) (c : E) : TE := fun σ H Q => ∃ F, rd T F W c σ H Q
def rdTF (T : Tb) (W : WX) (c : E) : TT := fun σ H Q => ∃ F, rdT T F W c σ H Q
def rdGF (T : Tb) (c : E) : TG := fun v σ H Q => ∃ F, rdG T F c v σ H Q
theorem PE.exF {e : Expr} {c : E} (h : ∀ F, PE X e (rd T F W c)) : PE X e (rdF T W c) := ⟨fun pins s σ H Q I ⟨F, q⟩ => (h F).run pins s σ H Q I q⟩
theorem PT.exF {e : Expr} {c : E} (h : ∀ F, PT X e (rdT T F W c)) : PT X e (rdTF T W c) := ⟨fun pins s σ H Q I ⟨F, q⟩ => (h F).run pins s σ H Q I q⟩
theorem PG.exF {e : Expr} {c : E} (h : ∀ F, PG X e (rdG T F c)) : PG X e (rdGF T c) := ⟨fun pins s σ H v u Q I r ⟨F, q⟩ => (h F).run pins s σ H v u Q I r q⟩
theorem PTs.yes {c : E} (hc : c = .cst (.bl true)) : PTs X [] (rdTF T W c) := ⟨fun pins s σ H Q I ⟨F, s', G, io, t, hp⟩ => pts_nil.run pins s σ H Q I (by
  subst hc
  obtain ⟨b, e, q⟩ := Post.v hp t (v := .bl true) rfl
  cases e
  exact q)⟩
end
/-- the heap's list at D grows beside the frame -/
theorem FF.side {x : SX} {H1 G1 H G : Hp} {io1 io : List Addr} {m : List MO} {D : Addr} {o : HO} (hD : H1 D = none) (gD : G D = none) (iD : D ∉ io) (f : FF x H1 G1 io1 m H G io) : FF x H1 G1 io1 m (upd H D o) G io := by
  obtain ⟨f1, f2, f3, f4, f5, f6⟩ := f
  refine ⟨fun b u e => ?_, ⟨f2.1, f2.2.1, fun n mo a e1 e2 => ?_⟩, fun b u e n => ?_, f4, f5, f6⟩
  · rw [upd_ne (fun z => by rw [z, gD] at e; cases e)]
    exact f1 _ _ e
  · have q := f2.2.2 n mo a e1 e2
    have ne : a ≠ D := fun z => iD (by rw [← z]; exact List.mem_of_getElem? e2)
    cases mo with
    | bx ds =>
      obtain ⟨vs, q1, q2⟩ := q
      exact ⟨vs, by rw [upd_ne ne]; exact q1, q2⟩
  · rw [upd_ne (fun z => by rw [z, hD] at e; cases e)]
    exact f3 _ _ e n
end En

namespace En
open PySem PySem.Spec L2
/-- what a walk yields, as data of the state -/
theorem yield_rp {x : SX} {F : Fr} {G0 G H H' : Hp} {io0 io : List Addr} {J : It} {ds : List D} {i : Nat} {v : V} {d : D} {s : S} {σ : L2.St} (w : WalkD x G0 io0 J ds) (t : StR x F s G io σ H) (s0 : Same G0 G) (p0 : Pre io0 io)
    (hd : ds[i]? = some d) (hy : J.yld i H v H') : ∃ G', Same G G' ∧ StR x F s G' io σ H' ∧ Rp x G' io d v ∧ Same H H' := by
  rcases w.yld i H v H' d (s0.trans t.gh) hd hy with ⟨rfl, r⟩ | ⟨p, vs, es, hn, rfl, rfl, rfl, r⟩
  · exact ⟨G, Same.refl _, t, r G io s0 p0, Same.refl _⟩
  · obtain ⟨t', sg⟩ := t.newfast (o := .tup vs) hn
    exact ⟨_, sg, t', ⟨p, vs, rfl, .of upd_same, r _ io (s0.trans sg) p0⟩, same_upd hn⟩
theorem wipe_wipe {σ : L2.St} {ks : List Nat} : ∀ {js : List Nat}, (∀ j ∈ js, j ∈ ks) → wipe (wipe σ js) ks = wipe σ ks
  | [], _ => rfl
  | j :: js, h => by
    show wipe ((wipe σ js).set j none) ks = _
    rw [wipe_set (h j List.mem_cons_self)]
    exact wipe_wipe fun k hk => h k (List.mem_cons_of_mem _ hk)
/-- a run that comes to a list: each part of it comes to a value -/
theorem Post.run {x : SX} {F : Fr} {W : WX} {G : Hp} {io : List Addr} {σ : L2.St} {o : Res} {k : D → S → Res} {Q1 : VK} {a : List D} {s' : S} (h : En.bnd o k = some (.frs a, s'))
    (hk : ∀ d s v H' G' io', Same G G' → Pre io io' → StR x F s G' io' σ H' → Rp x G' io' d v → k d s = some (.frs a, s') → Q1 v H') : Post x F W G io o σ Q1 := by
  unfold Post
  unfold En.bnd at h
  split
  · exact fun v H' G' io' sg si t r => hk _ _ v H' G' io' sg si t r h
  · rename_i ds s
    refine fun a H' G' io' sg sp t ni ow no => ?_
    obtain ⟨vs, e1, e2, e3, r⟩ := id ow
    have s2 : Same G' (upd G' a (.lst vs)) := same_upd e2
    exact hk (.lst ds) s (.ref a) H' _ io' (sg.trans s2) sp (t.fast e1 e2 e3 ni no) ⟨a, vs, rfl, upd_same, r.mono s2 (Pre.refl _)⟩ h
  · cases h
  · rename_i h1 h2 h3
    split at h
    · exact h1 _ _ rfl
    · exact h2 _ _ rfl
    · exact h3 _ _ _ _ rfl
    · cases h
section
variable {T : Tb} {cc : CC} {X : Cx} {W : WX} {F : Fr} {pos : Pos}
theorem lc_key {own : List (Str × Nat)} {tgc it cd el : E} (hsub : ∀ j ∈ tgIx tgc, j ∈ own.map (·.2)) {σ : L2.St} {H : Hp} {Q : VK} (hq : rd T F W (.lc (own.map (·.2)) tgc it cd el) σ H Q) :
    tLc (rdI T F W it) (rdGF T tgc) (rdTF T W0 cd) (rdF T W0 el) (own.map (·.2)) σ H Q := by
  obtain ⟨s, G, io, t, hp⟩ := hq
  refine ⟨s, G, io, t, ?_⟩
  refine Post.bndI hp fun ds s1 J H1 G1 io1 sg1 si1 t1 wk hp1 => fun D hD => ?_
  split at hp1
  · rename_i accF sF hfin
    have hG1 : G1 D = none := by
      cases e : G1 D with
      | none => rfl
      | some u => rw [t1.gh _ _ e] at hD; cases hD
    obtain ⟨tD, _, fD, nD, oD⟩ := t1.new (o := .lst []) hD
    refine ⟨fun i mm H => mm = ds.length - i ∧ i ≤ ds.length ∧ ∃ m2 G2 io2 acc avs, FF T.x H1 G1 io1 m2 H G2 io2 ∧ H D = some (.lst avs) ∧ G2 D = none ∧ D ∉ io2 ∧ RpL T.x G2 io2 acc avs ∧
        compL (store tgc) (ev T.P T.Gm cd) (ev T.P T.Gm el) (wipeR (valR s1.r) (own.map (·.2))) (ds.drop i) acc m2 = some (.frs accF, sF), ⟨ds.length, by simp, Nat.zero_le _, s1.m, G1, io1, [], [], ?_, upd_same, hG1, nD, .nil, ?_⟩, ?_⟩
    · exact (FF.refl t1.gh t1.mem).side hD hG1 nD
    · rw [List.drop_zero]
      exact hfin
    · rintro i mm Hc ⟨rfl, hi, m2, G2, io2, acc, avs, ff, eD, gD, iD, racc, hrun⟩
      have s12 : Same G1 G2 := (t1.call ff).2
      by_cases hlt : i < ds.length
      · have hd : ds[i]? = some ds[i] := List.getElem?_eq_getElem hlt
        refine .inr ⟨wk.go i Hc hlt (s12.trans ff.1), fun H' => ∃ m2 G2 io2 acc avs, FF T.x H1 G1 io1 m2 H' G2 io2 ∧ H' D = some (.lst avs) ∧ G2 D = none ∧ D ∉ io2 ∧ RpL T.x G2 io2 acc avs ∧
          compL (store tgc) (ev T.P T.Gm cd) (ev T.P T.Gm el) (wipeR (valR s1.r) (own.map (·.2))) (ds.drop (i + 1)) acc m2 = some (.frs accF, sF), fun H' hN => ⟨ds.length - (i + 1), by omega, rfl, hlt, hN⟩, fun v H' hy => ?_⟩
        -- the turn
        have tin := t1.inner (own := own.map (·.2)) ff s12
        obtain ⟨G3, sg3, t3, r3, sh3⟩ := yield_rp wk tin s12 ff.2.2.2.2.1 hd hy
        rw [List.drop_eq_getElem_cons hlt] at hrun
        simp only [compL] at hrun
        -- the frame of the turn begins at H'
        have ffi : FF T.x Hc G2 io2 m2 H' G3 io2 := t3.ff
        have eD' : H' D = some (.lst avs) := sh3 _ _ eD
        have gD' : G3 D = none := by rw [ffi.2.2.2.1 D (by rw [eD]; simp)]; exact gD
        have tt : StR T.x ⟨H', G3, io2⟩ ⟨wipeR (valR s1.r) (own.map (·.2)), m2⟩ G3 io2 (wipe σ (own.map (·.2))) H' := t1.inner (FF.trans t1.mem (s1 := ⟨[], m2⟩) ff ffi) (s12.trans sg3)
        cases hst : store tgc ds[i] ⟨wipeR (valR s1.r) (own.map (·.2)), m2⟩ with
        | none => rw [hst] at hrun; cases hrun
        | some s4 =>
          rw [hst] at hrun
          refine ⟨⟨H', G3, io2⟩, _, G3, io2, ds[i], s4, tt, r3, hst, fun σ2 t4 hw => ⟨(hw _ hsub).trans (wipe_wipe fun _ h => h), ?_⟩⟩
          -- what remains of the run
          have fin : ∀ {H5 G5 : Hp} {io5 : List Addr} {s5 : S} {σ5 : L2.St}, StR T.x ⟨H', G3, io2⟩ s5 G5 io5 σ5 H5 → FF T.x H1 G1 io1 s5.m H5 G5 io5 ∧ H5 D = some (.lst avs) ∧ G5 D = none ∧ D ∉ io5 ∧ RpL T.x G5 io5 acc avs := by
            intro H5 G5 io5 s5 σ5 t5
            have f5 := t5.ff
            have ne : H' D ≠ none := by rw [eD']; simp
            have i5 : D ∉ io5 := fun hm => by
              obtain ⟨n, hn, e⟩ := List.getElem_of_mem hm
              by_cases hl : n < io2.length
              · obtain ⟨k, hk⟩ := f5.2.2.2.2.1
                apply iD
                have : io5[n] = io2[n] := by simp [hk, List.getElem_append_left hl]
                rw [← e, this]
                exact List.getElem_mem _
              · exact ne (f5.2.2.2.2.2 n D (by omega) (by rw [List.getElem?_eq_getElem hn, e]))
            refine ⟨FF.trans t1.mem (s1 := ⟨[], m2⟩) (FF.trans t1.mem (s1 := ⟨[], m2⟩) ff ffi) f5, f5.2.2.1 D _ eD' iD, by rw [f5.2.2.2.1 D ne]; exact gD', i5, racc.mono ?_ f5.2.2.2.2.1⟩
            exact sg3.trans fun b u e => by rw [f5.2.2.2.1 b (by rw [t3.gh _ _ e]; simp)]; exact e
          refine ⟨⟨H', G3, io2⟩, s4, G3, io2, t4, ?_⟩
          refine Post.run hrun fun c s5 vc H5 G5 io5 sg5 si5 t5 r5 hrun5 => ?_
          cases c with
          | bl b =>
            cases (show vc = .bl b from r5)
            refine ⟨b, rfl, ?_⟩
            cases b with
            | false =>
              refine iteF ?_
              obtain ⟨f1, f2, f3, f4, f5⟩ := fin t5
              exact ⟨s5.m, G5, io5, acc, avs, f1, f2, f3, f4, f5, hrun5⟩
            | true =>
              refine iteT ⟨⟨H', G3, io2⟩, s5, G5, io5, t5, ?_⟩
              refine Post.run hrun5 fun y s6 vy H6 G6 io6 sg6 si6 t6 r6 hrun6 => ?_
              split at hrun6
              · rename_i hl
                obtain ⟨f1, f2, f3, f4, f5⟩ := fin t6
                refine ⟨avs, f2, by rw [f5.length]; exact big_lt hl, s6.m, G6, io6, acc ++ [y], avs ++ [vy], f1.side hD f3 f4, upd_same, f3, f4, f5.append (.cons r6 .nil), hrun6⟩
              · cases hrun6
          | _ => cases hrun5
      · have e : i = ds.length := by omega
        subst e
        rw [List.drop_length] at hrun
        simp only [compL] at hrun
        cases hrun
        refine .inl ⟨wk.stop Hc (s12.trans ff.1), ?_⟩
        obtain ⟨t2, _⟩ := t1.call ff
        exact hp1 D Hc G2 io2 s12 ff.2.2.2.2.1 t2 iD ⟨avs, eD, gD, fD, racc⟩ oD
  · exact hp1.elim
theorem s_lc (o : XOk T cc X W) {elt tg iter : Expr} {ifs : List Expr} {scope : Scope} {own : List (Str × Nat)} {tgc it cd el : E} (hb : BlkOk X.N X.env.scope scope own) (hsub : ∀ j ∈ tgIx tgc, j ∈ own.map (·.2)) (hi : PI X tg iter (rdI T F W it)) (hset : isSet iter = false)
    (hg : ∀ (X' : Cx), XOk T (cc.blk scope) X' W0 → ∀ F, PG X' tg (rdG T F tgc))
    (ht : ∀ (X' : Cx), XOk T (cc.blk scope) X' W0 → PTs X' ifs (rdTF T W0 cd))
    (he : ∀ (X' : Cx), XOk T (cc.blk scope) X' W0 → ∀ F, PE X' elt (rd T F W0 el)) :
    PE X (.ListComp elt [⟨tg, iter, ifs, 0⟩] scope pos) (rd T F W (.lc (own.map (·.2)) tgc it cd el)) :=
  PE.wk (pe_lc (own := own) o.calm o.nd hi hb (fun s H C cl fp => PG.exF (hg _ (o.blk hb s H C cl fp))) (fun s H C cl fp => ht _ (o.blk hb s H C cl fp)) (fun s H C cl fp => PE.exF (he _ (o.blk hb s H C cl fp))) (folded_no hset)) fun σ H Q hq => lc_key hsub hq
/-- a comprehension that is laid straight into a name -/
theorem s_asnLc (o : XOk T cc X W) {i : Nat} {y : Str} {py spos : Pos} {S : E} {elt tg iter : Expr} {ifs : List Expr} {scope : Scope} {own : List (Str × Nat)} {tgc it cd el : E} (hb : BlkOk X.N X.env.scope scope own) (hsub : ∀ j ∈ tgIx tgc, j ∈ own.map (·.2)) (hi : PI X tg iter (rdI T F W it)) (hset : isSet iter = false)
    (hg : ∀ (X' : Cx), XOk T (cc.blk scope) X' W0 → ∀ F, PG X' tg (rdG T F tgc))
    (ht : ∀ (X' : Cx), XOk T (cc.blk scope) X' W0 → PTs X' ifs (rdTF T W0 cd))
    (he : ∀ (X' : Cx), XOk T (cc.blk scope) X' W0 → ∀ F, PE X' elt (rd T F W0 el))
    (hS : ∀ D σ H, rdS T F W S D σ H → rd T F W (.lc (own.map (·.2)) tgc it cd el) σ H (fun v H1 => D.nx (σ.set i (some v)) H1)) (h : tgt cc i y = true) (hk : cc.sc.kind = .function) (hy : cc.sc.names.lookup y = some .local) (hl : (py.line == pos.line) = true)
    (ha : (scope.names.any fun (n, k) => n == y && (k == .local || k == .cell)) = false) :
    PS X (.Assign [.Name y py] (.ListComp elt [⟨tg, iter, ifs, 0⟩] scope pos) spos) (rdS T F W S) :=
  PS.wk (ps_setLc (own := own) o.calm o.nd (o.tgt h).1 (by rw [o.sc]; exact hy) (sw_true (by rw [o.sc]; exact hk) (by rw [o.sc]; exact hy) hl ha) hi hb (fun s H C cl fp => PG.exF (hg _ (o.blk hb s H C cl fp))) (fun s H C cl fp => ht _ (o.blk hb s H C cl fp)) (fun s H C cl fp => PE.exF (he _ (o.blk hb s H C cl fp))) (folded_no hset))
    fun D σ H hq => lc_key hsub (hS D σ H hq)
end
end En

namespace En
open PySem PySem.Spec L2
section
variable {T : Tb} {cc : CC} {X : Cx} {W : WX} {F : Fr} {pos : Pos} {e l r c tg : Expr} {es : List Expr} {a b : E} {st : Stmt} {sts : List Stmt}
/-! ### statements -/
theorem s_skp : PS X (.Pass pos) (rdS T F W .skp) := PS.wk ps_pass fun D σ H ⟨s, G, io, t, hp⟩ => hp σ H G io (Same.refl _) (Pre.refl _) t
theorem b_nil : PSs X [] (rdS T F W .skp) := PSs.wk pss_nil fun D σ H ⟨s, G, io, t, hp⟩ => hp σ H G io (Same.refl _) (Pre.refl _) t
theorem PostS.seq {x : SX} {G : Hp} {io : List Addr} {o : Res} {k : S → Res} {D : Ends} {Nx : L2.St → Hp → Prop} (h : PostS x F W G io (match o with | some (.nx, s) => k s | r => r) D)
    (hk : ∀ s σ' H' G' io', Same G G' → Pre io io' → StR x F s G' io' σ' H' → PostS x F W G' io' (k s) D → Nx σ' H') : PostS x F W G io o { D with nx := Nx } := by
  unfold PostS
  split
  · rename_i s
    exact fun σ' H' G' io' sg si t => hk s σ' H' G' io' sg si t (PostS.anti (show PostS x F W G io (k s) D from h) sg si)
  all_goals first
    | exact h
    | skip
  rename_i h1 h2 h3 h4 h5 h6
  split at h
  · rename_i s
    exact absurd rfl (h1 s)
  · unfold PostS at h
    split at h
    · exact h1 _ rfl
    · exact h2 _ rfl
    · exact h3 _ rfl
    · exact h4 _ _ rfl
    · exact h5 _ _ rfl
    · exact h6 _ _ _ _ rfl
    · exact h
theorem b_seq (h1 : PS X st (rdS T F W a)) (h2 : PSs X sts (rdS T F W b)) : PSs X (st :: sts) (rdS T F W (.seq a b)) := by
  refine PSs.wk (pss_cons h1 h2) fun D σ H ⟨s, G, io, t, hp⟩ => ⟨s, G, io, t, ?_⟩
  exact PostS.seq (k := ev T.P T.Gm b) hp fun s σ' H' G' io' sg si t' hp' => ⟨s, G', io', t', hp'⟩
theorem s_ret (ha : PE X e (rd T F W a)) : PS X (.Return (some e) pos) (rdS T F W (.ret a)) := by
  refine PS.wk (ps_ret ha) fun D σ H ⟨s, G, io, t, hp⟩ => ⟨s, G, io, t, ?_⟩
  simp only [ev] at hp
  unfold Post
  split
  · rename_i d s1 he
    rw [he] at hp
    exact fun v H' G' io' sg si t' r => hp v σ H' G' io' sg si t' r
  · rename_i d s1 he
    rw [he] at hp
    exact fun v H' G' io' sg si t' ni ow no => hp v σ H' G' io' sg si t' ni ow
  · rename_i k ns d s1 he
    rw [he] at hp
    exact fun cls dd H' G' io' sg si t' ex => hp cls dd σ H' G' io' sg si t' ex
  · rename_i h1 h2 h3
    split at hp
    · exact h1 _ _ (by assumption)
    · exact h2 _ _ (by assumption)
    · exact h3 _ _ _ _ (by assumption)
    · exact hp
theorem s_rtn : PS X (.Return none pos) (rdS T F W .rtn) := PS.wk ps_retN fun D σ H ⟨s, G, io, t, hp⟩ => hp .non σ H G io (Same.refl _) (Pre.refl _) t rfl
theorem s_iff {k : E} {xs ys : List Stmt} (hc : PT X c (rdT T F W k)) (ha : PSs X xs (rdS T F W a)) (hb : PSs X ys (rdS T F W b)) : PS X (.If c xs ys pos) (rdS T F W (.iff k a b)) := by
  refine PS.wk (ps_if hc ha hb) fun D σ H ⟨s, G, io, t, hp⟩ => ⟨s, G, io, t, ?_⟩
  refine PostS.bnd hp fun d s v H1 G1 io1 sg si t1 r1 hp1 => ?_
  split at hp1
  · rename_i k
    refine ⟨k, r1, ?_⟩
    cases k with
    | true => exact iteT ⟨s, G1, io1, t1, hp1⟩
    | false => exact iteF ⟨s, G1, io1, t1, hp1⟩
  · exact hp1.elim
theorem s_exp (hs : isComp e = false) (ha : PE X e (rd T F W a)) : PS X (.Expr e pos) (rdS T F W (.exp a)) := by
  refine PS.wk (ps_expr ha (swaps_no hs)) fun D σ H ⟨s, G, io, t, hp⟩ => ⟨s, G, io, t, ?_⟩
  refine PostS.bnd hp fun d s v H1 G1 io1 sg si t1 r1 hp1 => ?_
  exact hp1 σ H1 G1 io1 (Same.refl _) (Pre.refl _) t1
theorem asg_rd {i : Nat} {D : Ends} {σ : L2.St} {H : Hp} (h : rdS T F W (.asg i a) D σ H) : rd T F W a σ H (fun v H1 => D.nx (σ.set i (some v)) H1) := by
  obtain ⟨s, G, io, t, hp⟩ := h
  refine ⟨s, G, io, t, ?_⟩
  refine PostS.bnd hp fun d s v H1 G1 io1 sg si t1 r1 hp1 => ?_
  exact hp1 _ H1 G1 io1 (Same.refl _) (Pre.refl _) (t1.setv r1)
/-- a slot is given a list of its own -/
theorem StR.seto {x : SX} {F : Fr} {G H : Hp} {io : List Addr} {σ : L2.St} {s : S} {i : Nat} {ds : List D} {p : Addr} (t : StR x F s G io σ H) (ni : p ∉ io) (ow : OwnL x F G io H ds p)
    (no : ∀ (j : Nat) (c : Cell), s.r[j]? = some (some c) → isOwn c = true → σ[j]? ≠ some (some (.ref p))) : StR x F (s.set i (some (.ol ds))) G io (σ.set i (some (.ref p))) H where
  gh := t.gh
  len := by simp [S.set, t.len]
  slot := fun j c e => by
    have e : (s.r.set i (some (.ol ds)))[j]? = some (some c) := e
    by_cases hj : i = j
    · subst hj
      by_cases hi : i < s.r.length
      · rw [List.getElem?_set_self hi] at e
        cases e
        exact ⟨.ref p, by rw [List.getElem?_set_self (by rw [← t.len]; exact hi)], p, rfl, ni, ow⟩
      · rw [List.getElem?_eq_none (by simpa using hi)] at e; cases e
    · rw [List.getElem?_set_ne hj] at e
      obtain ⟨w, e1, q⟩ := t.slot j c e
      exact ⟨w, by rw [List.getElem?_set_ne hj]; exact e1, q⟩
  own := fun j k c c' w hjk e1 e2 o1 o2 z1 z2 => by
    have e1 : (s.r.set i (some (.ol ds)))[j]? = some (some c) := e1
    have e2 : (s.r.set i (some (.ol ds)))[k]? = some (some c') := e2
    by_cases h1 : i = j
    · subst h1
      have h2 : i ≠ k := hjk
      rw [List.getElem?_set_ne h2] at e2 z2
      have hi : i < σ.length := by
        by_cases hi : i < σ.length
        · exact hi
        · rw [List.getElem?_eq_none (by simpa using hi)] at z1; cases z1
      rw [List.getElem?_set_self hi] at z1
      cases z1
      exact no k c' e2 o2 z2
    · by_cases h2 : i = k
      · subst h2
        rw [List.getElem?_set_ne h1] at e1 z1
        have hi : i < σ.length := by
          by_cases hi : i < σ.length
          · exact hi
          · rw [List.getElem?_eq_none (by simpa using hi)] at z2; cases z2
        rw [List.getElem?_set_self hi] at z2
        cases z2
        exact no j c e1 o1 z1
      · rw [List.getElem?_set_ne h1] at e1 z1
        rw [List.getElem?_set_ne h2] at e2 z2
        exact t.own j k c c' w hjk e1 e2 o1 o2 z1 z2
  mem := t.mem
  kh := t.kh
  kg := t.kg
  ki := t.ki
  ni := t.ni
/-- a fresh list is wanted of the expression -/
theorem PostS.frs {x : SX} {G : Hp} {io : List Addr} {σ : L2.St} {o : Res} {k : List D → S → Res} {D : Ends} {Q : VK} (h : PostS x F W G io (match o with | some (.frs ds, s) => k ds s | some (.exc c ns ds, s) => some (.exc c ns ds, s) | _ => none) D)
    (hk : ∀ ds s p H' G' io', Same G G' → Pre io io' → StR x F s G' io' σ H' → p ∉ io' → OwnL x F G' io' H' ds p → (∀ (j : Nat) (c : Cell), s.r[j]? = some (some c) → isOwn c = true → σ[j]? ≠ some (some (.ref p))) → PostS x F W G' io' (k ds s) D → Q (.ref p) H') : Post x F W G io o σ Q := by
  unfold Post
  split
  · exact h.elim
  · rename_i ds s
    exact fun p H' G' io' sg si t ni ow no => hk ds s p H' G' io' sg si t ni ow no (PostS.anti (show PostS x F W G io (k ds s) D from h) sg si)
  · exact fun cls dd H' G' io' sg si t ex => h cls dd σ H' G' io' sg si t ex
  · rename_i h1 h2 h3
    split at h
    · exact h2 _ _ rfl
    · exact h3 _ _ _ _ rfl
    · exact h
theorem aso_rd {i : Nat} {D : Ends} {σ : L2.St} {H : Hp} (h : rdS T F W (.aso i a) D σ H) : rd T F W a σ H (fun v H1 => D.nx (σ.set i (some v)) H1) := by
  obtain ⟨s, G, io, t, hp⟩ := h
  refine ⟨s, G, io, t, ?_⟩
  refine PostS.frs (k := fun ds s => some (.nx, s.set i (some (.ol ds)))) hp fun ds s q H1 G1 io1 sg si t1 ni ow no hp1 => ?_
  exact hp1 _ H1 G1 io1 (Same.refl _) (Pre.refl _) (t1.seto ni ow no)
/-- a list becomes an object of the store -/
theorem StR.box {x : SX} {F : Fr} {G H : Hp} {io : List Addr} {σ : L2.St} {s : S} {ds : List D} {p : Addr} (t : StR x F s G io σ H) (ni : p ∉ io) (ow : OwnL x F G io H ds p)
    (no : ∀ (j : Nat) (c : Cell), s.r[j]? = some (some c) → isOwn c = true → σ[j]? ≠ some (some (.ref p))) : StR x F { r := s.r, m := s.m ++ [.bx ds] } G (io ++ [p]) σ H where
  gh := t.gh
  len := t.len
  slot := fun j c e => by
    obtain ⟨v, e1, q⟩ := t.slot j c e
    refine ⟨v, e1, ?_⟩
    have pr : Pre io (io ++ [p]) := ⟨[p], rfl⟩
    cases c with
    | val d => exact Rp.mono (Same.refl _) pr q
    | ol es =>
      obtain ⟨a, rfl, q1, vs, q2, q3, q4, q5⟩ := q
      have ne : a ≠ p := fun z => no j _ e rfl (by rw [← z]; exact e1)
      exact ⟨a, rfl, by simp [q1, ne], vs, q2, q3, q4, q5.mono (Same.refl _) pr⟩
    | od ks es =>
      obtain ⟨a, rfl, q1, vs, q2, q3, q4, q5, q6⟩ := q
      have ne : a ≠ p := fun z => no j _ e rfl (by rw [← z]; exact e1)
      exact ⟨a, rfl, by simp [q1, ne], vs, q2, q3, q4, q5, q6.mono (Same.refl _) pr⟩
  own := t.own
  mem := by
    have pr : Pre io (io ++ [p]) := ⟨[p], rfl⟩
    obtain ⟨vs, q1, q2, q3, q4⟩ := ow
    refine ⟨by simp [t.mem.1], ?_, fun n mo a e1 e2 => ?_⟩
    · rw [List.nodup_append]
      exact ⟨t.mem.2.1, by simp, fun a ha b hb => by simp at hb; rw [hb]; exact fun z => ni (by rw [← z]; exact ha)⟩
    · by_cases hn : n < io.length
      · rw [List.getElem?_append_left (by rw [t.mem.1]; exact hn)] at e1
        rw [List.getElem?_append_left hn] at e2
        have q := t.mem.2.2 n mo a e1 e2
        cases mo with
        | bx es =>
          obtain ⟨ws, w1, w2, w3⟩ := q
          exact ⟨ws, w1, w2, w3.mono (Same.refl _) pr⟩
      · rw [List.getElem?_append_right (by rw [t.mem.1]; omega)] at e1
        rw [List.getElem?_append_right (by omega)] at e2
        rw [t.mem.1] at e1
        cases hk : n - io.length with
        | zero =>
          rw [hk] at e1 e2
          cases e1
          cases e2
          exact ⟨vs, q1, q2, q4.mono (Same.refl _) pr⟩
        | succ k => rw [hk] at e2; simp at e2
  kh := t.kh
  kg := t.kg
  ki := t.ki.trans ⟨[p], rfl⟩
  ni := fun n a hn e => by
    by_cases hl : n < io.length
    · rw [List.getElem?_append_left hl] at e
      exact t.ni n a hn e
    · rw [List.getElem?_append_right (by omega)] at e
      cases hk : n - io.length with
      | zero => rw [hk] at e; cases e; exact ow.elim fun vs q => q.2.2.1
      | succ k => rw [hk] at e; simp at e
theorem asb_rd {i : Nat} {D : Ends} {σ : L2.St} {H : Hp} (h : rdS T F W (.asb i a) D σ H) : rd T F W a σ H (fun v H1 => D.nx (σ.set i (some v)) H1) := by
  obtain ⟨s, G, io, t, hp⟩ := h
  refine ⟨s, G, io, t, ?_⟩
  refine PostS.frs (k := fun ds s => some (.nx, { r := s.r.set i (some (.val (.adr s.m.length))), m := s.m ++ [.bx ds] })) hp fun ds s q H1 G1 io1 sg si t1 ni ow no hp1 => ?_
  have t2 := (t1.box ni ow no).setv (i := i) (d := .adr s.m.length) (v := .ref q) ⟨q, rfl, by rw [t1.mem.1]; simp⟩
  exact hp1 _ H1 G1 _ (Same.refl _) ⟨[q], rfl⟩ t2
theorem swaps_cell {e : Expr} {y : Str} {p : Pos} {l : Nat} {env : Env} (h : env.scope.names.lookup y ≠ some .local) : swapsWith e (some (.Name y p)) l env = pure false := by
  have hk : (env.kindOf y == some NameKind.local) = false := by
    cases q : env.kindOf y with
    | none => rfl
    | some k => cases k <;> first | rfl | exact absurd q h
  cases e <;> first
    | rfl
    | (unfold swapsWith; simp only [hk, Bool.and_false, Bool.false_and]; try rfl)
/-- an assignment to a name, of anything but a comprehension that is laid straight into it -/
theorem s_asn (o : XOk T cc X W) {i : Nat} {y : Str} {p : Pos} {S : E} (hS : ∀ D σ H, rdS T F W S D σ H → rd T F W a σ H (fun v H1 => D.nx (σ.set i (some v)) H1)) (h : tgt cc i y = true) (hs : isComp e = false ∨ cc.sc.names.lookup y ≠ some .local) (ha : PE X e (rd T F W a)) :
    PS X (.Assign [.Name y p] e pos) (rdS T F W S) := by
  obtain ⟨h1, h2, h3⟩ := o.tgt h
  have hsw : swapsWith e (some (.Name y p)) pos.line X.env = pure false := hs.elim swaps_no fun z => swaps_cell (by rw [o.sc]; exact z)
  exact PS.wk (ps_set (i := i) o.nd h1 h2 ha hsw h3) fun D σ H hq => hS D σ H hq
/-- a target of names, of anything but a tuple that is written -/
def isTup : Expr → Bool
  | .Tuple _ _ _ => true
  | _ => false
theorem swapped_no {ts : List Expr} {k : Nat} {p : Pos} {e : Expr} {env : Env} (h : isTup e = false) : swappedStores [.Tuple ts k p] e env = pure none := by
  cases e <;> first | (cases h; done) | rfl
def isFast (sc : Scope) : Expr → Bool
  | .Name id _ => decide (sc.names.lookup id = some .local)
  | _ => false
def swNo (sc : Scope) (ts : List Expr) (e : Expr) : Bool := !isTup e || ts.any fun t => !isFast sc t
theorem fm_short {α β : Type} {f : α → Option β} : ∀ {l : List α}, (l.filterMap f).length ≤ l.length ∧ ((∃ x ∈ l, f x = none) → (l.filterMap f).length < l.length)
  | [] => ⟨Nat.le_refl _, fun ⟨_, h, _⟩ => by cases h⟩
  | a :: l => by
    obtain ⟨h1, h2⟩ := fm_short (f := f) (l := l)
    rw [List.filterMap_cons]
    cases ha : f a with
    | none => exact ⟨Nat.le_succ_of_le h1, fun _ => Nat.lt_succ_of_le h1⟩
    | some b =>
      refine ⟨Nat.succ_le_succ h1, fun ⟨x, hx, e⟩ => ?_⟩
      rcases List.mem_cons.mp hx with rfl | hx
      · rw [ha] at e; cases e
      · exact Nat.succ_lt_succ (h2 ⟨x, hx, e⟩)
theorem swapped_none {ts vs : List Expr} {k k2 : Nat} {p p2 : Pos} {env : Env} (h : (ts.any fun t => !isFast env.scope t) = true) : swappedStores [.Tuple ts k p] (.Tuple vs k2 p2) env = pure none := by
  obtain ⟨t, ht, hf⟩ := List.any_eq_true.mp h
  unfold swappedStores
  simp only []
  split
  · rfl
  · split
    · rfl
    · rw [if_pos]
      rw [Bool.or_eq_true]
      left
      rw [bne_iff_ne]
      refine Nat.ne_of_lt (fm_short.2 ⟨t, ht, ?_⟩)
      cases t with
      | Name id pos =>
        have hf : (!decide (env.scope.names.lookup id = some .local)) = true := hf
        rw [Bool.not_eq_true', decide_eq_false_iff_not] at hf
        have hk : (env.kindOf id == some .local) = false := by
          cases hb : (env.kindOf id == some .local) with
          | false => rfl
          | true => exact absurd (beq_iff_eq.mp hb) hf
        simp [hk]
      | _ => rfl
theorem swNo_ok {env : Env} {ts : List Expr} {k : Nat} {p : Pos} {e : Expr} (h : swNo env.scope ts e = true) : swappedStores [.Tuple ts k p] e env = pure none := by
  unfold swNo at h
  rw [Bool.or_eq_true] at h
  rcases h with h | h
  · exact swapped_no (by simpa using h)
  · cases e with
    | Tuple vs k2 p2 => exact swapped_none h
    | _ => exact swapped_no rfl
theorem s_ast (o : XOk T cc X W) {tgc : E} {ts : List Expr} {k : Nat} {p : Pos} (hs : isComp e = false) (hw : swNo cc.sc ts e = true) (hg : PG X (.Tuple ts k p) (rdG T F tgc)) (ha : PE X e (rd T F W a)) :
    PS X (.Assign [.Tuple ts k p] e pos) (rdS T F W (.ast tgc a)) := by
  refine PS.wk (ps_asg ha hg (swapsSole_no hs) (swNo_ok (by rw [o.sc]; exact hw))) fun D σ H ⟨s, G, io, t, hp⟩ => ⟨s, G, io, t, ?_⟩
  refine PostS.bnd hp fun d s v H1 G1 io1 sg si t1 r1 hp1 => ?_
  cases hst : store tgc d s with
  | none => rw [hst] at hp1; exact hp1.elim
  | some s2 =>
    rw [hst] at hp1
    exact ⟨s, G1, io1, d, s2, t1, r1, hst, fun σ' t' _ => hp1 _ H1 G1 io1 (Same.refl _) (Pre.refl _) t'⟩
end
end En

namespace En
open PySem PySem.Spec L2
theorem starM {e : Expr} (h : isStar e = false) : (match e with | .Starred _ _ => true | _ => false) = false := by
  cases e <;> first | rfl | exact Bool.noConfusion h
theorem swapped_two {x y : Str} {px py pt pt2 : Pos} {kt k2 : Nat} {a b : Expr} {env : Env} (hk : env.scope.kind = .function) (hx : env.scope.names.lookup x = some .local) (hy : env.scope.names.lookup y = some .local) (hxy : x ≠ y) (hl : (py.line == px.line) = true)
    (sa : isStar a = false) (sb : isStar b = false) (hf : [a, b].all (foldedForSure 8) = false) (hc : [a, b].all (constantsAlone 8) = false) :
    swappedStores [.Tuple [.Name x px, .Name y py] kt pt] (.Tuple [a, b] k2 pt2) env = pure (some [x, y]) := by
  have hb : env.blockKind = .function := by unfold Env.blockKind; rw [hk]; rfl
  have kx : (env.kindOf x == some NameKind.local) = true := by
    have : env.kindOf x = some .local := hx
    rw [this]; rfl
  have ky : (env.kindOf y == some NameKind.local) = true := by
    have : env.kindOf y = some .local := hy
    rw [this]; rfl
  have hd : [x, y].eraseDups = [x, y] := by
    have z : (x == y) = false := by simpa using hxy
    have z2 : (y == x) = false := by simpa using Ne.symm hxy
    simp [List.eraseDups_cons, z, z2]
  have hd2 : ([x, y].eraseDups.length != [x, y].length) = false := by rw [hd]; rfl
  unfold swappedStores
  simp only [hb]
  simp only [List.filterMap, List.head?, Option.map, Option.getD, Expr.pos, kx, ky, hl, beq_self_eq_true, Bool.and_self, if_true, List.length_cons, List.length_nil]
  rw [hf, hc]
  have h1 : ∀ {u v : Bool}, u = false → v = false → (u || v) = false := fun {u v} e f => by rw [e, f]; rfl
  simp only [List.any_cons, List.any_nil, Bool.or_false]
  rw [if_neg (by decide), if_neg (show ¬ _ by rw [h1 (by cases a <;> first | rfl | exact Bool.noConfusion sa) (by cases b <;> first | rfl | exact Bool.noConfusion sb)]; exact Bool.false_ne_true)]
  simp [hxy, List.eraseDups_cons, Ne.symm hxy]
section
variable {T : Tb} {cc : CC} {X : Cx} {W : WX} {F : Fr} {pos : Pos} {e l r c tg : Expr} {es : List Expr} {a b : E} {st : Stmt} {sts : List Stmt}
theorem s_par (o : XOk T cc X W) {i j : Nat} {x y : Str} {px py pt pt2 : Pos} {kt k2 : Nat} (hi : cc.N[i]? = some x) (hj : cc.N[j]? = some y) (hk : cc.sc.kind = .function) (hx : cc.sc.names.lookup x = some .local) (hy : cc.sc.names.lookup y = some .local) (hxy : x ≠ y) (hl : (py.line == px.line) = true)
    (sa : isStar l = false) (sb : isStar r = false) (hf : [l, r].all (foldedForSure 8) = false) (hc : [l, r].all (constantsAlone 8) = false) (ha : PE X l (rd T F W a)) (hb : PE X r (rd T F W b)) :
    PS X (.Assign [.Tuple [.Name x px, .Name y py] kt pt] (.Tuple [l, r] k2 pt2) pos) (rdS T F W (.par i j a b)) := by
  have hi' : X.N[i]? = some x := by rw [o.N]; exact hi
  have hj' : X.N[j]? = some y := by rw [o.N]; exact hj
  have hij : i ≠ j := fun z => by subst z; rw [hi] at hj; cases hj; exact hxy rfl
  refine PS.wk (ps_par o.calm o.nd hi' hj' hij (by rw [o.sc]; exact hx) (by rw [o.sc]; exact hy) (pa_cons ha (pa_cons hb pa_nil (star_no sb)) (star_no sa))
    (swapped_two (by rw [o.sc]; exact hk) (by rw [o.sc]; exact hx) (by rw [o.sc]; exact hy) hxy hl sa sb hf hc)) fun D σ H ⟨s, G, io, t, hp⟩ => ⟨s, G, io, t, ?_⟩
  refine PostS.bnd hp fun d s v H1 G1 io1 sg si t1 r1 hp1 => ⟨s, G1, io1, t1, ?_⟩
  refine PostS.bnd hp1 fun d2 s2 v2 H2 G2 io2 sg2 si2 t2 r2 hp2 => ?_
  exact ⟨v, v2, rfl, hp2 _ H2 G2 io2 (Same.refl _) (Pre.refl _) ((t2.setv (r1.mono sg2 si2)).setv r2)⟩
/-! ### loops -/
theorem s_for (o : XOk T cc X W) {tgc it bd : E} {body : List Stmt} {iter : Expr} (hset : isSet iter = false) (hi : PI X tg iter (rdI T F W it)) (hg : PG X tg (rdG T F tgc)) (hb : PSs X body (rdS T F W bd)) : PS X (.For tg iter body [] pos) (rdS T F W (.frr tgc it bd)) := by
  refine PS.wk (ps_for o.po o.calm hi hg hb (hs := folded_no hset)) fun D σ H ⟨s, G, io, t, hp⟩ => ⟨s, G, io, t, ?_⟩
  refine PostS.bndI hp fun ds s1 J H1 G1 io1 sg1 si1 t1 wk hp1 => ?_
  refine ⟨fun i mm σ H => mm = ds.length - i ∧ i ≤ ds.length ∧ ∃ s2 G2 io2, Same G1 G2 ∧ Pre io1 io2 ∧ StR T.x F s2 G2 io2 σ H ∧ PostS T.x F W G2 io2 (forL (store tgc) (ev T.P T.Gm bd) (ds.drop i) s2) D,
    ⟨ds.length, by simp, Nat.zero_le _, s1, G1, io1, Same.refl _, Pre.refl _, t1, by rw [List.drop_zero]; exact hp1⟩, ?_⟩
  rintro i mm σc Hc ⟨rfl, hi, s2, G2, io2, s12, p12, t2, hp2⟩
  by_cases hlt : i < ds.length
  · have hd : ds[i]? = some ds[i] := List.getElem?_eq_getElem hlt
    refine .inr ⟨wk.go i Hc hlt (s12.trans t2.gh), fun σ' H' => ∃ s2 G2 io2, Same G1 G2 ∧ Pre io1 io2 ∧ StR T.x F s2 G2 io2 σ' H' ∧ PostS T.x F W G2 io2 (forL (store tgc) (ev T.P T.Gm bd) (ds.drop (i + 1)) s2) D,
      fun σ' H' hN => ⟨ds.length - (i + 1), by omega, rfl, hlt, hN⟩, fun v H' hy => ?_⟩
    obtain ⟨G3, sg3, t3, r3, _⟩ := yield_rp wk t2 s12 p12 hd hy
    rw [List.drop_eq_getElem_cons hlt] at hp2
    simp only [forL] at hp2
    cases hst : store tgc ds[i] s2 with
    | none => rw [hst] at hp2; exact hp2.elim
    | some s4 =>
      rw [hst] at hp2
      have hp3 := hp2.anti sg3 (Pre.refl _)
      have s13 := s12.trans sg3
      refine ⟨s2, G3, io2, ds[i], s4, t3, r3, hst, fun σ2 t4 _ => ⟨s4, G3, io2, t4, ?_⟩⟩
      dsimp only at hp3
      unfold PostS
      split
      · rename_i s5 he
        rw [he] at hp3
        exact fun σ' H' G' io' sg si t' => ⟨s5, G', io', s13.trans sg, p12.trans si, t', PostS.anti (show PostS T.x F W G3 io2 (forL _ _ _ s5) D from hp3) sg si⟩
      · rename_i s5 he
        rw [he] at hp3
        exact hp3
      · rename_i s5 he
        rw [he] at hp3
        exact fun σ' H' G' io' sg si t' => ⟨s5, G', io', s13.trans sg, p12.trans si, t', PostS.anti (show PostS T.x F W G3 io2 (forL _ _ _ s5) D from hp3) sg si⟩
      · rename_i d s5 he
        rw [he] at hp3
        exact hp3
      · rename_i d s5 he
        rw [he] at hp3
        exact hp3
      · rename_i k ns d s5 he
        rw [he] at hp3
        exact hp3
      · rename_i h1 h2 h3 h4 h5 h6
        split at hp3
        · exact h1 _ (by assumption)
        · exact h3 _ (by assumption)
        · exact h2 _ (by assumption)
        · unfold PostS at hp3
          split at hp3
          · exact h1 _ (by assumption)
          · exact h2 _ (by assumption)
          · exact h3 _ (by assumption)
          · exact h4 _ _ (by assumption)
          · exact h5 _ _ (by assumption)
          · exact h6 _ _ _ _ (by assumption)
          · exact hp3
  · have e : i = ds.length := by omega
    subst e
    rw [List.drop_length] at hp2
    simp only [forL] at hp2
    exact .inl ⟨wk.stop Hc (s12.trans t2.gh), hp2 σc Hc G2 io2 (Same.refl _) (Pre.refl _) t2⟩
/-! ### stores into lists -/
/-- a box of the store is written -/
theorem StR.wbox {x : SX} {F : Fr} {G H : Hp} {io : List Addr} {σ : L2.St} {s : S} {n : Nat} {ds es : List D} {p : Addr} {vs : List V} (t : StR x F s G io σ H) (hm : s.m[n]? = some (.bx ds)) (hp : io[n]? = some p) (r : RpL x G io es vs) (hF : p ∈ F.i ∨ F.h p = none) :
    StR x F { s with m := s.m.set n (.bx es) } G io σ (upd H p (.lst vs)) where
  gh := fun b u e => by
    obtain ⟨_, _, q2, _⟩ := t.mem.2.2 n _ p hm hp
    rw [upd_ne (fun z => by rw [z, q2] at e; cases e)]
    exact t.gh _ _ e
  len := t.len
  slot := fun j c e => by
    obtain ⟨v, e1, q⟩ := t.slot j c e
    have pm : p ∈ io := List.mem_of_getElem? hp
    refine ⟨v, e1, ?_⟩
    cases c with
    | val d => exact q
    | ol es =>
      obtain ⟨a, rfl, q1, vs, q2, q3⟩ := q
      exact ⟨a, rfl, q1, vs, by rw [upd_ne (fun z => q1 (by rw [z]; exact pm))]; exact q2, q3⟩
    | od ks es =>
      obtain ⟨a, rfl, q1, vs, q2, q3⟩ := q
      exact ⟨a, rfl, q1, vs, by rw [upd_ne (fun z => q1 (by rw [z]; exact pm))]; exact q2, q3⟩
  own := t.own
  mem := by
    refine ⟨by simp [t.mem.1], t.mem.2.1, fun k mo a e1 e2 => ?_⟩
    by_cases hk : n = k
    · subst hk
      rw [hp] at e2
      cases e2
      obtain ⟨hn, _⟩ := List.getElem?_eq_some_iff.mp hm
      rw [List.getElem?_set_self hn] at e1
      cases e1
      obtain ⟨_, _, q2, _⟩ := t.mem.2.2 n _ p hm hp
      exact ⟨vs, upd_same, q2, r⟩
    · rw [List.getElem?_set_ne hk] at e1
      have q := t.mem.2.2 k mo a e1 e2
      have ne : a ≠ p := fun z => by
        subst z
        obtain ⟨h1, g1⟩ := List.getElem?_eq_some_iff.mp hp
        obtain ⟨h2, g2⟩ := List.getElem?_eq_some_iff.mp e2
        exact hk ((List.getElem_inj t.mem.2.1).mp (g1.trans g2.symm))
      cases mo with
      | bx zs =>
        obtain ⟨ws, q1, q2⟩ := q
        exact ⟨ws, by rw [upd_ne ne]; exact q1, q2⟩
  kh := fun b o e n => by
    have ne : b ≠ p := fun z => by
      subst z
      rcases hF with h | h
      · exact n h
      · rw [h] at e; cases e
    rw [upd_ne ne]
    exact t.kh b o e n
  kg := t.kg
  ki := t.ki
  ni := t.ni
theorem StR.inF {x : SX} {F : Fr} {G H : Hp} {io : List Addr} {σ : L2.St} {s : S} {n : Nat} {p : Addr} (t : StR x F s G io σ H) (hp : io[n]? = some p) : p ∈ F.i ∨ F.h p = none := by
  by_cases hl : n < F.i.length
  · obtain ⟨k, hk⟩ := t.ki
    rw [hk, List.getElem?_append_left hl] at hp
    exact .inl (List.mem_of_getElem? hp)
  · exact .inr (t.ni n p (by omega) hp)
theorem sub_no {l r : Expr} {q : Pos} {env : Env} (h : isSl r = false) (v : Value) : assign (l.Subscript r q) env v = (do
    let ov ← holding [v] (eval l env)
    let iv ← holding [v, ov] (eval r env)
    standAt q
    holding [v, ov, iv] (setItem ov iv v)
    release [v, ov, iv] []) := by
  cases r <;> first | rfl | exact Bool.noConfusion h
theorem swapped_sub {o k e : Expr} {p : Pos} {env : Env} : swappedStores [.Subscript o k p] e env = pure none := by
  cases e <;> rfl
theorem s_sit (o : XOk T cc X W) {k : E} {q : Pos} (hq : isSl r = false) (hs : isComp e = false) (ho : PE X l (rd T F W a)) (hi : PE X r (rd T F W k)) (ha : PE X e (rd T F W b)) : PS X (.Assign [.Subscript l r q] e pos) (rdS T F W (.sit a k b)) := by
  refine PS.wk (ps_asg ha (pg_sub ho hi set_list (ha := sub_no hq)) (swapsSole_no hs) swapped_sub) fun D σ H ⟨s, G, io, t, hp⟩ => ⟨s, G, io, t, ?_⟩
  refine PostS.bnd hp fun d s v H1 G1 io1 sg si t1 r1 hp1 => ⟨s, G1, io1, t1, ?_⟩
  refine PostS.bnd hp1 fun d2 s2 v2 H2 G2 io2 sg2 si2 t2 r2 hp2 => ⟨s2, G2, io2, t2, ?_⟩
  refine PostS.bnd hp2 fun d3 s3 v3 H3 G3 io3 sg3 si3 t3 r3 hp3 => ?_
  have r2' := r2.mono sg3 si3
  have r1' := (r1.mono sg2 si2).mono sg3 si3
  split at hp3
  · rename_i n i
    cases (show v3 = .int i from r3)
    obtain ⟨p, rfl, hpo⟩ := r2'
    split at hp3
    · rename_i ds hm
      obtain ⟨vs, q1, q2, q3⟩ := t3.mem.2.2 n _ p hm hpo
      split at hp3
      · rename_i j hj
        refine ⟨p, vs, i, j, rfl, rfl, q1, by rw [q3.length]; exact hj, ?_⟩
        exact hp3 σ _ G3 io3 (Same.refl _) (Pre.refl _) (t3.wbox hm hpo (q3.set j r1') (t3.inF hpo))
      · exact hp3.elim
    · exact hp3.elim
  · exact hp3.elim
/-- an own list is written -/
theorem StR.wown {x : SX} {F : Fr} {G H : Hp} {io : List Addr} {σ : L2.St} {s : S} {i : Nat} {ds es : List D} {vs : List V} {p : Addr} (t : StR x F s G io σ H) (hm : s.r[i]? = some (some (.ol ds))) (hp : σ[i]? = some (some (.ref p))) (r : RpL x G io es vs) :
    StR x F (s.set i (some (.ol es))) G io σ (upd H p (.lst vs)) := by
  obtain ⟨v, e1, q, rfl, q1, ws, q2, q3, q4, q5⟩ := t.slot i _ hm
  rw [hp] at e1
  cases e1
  have hi : i < s.r.length := (List.getElem?_eq_some_iff.mp hm).1
  refine ⟨fun b u e => ?_, by simp [S.set, t.len], fun j c e => ?_, fun j k c c' w hjk e1 e2 o1 o2 z1 z2 => ?_, ⟨t.mem.1, t.mem.2.1, fun n mo a e1 e2 => ?_⟩, fun b o e n => ?_, t.kg, t.ki, t.ni⟩
  · rw [upd_ne (fun z => by rw [z, q3] at e; cases e)]
    exact t.gh _ _ e
  · have e : (s.r.set i (some (.ol es)))[j]? = some (some c) := e
    by_cases hj : i = j
    · subst hj
      rw [List.getElem?_set_self hi] at e
      cases e
      exact ⟨_, hp, p, rfl, q1, vs, upd_same, q3, q4, r⟩
    · rw [List.getElem?_set_ne hj] at e
      obtain ⟨w, f1, f2⟩ := t.slot j c e
      refine ⟨w, f1, ?_⟩
      cases c with
      | val d => exact f2
      | ol zs =>
        obtain ⟨a, rfl, g1, us, g2, g3⟩ := f2
        have ne : a ≠ p := fun z => t.own i j _ _ _ hj hm e rfl rfl hp (by rw [← z]; exact f1)
        exact ⟨a, rfl, g1, us, by rw [upd_ne ne]; exact g2, g3⟩
      | od ks zs =>
        obtain ⟨a, rfl, g1, us, g2, g3⟩ := f2
        have ne : a ≠ p := fun z => t.own i j _ _ _ hj hm e rfl rfl hp (by rw [← z]; exact f1)
        exact ⟨a, rfl, g1, us, by rw [upd_ne ne]; exact g2, g3⟩
  · have e1 : (s.r.set i (some (.ol es)))[j]? = some (some c) := e1
    have e2 : (s.r.set i (some (.ol es)))[k]? = some (some c') := e2
    by_cases h1 : i = j
    · subst h1
      rw [List.getElem?_set_ne hjk] at e2
      exact t.own i k _ _ w hjk hm e2 rfl o2 z1 z2
    · rw [List.getElem?_set_ne h1] at e1
      by_cases h2 : i = k
      · subst h2
        exact t.own j i _ _ w hjk e1 hm o1 rfl z1 z2
      · rw [List.getElem?_set_ne h2] at e2
        exact t.own j k _ _ w hjk e1 e2 o1 o2 z1 z2
  · have g := t.mem.2.2 n mo a e1 e2
    have ne : a ≠ p := fun z => q1 (by rw [← z]; exact List.mem_of_getElem? e2)
    cases mo with
    | bx zs =>
      obtain ⟨us, g1, g2⟩ := g
      exact ⟨us, by rw [upd_ne ne]; exact g1, g2⟩
  · rw [upd_ne (fun z => by rw [z, q4] at e; cases e)]
    exact t.kh b o e n
theorem s_apo (o : XOk T cc X W) {i : Nat} {y : Str} {p ap cp : Pos} (hv : vis cc i y = true) (hl : (ap.endLine == cp.line) = true) (hs : isStar e = false) (ha : PE X e (rd T F W a)) :
    PS X (.Expr (.Call (.Attribute (.Name y p) "append" ap) [e] [] cp) pos) (rdS T F W (.apo i a)) := by
  obtain ⟨h1, h2, h3, h4⟩ := o.vis hv
  refine PS.wk (ps_expr (pe_bm PySem.F.plainAttrs_list PySem.F.slot_list_append PySem.F.type_list_append mt_append (pe_var h1 h2 h3 h4) (pa_cons ha pa_nil (star_no hs)) (base_no rfl) (by rw [star_no hs]; rfl) hl (star_no hs) rfl) (swaps_no rfl)) fun D σ H ⟨s, G, io, t, hp⟩ => ?_
  simp only [ev] at hp
  split at hp
  · rename_i ds0 hm0
    obtain ⟨v, e1, q, rfl, q1, ws, q2, q3⟩ := t.slot i _ hm0
    refine ⟨.ref q, e1, .inl ⟨rfl, ws, .of q2⟩, s, G, io, t, ?_⟩
    refine PostS.bnd hp fun d s1 w H1 G1 io1 sg si t1 r1 hp1 => ?_
    split at hp1
    · rename_i ds hm
      obtain ⟨v', e1', q', rfl, q1', ws', q2', q3', q4', q5'⟩ := t1.slot i _ hm
      rw [e1] at e1'
      cases e1'
      split at hp1
      · rename_i hlen
        refine ⟨q, ws', w, rfl, rfl, q2', by rw [q5'.length]; exact big_lt hlen, ?_⟩
        exact hp1 σ _ G1 io1 (Same.refl _) (Pre.refl _) (t1.wown hm e1 (q5'.append (.cons r1 .nil)))
      · exact hp1.elim
    · exact hp1.elim
  · exact hp.elim
end
end En

namespace En
open PySem PySem.Spec L2
/-- calls with keywords -/
theorem run_fnND {X : Cx} {CX : CXT} {k n : Nat} {f : Addr} {fd : FuncData} {ps ks : List Str} {sp : Sp} {E : XK} {g : List Value → List Value → List Value} {gV : List V → List V → List V} {pins : List (Addr × Obj)} {σ : L2.St} {H : Hp} {s : Shared} {Q : VK} {us ws : List Value} {vs zs : List V} (F : FnOk X.prog X.w X.K X.mg X.base CX k f fd ps sp) (hr : Room k X.A) (hb : KBn X.K fd ps n ks g gV) (hx : PassesAt CX X σ E)
    (I : Inv X pins σ H s) (r : Vals vs us) (rz : Vals zs ws) (l1 : vs.length = n) (l2 : zs.length = ks.length) (h : sp (gV vs zs) H Q E) : wpAny (model X.prog X.w) X.A (call (.ref f) us (ks.zip ws)) (EP X pins σ Q) X.xe s := by
  have r2 := hb.rel r rz
  refine wpAny_call (codeAny_mono (F.run X.A X.stack s H ⟨us, ks.zip ws⟩ (g us ws) (gV vs zs) Q E hr I.env0 (hb.to s us ws I.kIn (r.length.symm.trans l1) (rz.length.symm.trans l2)) r2 h) fun r s' hq => ?_)
  cases r with
  | error e => exact hx pins H s e s' I hq
  | ok fl =>
    cases fl with
    | ret u => exact I.after hq
    | next => exact False.elim hq
    | brk => exact False.elim hq
    | cont => exact False.elim hq
def kwAre : List Str → List Keyword → Bool
  | [], [] => true
  | n :: ns, ⟨some m, _, _⟩ :: ks => decide (n = m) && kwAre ns ks
  | _, _ => false
theorem kwAre_len : ∀ {ns : List Str} {ks : List Keyword}, kwAre ns ks = true → ks.length = ns.length
  | [], [], _ => rfl
  | _ :: ns, ⟨some m, _, _⟩ :: ks, h => by
    simp only [kwAre, Bool.and_eq_true] at h
    rw [List.length_cons, List.length_cons, kwAre_len h.2]
  | _ :: _, ⟨none, _, _⟩ :: _, h => by cases h
  | [], _ :: _, h => by cases h
  | _ :: _, [], h => by cases h
theorem kw_all {env : Env} {pos : Pos} : ∀ {ns : List Str} {ks : List Keyword}, kwAre ns ks = true → (backToKw pos (keywordEach ks env)).all (·.1.isSome) = true ∧ (backToKw pos (keywordEach ks env)).filterMap (·.1) = ns ∧ (backToKw pos (keywordEach ks env)).any (·.1.isNone) = false
  | [], [], _ => ⟨rfl, rfl, rfl⟩
  | n :: ns, ⟨some m, _, _⟩ :: ks, h => by
    simp only [kwAre, Bool.and_eq_true, decide_eq_true_eq] at h
    obtain ⟨rfl, h⟩ := h
    obtain ⟨a, b, c⟩ := kw_all (env := env) (pos := pos) h
    unfold backToKw at a b c ⊢
    simp only [keywordEach, List.map_cons, List.all_cons, List.filterMap_cons, List.any_cons]
    exact ⟨by simpa using a, by simpa using b, by simpa using c⟩
  | _ :: _, ⟨none, _, _⟩ :: _, h => by cases h
  | [], _ :: _, h => by cases h
  | _ :: _, [], h => by cases h
section
variable {T : Tb} {cc : CC} {X : Cx} {W : WX} {F : Fr} {e l r c : Expr} {es : List Expr} {a b : E} {pos : Pos} {kws : List Keyword}
theorem post_F {f : Nat} {σ : L2.St} {s : S} {G H : Hp} {io : List Addr} {ds : List D} {Q : VK} (t : StR T.x F s G io σ H) (hp : Post T.x F W G io (callF T.P f ds s) σ Q) : PostF T.x H G io (T.P f ds s.m) Q (WE W σ) := by
  unfold callF at hp
  unfold PostF
  split at hp
  · rename_i d m he
    try rw [he]
    intro v H' G' io' ff rv
    obtain ⟨t', sg⟩ := t.call ff
    exact hp v H' G' io' sg ff.2.2.2.2.1 t' rv
  · rename_i d m he
    try rw [he]
    intro p H' G' io' ff ni hn ⟨ws, e1, e2, e3⟩
    obtain ⟨t', sg⟩ := t.call ff
    obtain ⟨_, _, hf, _, ho⟩ := t.new (a := p) (o := .lst []) hn
    exact hp p H' G' io' sg ff.2.2.2.2.1 t' ni ⟨ws, e1, e2, hf, e3⟩ ho
  · rename_i k ns es m he
    try rw [he]
    intro cls dd H' G' io' ff ex
    obtain ⟨t', sg⟩ := t.call ff
    exact hp cls dd H' G' io' sg ff.2.2.2.2.1 t' ex
  · exact hp.elim
/-- f(e, .., k = v, ..) -/
theorem s_calk (o : XOk T cc X W) (t : TOk T) {f n m : Nat} {p : Pos} {es : List Expr} {ka : E} (hg : glo cc (T.nt.fnm f) = true) (hlv : T.nt.isK f = true) (hs : es.all (fun e => !isStar e) = true) (hn : n = T.nt.kn f) (hz : m = (T.nt.kk f).length) (hkw : kwAre (T.nt.kk f) kws = true) (hnil : es = [] → a = .nil)
    (ha : PA X es (rdA T F W a)) (hk : PK X kws (rdA T F W ka)) : PE X (.Call (.Name (T.nt.fnm f) p) es kws pos) (rd T F W (.calk f n a m ka)) := by
  subst hn hz
  obtain ⟨h1, h2, h3⟩ := o.glo hg
  obtain ⟨g, fd, ps, gg, gV, sp, hm, hkp, hF, hb, hsp⟩ := t.fk f hlv
  have hm' : X.mg (T.nt.fnm f) = some (.ref g) := by rw [o.mg]; exact hm
  have hF' : FnOk X.prog X.w X.K X.mg X.base (L2.CX X.prog X.w) T.lv g fd ps sp := by
    rw [o.prog, o.w, o.K, o.mg, o.base]
    exact hF
  have hk' : PySem.W.keepIn X.K (.ref g) = true := by rw [o.K]; exact hkp
  have hb' : KBn X.K fd ps (T.nt.kn f) (T.nt.kk f) gg gV := by rw [o.K]; exact hb
  have hr := o.room
  obtain ⟨k1, k2, k3⟩ := kw_all (env := X.env) (pos := pos) hkw
  have hpl := star_any (env := X.env) (pos := pos) hs
  refine ⟨fun pins s σ H Q I h => ?_⟩
  refine wpAny_Call_Name_kw (ld_glob I h1 hm' ?_ h2)
  obtain ⟨s0, G, io, t0, hp⟩ := h
  -- the values, then the keywords' values
  have hA : rdA T F W a σ H fun vs H1 => rdA T F W ka σ H1 fun zs H2 => vs.length = T.nt.kn f ∧ zs.length = (T.nt.kk f).length ∧ sp (gV vs zs) H2 Q (WE W σ) := ⟨s0, G, io, t0, by
    refine Post.bndA hp fun ds s vs H1 G1 io1 sg si t1 r1 hp1 => ⟨s, G1, io1, t1, ?_⟩
    refine Post.bndA hp1 fun dz s2 zs H2 G2 io2 sg2 si2 t2 r2 hp2 => ?_
    split at hp2
    · rename_i hl
      have l1 : vs.length = T.nt.kn f := by rw [r1.length]; exact hl.1
      have l2 : zs.length = (T.nt.kk f).length := by rw [r2.length]; exact hl.2
      exact ⟨l1, l2, hsp vs zs H2 Q _ l1 l2 ⟨ds, dz, s2.m, G2, io2, t2.gh, t2.mem, r1.mono sg2 si2, r2, post_F t2 hp2⟩⟩
    · exact hp2.elim⟩
  cases es with
  | nil =>
    refine PySem.W.callWith_KW0 (h₀ := X.base) I.ok.mod.kin hk' k1 ?_ (by show (false || _) = false; rw [k3]; rfl)
    rw [hnil rfl] at hA
    obtain ⟨s1, G1, io1, t1, hA⟩ := hA
    have q := hA [] H G1 io1 (Same.refl _) (Pre.refl _) t1 rfl
    refine thn (hk.run pos pins s σ H _ I q) fun ws s2 ⟨zs, H2, I2, rz, l1, l2, q2⟩ => ⟨I2.kIn, ?_⟩
    rw [k2]
    exact run_fnND (us := []) hF' hr hb' (passAt o.tk σ) I2 .nil rz l1 l2 q2
  | cons e es =>
    rw [List.all_cons, Bool.and_eq_true] at hs
    have hs1 : isStar e = false := by simpa using hs.1
    refine PySem.W.callWith_KW (h₀ := X.base) I.ok.mod.kin hk' k1 (thn (ha.run pos pins s σ H _ I hA) fun us s1 ⟨vs, H1, I1, r, q⟩ => ?_) (by rw [hpl, k3]; rfl) (star_no hs1)
    refine thn (hk.run pos pins s1 σ H1 _ I1 q) fun ws s2 ⟨zs, H2, I2, rz, l1, l2, q2⟩ => ⟨I2.kIn, ?_⟩
    rw [k2]
    exact run_fnND hF' hr hb' (passAt o.tk σ) I2 r rz l1 l2 q2
theorem k_nil : PK X [] (rdA T F W .nil) := ⟨fun pos pins s σ H Q I ⟨s0, G, io, t, h⟩ => pk_nil.run pos pins s σ H Q I (h [] H G io (Same.refl _) (Pre.refl _) t rfl)⟩
theorem k_cns {nm : Option Str} {kp : Pos} {es : List Keyword} (ha : PE X e (rd T F W a)) (hb : PK X es (rdA T F W b)) : PK X (⟨nm, e, kp⟩ :: es) (rdA T F W (.cns a b)) := by
  refine ⟨fun pos pins s σ H Q I h => (pk_cons ha hb).run pos pins s σ H Q I ?_⟩
  obtain ⟨s0, G, io, t, hp⟩ := h
  refine ⟨s0, G, io, t, ?_⟩
  refine PostA.bnd hp fun d s1 v H1 G1 io1 sg si t1 r1 hp1 => ⟨s1, G1, io1, t1, ?_⟩
  refine PostA.bndA hp1 fun ds s2 vs H2 G2 io2 sg2 si2 t2 r2 hp2 => ?_
  exact hp2 (v :: vs) H2 G2 io2 (Same.refl _) (Pre.refl _) t2 ⟨v, vs, rfl, r1.mono sg2 si2, r2⟩
/-! ### join -/
theorem s_join (o : XOk T cc X W) {apos : Pos} (hsup : isSup l = false) (hln : (apos.endLine == pos.line) = true) (hs1 : isStar e = false) (ha : PE X l (rd T F W a)) (hb : PA X [e] (rdA T F W b)) :
    PE X (.Call (.Attribute l "join" apos) [e] [] pos) (rd T F W (.bm .join a b)) := by
  have hst := star_no (es := []) (env := X.env) hs1
  refine PE.wk (pe_bm (T := "str") PySem.F.plainAttrs_str PySem.F.slot_str_join PySem.F.type_str_join mt_join ha hb (base_no hsup) ?_ hln hst rfl) fun σ H Q ⟨s, G, io, t, hp⟩ => ⟨s, G, io, t, ?_⟩
  · rw [hst]; rfl
  · refine Post.bnd hp fun d s v H1 G1 io1 sg si t1 r1 hp1 => ?_
    cases d with
    | str z =>
      cases (show v = .str z from r1)
      refine ⟨rfl, s, G1, io1, t1, ?_⟩
      refine Post.bndA (show Post T.x F W G1 io1 (bndA (ev T.P T.Gm b s) fun ds s => bmF .join (.str z) ds s) σ Q from hp1) fun ds s2 vs H2 G2 io2 sg2 si2 t2 r2 hp2 => ?_
      unfold bmF at hp2
      split at hp2
      · rename_i a2 x2 heq
        cases heq
        obtain ⟨v2, rfl, q2⟩ := r2.one
        split at hp2
        · rename_i es hv
          obtain ⟨p, ws, rfl, hq, hr⟩ := view_seq t2 hv q2
          split at hp2
          · rename_i ys hy
            have e := strs_rp hy hr
            subst e
            split at hp2
            · rename_i hl
              refine ⟨z, p, ys, rfl, rfl, ?_, hl, hp2.v t2 rfl⟩
              rcases hq with hq | hq
              · exact .inl (.of hq)
              · exact .inr (by rw [o.K]; exact hq)
            · exact hp2.elim
          · exact hp2.elim
        · exact hp2.elim
      · exact hp2.elim
    | _ => exact (show False from hp1).elim
end
end En

namespace En
open PySem PySem.Spec L2
inductive Nd where
  | ex (e : Expr) | ands (es : List Expr) | ors (es : List Expr) | args (es : List Expr) | st (s : Stmt) | blk (ss : List Stmt) | itr (tg e : Expr) | part (o : Option Expr) | tg (e : Expr) | lcn (e : Expr) | kws (ks : List Keyword)
def ownN (cc : CC) (own : List Nat) : List (Str × Nat) := own.map fun i => (cc.N.getD i "", i)
def isYes : E → Bool
  | .cst (.bl true) => true
  | _ => false
def cstOk : D → Const → Bool
  | .non, .none => true
  | .bl b, .bool c => b == c
  | .int i, .int m => i == m
  | .str x, .str y => decide (x = y)
  | _, _ => false
def copEq (o : Cop) (p : CmpOp) : Bool := decide (copOf o = p)
def isAp : Expr → Bool
  | .Call (.Attribute (.Name _ _) _ _) [_] [] _ => true
  | _ => false
def lcOk (cc : CC) (y : Str) (py : Pos) : Expr → Bool
  | .ListComp _ _ scope pos => decide (cc.sc.kind = .function) && decide (cc.sc.names.lookup y = some .local) && (py.line == pos.line) && !(scope.names.any fun (n, k) => n == y && (k == .local || k == .cell))
  | _ => false
def isNil : E → Bool
  | .nil => true
  | _ => false
/-- code fits a piece of syntax -/
def chk (nt : NT) : E → CC → Nd → Bool
  | .var i => fun cc n => match n with
    | .ex (.Name y _) => vis cc i y
    | _ => false
  | .mv i => fun cc n => match n with
    | .ex (.Name y _) => vis cc i y
    | _ => false
  | .cst d => fun cc n => match n with
    | .ex (.Constant k _ _) => cstOk d k
    | _ => false
  | .gv g => fun cc n => match n with
    | .ex (.Name y _) => glo cc y && decide (nt.gvn g = y) && decide (y ≠ "")
    | _ => false
  | .bop o a b => fun cc n => match n with
    | .ex (.BinOp l p r _) => decide (opOf o = p) && chk nt a cc (.ex l) && chk nt b cc (.ex r)
    | _ => false
  | .neg a => fun cc n => match n with
    | .ex (.UnaryOp .USub l _) => chk nt a cc (.ex l)
    | _ => false
  | .nt a => fun cc n => match n with
    | .ex (.UnaryOp .Not l _) => chk nt a cc (.ex l)
    | _ => false
  | .band a b => fun cc n => match n with
    | .ex (.BoolOp .And (l :: r :: es) _) => chk nt a cc (.ex l) && chk nt b cc (.ands (r :: es))
    | .ands (l :: r :: es) => chk nt a cc (.ex l) && chk nt b cc (.ands (r :: es))
    | _ => false
  | .bor a b => fun cc n => match n with
    | .ex (.BoolOp .Or (l :: r :: es) _) => chk nt a cc (.ex l) && chk nt b cc (.ors (r :: es))
    | .ors (l :: r :: es) => chk nt a cc (.ex l) && chk nt b cc (.ors (r :: es))
    | _ => false
  | .one a => fun cc n => match n with
    | .ands [l] => chk nt a cc (.ex l)
    | .ors [l] => chk nt a cc (.ex l)
    | .part (some e) => !isAbs a && chk nt a cc (.ex e)
    | _ => false
  | .ite k a b => fun cc n => match n with
    | .ex (.IfExp c l r _) => chk nt k cc (.ex c) && chk nt a cc (.ex l) && chk nt b cc (.ex r)
    | _ => false
  | .cmp o a b => fun cc n => match n with
    | .ex (.Compare l [p] [r] _) => copEq o p && !isSet r && chk nt a cc (.ex l) && chk nt b cc (.ex r)
    | _ => false
  | .chn o p a b k => fun cc n => match n with
    | .ex (.Compare l [o', p'] [r, c] _) => copEq o o' && copEq p p' && !isSet c && chk nt a cc (.ex l) && chk nt b cc (.ex r) && chk nt k cc (.ex c)
    | _ => false
  | .isn a => fun cc n => match n with
    | .ex (.Compare l [.Is] [.Constant .none _ _] _) => chk nt a cc (.ex l)
    | _ => false
  | .nin a => fun cc n => match n with
    | .ex (.Compare l [.IsNot] [.Constant .none _ _] _) => chk nt a cc (.ex l)
    | _ => false
  | .sl a lo hi => fun cc n => match n with
    | .ex (.Subscript l (.Slice ol oh none _) _) => chk nt a cc (.ex l) && chk nt lo cc (.part ol) && chk nt hi cc (.part oh)
    | _ => false
  | .ix a b => fun cc n => match n with
    | .ex (.Subscript l r _) => !isSl r && chk nt a cc (.ex l) && chk nt b cc (.ex r)
    | _ => false
  | .lst a => fun cc n => match n with
    | .ex (.List es _) => chk nt a cc (.args es)
    | _ => false
  | .tpl a => fun cc n => match n with
    | .ex (.Tuple es _ _) => chk nt a cc (.args es)
    | _ => false
  | .nil => fun cc n => match n with
    | .args [] => true
    | .kws [] => true
    | _ => false
  | .cns a b => fun cc n => match n with
    | .args (e :: es) => !isStar e && chk nt a cc (.ex e) && chk nt b cc (.args es)
    | .kws (⟨some _, e, _⟩ :: es) => chk nt a cc (.ex e) && chk nt b cc (.kws es)
    | _ => false
  | .abs => fun cc n => match n with
    | .part none => true
    | _ => false
  | .bi k a => fun cc n => match n with
    | .ex (.Call (.Name y _) (e :: es) [] _) => decide (y = biN k) && glo cc y && (e :: es).all (fun e => !isStar e) && chk nt a cc (.args (e :: es))
    | _ => false
  | .isi a ts => fun cc n => match n with
    | .ex (.Call (.Name y _) [e, .Name z _] [] _) => decide (y = "isinstance") && glo cc y && !isStar e && (match ts with | [k] => decide (tyN k = z) && decide (z ≠ "") && glo cc z | _ => false) && chk nt a cc (.ex e)
    | .ex (.Call (.Name y _) [e, .Tuple es _ _] [] _) => decide (y = "isinstance") && glo cc y && !isStar e && !ts.isEmpty && tysAre ts es && (ts.all fun k => glo cc (tyN k)) && decide (ts.length ≤ 1000) && chk nt a cc (.ex e)
    | _ => false
  | .cal f a => fun cc n => match n with
    | .ex (.Call (.Name y _) (e :: es) [] _) => decide (nt.fnm f = y) && glo cc y && nt.isF f && (e :: es).all (fun e => !isStar e) && chk nt a cc (.args (e :: es))
    | .ex (.Call (.Name y _) [] [] _) => isNil a && decide (nt.fnm f = y) && glo cc y && nt.isF f
    | _ => false
  | .calk f n' a m' ka => fun cc n => match n with
    | .ex (.Call (.Name y _) es kws _) => decide (nt.fnm f = y) && glo cc y && nt.isK f && es.all (fun e => !isStar e) && decide (es.length = nt.kn f) && decide (n' = nt.kn f) && decide (m' = (nt.kk f).length) && kwAre (nt.kk f) kws && (!es.isEmpty || isNil a) && chk nt a cc (.args es) && chk nt ka cc (.kws kws)
    | _ => false
  | .bm k a as => fun cc n => match n with
    | .ex (.Call (.Attribute oe m apos) [e] [] cpos) => decide (k = .join) && decide (m = "join") && !isSup oe && (apos.endLine == cpos.line) && !isStar e && chk nt a cc (.ex oe) && chk nt as cc (.args [e])
    | _ => false
  | .lc own tgc it cd el => fun cc n => match n with
    | .ex (.ListComp elt [⟨t, iter, ifs, na⟩] scope _) => decide (na = 0) && blkC cc.N cc.sc scope (ownN cc own) && (tgIx tgc).all (fun j => decide (j ∈ own)) && !isSet iter && chk nt it cc (.itr t iter) && chk nt tgc (cc.blk scope) (.tg t) && (match ifs with | [] => isYes cd | [c] => chk nt cd (cc.blk scope) (.ex c) | _ => false) && chk nt el (cc.blk scope) (.ex elt)
    | .lcn (.ListComp elt [⟨t, iter, ifs, na⟩] scope _) => decide (na = 0) && blkC cc.N cc.sc scope (ownN cc own) && (tgIx tgc).all (fun j => decide (j ∈ own)) && !isSet iter && chk nt it cc (.itr t iter) && chk nt tgc (cc.blk scope) (.tg t) && (match ifs with | [] => isYes cd | [c] => chk nt cd (cc.blk scope) (.ex c) | _ => false) && chk nt el (cc.blk scope) (.ex elt)
    | _ => false
  | .it a => fun cc n => match n with
    | .itr _ e => chk nt a cc (.ex e)
    | _ => false
  | .rng a => fun cc n => match n with
    | .itr _ (.Call (.Name y _) [e] [] _) => decide (y = "range") && glo cc y && !isStar e && chk nt a cc (.ex e)
    | _ => false
  | .rng2 a b => fun cc n => match n with
    | .itr _ (.Call (.Name y _) [l, r] [] _) => decide (y = "range") && glo cc y && !isStar l && !isStar r && chk nt a cc (.ex l) && chk nt b cc (.ex r)
    | _ => false
  | .enm a => fun cc n => match n with
    | .itr (.Tuple _ _ _) (.Call (.Name y _) [e] [] _) => decide (y = "enumerate") && glo cc y && !isStar e && chk nt a cc (.ex e)
    | _ => false
  | .zp a b => fun cc n => match n with
    | .itr (.Tuple _ _ _) (.Call (.Name y _) [l, r] [] _) => decide (y = "zip") && glo cc y && !isStar l && !isStar r && chk nt a cc (.ex l) && chk nt b cc (.ex r)
    | _ => false
  | .tn i => fun cc n => match n with
    | .tg (.Name y _) => tgt cc i y
    | _ => false
  | .tt is => fun cc n => match n with
    | .tg (.Tuple es _ _) => tgtAll cc is es
    | _ => false
  | .skp => fun cc n => match n with
    | .st (.Pass _) => true
    | .blk [] => true
    | _ => false
  | .seq a b => fun cc n => match n with
    | .blk (s :: ss) => chk nt a cc (.st s) && chk nt b cc (.blk ss)
    | _ => false
  | .ret a => fun cc n => match n with
    | .st (.Return (some e) _) => chk nt a cc (.ex e)
    | _ => false
  | .rtn => fun cc n => match n with
    | .st (.Return none _) => true
    | _ => false
  | .iff k a b => fun cc n => match n with
    | .st (.If c xs ys _) => chk nt k cc (.ex c) && chk nt a cc (.blk xs) && chk nt b cc (.blk ys)
    | _ => false
  | .frr tgc it b => fun cc n => match n with
    | .st (.For t iter body [] _) => !isSet iter && chk nt it cc (.itr t iter) && chk nt tgc cc (.tg t) && chk nt b cc (.blk body)
    | _ => false
  | .exp a => fun cc n => match n with
    | .st (.Expr e _) => !isComp e && chk nt a cc (.ex e)
    | _ => false
  | .apo i a => fun cc n => match n with
    | .st (.Expr (.Call (.Attribute (.Name y _) m ap) [e] [] cp) _) => decide (m = "append") && vis cc i y && (ap.endLine == cp.line) && !isStar e && chk nt a cc (.ex e)
    | _ => false
  | .asg i a => fun cc n => match n with
    | .st (.Assign [.Name y py] e sp) => tgt cc i y && (((!isComp e || !decide (cc.sc.names.lookup y = some .local)) && chk nt a cc (.ex e)) || lcOk cc y py e && chk nt a cc (.lcn e))
    | _ => false
  | .aso i a => fun cc n => match n with
    | .st (.Assign [.Name y py] e sp) => tgt cc i y && (((!isComp e || !decide (cc.sc.names.lookup y = some .local)) && chk nt a cc (.ex e)) || lcOk cc y py e && chk nt a cc (.lcn e))
    | _ => false
  | .asb i a => fun cc n => match n with
    | .st (.Assign [.Name y py] e sp) => tgt cc i y && (((!isComp e || !decide (cc.sc.names.lookup y = some .local)) && chk nt a cc (.ex e)) || lcOk cc y py e && chk nt a cc (.lcn e))
    | _ => false
  | .ast tgc a => fun cc n => match n with
    | .st (.Assign [.Tuple ts k p] e _) => !isComp e && swNo cc.sc ts e && chk nt tgc cc (.tg (.Tuple ts k p)) && chk nt a cc (.ex e)
    | _ => false
  | .par i j a b => fun cc n => match n with
    | .st (.Assign [.Tuple [.Name x px, .Name y py] _ _] (.Tuple [l, r] _ _) _) => decide (cc.N[i]? = some x) && decide (cc.N[j]? = some y) && decide (cc.sc.kind = .function) && decide (cc.sc.names.lookup x = some .local) && decide (cc.sc.names.lookup y = some .local) && !decide (x = y) && (py.line == px.line) && !isStar l && !isStar r && ([l, r].all (foldedForSure 8) == false) && ([l, r].all (constantsAlone 8) == false) && chk nt a cc (.ex l) && chk nt b cc (.ex r)
    | _ => false
  | .sit a k b => fun cc n => match n with
    | .st (.Assign [.Subscript l r _] e _) => !isSl r && !isComp e && chk nt a cc (.ex l) && chk nt k cc (.ex r) && chk nt b cc (.ex e)
    | _ => false
  | _ => fun _ _ => false
end En

namespace En
open PySem PySem.Spec L2
theorem pt_ifExp {X : Cx} {c a b : Expr} {pos : Pos} {tA ta tb : TT} (hc : PT X c tA) (ha : PT X a ta) (hb : PT X b tb) : PT X (.IfExp c a b pos) (fun σ H Q => tA σ H fun k H1 => if k = true then ta σ H1 Q else tb σ H1 Q) := by
  refine ⟨fun pins s σ H Q I h => ?_⟩
  show wpAny _ _ (do if ← isTrue c X.env (eval c X.env) then isTrue a X.env (eval a X.env) else isTrue b X.env (eval b X.env)) _ _ s
  refine wpAny_bind (thn (hc.run pins s σ H _ I h) fun d s1 ⟨H1, I1, q1⟩ => ?_)
  cases d with
  | true => exact ha.run pins s1 σ H1 Q I1 q1
  | false => exact hb.run pins s1 σ H1 Q I1 q1
def LcD (T : Tb) (cc : CC) (X : Cx) (W : WX) (c : E) (e : Expr) : Prop :=
  ∃ elt tg iter ifs scope pos own tgc it cd el, e = .ListComp elt [⟨tg, iter, ifs, 0⟩] scope pos ∧ c = .lc ((ownN cc own).map (·.2)) tgc it cd el ∧ BlkOk X.N X.env.scope scope (ownN cc own) ∧ (∀ j ∈ tgIx tgc, j ∈ (ownN cc own).map (·.2)) ∧
    (∀ F, PI X tg iter (rdI T F W it)) ∧ isSet iter = false ∧ (∀ (X' : Cx), XOk T (cc.blk scope) X' W0 → ∀ F, PG X' tg (rdG T F tgc)) ∧ (∀ (X' : Cx), XOk T (cc.blk scope) X' W0 → PTs X' ifs (rdTF T W0 cd)) ∧
    (∀ (X' : Cx), XOk T (cc.blk scope) X' W0 → ∀ F, PE X' elt (rd T F W0 el))
def Den (T : Tb) (cc : CC) (X : Cx) (W : WX) (c : E) : Nd → Prop
  | .ex e => ∀ F, PE X e (rd T F W c) ∧ PT X e (rdT T F W c)
  | .ands es => ∀ F p, PE X (.BoolOp .And es p) (rd T F W c) ∧ PW X (.BoolOp .And es p) (rdT T F W c)
  | .ors es => ∀ F p, PE X (.BoolOp .Or es p) (rd T F W c) ∧ PW X (.BoolOp .Or es p) (rdT T F W c)
  | .args es => ∀ F, PA X es (rdA T F W c)
  | .st s => ∀ F, PS X s (rdS T F W c)
  | .blk ss => ∀ F, PSs X ss (rdS T F W c)
  | .itr tg e => ∀ F, PI X tg e (rdI T F W c)
  | .part o => ∀ F, PO X o (rdO T F W c)
  | .tg e => ∀ F, PG X e (rdG T F c)
  | .lcn e => LcD T cc X W c e
  | .kws ks => ∀ F, PK X ks (rdA T F W c)
theorem plain_den {T : Tb} {cc : CC} {X : Cx} {W : WX} {c : E} {e : Expr} (h : ∀ F, PE X e (rd T F W c)) (hp : plainT e = true) : Den T cc X W c (.ex e) := fun F => ⟨h F, t_plain (h F) hp⟩
theorem rdT_ite {T : Tb} {W : WX} {F : Fr} {k a b : E} {σ : L2.St} {H : Hp} {Q : Bool → Hp → Prop} (hq : rdT T F W (.ite k a b) σ H Q) : rdT T F W k σ H fun q H1 => if q = true then rdT T F W a σ H1 Q else rdT T F W b σ H1 Q := by
  obtain ⟨s, G, io, t, hp⟩ := hq
  refine ⟨s, G, io, t, ?_⟩
  refine Post.bnd hp fun d s v H1 G1 io1 sg si t1 r1 hp1 => ?_
  split at hp1
  · rename_i k
    refine ⟨k, r1, ?_⟩
    cases k with
    | true => exact iteT ⟨s, G1, io1, t1, hp1⟩
    | false => exact iteF ⟨s, G1, io1, t1, hp1⟩
  · exact hp1.elim
theorem isYes_eq {c : E} (h : isYes c = true) : c = .cst (.bl true) := by
  unfold isYes at h
  split at h
  · rfl
  · cases h
theorem ownN_map (cc : CC) (own : List Nat) : (ownN cc own).map (·.2) = own := by
  unfold ownN
  rw [List.map_map]
  exact List.map_id' _
theorem LcD.pe {T : Tb} {cc : CC} {X : Cx} {W : WX} {c : E} {e : Expr} (o : XOk T cc X W) (h : LcD T cc X W c e) : ∀ F, PE X e (rd T F W c) := fun F => by
  obtain ⟨elt, tg, iter, ifs, scope, pos, own, tgc, it, cd, el, rfl, rfl, h1, h2, h3, h4, h5, h6, h7⟩ := h
  exact s_lc o h1 h2 (h3 F) h4 h5 h6 h7
theorem LcD.asn {T : Tb} {cc : CC} {X : Cx} {W : WX} {c S : E} {e : Expr} {i : Nat} {y : Str} {py spos : Pos} {F : Fr} (o : XOk T cc X W) (h : LcD T cc X W c e) (hS : ∀ D σ H, rdS T F W S D σ H → rd T F W c σ H (fun v H1 => D.nx (σ.set i (some v)) H1)) (ht : tgt cc i y = true) (hl : lcOk cc y py e = true) :
    PS X (.Assign [.Name y py] e spos) (rdS T F W S) := by
  obtain ⟨elt, tg, iter, ifs, scope, pos, own, tgc, it, cd, el, rfl, rfl, h1, h2, h3, h4, h5, h6, h7⟩ := h
  simp only [lcOk, Bool.and_eq_true, decide_eq_true_eq, Bool.not_eq_true'] at hl
  obtain ⟨⟨⟨l1, l2⟩, l3⟩, l4⟩ := hl
  exact s_asnLc o h1 h2 (h3 F) h4 h5 h6 h7 hS ht l1 l2 l3 l4
theorem asn_den {T : Tb} {cc : CC} {X : Cx} {W : WX} {a S : E} {e : Expr} {i : Nat} {y : Str} {py spos : Pos} (o : XOk T cc X W) (hS : ∀ F D σ H, rdS T F W S D σ H → rd T F W a σ H (fun v H1 => D.nx (σ.set i (some v)) H1))
    (h : (tgt cc i y && (((!isComp e || !decide (cc.sc.names.lookup y = some .local)) && chk T.nt a cc (.ex e)) || lcOk cc y py e && chk T.nt a cc (.lcn e))) = true) (ih : ∀ n, chk T.nt a cc n = true → Den T cc X W a n) :
    Den T cc X W S (.st (.Assign [.Name y py] e spos)) := fun F => by
  rw [Bool.and_eq_true, Bool.or_eq_true, Bool.and_eq_true, Bool.and_eq_true, Bool.or_eq_true] at h
  obtain ⟨ht, h | h⟩ := h
  · obtain ⟨h1, h2⟩ := h
    refine s_asn o (hS F) ht ?_ (ih _ h2 F).1
    rcases h1 with h1 | h1
    · exact .inl (by simpa using h1)
    · exact .inr (by simpa using h1)
  · exact LcD.asn o (ih _ h.2) (hS F) ht h.1
theorem lc_den {T : Tb} {cc : CC} {X : Cx} {W : WX} {own : List Nat} {tgc it cd el : E} {elt tg iter : Expr} {ifs : List Expr} {na : Int} {scope : Scope} {pos : Pos} (t : TOk T) (o : XOk T cc X W)
    (h : (decide (na = 0) && blkC cc.N cc.sc scope (ownN cc own) && (tgIx tgc).all (fun j => decide (j ∈ own)) && !isSet iter && chk T.nt it cc (.itr tg iter) && chk T.nt tgc (cc.blk scope) (.tg tg) &&
      (match ifs with | [] => isYes cd | [c] => chk T.nt cd (cc.blk scope) (.ex c) | _ => false) && chk T.nt el (cc.blk scope) (.ex elt)) = true)
    (ih1 : ∀ n, chk T.nt it cc n = true → Den T cc X W it n) (ih2 : ∀ X' n, XOk T (cc.blk scope) X' W0 → chk T.nt tgc (cc.blk scope) n = true → Den T (cc.blk scope) X' W0 tgc n)
    (ih3 : ∀ X' n, XOk T (cc.blk scope) X' W0 → chk T.nt cd (cc.blk scope) n = true → Den T (cc.blk scope) X' W0 cd n) (ih4 : ∀ X' n, XOk T (cc.blk scope) X' W0 → chk T.nt el (cc.blk scope) n = true → Den T (cc.blk scope) X' W0 el n) :
    LcD T cc X W (.lc own tgc it cd el) (.ListComp elt [⟨tg, iter, ifs, na⟩] scope pos) := by
  simp only [Bool.and_eq_true, decide_eq_true_eq, List.all_eq_true, Bool.not_eq_true'] at h
  obtain ⟨⟨⟨⟨⟨⟨⟨h1, h2⟩, h3⟩, h4⟩, h5⟩, h6⟩, h7⟩, h8⟩ := h
  subst h1
  refine ⟨elt, tg, iter, ifs, scope, pos, own, tgc, it, cd, el, rfl, by rw [ownN_map], ?_, by rw [ownN_map]; exact h3, ih1 _ h5, h4, fun X' o' => ih2 X' _ o' h6, fun X' o' => ?_, fun X' o' F => (ih4 X' _ o' h8 F).1⟩
  · rw [o.N, o.sc]
    exact blkOk_by h2
  · cases ifs with
    | nil => exact PTs.yes (isYes_eq h7)
    | cons c cs =>
      cases cs with
      | nil =>
        have d := ih3 X' _ o' h7
        exact pts_one (PT.exF fun F => (d F).2)
      | cons _ _ => cases h7
theorem snd {T : Tb} : ∀ (c : E) (cc : CC) (X : Cx) (W : WX) (n : Nd), TOk T → XOk T cc X W → chk T.nt c cc n = true → Den T cc X W c n
  | .var i, cc, X, W, n, t, o, h => by
    simp only [chk] at h
    split at h
    · exact plain_den (fun F => s_var o h) rfl
    · cases h
  | .mv i, cc, X, W, n, t, o, h => by
    simp only [chk] at h
    split at h
    · exact plain_den (fun F => s_mv o h) rfl
    · cases h
  | .fz i, cc, X, W, n, t, o, h => by simp only [chk] at h; cases h
  | .cst d, cc, X, W, n, t, o, h => by
    simp only [chk] at h
    split at h
    · exact plain_den (fun F => s_cst h) rfl
    · cases h
  | .gv g, cc, X, W, n, t, o, h => by
    simp only [chk] at h
    split at h
    · simp only [Bool.and_eq_true, decide_eq_true_eq] at h
      exact plain_den (fun F => s_gv o t h.1.1 h.1.2 h.2) rfl
    · cases h
  | .one a, cc, X, W, n, t, o, h => by
    simp only [chk] at h
    split at h
    · have d := snd a cc X W _ t o h
      exact fun F p => ⟨s_one (d F).1, w_one_and (d F).2⟩
    · have d := snd a cc X W _ t o h
      exact fun F p => ⟨s_one (d F).1, w_one_or (d F).2⟩
    · simp only [Bool.and_eq_true, Bool.not_eq_true'] at h
      have d := snd a cc X W _ t o h.2
      intro F
      exact o_some (a := .one a) (d F).1 rfl
    · cases h
  | .bop op a b, cc, X, W, n, t, o, h => by
    simp only [chk] at h
    split at h
    · simp only [Bool.and_eq_true, decide_eq_true_eq] at h
      obtain ⟨⟨h1, h2⟩, h3⟩ := h
      subst h1
      have d1 := snd a cc X W _ t o h2
      have d2 := snd b cc X W _ t o h3
      exact plain_den (fun F => s_bop o (d1 F).1 (d2 F).1) rfl
    · cases h
  | .neg a, cc, X, W, n, t, o, h => by
    simp only [chk] at h
    split at h
    · have d := snd a cc X W _ t o h
      exact plain_den (fun F => s_neg o (d F).1) rfl
    · cases h
  | .nt a, cc, X, W, n, t, o, h => by
    simp only [chk] at h
    split at h
    · have d := snd a cc X W _ t o h
      exact fun F => ⟨s_nt (d F).1, t_nt (d F).2⟩
    · cases h
  | .band a b, cc, X, W, n, t, o, h => by
    simp only [chk] at h
    split at h
    · rw [Bool.and_eq_true] at h
      have d1 := snd a cc X W _ t o h.1
      have d2 := snd b cc X W _ t o h.2
      exact fun F => ⟨s_band (d1 F).1 (d2 F _).1, (w_band (d1 F).2 (d2 F _).2).pt⟩
    · rw [Bool.and_eq_true] at h
      have d1 := snd a cc X W _ t o h.1
      have d2 := snd b cc X W _ t o h.2
      exact fun F p => ⟨s_band (d1 F).1 (d2 F p).1, w_band (d1 F).2 (d2 F p).2⟩
    · cases h
  | .bor a b, cc, X, W, n, t, o, h => by
    simp only [chk] at h
    split at h
    · rw [Bool.and_eq_true] at h
      have d1 := snd a cc X W _ t o h.1
      have d2 := snd b cc X W _ t o h.2
      exact fun F => ⟨s_bor (d1 F).1 (d2 F _).1, (w_bor (d1 F).2 (d2 F _).2).pt⟩
    · rw [Bool.and_eq_true] at h
      have d1 := snd a cc X W _ t o h.1
      have d2 := snd b cc X W _ t o h.2
      exact fun F p => ⟨s_bor (d1 F).1 (d2 F p).1, w_bor (d1 F).2 (d2 F p).2⟩
    · cases h
  | .ite k a b, cc, X, W, n, t, o, h => by
    simp only [chk] at h
    split at h
    · simp only [Bool.and_eq_true] at h
      have d0 := snd k cc X W _ t o h.1.1
      have d1 := snd a cc X W _ t o h.1.2
      have d2 := snd b cc X W _ t o h.2
      exact fun F => ⟨s_ite (d0 F).2 (d1 F).1 (d2 F).1, PT.wk (pt_ifExp (d0 F).2 (d1 F).2 (d2 F).2) fun σ H Q hq => rdT_ite hq⟩
    · cases h
  | .cmp op a b, cc, X, W, n, t, o, h => by
    simp only [chk] at h
    split at h
    · simp only [Bool.and_eq_true, copEq, decide_eq_true_eq, Bool.not_eq_true'] at h
      obtain ⟨⟨⟨h1, h2⟩, h3⟩, h4⟩ := h
      subst h1
      have d1 := snd a cc X W _ t o h3
      have d2 := snd b cc X W _ t o h4
      exact fun F => ⟨s_cmp o h2 (d1 F).1 (d2 F).1, t_cmp o h2 (d1 F).1 (d2 F).1⟩
    · cases h
  | .chn p q a b k, cc, X, W, n, t, o, h => by
    simp only [chk] at h
    split at h
    · simp only [Bool.and_eq_true, copEq, decide_eq_true_eq, Bool.not_eq_true'] at h
      obtain ⟨⟨⟨⟨⟨h1, h2⟩, h3⟩, h4⟩, h5⟩, h6⟩ := h
      subst h1 h2
      have d1 := snd a cc X W _ t o h4
      have d2 := snd b cc X W _ t o h5
      have d3 := snd k cc X W _ t o h6
      exact fun F => s_chn o h3 (d1 F).1 (d2 F).1 (d3 F).1
    · cases h
  | .isn a, cc, X, W, n, t, o, h => by
    simp only [chk] at h
    split at h
    · have d := snd a cc X W _ t o h
      exact fun F => s_isn2 (d F).1
    · cases h
  | .nin a, cc, X, W, n, t, o, h => by
    simp only [chk] at h
    split at h
    · have d := snd a cc X W _ t o h
      exact fun F => s_nin2 (d F).1
    · cases h
  | .ix a b, cc, X, W, n, t, o, h => by
    simp only [chk] at h
    split at h
    · simp only [Bool.and_eq_true, Bool.not_eq_true'] at h
      have d1 := snd a cc X W _ t o h.1.2
      have d2 := snd b cc X W _ t o h.2
      exact plain_den (fun F => s_ix o (ix_plain h.1.1) (d1 F).1 (d2 F).1) rfl
    · cases h
  | .sl a lo hi, cc, X, W, n, t, o, h => by
    simp only [chk] at h
    split at h
    · simp only [Bool.and_eq_true] at h
      have d1 := snd a cc X W _ t o h.1.1
      have d2 := snd lo cc X W _ t o h.1.2
      have d3 := snd hi cc X W _ t o h.2
      exact plain_den (fun F => s_sl o (d1 F).1 (d2 F) (d3 F)) rfl
    · cases h
  | .fld a f, cc, X, W, n, t, o, h => by simp only [chk] at h; cases h
  | .cal f a, cc, X, W, n, t, o, h => by
    simp only [chk] at h
    split at h
    · simp only [Bool.and_eq_true, decide_eq_true_eq] at h
      obtain ⟨⟨⟨⟨h1, h2⟩, h3⟩, h4⟩, h5⟩ := h
      subst h1
      have d := snd a cc X W _ t o h5
      exact plain_den (fun F => s_cal o t h2 h3 rfl h4 (d F)) rfl
    · simp only [Bool.and_eq_true, decide_eq_true_eq] at h
      obtain ⟨⟨⟨h0, h1⟩, h2⟩, h3⟩ := h
      subst h1
      have e : a = .nil := by
        cases a <;> first | rfl | cases h0
      subst e
      exact plain_den (fun F => s_cal0 o t h2 h3) rfl
    · cases h
  | .met m x as, cc, X, W, n, t, o, h => by simp only [chk] at h; cases h
  | .bi k a, cc, X, W, n, t, o, h => by
    simp only [chk] at h
    split at h
    · simp only [Bool.and_eq_true, decide_eq_true_eq] at h
      obtain ⟨⟨⟨h1, h2⟩, h3⟩, h4⟩ := h
      subst h1
      have d := snd a cc X W _ t o h4
      exact plain_den (fun F => s_bi o t h2 h3 (d F)) rfl
    · cases h
  | .calk f n' a m' ka, cc, X, W, n, t, o, h => by
    simp only [chk] at h
    split at h
    · simp only [Bool.and_eq_true, decide_eq_true_eq] at h
      obtain ⟨⟨⟨⟨⟨⟨⟨⟨⟨⟨h1, h2⟩, h3⟩, h4⟩, h5⟩, h6⟩, h7⟩, h8⟩, h9⟩, h10⟩, h11⟩ := h
      subst h1
      have d1 := snd a cc X W _ t o h10
      have d2 := snd ka cc X W _ t o h11
      refine plain_den (fun F => s_calk o t h2 h3 h4 h6 h7 h8 (fun z => ?_) (d1 F) (d2 F)) rfl
      subst z
      cases a <;> first | rfl | cases h9
    · cases h
  | .bm m x as, cc, X, W, n, t, o, h => by
    simp only [chk] at h
    split at h
    · simp only [Bool.and_eq_true, decide_eq_true_eq, Bool.not_eq_true'] at h
      obtain ⟨⟨⟨⟨⟨⟨h1, h2⟩, h3⟩, h4⟩, h5⟩, h6⟩, h7⟩ := h
      subst h1 h2
      have d1 := snd x cc X W _ t o h6
      have d2 := snd as cc X W _ t o h7
      exact plain_den (fun F => s_join o h3 h4 h5 (d1 F).1 (d2 F)) rfl
    · cases h
  | .lst a, cc, X, W, n, t, o, h => by
    simp only [chk] at h
    split at h
    · have d := snd a cc X W _ t o h
      exact plain_den (fun F => s_lst (d F)) rfl
    · cases h
  | .tpl a, cc, X, W, n, t, o, h => by
    simp only [chk] at h
    split at h
    · have d := snd a cc X W _ t o h
      exact plain_den (fun F => s_tpl (d F)) rfl
    · cases h
  | .isi a ts, cc, X, W, n, t, o, h => by
    simp only [chk] at h
    split at h
    · simp only [Bool.and_eq_true, decide_eq_true_eq, Bool.not_eq_true'] at h
      obtain ⟨⟨⟨⟨h1, h2⟩, h3⟩, h4⟩, h5⟩ := h
      subst h1
      have d := snd a cc X W _ t o h5
      split at h4
      · simp only [Bool.and_eq_true, decide_eq_true_eq] at h4
        obtain ⟨⟨z1, z2⟩, z3⟩ := h4
        subst z1
        exact plain_den (fun F => s_isi o t h3 h2 z2 z3 (d F).1) rfl
      · cases h4
    · simp only [Bool.and_eq_true, decide_eq_true_eq, Bool.not_eq_true'] at h
      obtain ⟨⟨⟨⟨⟨⟨⟨h1, h2⟩, h3⟩, h4⟩, h5⟩, h6⟩, h7⟩, h8⟩ := h
      subst h1
      have d := snd a cc X W _ t o h8
      cases ts with
      | nil => cases h4
      | cons k ts => exact plain_den (fun F => s_isis o t h3 h2 h5 h6 h7 (d F).1) rfl
    · cases h
  | .lc own tgc it cd el, cc, X, W, n, t, o, h => by
    simp only [chk] at h
    split at h
    · exact plain_den ((lc_den t o h (fun n hn => snd it cc X W n t o hn) (fun X' n o' hn => snd tgc _ X' W0 n t o' hn) (fun X' n o' hn => snd cd _ X' W0 n t o' hn) (fun X' n o' hn => snd el _ X' W0 n t o' hn)).pe o) rfl
    · exact lc_den (pos := _) t o h (fun n hn => snd it cc X W n t o hn) (fun X' n o' hn => snd tgc _ X' W0 n t o' hn) (fun X' n o' hn => snd cd _ X' W0 n t o' hn) (fun X' n o' hn => snd el _ X' W0 n t o' hn)
    · cases h
  | .nil, cc, X, W, n, t, o, h => by
    simp only [chk] at h
    split at h
    · exact fun F => a_nil
    · exact fun F => k_nil
    · cases h
  | .cns a b, cc, X, W, n, t, o, h => by
    simp only [chk] at h
    split at h
    · simp only [Bool.and_eq_true, Bool.not_eq_true'] at h
      have d1 := snd a cc X W _ t o h.1.2
      have d2 := snd b cc X W _ t o h.2
      exact fun F => a_cns h.1.1 (d1 F).1 (d2 F)
    · simp only [Bool.and_eq_true] at h
      have d1 := snd a cc X W _ t o h.1
      have d2 := snd b cc X W _ t o h.2
      exact fun F => k_cns (d1 F).1 (d2 F)
    · cases h
  | .abs, cc, X, W, n, t, o, h => by
    simp only [chk] at h
    split at h
    · exact fun F => o_abs
    · cases h
  | .it a, cc, X, W, n, t, o, h => by
    simp only [chk] at h
    split at h
    · have d := snd a cc X W _ t o h
      exact fun F => i_it o (d F).1
    · cases h
  | .rng a, cc, X, W, n, t, o, h => by
    simp only [chk] at h
    split at h
    · simp only [Bool.and_eq_true, decide_eq_true_eq, Bool.not_eq_true'] at h
      obtain ⟨⟨⟨h1, h2⟩, h3⟩, h4⟩ := h
      subst h1
      have d := snd a cc X W _ t o h4
      exact fun F => i_rng o t h3 h2 (d F).1
    · cases h
  | .rng2 a b, cc, X, W, n, t, o, h => by
    simp only [chk] at h
    split at h
    · simp only [Bool.and_eq_true, decide_eq_true_eq, Bool.not_eq_true'] at h
      obtain ⟨⟨⟨⟨⟨h1, h2⟩, h3⟩, h4⟩, h5⟩, h6⟩ := h
      subst h1
      have d1 := snd a cc X W _ t o h5
      have d2 := snd b cc X W _ t o h6
      exact fun F => i_rng2 o t h3 h4 h2 (d1 F).1 (d2 F).1
    · cases h
  | .enm a, cc, X, W, n, t, o, h => by
    simp only [chk] at h
    split at h
    · simp only [Bool.and_eq_true, decide_eq_true_eq, Bool.not_eq_true'] at h
      obtain ⟨⟨⟨h1, h2⟩, h3⟩, h4⟩ := h
      subst h1
      have d := snd a cc X W _ t o h4
      exact fun F => i_enm o t h3 h2 (d F).1
    · cases h
  | .zp a b, cc, X, W, n, t, o, h => by
    simp only [chk] at h
    split at h
    · simp only [Bool.and_eq_true, decide_eq_true_eq, Bool.not_eq_true'] at h
      obtain ⟨⟨⟨⟨⟨h1, h2⟩, h3⟩, h4⟩, h5⟩, h6⟩ := h
      subst h1
      have d1 := snd a cc X W _ t o h5
      have d2 := snd b cc X W _ t o h6
      exact fun F => i_zp o t h3 h4 h2 (d1 F).1 (d2 F).1
    · cases h
  | .tn i, cc, X, W, n, t, o, h => by
    simp only [chk] at h
    split at h
    · exact fun F => g_name o h
    · cases h
  | .tt is, cc, X, W, n, t, o, h => by
    simp only [chk] at h
    split at h
    · exact fun F => g_tup o h
    · cases h
  | .skp, cc, X, W, n, t, o, h => by
    simp only [chk] at h
    split at h
    · exact fun F => s_skp
    · exact fun F => b_nil
    · cases h
  | .seq a b, cc, X, W, n, t, o, h => by
    simp only [chk] at h
    split at h
    · rw [Bool.and_eq_true] at h
      have d1 := snd a cc X W _ t o h.1
      have d2 := snd b cc X W _ t o h.2
      exact fun F => b_seq (d1 F) (d2 F)
    · cases h
  | .asg i a, cc, X, W, n, t, o, h => by
    simp only [chk] at h
    split at h
    · exact asn_den o (fun F D σ H hq => asg_rd hq) h fun n hn => snd a cc X W n t o hn
    · cases h
  | .ast tgc a, cc, X, W, n, t, o, h => by
    simp only [chk] at h
    split at h
    · simp only [Bool.and_eq_true, Bool.not_eq_true'] at h
      obtain ⟨⟨⟨h1, h2⟩, h3⟩, h4⟩ := h
      have d1 := snd tgc cc X W _ t o h3
      have d2 := snd a cc X W _ t o h4
      exact fun F => s_ast o h1 h2 (d1 F) (d2 F).1
    · cases h
  | .aso i a, cc, X, W, n, t, o, h => by
    simp only [chk] at h
    split at h
    · exact asn_den o (fun F D σ H hq => aso_rd hq) h fun n hn => snd a cc X W n t o hn
    · cases h
  | .asb i a, cc, X, W, n, t, o, h => by
    simp only [chk] at h
    split at h
    · exact asn_den o (fun F D σ H hq => asb_rd hq) h fun n hn => snd a cc X W n t o hn
    · cases h
  | .par i j a b, cc, X, W, n, t, o, h => by
    simp only [chk] at h
    split at h
    · simp only [Bool.and_eq_true, decide_eq_true_eq, Bool.not_eq_true', decide_eq_false_iff_not, beq_iff_eq] at h
      obtain ⟨⟨⟨⟨⟨⟨⟨⟨⟨⟨⟨⟨h1, h2⟩, h3⟩, h4⟩, h5⟩, h6⟩, h7⟩, h8⟩, h9⟩, h10⟩, h11⟩, h12⟩, h13⟩ := h
      have d1 := snd a cc X W _ t o h12
      have d2 := snd b cc X W _ t o h13
      exact fun F => s_par o h1 h2 h3 h4 h5 h6 (by simpa using h7) h8 h9 h10 h11 (d1 F).1 (d2 F).1
    · cases h
  | .sit a k b, cc, X, W, n, t, o, h => by
    simp only [chk] at h
    split at h
    · simp only [Bool.and_eq_true, Bool.not_eq_true'] at h
      obtain ⟨⟨⟨⟨h1, h2⟩, h3⟩, h4⟩, h5⟩ := h
      have d1 := snd a cc X W _ t o h3
      have d2 := snd k cc X W _ t o h4
      have d3 := snd b cc X W _ t o h5
      exact fun F => s_sit o h1 h2 (d1 F).1 (d2 F).1 (d3 F).1
    · cases h
  | .ret a, cc, X, W, n, t, o, h => by
    simp only [chk] at h
    split at h
    · have d := snd a cc X W _ t o h
      exact fun F => s_ret (d F).1
    · cases h
  | .rtn, cc, X, W, n, t, o, h => by
    simp only [chk] at h
    split at h
    · exact fun F => s_rtn
    · cases h
  | .iff k a b, cc, X, W, n, t, o, h => by
    simp only [chk] at h
    split at h
    · simp only [Bool.and_eq_true] at h
      have d0 := snd k cc X W _ t o h.1.1
      have d1 := snd a cc X W _ t o h.1.2
      have d2 := snd b cc X W _ t o h.2
      exact fun F => s_iff (d0 F).2 (d1 F) (d2 F)
    · cases h
  | .frr tgc it b, cc, X, W, n, t, o, h => by
    simp only [chk] at h
    split at h
    · simp only [Bool.and_eq_true, Bool.not_eq_true'] at h
      obtain ⟨⟨⟨h1, h2⟩, h3⟩, h4⟩ := h
      have d0 := snd it cc X W _ t o h2
      have d1 := snd tgc cc X W _ t o h3
      have d2 := snd b cc X W _ t o h4
      exact fun F => s_for o h1 (d0 F) (d1 F) (d2 F)
    · cases h
  | .exp a, cc, X, W, n, t, o, h => by
    simp only [chk] at h
    split at h
    · simp only [Bool.and_eq_true, Bool.not_eq_true'] at h
      have d := snd a cc X W _ t o h.2
      exact fun F => s_exp h.1 (d F).1
    · cases h
  | .apo i a, cc, X, W, n, t, o, h => by
    simp only [chk] at h
    split at h
    · simp only [Bool.and_eq_true, decide_eq_true_eq, Bool.not_eq_true'] at h
      obtain ⟨⟨⟨⟨h1, h2⟩, h3⟩, h4⟩, h5⟩ := h
      subst h1
      have d := snd a cc X W _ t o h5
      exact fun F => s_apo o h2 h3 h4 (d F).1
    · cases h
  | .ino i k a, cc, X, W, n, t, o, h => by simp only [chk] at h; cases h
end En

namespace En
open PySem PySem.Spec L2
/-- what a def hands back of a run of its body -/
def fin : Res → Option (Out × List MO)
  | some (.rt d, s) => some (.val d, s.m)
  | some (.rtf ds, s) => some (.frs ds, s.m)
  | some (.nx, s) => some (.val .non, s.m)
  | some (.exc c ns ds, s) => some (.exc c ns ds, s.m)
  | _ => none
def ini (n : Nat) (ds : List D) : List (Option Cell) := ds.map (fun d => some (.val d)) ++ List.replicate (n - ds.length) none
def runF (T : Tb) (n : Nat) (code : E) (ds : List D) (m : List MO) : Option (Out × List MO) := fin (ev T.P T.Gm code ⟨ini n ds, m⟩)
theorem ini_str {x : SX} {G H : Hp} {io : List Addr} {m : List MO} {ds : List D} {vs : List V} {N : List Str} (gh : Same G H) (hm : MemA x G io H m) (r : RpL x G io ds vs) (hl : vs.length ≤ N.length) :
    StR x ⟨H, G, io⟩ ⟨ini N.length ds, m⟩ G io (L2.start N vs) H where
  gh := gh
  len := by unfold ini L2.start; simp [r.length]
  slot := fun i c e => by
    unfold ini at e
    by_cases hi : i < ds.length
    · rw [List.getElem?_append_left (by simpa using hi), List.getElem?_map] at e
      obtain ⟨d, hd, e2⟩ := Option.map_eq_some_iff.mp e
      cases e2
      obtain ⟨v, e1, q⟩ := r.get hd
      refine ⟨v, ?_, q⟩
      unfold L2.start
      rw [List.getElem?_append_left (by simp [r.length]; exact hi), List.getElem?_map, e1]
      rfl
    · rw [List.getElem?_append_right (by simpa using hi)] at e
      have := List.getElem?_replicate (a := (none : Option Cell)) (n := N.length - ds.length) (i := i - (ds.map (fun d => some (Cell.val d))).length)
      rw [this] at e
      split at e <;> cases e
  own := fun i j c c' v _ e1 _ o1 => by
    unfold ini at e1
    by_cases hi : i < ds.length
    · rw [List.getElem?_append_left (by simpa using hi), List.getElem?_map] at e1
      obtain ⟨d, hd, e2⟩ := Option.map_eq_some_iff.mp e1
      cases e2
      cases o1
    · rw [List.getElem?_append_right (by simpa using hi)] at e1
      have := List.getElem?_replicate (a := (none : Option Cell)) (n := N.length - ds.length) (i := i - (ds.map (fun d => some (Cell.val d))).length)
      rw [this] at e1
      split at e1 <;> cases e1
  mem := hm
  kh := fun _ _ e _ => e
  kg := fun _ _ => rfl
  ki := Pre.refl _
  ni := fun n a hn e => by
    have hn : io.length ≤ n := hn
    rw [List.getElem?_eq_none (by omega)] at e; cases e
theorem fn_ok {T : Tb} {name qual : Str} {st : Stmt} {a : Addr} {fd : FuncData} {N ps : List Str} {code : E} {Pf : List D → List MO → Option (Out × List MO)} (Fn : Fun T.x.K name qual st a fd) (S : FnScope N ps (defScope st)) (hc : chk T.nt code (CC.fn N (defScope st)) (.blk (defBody st)) = true)
    (t : TOk T) (hrun : ∀ ds m r, Pf ds m = some r → runF T N.length code ds m = some r) : FnOk T.prog T.w T.x.K T.mg T.base (L2.CX T.prog T.w) (T.lv + 1) a fd ps (spP T.x Pf ps.length) := by
  refine Fn.okX S (fun vs H Q E h => h.1) fun cdv A outer s H vs Q E hr h => ?_
  obtain ⟨hl, ds, m, G, io, gh, hmem, r, hp⟩ := h
  have o : XOk T (CC.fn N (defScope st)) (cxOf (L2.CX T.prog T.w) T.prog T.w T.x.K T.mg T.base N qual (defScope st) a cdv A outer s H E) (fun cls d _ H => E cls d H) :=
    { prog := rfl, w := rfl, K := rfl, mg := rfl, base := rfl, N := rfl, nd := S.nd, sc := rfl, calm := rfl, tk := takes_of rfl rfl rfl rfl, po := passes_of rfl, room := hr,
      loc := fun y hy => by
        obtain ⟨_, hy⟩ := List.mem_filter.mp hy
        simp only [Bool.or_eq_true, decide_eq_true_eq] at hy
        exact ⟨hy, .inl rfl⟩ }
  have d := snd code _ _ _ _ t o hc ⟨H, G, io⟩
  refine ⟨_, d, ⟨ini N.length ds, m⟩, G, io, ini_str gh hmem r ?_, ?_⟩
  · rw [hl]
    have h1 := congrArg List.length S.pre
    rw [List.length_take] at h1
    omega
  · have hq := hp
    cases hP : Pf ds m with
    | none => rw [hP] at hp; exact hp.elim
    | some q =>
      have hR := hrun ds m q hP
      rw [hP] at hp
      unfold runF at hR
      cases he : ev T.P T.Gm code ⟨ini N.length ds, m⟩ with
      | none => rw [he] at hR; cases hR
      | some p =>
        obtain ⟨out, s1⟩ := p
        rw [he] at hR
        cases out with
        | rt d =>
          cases hR
          exact fun v σ' H' G' io' sg si t' rv => hp v H' G' io' t'.ff rv
        | rtf ds' =>
          cases hR
          intro p σ' H' G' io' sg si t' ni ow
          obtain ⟨ws, e1, e2, e3, e4⟩ := ow
          exact hp p H' G' io' t'.ff ni e3 ⟨ws, e1, e2, e4⟩
        | nx =>
          cases hR
          exact fun σ' H' G' io' sg si t' => hp .non H' G' io' t'.ff rfl
        | exc c ns es =>
          cases hR
          exact fun cls dd σ' H' G' io' sg si t' ex => hp cls dd H' G' io' t'.ff ex
        | _ => cases hR
/-! ### the run by fuel -/
structure Ent where
  N : Nat
  p : Nat
  c : E
  g : List D → List D
def Pn (Cd : Nat → Option Ent) (Gm : Nat → D) : Nat → Nat → List D → List MO → Option (Out × List MO)
  | 0, _, _, _ => none
  | n + 1, f, ds, m => match Cd f with
    | none => none
    | some e => if (e.g ds).length = e.p then fin (ev (Pn Cd Gm n) Gm e.c ⟨ini e.N (e.g ds), m⟩) else none
/-- what stays from level to level -/
structure Ld where
  x : SX
  nt : NT
  prog : Program
  w : World
  mg : Str → Option Value
  base : Heap
  Gm : Nat → D
  Cd : Nat → Option Ent
def Ld.T (L : Ld) (n : Nat) : Tb := { x := L.x, lv := n + 1, nt := L.nt, prog := L.prog, w := L.w, mg := L.mg, base := L.base, P := Pn L.Cd L.Gm n, Gm := L.Gm }
/-- a def as it stands, its code fits -/
structure FnD (L : Ld) (f : Nat) (name qual : Str) (st : Stmt) (a : Addr) (fd : FuncData) (N ps : List Str) (code : E) : Prop where
  fn : Fun L.x.K name qual st a fd
  sc : FnScope N ps (defScope st)
  hc : chk L.nt code (CC.fn N (defScope st)) (.blk (defBody st)) = true
  hm : L.mg (L.nt.fnm f) = some (.ref a)
def FnF (L : Ld) (f : Nat) : Prop := ∃ name qual st a fd N ps code, FnD L f name qual st a fd N ps code ∧ Binds L.x.K fd ps [] ∧ L.Cd f = some ⟨N.length, ps.length, code, id⟩
def FnK (L : Ld) (f : Nat) : Prop := ∃ name qual st a fd N ps code gd g gV, FnD L f name qual st a fd N ps code ∧ KBn L.x.K fd ps (L.nt.kn f) (L.nt.kk f) g gV ∧ L.Cd f = some ⟨N.length, ps.length, code, gd⟩ ∧
  ∀ (G : Hp) (io : List Addr) ds es vs zs, vs.length = L.nt.kn f → zs.length = (L.nt.kk f).length → RpL L.x G io ds vs → RpL L.x G io es zs → (gV vs zs).length = ps.length ∧ RpL L.x G io (gd (ds ++ es)) (gV vs zs)
structure LdOk (L : Ld) : Prop where
  fn : ∀ f, L.nt.isF f = true → FnF L f
  fk : ∀ f, L.nt.isK f = true → FnK L f
  gv : ∀ g, L.nt.gvn g ≠ "" → ∃ u v, L.mg (L.nt.gvn g) = some u ∧ RelV v u ∧ ∀ G io, Rp L.x G io (L.Gm g) v
  bl : ∀ n ∈ bltNames, L.mg n = none
theorem fn_zero {T : Tb} {a : Addr} {fd : FuncData} {ps : List Str} {k : Nat} : FnOk T.prog T.w T.x.K T.mg T.base (L2.CX T.prog T.w) k a fd ps (spP T.x (fun _ _ => none) ps.length) :=
  ⟨fun vs H Q E h => h.1, fun A outer s H args us vs Q E hr he hb hv hs => by
    obtain ⟨_, ds, m, G, io, _, _, _, hp⟩ := hs
    exact hp.elim⟩
/-- what a def of so many values with this code answers at a level -/
def PfC (L : Ld) (n N p : Nat) (code : E) (ds : List D) (m : List MO) : Option (Out × List MO) := match n with
  | 0 => none
  | n + 1 => if ds.length = p then fin (ev (Pn L.Cd L.Gm n) L.Gm code ⟨ini N ds, m⟩) else none
theorem Pn_eq {L : Ld} {n f : Nat} {N p : Nat} {code : E} {gd : List D → List D} (h : L.Cd f = some ⟨N, p, code, gd⟩) (ds : List D) (m : List MO) : Pn L.Cd L.Gm n f ds m = PfC L n N p code (gd ds) m := by
  cases n with
  | zero => rfl
  | succ n =>
    show (match L.Cd f with
      | none => none
      | some e => if (e.g ds).length = e.p then fin (ev (Pn L.Cd L.Gm n) L.Gm e.c ⟨ini e.N (e.g ds), m⟩) else none) = _
    rw [h]
    rfl
theorem PfC_some {L : Ld} {n N p : Nat} {code : E} {ds : List D} {m : List MO} {r : Out × List MO} (e : PfC L (n + 1) N p code ds m = some r) : ds.length = p ∧ fin (ev (Pn L.Cd L.Gm n) L.Gm code ⟨ini N ds, m⟩) = some r := by
  have e : (if ds.length = p then fin (ev (Pn L.Cd L.Gm n) L.Gm code ⟨ini N ds, m⟩) else none) = some r := e
  by_cases hl : ds.length = p
  · rw [if_pos hl] at e
    exact ⟨hl, e⟩
  · rw [if_neg hl] at e; cases e
def LvOk (L : Ld) (n : Nat) : Prop := ∀ {f : Nat} {name qual : Str} {st : Stmt} {a : Addr} {fd : FuncData} {N ps : List Str} {code : E}, FnD L f name qual st a fd N ps code →
  FnOk L.prog L.w L.x.K L.mg L.base (L2.CX L.prog L.w) (n + 1) a fd ps (spP L.x (PfC L n N.length ps.length code) ps.length)
theorem ld_step {L : Ld} (h : LdOk L) {n : Nat} (hF : LvOk L n) : TOk (L.T n) where
  fn := fun f hf => by
    obtain ⟨name, qual, st, a, fd, N, ps, code, q1, q2, q3⟩ := h.fn f hf
    refine ⟨a, fd, ps, q1.hm, q1.fn.kp, ?_, q2, fun ds m r e => ?_⟩
    · refine (hF q1).imp fun vs H Q E hs => ?_
      obtain ⟨e1, ds, m, G, io, e2, e3, e4, e5⟩ := hs
      refine ⟨e1, ds, m, G, io, e2, e3, e4, ?_⟩
      have e := Pn_eq (n := n) q3 ds m
      rw [show (PfC L n N.length ps.length code ds m) = (L.T n).P f ds m from e.symm]
      exact e5
    · have e' := (Pn_eq (n := n) q3 ds m).symm.trans e
      cases n with
      | zero => cases e'
      | succ n =>
        exact (PfC_some e').1
  fk := fun f hf => by
    obtain ⟨name, qual, st, a, fd, N, ps, code, gd, g, gV, q1, q2, q3, q4⟩ := h.fk f hf
    refine FnAtK.mk (T := L.T n) (Pf := PfC L n N.length ps.length code) q1.hm q1.fn.kp (hF q1) q2 fun G io ds es vs zs l1 l2 r1 r2 => ?_
    obtain ⟨e1, e2⟩ := q4 G io ds es vs zs l1 l2 r1 r2
    exact ⟨e1, _, e2, fun m => Pn_eq q3 _ m⟩
  gv := h.gv
  bl := h.bl
theorem ld_ok {L : Ld} (h : LdOk L) : ∀ n, LvOk L n
  | 0 => fun q => fn_zero (T := L.T 0)
  | n + 1 => fun q => by
    have t := ld_step h (ld_ok h n)
    refine fn_ok (T := L.T n) q.fn q.sc q.hc t fun ds m r e => ?_
    exact (PfC_some e).2
end En

namespace En
open PySem PySem.Spec L2
/-! ### evaluation by rewriting: the way on has a name, it is opened when its value stands -/
section
variable (P : Nat → List D → List MO → Option (Out × List MO)) (Gm : Nat → D)
def varR (o : Option (Option Cell)) (s : S) : Res := match o with
  | some (some (.val d)) => some (.val d, s)
  | _ => none
def mvR (i : Nat) (o : Option (Option Cell)) (s : S) : Res := match o with
  | some (some (.ol ds)) => some (.frs ds, s.set i none)
  | _ => none
def fzR (i : Nat) (o : Option (Option Cell)) (s : S) : Res := match o with
  | some (some (.ol ds)) => some (.val (.lst ds), s.set i (some (.val (.lst ds))))
  | some (some (.val d)) => some (.val d, s)
  | _ => none
def iteO {α : Type} (c : Bool) (a b : α) : α := match c with
  | true => a
  | false => b
def kBop1 (o : Bop) (b : E) (x : D) (s : S) : Res := bnd (ev P Gm b s) fun y s => bopF o x y s
def kBop2 (o : Bop) (x y : D) (s : S) : Res := bopF o x y s
def kNeg (x : D) (s : S) : Res := match x with
  | .int i => some (.val (.int (-i)), s)
  | _ => none
def kNt (x : D) (s : S) : Res := match x with
  | .bl b => some (.val (.bl (!b)), s)
  | _ => none
def kBand (b : E) (x : D) (s : S) : Res := match x with
  | .bl c => if c then ev P Gm b s else some (.val (.bl false), s)
  | _ => none
def kBor (b : E) (x : D) (s : S) : Res := match x with
  | .bl c => if c then some (.val (.bl true), s) else ev P Gm b s
  | _ => none
def kIte (a b : E) (x : D) (s : S) : Res := match x with
  | .bl c => if c then ev P Gm a s else ev P Gm b s
  | _ => none
def kCmp2 (o : Cop) (x y : D) (s : S) : Res := resB s (cmpF o x y s)
def kCmp1 (o : Cop) (b : E) (x : D) (s : S) : Res := bnd (ev P Gm b s) (kCmp2 o x)
def kChn4 (p : Cop) (y z : D) (s : S) : Res := resB s (cmpF p y z s)
def chnR (p : Cop) (c : E) (y : D) (s : S) (q : Option Bool) : Res := match q with
  | some true => bnd (ev P Gm c s) (kChn4 p y)
  | some false => some (.val (.bl false), s)
  | none => none
def kChn2 (o p : Cop) (c : E) (x y : D) (s : S) : Res := chnR P Gm p c y s (cmpF o x y s)
def kChn1 (o p : Cop) (b c : E) (x : D) (s : S) : Res := bnd (ev P Gm b s) (kChn2 P Gm o p c x)
def kIsn (x : D) (s : S) : Res := match x with
  | .non => some (.val (.bl true), s)
  | _ => some (.val (.bl false), s)
def kNin (x : D) (s : S) : Res := match x with
  | .non => some (.val (.bl false), s)
  | _ => some (.val (.bl true), s)
def kIx2 (x y : D) (s : S) : Res := resD s (ixF x y s)
def kIx1 (b : E) (x : D) (s : S) : Res := bnd (ev P Gm b s) (kIx2 x)
def kPrt (k : Option Int → S → Res) (d : D) (s : S) : Res := match d with
  | .int i => k (some i) s
  | _ => none
def kSl3 (x : D) (l h : Option Int) (s : S) : Res := slF x l h s
def kSl2 (hi : E) (x : D) (l : Option Int) (s : S) : Res := prt (isAbs hi) (ev P Gm hi s) s (kSl3 x l)
def kSl1 (lo hi : E) (x : D) (s : S) : Res := prt (isAbs lo) (ev P Gm lo s) s (kSl2 P Gm hi x)
def callR (o : Option (Out × List MO)) (s : S) : Res := match o with
  | some (.val d, m) => some (.val d, { s with m := m })
  | some (.frs d, m) => some (.frs d, { s with m := m })
  | some (.exc c ns es, m) => some (.exc c ns es, { s with m := m })
  | _ => none
def kCal (f : Nat) (ds : List D) (s : S) : Res := callR (P f ds s.m) s
def kCalk2 (f n m : Nat) (ds es : List D) (s : S) : Res := if ds.length = n ∧ es.length = m then callR (P f (ds ++ es) s.m) s else none
def kCalk1 (f n m : Nat) (ks : E) (ds : List D) (s : S) : Res := bndA (ev P Gm ks s) (kCalk2 P f n m ds)
def kBi (b : Bi) (ds : List D) (s : S) : Res := biF b ds s
def kBm2 (m : Bm) (x : D) (ds : List D) (s : S) : Res := bmF m x ds s
def kBm1 (m : Bm) (as : E) (x : D) (s : S) : Res := if bmR m x then bndA (ev P Gm as s) (kBm2 m x) else none
def kLst (ds : List D) (s : S) : Res := if ds.length ≤ big then some (.frs ds, s) else none
def kTpl (ds : List D) (s : S) : Res := if ds.length ≤ big then some (.val (.tup ds), s) else none
def kIsi (ts : List Ty) (x : D) (s : S) : Res := resB s (tyAny x ts)
def kCns2 (d : D) (ds : List D) (s : S) : Res := some (.vals (d :: ds), s)
def kCns1 (b : E) (d : D) (s : S) : Res := bndA (ev P Gm b s) (kCns2 d)
def itR (o : Option (List D)) (s : S) : Res := match o with
  | some ds => some (.vals ds, s)
  | none => none
def kIt (x : D) (s : S) : Res := itR (itemsOf x) s
def kRng (x : D) (s : S) : Res := match x with
  | .int j => if -(2 ^ 62) ≤ j ∧ j < 2 ^ 62 then some (.vals ((List.range j.toNat).map fun (k : Nat) => .int k), s) else none
  | _ => none
def kRng2b (x y : D) (s : S) : Res := match x, y with
  | .int i, .int j => if -(2 ^ 62) ≤ i ∧ i < 2 ^ 62 ∧ -(2 ^ 62) ≤ j ∧ j < 2 ^ 62 then some (.vals ((List.range (j - i).toNat).map fun (k : Nat) => .int (i + k)), s) else none
  | _, _ => none
def kRng2a (b : E) (x : D) (s : S) : Res := bnd (ev P Gm b s) (kRng2b x)
def enmR (o : Option (List D)) (s : S) : Res := match o with
  | some ds => some (.vals (enumF 0 ds), s)
  | none => none
def kEnm (x : D) (s : S) : Res := enmR (lstOf x) s
def kZp2 (x y : D) (s : S) : Res := itR (zipOf x y) s
def kZp1 (b : E) (x : D) (s : S) : Res := bnd (ev P Gm b s) (kZp2 x)
def lcR (s : S) (o : Res) : Res := match o with
  | some (.frs acc, s') => some (.frs acc, { s with m := s'.m })
  | _ => none
def kLc (own : List Nat) (tg cd el : E) (ds : List D) (s : S) : Res := lcR s (compL (store tg) (ev P Gm cd) (ev P Gm el) (wipeR (valR s.r) own) ds [] s.m)
def seqR (b : E) (o : Res) : Res := match o with
  | some (.nx, s) => ev P Gm b s
  | r => r
def kAsg (i : Nat) (d : D) (s : S) : Res := some (.nx, s.set i (some (.val d)))
def nxR (o : Option S) : Res := match o with
  | some s => some (.nx, s)
  | none => none
def kAst (tg : E) (d : D) (s : S) : Res := nxR (store tg d s)
def asoR (i : Nat) (o : Res) : Res := match o with
  | some (.frs ds, s) => some (.nx, s.set i (some (.ol ds)))
  | some (.exc c ns ds, s) => some (.exc c ns ds, s)
  | _ => none
def asbR (i : Nat) (o : Res) : Res := match o with
  | some (.frs ds, s) => some (.nx, { r := s.r.set i (some (.val (.adr s.m.length))), m := s.m ++ [.bx ds] })
  | some (.exc c ns ds, s) => some (.exc c ns ds, s)
  | _ => none
def kPar2 (i j : Nat) (x y : D) (s : S) : Res := some (.nx, (s.set i (some (.val x))).set j (some (.val y)))
def kPar1 (i j : Nat) (b : E) (x : D) (s : S) : Res := bnd (ev P Gm b s) (kPar2 i j x)
def sitR2 (d : D) (n : Nat) (ds : List D) (o : Option Nat) (s : S) : Res := match o with
  | some j => some (.nx, { s with m := s.m.set n (.bx (ds.set j d)) })
  | none => none
def sitR (d : D) (n : Nat) (i : Int) (o : Option MO) (s : S) : Res := match o with
  | some (.bx ds) => sitR2 d n ds (ixN ds.length i) s
  | _ => none
def kSit3 (d x y : D) (s : S) : Res := match x, y with
  | .adr n, .int i => sitR d n i s.m[n]? s
  | _, _ => none
def kSit2 (k : E) (d x : D) (s : S) : Res := bnd (ev P Gm k s) (kSit3 d x)
def kSit1 (o k : E) (d : D) (s : S) : Res := bnd (ev P Gm o s) (kSit2 P Gm k d)
def retR (o : Res) : Res := match o with
  | some (.val d, s) => some (.rt d, s)
  | some (.frs ds, s) => some (.rtf ds, s)
  | some (.exc c ns ds, s) => some (.exc c ns ds, s)
  | _ => none
def kIff (a b : E) (x : D) (s : S) : Res := match x with
  | .bl c => if c then ev P Gm a s else ev P Gm b s
  | _ => none
def kFrr (tg b : E) (ds : List D) (s : S) : Res := forL (store tg) (ev P Gm b) ds s
def kExp (d : D) (s : S) : Res := some (.nx, s)
def apoR2 (i : Nat) (d : D) (o : Option (Option Cell)) (s : S) : Res := match o with
  | some (some (.ol ds)) => if ds.length < big then some (.nx, s.set i (some (.ol (ds ++ [d])))) else none
  | _ => none
def kApo (i : Nat) (d : D) (s : S) : Res := apoR2 i d s.r[i]? s
def apoR1 (i : Nat) (e : E) (o : Option (Option Cell)) (s : S) : Res := match o with
  | some (some (.ol _)) => bnd (ev P Gm e s) (kApo i)
  | _ => none
variable {P} {Gm}
variable {s : S} {a b c lo hi : E} {x y : D}
@[simp] theorem le_big {n : Nat} (h : n ≤ 16777216) : (n ≤ big) = True := eq_true h
@[simp] theorem lt_big {n : Nat} (h : n < 16777216) : (n < big) = True := eq_true h
@[simp] theorem bnd_val {d : D} {k : D → S → Res} : bnd (some (.val d, s)) k = k d s := rfl
@[simp] theorem bnd_frs {ds : List D} {k : D → S → Res} : bnd (some (.frs ds, s)) k = k (.lst ds) s := rfl
@[simp] theorem bnd_exc {c : Nat} {ns : List Nat} {ds : List D} {k : D → S → Res} : bnd (some (.exc c ns ds, s)) k = some (.exc c ns ds, s) := rfl
@[simp] theorem bndA_vals {ds : List D} {k : List D → S → Res} : bndA (some (.vals ds, s)) k = k ds s := rfl
@[simp] theorem bndA_exc {c : Nat} {ns : List Nat} {ds : List D} {k : List D → S → Res} : bndA (some (.exc c ns ds, s)) k = some (.exc c ns ds, s) := rfl
@[simp] theorem ev_var {i : Nat} : ev P Gm (.var i) s = varR s.r[i]? s := rfl
@[simp] theorem ev_mv {i : Nat} : ev P Gm (.mv i) s = mvR i s.r[i]? s := rfl
@[simp] theorem ev_fz {i : Nat} : ev P Gm (.fz i) s = fzR i s.r[i]? s := rfl
@[simp] theorem ev_cN : ev P Gm (.cst .non) s = some (.val .non, s) := rfl
@[simp] theorem ev_cB {b : Bool} : ev P Gm (.cst (.bl b)) s = some (.val (.bl b), s) := rfl
@[simp] theorem ev_cI {i : Int} : ev P Gm (.cst (.int i)) s = some (.val (.int i), s) := rfl
@[simp] theorem ev_cS {z : Str} : ev P Gm (.cst (.str z)) s = some (.val (.str z), s) := rfl
@[simp] theorem ev_gv {g : Nat} : ev P Gm (.gv g) s = some (.val (Gm g), s) := rfl
@[simp] theorem ev_one : ev P Gm (.one a) s = ev P Gm a s := rfl
@[simp] theorem ev_bop {o : Bop} : ev P Gm (.bop o a b) s = bnd (ev P Gm a s) (kBop1 P Gm o b) := rfl
@[simp] theorem kBop1_eq {o : Bop} : kBop1 P Gm o b x s = bnd (ev P Gm b s) (kBop2 o x) := rfl
@[simp] theorem kBop2_eq {o : Bop} : kBop2 o x y s = bopF o x y s := rfl
@[simp] theorem ev_neg : ev P Gm (.neg a) s = bnd (ev P Gm a s) kNeg := rfl
@[simp] theorem kNeg_eq {i : Int} : kNeg (.int i) s = some (.val (.int (-i)), s) := rfl
@[simp] theorem ev_nt : ev P Gm (.nt a) s = bnd (ev P Gm a s) kNt := rfl
@[simp] theorem kNt_eq {b : Bool} : kNt (.bl b) s = some (.val (.bl (!b)), s) := rfl
@[simp] theorem ev_band : ev P Gm (.band a b) s = bnd (ev P Gm a s) (kBand P Gm b) := rfl
@[simp] theorem kBand_t : kBand P Gm b (.bl true) s = ev P Gm b s := rfl
@[simp] theorem kBand_f : kBand P Gm b (.bl false) s = some (.val (.bl false), s) := rfl
@[simp] theorem ev_bor : ev P Gm (.bor a b) s = bnd (ev P Gm a s) (kBor P Gm b) := rfl
@[simp] theorem kBor_t : kBor P Gm b (.bl true) s = some (.val (.bl true), s) := rfl
@[simp] theorem kBor_f : kBor P Gm b (.bl false) s = ev P Gm b s := rfl
@[simp] theorem ev_ite : ev P Gm (.ite c a b) s = bnd (ev P Gm c s) (kIte P Gm a b) := rfl
@[simp] theorem kIte_t : kIte P Gm a b (.bl true) s = ev P Gm a s := rfl
@[simp] theorem kIte_f : kIte P Gm a b (.bl false) s = ev P Gm b s := rfl
@[simp] theorem ev_cmp {o : Cop} : ev P Gm (.cmp o a b) s = bnd (ev P Gm a s) (kCmp1 P Gm o b) := rfl
@[simp] theorem kCmp1_eq {o : Cop} : kCmp1 P Gm o b x s = bnd (ev P Gm b s) (kCmp2 o x) := rfl
@[simp] theorem kCmp2_eq {o : Cop} : kCmp2 o x y s = resB s (cmpF o x y s) := rfl
@[simp] theorem ev_chn {o p : Cop} : ev P Gm (.chn o p a b c) s = bnd (ev P Gm a s) (kChn1 P Gm o p b c) := rfl
@[simp] theorem kChn1_eq {o p : Cop} : kChn1 P Gm o p b c x s = bnd (ev P Gm b s) (kChn2 P Gm o p c x) := rfl
@[simp] theorem kChn2_eq {o p : Cop} : kChn2 P Gm o p c x y s = chnR P Gm p c y s (cmpF o x y s) := rfl
@[simp] theorem chnR_t {p : Cop} : chnR P Gm p c y s (some true) = bnd (ev P Gm c s) (kChn4 p y) := rfl
@[simp] theorem chnR_f {p : Cop} : chnR P Gm p c y s (some false) = some (.val (.bl false), s) := rfl
@[simp] theorem kChn4_eq {p : Cop} {z : D} : kChn4 p y z s = resB s (cmpF p y z s) := rfl
@[simp] theorem resB_eq {b : Bool} : resB s (some b) = some (.val (.bl b), s) := rfl
@[simp] theorem resD_eq {d : D} : resD s (some d) = some (.val d, s) := rfl
@[simp] theorem ev_isn : ev P Gm (.isn a) s = bnd (ev P Gm a s) kIsn := rfl
@[simp] theorem ev_nin : ev P Gm (.nin a) s = bnd (ev P Gm a s) kNin := rfl
@[simp] theorem ev_ix : ev P Gm (.ix a b) s = bnd (ev P Gm a s) (kIx1 P Gm b) := rfl
@[simp] theorem kIx1_eq : kIx1 P Gm b x s = bnd (ev P Gm b s) (kIx2 x) := rfl
@[simp] theorem kIx2_eq : kIx2 x y s = resD s (ixF x y s) := rfl
@[simp] theorem ev_sl : ev P Gm (.sl a lo hi) s = bnd (ev P Gm a s) (kSl1 P Gm lo hi) := rfl
@[simp] theorem kSl1_eq : kSl1 P Gm lo hi x s = prt (isAbs lo) (ev P Gm lo s) s (kSl2 P Gm hi x) := rfl
@[simp] theorem kSl2_eq {l : Option Int} : kSl2 P Gm hi x l s = prt (isAbs hi) (ev P Gm hi s) s (kSl3 x l) := rfl
@[simp] theorem kSl3_eq {l h : Option Int} : kSl3 x l h s = slF x l h s := rfl
@[simp] theorem prt_t {o : Res} {k : Option Int → S → Res} : prt true o s k = k none s := rfl
@[simp] theorem prt_f {o : Res} {k : Option Int → S → Res} : prt false o s k = bnd o (kPrt k) := rfl
@[simp] theorem kPrt_eq {k : Option Int → S → Res} {i : Int} : kPrt k (.int i) s = k (some i) s := rfl
@[simp] theorem isAbs_abs : isAbs .abs = true := rfl
@[simp] theorem isAbs_one : isAbs (.one a) = false := rfl
@[simp] theorem ev_cal {f : Nat} : ev P Gm (.cal f a) s = bndA (ev P Gm a s) (kCal P f) := rfl
@[simp] theorem kCal_eq {f : Nat} {ds : List D} : kCal P f ds s = callR (P f ds s.m) s := rfl
@[simp] theorem callR_val {d : D} {m : List MO} : callR (some (.val d, m)) s = some (.val d, ⟨s.r, m⟩) := rfl
@[simp] theorem callR_frs {d : List D} {m : List MO} : callR (some (.frs d, m)) s = some (.frs d, ⟨s.r, m⟩) := rfl
@[simp] theorem callR_exc {c : Nat} {ns : List Nat} {es : List D} {m : List MO} : callR (some (.exc c ns es, m)) s = some (.exc c ns es, ⟨s.r, m⟩) := rfl
@[simp] theorem ev_calk {f n m : Nat} : ev P Gm (.calk f n a m b) s = bndA (ev P Gm a s) (kCalk1 P Gm f n m b) := rfl
@[simp] theorem kCalk1_eq {f n m : Nat} {ds : List D} : kCalk1 P Gm f n m b ds s = bndA (ev P Gm b s) (kCalk2 P f n m ds) := rfl
@[simp] theorem kCalk2_eq {f n m : Nat} {ds es : List D} (h1 : ds.length = n) (h2 : es.length = m) : kCalk2 P f n m ds es s = callR (P f (ds ++ es) s.m) s := if_pos ⟨h1, h2⟩
@[simp] theorem ev_bi {k : Bi} : ev P Gm (.bi k a) s = bndA (ev P Gm a s) (kBi k) := rfl
@[simp] theorem kBi_eq {k : Bi} {ds : List D} : kBi k ds s = biF k ds s := rfl
@[simp] theorem ev_bm {k : Bm} : ev P Gm (.bm k a b) s = bnd (ev P Gm a s) (kBm1 P Gm k b) := rfl
@[simp] theorem kBm1_j {z : Str} : kBm1 P Gm .join b (.str z) s = bndA (ev P Gm b s) (kBm2 .join (.str z)) := rfl
@[simp] theorem kBm2_eq {k : Bm} {ds : List D} : kBm2 k x ds s = bmF k x ds s := rfl
@[simp] theorem ev_lst : ev P Gm (.lst a) s = bndA (ev P Gm a s) kLst := rfl
@[simp] theorem kLst_eq {ds : List D} (h : ds.length ≤ 16777216) : kLst ds s = some (.frs ds, s) := if_pos h
@[simp] theorem ev_tpl : ev P Gm (.tpl a) s = bndA (ev P Gm a s) kTpl := rfl
@[simp] theorem kTpl_eq {ds : List D} (h : ds.length ≤ 16777216) : kTpl ds s = some (.val (.tup ds), s) := if_pos h
@[simp] theorem ev_isi {ts : List Ty} : ev P Gm (.isi a ts) s = bnd (ev P Gm a s) (kIsi ts) := rfl
@[simp] theorem kIsi_eq {ts : List Ty} : kIsi ts x s = resB s (tyAny x ts) := rfl
@[simp] theorem ev_nil : ev P Gm .nil s = some (.vals [], s) := rfl
@[simp] theorem ev_cns : ev P Gm (.cns a b) s = bnd (ev P Gm a s) (kCns1 P Gm b) := rfl
@[simp] theorem kCns1_eq : kCns1 P Gm b x s = bndA (ev P Gm b s) (kCns2 x) := rfl
@[simp] theorem kCns2_eq {ds : List D} : kCns2 x ds s = some (.vals (x :: ds), s) := rfl
@[simp] theorem ev_it : ev P Gm (.it a) s = bnd (ev P Gm a s) kIt := rfl
@[simp] theorem kIt_eq : kIt x s = itR (itemsOf x) s := rfl
@[simp] theorem itR_eq {ds : List D} : itR (some ds) s = some (.vals ds, s) := rfl
@[simp] theorem ev_rng : ev P Gm (.rng a) s = bnd (ev P Gm a s) kRng := rfl
@[simp] theorem kRng_eq {j : Int} (h1 : -4611686018427387904 ≤ j) (h2 : j < 4611686018427387904) : kRng (.int j) s = some (.vals ((List.range j.toNat).map fun (k : Nat) => .int k), s) := if_pos ⟨h1, h2⟩
theorem kRng_nat {j : Nat} (h : (j : Int) < 4611686018427387904) : kRng (.int j) s = some (.vals ((List.range j).map fun (k : Nat) => .int k), s) := by
  have h1 : -4611686018427387904 ≤ (j : Int) := by omega
  have e := kRng_eq (s := s) h1 h
  rw [Int.toNat_natCast] at e
  exact e
@[simp] theorem ev_rng2 : ev P Gm (.rng2 a b) s = bnd (ev P Gm a s) (kRng2a P Gm b) := rfl
@[simp] theorem kRng2a_eq : kRng2a P Gm b x s = bnd (ev P Gm b s) (kRng2b x) := rfl
@[simp] theorem kRng2b_eq {i j : Int} (h1 : -4611686018427387904 ≤ i) (h2 : i < 4611686018427387904) (h3 : -4611686018427387904 ≤ j) (h4 : j < 4611686018427387904) : kRng2b (.int i) (.int j) s = some (.vals ((List.range (j - i).toNat).map fun (k : Nat) => .int (i + k)), s) := if_pos ⟨h1, h2, h3, h4⟩
@[simp] theorem ev_enm : ev P Gm (.enm a) s = bnd (ev P Gm a s) kEnm := rfl
@[simp] theorem kEnm_eq {ds : List D} : kEnm (.lst ds) s = some (.vals (enumF 0 ds), s) := rfl
@[simp] theorem ev_zp : ev P Gm (.zp a b) s = bnd (ev P Gm a s) (kZp1 P Gm b) := rfl
@[simp] theorem kZp1_eq : kZp1 P Gm b x s = bnd (ev P Gm b s) (kZp2 x) := rfl
@[simp] theorem kZp2_l {ds es : List D} : kZp2 (.lst ds) (.lst es) s = some (.vals (List.zipWith (fun p q => .tup [p, q]) ds es), s) := rfl
@[simp] theorem kZp2_t {ds es : List D} : kZp2 (.tup ds) (.tup es) s = some (.vals (List.zipWith (fun p q => .tup [p, q]) ds es), s) := rfl
@[simp] theorem ev_lc {own : List Nat} {tg it cd el : E} : ev P Gm (.lc own tg it cd el) s = bndA (ev P Gm it s) (kLc P Gm own tg cd el) := rfl
@[simp] theorem kLc_eq {own : List Nat} {tg cd el : E} {ds : List D} : kLc P Gm own tg cd el ds s = lcR s (compL (store tg) (ev P Gm cd) (ev P Gm el) (wipeR (valR s.r) own) ds [] s.m) := rfl
@[simp] theorem lcR_eq {ds : List D} {s' : S} : lcR s (some (.frs ds, s')) = some (.frs ds, ⟨s.r, s'.m⟩) := rfl
@[simp] theorem ev_skp : ev P Gm .skp s = some (.nx, s) := rfl
@[simp] theorem ev_seq : ev P Gm (.seq a b) s = seqR P Gm b (ev P Gm a s) := rfl
@[simp] theorem seqR_nx : seqR P Gm b (some (.nx, s)) = ev P Gm b s := rfl
@[simp] theorem seqR_rt : seqR P Gm b (some (.rt x, s)) = some (.rt x, s) := rfl
@[simp] theorem seqR_rtf {ds : List D} : seqR P Gm b (some (.rtf ds, s)) = some (.rtf ds, s) := rfl
@[simp] theorem seqR_bk : seqR P Gm b (some (.bk, s)) = some (.bk, s) := rfl
@[simp] theorem seqR_ct : seqR P Gm b (some (.ct, s)) = some (.ct, s) := rfl
@[simp] theorem seqR_exc {c : Nat} {ns : List Nat} {ds : List D} : seqR P Gm b (some (.exc c ns ds, s)) = some (.exc c ns ds, s) := rfl
@[simp] theorem ev_asg {i : Nat} : ev P Gm (.asg i a) s = bnd (ev P Gm a s) (kAsg i) := rfl
@[simp] theorem kAsg_eq {i : Nat} : kAsg i x s = some (.nx, s.set i (some (.val x))) := rfl
@[simp] theorem ev_ast {tg : E} : ev P Gm (.ast tg a) s = bnd (ev P Gm a s) (kAst tg) := by
  show bnd _ _ = bnd _ _
  congr 1
@[simp] theorem kAst_eq {tg : E} : kAst tg x s = nxR (store tg x s) := rfl
@[simp] theorem nxR_eq : nxR (some s) = some (.nx, s) := rfl
@[simp] theorem ev_aso {i : Nat} : ev P Gm (.aso i a) s = asoR i (ev P Gm a s) := rfl
@[simp] theorem asoR_eq {i : Nat} {ds : List D} : asoR i (some (.frs ds, s)) = some (.nx, s.set i (some (.ol ds))) := rfl
@[simp] theorem asoR_exc {i c : Nat} {ns : List Nat} {ds : List D} : asoR i (some (.exc c ns ds, s)) = some (.exc c ns ds, s) := rfl
@[simp] theorem ev_asb {i : Nat} : ev P Gm (.asb i a) s = asbR i (ev P Gm a s) := rfl
@[simp] theorem asbR_eq {i : Nat} {ds : List D} : asbR i (some (.frs ds, s)) = some (.nx, ⟨s.r.set i (some (.val (.adr s.m.length))), s.m ++ [.bx ds]⟩) := rfl
@[simp] theorem asbR_exc {i c : Nat} {ns : List Nat} {ds : List D} : asbR i (some (.exc c ns ds, s)) = some (.exc c ns ds, s) := rfl
@[simp] theorem ev_par {i j : Nat} : ev P Gm (.par i j a b) s = bnd (ev P Gm a s) (kPar1 P Gm i j b) := rfl
@[simp] theorem kPar1_eq {i j : Nat} : kPar1 P Gm i j b x s = bnd (ev P Gm b s) (kPar2 i j x) := rfl
@[simp] theorem kPar2_eq {i j : Nat} : kPar2 i j x y s = some (.nx, (s.set i (some (.val x))).set j (some (.val y))) := rfl
@[simp] theorem ev_sit {o k : E} : ev P Gm (.sit o k a) s = bnd (ev P Gm a s) (kSit1 P Gm o k) := rfl
@[simp] theorem kSit1_eq {o k : E} : kSit1 P Gm o k x s = bnd (ev P Gm o s) (kSit2 P Gm k x) := rfl
@[simp] theorem kSit2_eq {k : E} : kSit2 P Gm k x y s = bnd (ev P Gm k s) (kSit3 x y) := rfl
@[simp] theorem kSit3_eq {n : Nat} {i : Int} : kSit3 x (.adr n) (.int i) s = sitR x n i s.m[n]? s := rfl
@[simp] theorem sitR_eq {n : Nat} {i : Int} {ds : List D} : sitR x n i (some (.bx ds)) s = sitR2 x n ds (ixN ds.length i) s := rfl
@[simp] theorem sitR2_eq {n j : Nat} {ds : List D} : sitR2 x n ds (some j) s = some (.nx, ⟨s.r, s.m.set n (.bx (ds.set j x))⟩) := rfl
@[simp] theorem ev_ret : ev P Gm (.ret a) s = retR (ev P Gm a s) := rfl
@[simp] theorem retR_val : retR (some (.val x, s)) = some (.rt x, s) := rfl
@[simp] theorem retR_frs {ds : List D} : retR (some (.frs ds, s)) = some (.rtf ds, s) := rfl
@[simp] theorem retR_exc {c : Nat} {ns : List Nat} {ds : List D} : retR (some (.exc c ns ds, s)) = some (.exc c ns ds, s) := rfl
@[simp] theorem ev_rtn : ev P Gm .rtn s = some (.rt .non, s) := rfl
@[simp] theorem ev_iff : ev P Gm (.iff c a b) s = bnd (ev P Gm c s) (kIff P Gm a b) := rfl
@[simp] theorem kIff_t : kIff P Gm a b (.bl true) s = ev P Gm a s := rfl
@[simp] theorem kIff_f : kIff P Gm a b (.bl false) s = ev P Gm b s := rfl
@[simp] theorem ev_frr {tg it : E} : ev P Gm (.frr tg it b) s = bndA (ev P Gm it s) (kFrr P Gm tg b) := rfl
@[simp] theorem kFrr_eq {tg : E} {ds : List D} : kFrr P Gm tg b ds s = forL (store tg) (ev P Gm b) ds s := rfl
@[simp] theorem ev_exp : ev P Gm (.exp a) s = bnd (ev P Gm a s) kExp := rfl
@[simp] theorem kExp_eq : kExp x s = some (.nx, s) := rfl
@[simp] theorem ev_apo {i : Nat} : ev P Gm (.apo i a) s = apoR1 P Gm i a s.r[i]? s := rfl
@[simp] theorem apoR1_eq {i : Nat} {ds : List D} : apoR1 P Gm i a (some (some (.ol ds))) s = bnd (ev P Gm a s) (kApo i) := rfl
@[simp] theorem kApo_eq {i : Nat} : kApo i x s = apoR2 i x s.r[i]? s := rfl
@[simp] theorem apoR2_eq {i : Nat} {ds : List D} (h : ds.length < 16777216) : apoR2 i x (some (some (.ol ds))) s = some (.nx, s.set i (some (.ol (ds ++ [x])))) := if_pos h
@[simp] theorem varR_eq : varR (some (some (.val x))) s = some (.val x, s) := rfl
@[simp] theorem mvR_eq {i : Nat} {ds : List D} : mvR i (some (some (.ol ds))) s = some (.frs ds, s.set i none) := rfl
@[simp] theorem fzR_ol {i : Nat} {ds : List D} : fzR i (some (some (.ol ds))) s = some (.val (.lst ds), s.set i (some (.val (.lst ds)))) := rfl
@[simp] theorem fzR_val {i : Nat} : fzR i (some (some (.val x))) s = some (.val x, s) := rfl
@[simp] theorem set_eq {r : List (Option Cell)} {m : List MO} {i : Nat} {c : Option Cell} : S.set ⟨r, m⟩ i c = ⟨r.set i c, m⟩ := rfl
/-! what the operations answer -/
@[simp] theorem add_i {i j : Int} : bopF .add (.int i) (.int j) s = some (.val (.int (i + j)), s) := rfl
@[simp] theorem add_s {a b : Str} (h : a.length + b.length ≤ 16777216) : bopF .add (.str a) (.str b) s = some (.val (.str (a ++ b)), s) := if_pos h
@[simp] theorem add_l {a b : List D} (h : a.length + b.length ≤ 16777216) : bopF .add (.lst a) (.lst b) s = some (.frs (a ++ b), s) := if_pos h
@[simp] theorem add_t {a b : List D} (h : a.length + b.length ≤ 16777216) (h2 : a ≠ []) : bopF .add (.tup a) (.tup b) s = some (.val (.tup (a ++ b)), s) := if_pos ⟨h, h2⟩
@[simp] theorem sub_i {i j : Int} : bopF .sub (.int i) (.int j) s = some (.val (.int (i - j)), s) := rfl
@[simp] theorem mul_l {i j : Int} (h1 : -18446744073709551616 < i) (h2 : i < 18446744073709551616) : bopF .mul (.int i) (.int j) s = some (.val (.int (i * j)), s) := if_pos (.inl ⟨h1, h2⟩)
@[simp] theorem mul_r {i j : Int} (h1 : -18446744073709551616 < j) (h2 : j < 18446744073709551616) : bopF .mul (.int i) (.int j) s = some (.val (.int (i * j)), s) := if_pos (.inr ⟨h1, h2⟩)
@[simp] theorem mul_lst {a : List D} {k : Int} (h1 : -9223372036854775808 ≤ k) (h2 : k < 9223372036854775808) (h3 : a.length * k.toNat ≤ 16777216) : bopF .mul (.lst a) (.int k) s = some (.frs (List.replicate k.toNat a).flatten, s) := if_pos ⟨h1, h2, h3⟩
@[simp] theorem div_i {i j : Int} (h1 : 0 < j) (h2 : j < 1073741824) : bopF .div (.int i) (.int j) s = some (.val (.int (i / j)), s) := if_pos ⟨h1, h2⟩
@[simp] theorem mod_i {i j : Int} (h1 : 0 < j) : bopF .mod (.int i) (.int j) s = some (.val (.int (i % j)), s) := if_pos h1
@[simp] theorem pow_i {i j : Int} (h1 : 0 ≤ j) (h2 : j ≤ 1000000) (h3 : i.natAbs < 18446744073709551616) : bopF .pow (.int i) (.int j) s = some (.val (.int (i ^ j.toNat)), s) := if_pos ⟨h1, h2, h3⟩
@[simp] theorem cmp_lt {i j : Int} : cmpF .lt (.int i) (.int j) s = some (decide (i < j)) := rfl
@[simp] theorem cmp_le {i j : Int} : cmpF .le (.int i) (.int j) s = some (decide (i ≤ j)) := rfl
@[simp] theorem cmp_gt {i j : Int} : cmpF .gt (.int i) (.int j) s = some (decide (j < i)) := rfl
@[simp] theorem cmp_ge {i j : Int} : cmpF .ge (.int i) (.int j) s = some (decide (j ≤ i)) := rfl
@[simp] theorem cmp_eq (h1 : okD 8 x = true) (h2 : okD 8 y = true) : cmpF .eq x y s = some (eqD x y) := by
  show (if (okD 8 x && okD 8 y) = true then some (eqD x y) else none) = _
  rw [h1, h2]; rfl
@[simp] theorem cmp_ne (h1 : okD 8 x = true) (h2 : okD 8 y = true) : cmpF .ne x y s = some (!eqD x y) := by
  show (if (okD 8 x && okD 8 y) = true then some (!eqD x y) else none) = _
  rw [h1, h2]; rfl
@[simp] theorem okD_n {k : Nat} : okD k .non = true := by cases k <;> rfl
@[simp] theorem okD_b {k : Nat} {b : Bool} : okD k (.bl b) = true := by cases k <;> rfl
@[simp] theorem okD_i {k : Nat} {i : Int} : okD k (.int i) = true := by cases k <;> rfl
@[simp] theorem okD_s {k : Nat} {z : Str} : okD k (.str z) = true := by cases k <;> rfl
@[simp] theorem okD_l8 {ds : List D} : okD 8 (.lst ds) = ds.all (okD 7) := rfl
@[simp] theorem okD_t8 {ds : List D} : okD 8 (.tup ds) = ds.all (okD 7) := rfl
@[simp] theorem okD_l7 {ds : List D} : okD 7 (.lst ds) = ds.all (okD 6) := rfl
@[simp] theorem okD_t7 {ds : List D} : okD 7 (.tup ds) = ds.all (okD 6) := rfl
@[simp] theorem okD_l6 {ds : List D} : okD 6 (.lst ds) = ds.all (okD 5) := rfl
@[simp] theorem okD_t6 {ds : List D} : okD 6 (.tup ds) = ds.all (okD 5) := rfl
@[simp] theorem okD_l5 {ds : List D} : okD 5 (.lst ds) = ds.all (okD 4) := rfl
@[simp] theorem okD_t5 {ds : List D} : okD 5 (.tup ds) = ds.all (okD 4) := rfl
@[simp] theorem okD_l4 {ds : List D} : okD 4 (.lst ds) = ds.all (okD 3) := rfl
@[simp] theorem okD_t4 {ds : List D} : okD 4 (.tup ds) = ds.all (okD 3) := rfl
@[simp] theorem okD_l3 {ds : List D} : okD 3 (.lst ds) = ds.all (okD 2) := rfl
@[simp] theorem okD_t3 {ds : List D} : okD 3 (.tup ds) = ds.all (okD 2) := rfl
@[simp] theorem okD_l2 {ds : List D} : okD 2 (.lst ds) = ds.all (okD 1) := rfl
@[simp] theorem okD_t2 {ds : List D} : okD 2 (.tup ds) = ds.all (okD 1) := rfl
@[simp] theorem okD_l1 {ds : List D} : okD 1 (.lst ds) = ds.all (okD 0) := rfl
@[simp] theorem okD_t1 {ds : List D} : okD 1 (.tup ds) = ds.all (okD 0) := rfl
@[simp] theorem eqD_b {a b : Bool} : eqD (.bl a) (.bl b) = (a == b) := by simp only [eqD]
@[simp] theorem eqD_i {i j : Int} : eqD (.int i) (.int j) = (i == j) := by simp only [eqD]
@[simp] theorem eqD_s {a b : Str} : eqD (.str a) (.str b) = (a == b) := by simp only [eqD]
@[simp] theorem eqD_l {a b : List D} : eqD (.lst a) (.lst b) = eqDs a b := by simp only [eqD]
@[simp] theorem eqD_t {a b : List D} : eqD (.tup a) (.tup b) = eqDs a b := by simp only [eqD]
@[simp] theorem eqDs_n : eqDs [] [] = true := by simp only [eqDs]
@[simp] theorem eqDs_c {a b : D} {as bs : List D} : eqDs (a :: as) (b :: bs) = (eqD a b && eqDs as bs) := by simp only [eqDs]
@[simp] theorem eqDs_nc {b : D} {bs : List D} : eqDs [] (b :: bs) = false := by simp only [eqDs]
@[simp] theorem eqDs_cn {b : D} {bs : List D} : eqDs (b :: bs) [] = false := by simp only [eqDs]
@[simp] theorem cmp_in : cmpF .isin x y s = inF x y s := rfl
@[simp] theorem cmp_nin : cmpF .notin x y s = (inF x y s).map (!·) := rfl
@[simp] theorem in_c {c : Nat} {z : Str} : inF (.str ⟨#[c]⟩) (.str z) s = some (decide (c ∈ z.cps.toList)) := rfl
theorem in_q {ds : List D} (h : viewQ s y = some ds) (h1 : flat x = true) (h2 : ds.all flat = true) (hx : ∀ a z, ¬ (x = .str a ∧ y = .str z)) (hd : ∀ ks es, y ≠ .dct ks es) : inF x y s = some (ds.any fun z => eqD z x) := by
  unfold inF
  split
  · exact absurd ⟨rfl, rfl⟩ (hx _ _)
  · exact absurd rfl (hd _ _)
  · rw [h, h1]
    simp [h2]
@[simp] theorem in_l {ds : List D} (h1 : flat x = true) (h2 : ds.all flat = true) : inF x (.lst ds) s = some (ds.any fun z => eqD z x) := in_q rfl h1 h2 (fun _ _ h => by cases h.2) (fun _ _ h => by cases h)
@[simp] theorem in_t {ds : List D} (h1 : flat x = true) (h2 : ds.all flat = true) : inF x (.tup ds) s = some (ds.any fun z => eqD z x) := in_q rfl h1 h2 (fun _ _ h => by cases h.2) (fun _ _ h => by cases h)
@[simp] theorem view_l {ds : List D} : viewL s (.lst ds) = some ds := rfl
@[simp] theorem view_ql {ds : List D} : viewQ s (.lst ds) = some ds := rfl
@[simp] theorem view_qt {ds : List D} : viewQ s (.tup ds) = some ds := rfl
theorem view_a {n : Nat} {ds : List D} (h : s.m[n]? = some (.bx ds)) : viewL s (.adr n) = some ds := by
  show (match s.m[n]? with
    | some (.bx ds) => some ds
    | _ => none) = _
  rw [h]
@[simp] theorem ix_l {ds : List D} {i : Int} : ixF (.lst ds) (.int i) s = atI ds i := rfl
@[simp] theorem ix_t {ds : List D} {i : Int} : ixF (.tup ds) (.int i) s = atI ds i := rfl
@[simp] theorem ix_a {n : Nat} {ds : List D} {i : Int} (h : s.m[n]? = some (.bx ds)) : ixF (.adr n) (.int i) s = atI ds i := by
  show (match viewL s (.adr n) with
    | some ds => atI ds i
    | none => none) = _
  rw [view_a h]
@[simp] theorem ix_di {ks : List Key} {ds : List D} {i : Int} : ixF (.dct ks ds) (.int i) s = lookK (.inl i) ks ds := rfl
@[simp] theorem ix_ds {ks : List Key} {ds : List D} {i : Str} : ixF (.dct ks ds) (.str i) s = lookK (.inr i) ks ds := rfl
theorem atI_nat {α : Type} {ds : List α} {i : Nat} (h : i < ds.length) : atI ds (i : Int) = some ds[i] := by
  have h2 : (i : Int) < ds.length := by omega
  unfold atI ixN
  rw [if_pos (by omega), if_pos h2]
  show ds[(i : Int).toNat]? = _
  rw [Int.toNat_natCast]
  exact List.getElem?_eq_getElem h
@[simp] theorem sl_s {z : Str} {lo hi : Option Int} (h : z.length ≤ 16777216) : slF (.str z) lo hi s = some (.val (.str (cutS z lo hi)), s) := if_pos h
@[simp] theorem sl_t {ds : List D} {lo hi : Option Int} : slF (.tup ds) lo hi s = some (.val (.tup (cutD ds lo hi)), s) := rfl
@[simp] theorem sl_f {ds : List D} {lo hi : Option Int} : slF (.fzl ds) lo hi s = some (.frs (cutD ds lo hi), s) := rfl
@[simp] theorem sl_l {ds : List D} {lo hi : Option Int} : slF (.lst ds) lo hi s = some (.frs (cutD ds lo hi), s) := rfl
@[simp] theorem len_s {z : Str} (h : z.length ≤ 16777216) : biF .len [.str z] s = some (.val (.int z.length), s) := if_pos h
@[simp] theorem len_d {ks : List Key} {ds : List D} : biF .len [.dct ks ds] s = some (.val (.int ks.length), s) := rfl
@[simp] theorem len_l {ds : List D} : biF .len [.lst ds] s = some (.val (.int ds.length), s) := rfl
@[simp] theorem len_t {ds : List D} : biF .len [.tup ds] s = some (.val (.int ds.length), s) := rfl
@[simp] theorem len_a {n : Nat} {ds : List D} (h : s.m[n]? = some (.bx ds)) : biF .len [.adr n] s = some (.val (.int ds.length), s) := by
  show (match viewL s (.adr n) with
    | some ds => (some (.val (.int ds.length), s) : Res)
    | none => none) = _
  rw [view_a h]
@[simp] theorem int_i {i : Int} : biF .int [.int i] s = some (.val (.int i), s) := rfl
@[simp] theorem int_b {b : Bool} : biF .int [.bl b] s = some (.val (.int (if b then 1 else 0)), s) := rfl
theorem all_l {ds : List D} {bs : List Bool} (h : blsOf ds = some bs) : biF .all [.lst ds] s = some (.val (.bl (bs.all id)), s) := by
  show (match blsOf ds with
    | some bs => (some (.val (.bl (bs.all id)), s) : Res)
    | none => none) = _
  rw [h]
theorem any_l {ds : List D} {bs : List Bool} (h : blsOf ds = some bs) : biF .any [.lst ds] s = some (.val (.bl (bs.any id)), s) := by
  show (match blsOf ds with
    | some bs => (some (.val (.bl (bs.any id)), s) : Res)
    | none => none) = _
  rw [h]
@[simp] theorem list_l {ds : List D} : biF .list [.lst ds] s = some (.frs ds, s) := rfl
@[simp] theorem list_t {ds : List D} : biF .list [.tup ds] s = some (.frs ds, s) := rfl
@[simp] theorem tuple_l {ds : List D} : biF .tuple [.lst ds] s = some (.val (.tup ds), s) := rfl
@[simp] theorem tuple_t {ds : List D} : biF .tuple [.tup ds] s = some (.val (.tup ds), s) := rfl
@[simp] theorem bool_b {b : Bool} : biF .bool [.bl b] s = some (.val (.bl b), s) := rfl
@[simp] theorem fin_rt {m : List MO} {r : List (Option Cell)} : fin (some (.rt x, ⟨r, m⟩)) = some (.val x, m) := rfl
@[simp] theorem fin_rtf {m : List MO} {r : List (Option Cell)} {ds : List D} : fin (some (.rtf ds, ⟨r, m⟩)) = some (.frs ds, m) := rfl
@[simp] theorem fin_nx {m : List MO} {r : List (Option Cell)} : fin (some (.nx, ⟨r, m⟩)) = some (.val .non, m) := rfl
@[simp] theorem fin_exc {m : List MO} {r : List (Option Cell)} {c : Nat} {ns : List Nat} {ds : List D} : fin (some (.exc c ns ds, ⟨r, m⟩)) = some (.exc c ns ds, m) := rfl
end
/-- a run ends, and so -/
def Sat (o : Option (Out × List MO)) (Q : Out → List MO → Prop) : Prop := ∃ x m, o = some (x, m) ∧ Q x m
@[simp] theorem Sat_some {x : Out} {m : List MO} {Q : Out → List MO → Prop} : Sat (some (x, m)) Q ↔ Q x m := ⟨fun ⟨_, _, e, q⟩ => by cases e; exact q, fun q => ⟨x, m, rfl, q⟩⟩
theorem Sat.imp {o : Option (Out × List MO)} {Q R : Out → List MO → Prop} (h : Sat o Q) (k : ∀ x m, Q x m → R x m) : Sat o R := by
  obtain ⟨x, m, e, q⟩ := h
  exact ⟨x, m, e, k x m q⟩
theorem Pn_def {Cd : Nat → Option Ent} {Gm : Nat → D} {f : Nat} {e : Ent} (h : Cd f = some e) (n : Nat) (ds : List D) (m : List MO) : Pn Cd Gm (n + 1) f ds m = if (e.g ds).length = e.p then fin (ev (Pn Cd Gm n) Gm e.c ⟨ini e.N (e.g ds), m⟩) else none := by
  show (match Cd f with
    | none => none
    | some e => if (e.g ds).length = e.p then fin (ev (Pn Cd Gm n) Gm e.c ⟨ini e.N (e.g ds), m⟩) else none) = _
  rw [h]
end En

namespace En
open PySem PySem.Spec L2
/-! ### walks over lists -/
/-- a run yields d -/
def Yld (o : Res) (d : D) (s : S) : Prop := o = some (.val d, s) ∨ ∃ ds, o = some (.frs ds, s) ∧ d = .lst ds
theorem Yld.bnd {o : Res} {d : D} {s : S} (h : Yld o d s) (k : D → S → Res) : bnd o k = k d s := by
  rcases h with h | ⟨ds, h, rfl⟩
  · rw [h]; rfl
  · rw [h]; rfl
@[simp] theorem Yld_val {d e : D} {s t : S} : Yld (some (.val d, s)) e t ↔ d = e ∧ s = t := by
  constructor
  · rintro (h | ⟨ds, h, _⟩)
    · cases h; exact ⟨rfl, rfl⟩
    · cases h
  · rintro ⟨rfl, rfl⟩; exact .inl rfl
@[simp] theorem Yld_frs {ds : List D} {e : D} {s t : S} : Yld (some (.frs ds, s)) e t ↔ D.lst ds = e ∧ s = t := by
  constructor
  · rintro (h | ⟨es, h, rfl⟩)
    · cases h
    · cases h; exact ⟨rfl, rfl⟩
  · rintro ⟨rfl, rfl⟩; exact .inr ⟨_, rfl, rfl⟩
section
variable {st : D → S → Option S} {cd el : S → Res} {body : S → Res} {r : List (Option Cell)}
/-- a comprehension that changes nothing: kept where p, each yields f -/
theorem compL_map (p : D → Bool) (f : D → D) : ∀ (ds : List D) (acc : List D) (m : List MO), (∀ d ∈ ds, ∃ s1, st d ⟨r, m⟩ = some s1 ∧ ∃ s2, Yld (cd s1) (.bl (p d)) s2 ∧ s2.m = m ∧ (p d = true → ∃ s3, Yld (el s2) (f d) s3 ∧ s3.m = m)) → acc.length + ds.length ≤ big →
    compL st cd el r ds acc m = some (.frs (acc ++ (ds.filter p).map f), ⟨r, m⟩)
  | [], acc, m, _, _ => by rw [compL]; simp
  | d :: ds, acc, m, h, hl => by
    obtain ⟨s1, e1, s2, e2, e3, h3⟩ := h d (List.mem_cons_self ..)
    have ih := fun acc => compL_map p f ds acc m (fun x hx => h x (List.mem_cons_of_mem _ hx))
    rw [compL, e1]
    show bnd (cd s1) _ = _
    rw [e2.bnd]
    cases hp : p d with
    | true =>
      obtain ⟨s3, e4, e5⟩ := h3 hp
      show bnd (el s2) _ = _
      rw [e4.bnd, List.filter_cons, hp, if_pos rfl, List.map_cons]
      rw [List.length_cons] at hl
      have hb : acc.length < big := by omega
      show (if acc.length < big then compL st cd el r ds (acc ++ [f d]) s3.m else none) = _
      rw [if_pos hb, e5, ih _ (by rw [List.length_append, List.length_singleton]; omega), List.append_assoc]
      rfl
    | false =>
      show compL st cd el r ds acc s2.m = _
      rw [List.length_cons] at hl
      rw [e3, ih _ (by omega), List.filter_cons, hp]
      rfl
/-- one without a condition -/
theorem compL_all (f : D → D) (ds : List D) (acc : List D) (m : List MO) (h : ∀ d ∈ ds, ∃ s1, st d ⟨r, m⟩ = some s1 ∧ ∃ s2, Yld (cd s1) (.bl true) s2 ∧ s2.m = m ∧ ∃ s3, Yld (el s2) (f d) s3 ∧ s3.m = m) (hl : acc.length + ds.length ≤ big) :
    compL st cd el r ds acc m = some (.frs (acc ++ ds.map f), ⟨r, m⟩) := by
  have e := compL_map (st := st) (cd := cd) (el := el) (r := r) (fun _ => true) f ds acc m (fun d hd => by
    obtain ⟨s1, e1, s2, e2, e3, s3, e4⟩ := h d hd
    exact ⟨s1, e1, s2, e2, e3, fun _ => ⟨s3, e4⟩⟩) hl
  rw [e, List.filter_eq_self.mpr fun _ _ => rfl]
/-- a comprehension whose elements may change the store -/
theorem compL_inv (J : List MO → Prop) (R : D → Prop) : ∀ (ds : List D) (acc : List D) (m : List MO), J m → (∀ d ∈ ds, ∀ m, J m → ∃ s1, st d ⟨r, m⟩ = some s1 ∧ ∃ s2, Yld (cd s1) (.bl true) s2 ∧ ∃ y s3, Yld (el s2) y s3 ∧ J s3.m ∧ R y) → acc.length + ds.length ≤ big →
    ∃ ys m', compL st cd el r ds acc m = some (.frs (acc ++ ys), ⟨r, m'⟩) ∧ ys.length = ds.length ∧ (∀ y ∈ ys, R y) ∧ J m'
  | [], acc, m, hj, _, _ => ⟨[], m, by rw [compL]; simp, rfl, (fun y hy => by cases hy), hj⟩
  | d :: ds, acc, m, hj, h, hl => by
    obtain ⟨s1, e1, s2, e2, y, s3, e4, e5, e6⟩ := h d (List.mem_cons_self ..) m hj
    rw [List.length_cons] at hl
    obtain ⟨ys, m', q1, q2, q3, q4⟩ := compL_inv J R ds (acc ++ [y]) s3.m e5 (fun x hx => h x (List.mem_cons_of_mem _ hx)) (by rw [List.length_append, List.length_singleton]; omega)
    refine ⟨y :: ys, m', ?_, by rw [List.length_cons, q2]; rfl, fun z hz => ?_, q4⟩
    · rw [compL, e1]
      show bnd (cd s1) _ = _
      rw [e2.bnd]
      show bnd (el s2) _ = _
      rw [e4.bnd]
      have hb : acc.length < big := by omega
      show (if acc.length < big then compL st cd el r ds (acc ++ [y]) s3.m else none) = _
      rw [if_pos hb, q1, List.append_assoc]
      rfl
    · rcases List.mem_cons.mp hz with rfl | hz
      · exact e6
      · exact q3 z hz
/-- a for that goes through -/
theorem forL_inv (J : List D → S → Prop) : ∀ (ds : List D) (s : S), J ds s → (∀ d ds s, J (d :: ds) s → ∃ s1, st d s = some s1 ∧ ∃ s2, (body s1 = some (.nx, s2) ∨ body s1 = some (.ct, s2)) ∧ J ds s2) → ∃ s', forL st body ds s = some (.nx, s') ∧ J [] s'
  | [], s, hj, _ => ⟨s, by rw [forL], hj⟩
  | d :: ds, s, hj, h => by
    obtain ⟨s1, e1, s2, e2, e3⟩ := h d ds s hj
    obtain ⟨s', q1, q2⟩ := forL_inv J ds s2 e3 h
    refine ⟨s', ?_, q2⟩
    rw [forL, e1]
    show (match body s1 with
      | some (.nx, s2) => forL st body ds s2
      | some (.ct, s2) => forL st body ds s2
      | some (.bk, s2) => some (.nx, s2)
      | r => r) = _
    rcases e2 with e2 | e2
    · rw [e2]; exact q1
    · rw [e2]; exact q1
end
/-! ### texts by their signs -/
/-- the text of these signs -/
abbrev tx (l : List Nat) : Str := ⟨l.toArray⟩
def az : List Nat := [97, 98, 99, 100, 101, 102, 103, 104, 105, 106, 107, 108, 109, 110, 111, 112, 113, 114, 115, 116, 117, 118, 119, 120, 121, 122]
theorem tx_tl (x : Str) : tx x.cps.toList = x := TL.mk_tl x
theorem tx_len (a : List Nat) : (tx a).length = a.length := by simp [tx, Str.length]
theorem tx_cat (a b : List Nat) : tx a ++ tx b = tx (a ++ b) := TL.ext_tl (TL.tl_append (tx a) (tx b))
theorem tx_inj {a b : List Nat} : (tx a = tx b) ↔ a = b := ⟨fun h => congrArg (fun x : Str => x.cps.toList) h, fun h => by rw [h]⟩
theorem tx_cut (a : List Nat) (lo hi : Option Int) : cutS (tx a) lo hi = tx ((a.drop (HT.sIx a.length 0 lo)).take (HT.sIx a.length a.length hi - HT.sIx a.length 0 lo)) := by
  unfold cutS
  rw [tx_len]
theorem tx_join (ys : List (List Nat)) : Txt.join (tx []) (ys.map tx) = tx ys.flatten := by
  have e := SX.join_S [] ys
  have z : ∀ ys : List (List Nat), TL.joinL [] ys = ys.flatten := by
    intro ys
    induction ys with
    | nil => rfl
    | cons y ys ih =>
      cases ys with
      | nil => simp [TL.joinL]
      | cons z zs => simp only [TL.joinL, List.flatten_cons, ih, List.nil_append]
  rw [z] at e
  exact e
theorem strs_tx : ∀ ys : List (List Nat), strsOf (ys.map fun l => D.str (tx l)) = some (ys.map tx)
  | [] => rfl
  | y :: ys => by simp [strsOf, strs_tx ys]
theorem join_tx (ys : List (List Nat)) (s : S) (h : ys.flatten.length ≤ 16777216) : bmF .join (.str (tx [])) [.lst (ys.map fun l => .str (tx l))] s = some (.val (.str (tx ys.flatten)), s) := by
  have e : ((ys.map tx).map (·.length)).sum = ys.flatten.length := by
    rw [List.length_flatten, List.map_map]
    exact congrArg List.sum (List.map_congr_left fun l _ => tx_len l)
  simp only [bmF, viewQ, viewL, strs_tx, e, tx_join]
  rw [if_pos]
  show _ ≤ 16777216
  simpa [Str.length] using h
theorem join_one (w : List Nat) (s : S) (h : w.length ≤ 16777216) : bmF .join (.str (tx [])) [.lst (w.map fun c => .str (tx [c]))] s = some (.val (.str (tx w)), s) := by
  have e : (w.map fun c => [c]).flatten = w := by
    clear h
    induction w with
    | nil => rfl
    | cons c w ih => simpa using ih
  have := join_tx (w.map fun c => [c]) s (by rw [e]; exact h)
  rw [e, List.map_map] at this
  exact this
theorem tx_to (w : List Nat) (k : Nat) : cutS (tx w) none (some (k : Int)) = tx (w.take k) := by
  rw [tx_cut, HT.sIx_none, HT.sIx_nat, List.drop_zero]
  refine congrArg tx ?_
  rw [Nat.sub_zero]
  by_cases h : k ≤ w.length
  · rw [Nat.min_eq_left h]
  · rw [Nat.min_eq_right (by omega), List.take_of_length_le (Nat.le_refl _), List.take_of_length_le (by omega)]
theorem tx_from (w : List Nat) (k : Nat) : cutS (tx w) (some (k : Int)) none = tx (w.drop k) := by
  rw [tx_cut, HT.sIx_none, HT.sIx_nat]
  refine congrArg tx ?_
  by_cases h : k ≤ w.length
  · rw [Nat.min_eq_left h, List.take_of_length_le (by rw [List.length_drop]; omega)]
  · rw [Nat.min_eq_right (by omega), List.drop_of_length_le (Nat.le_refl _), List.drop_of_length_le (by omega), List.take_nil]
theorem ix_tx {l : List Nat} {x : Int} (s : S) (h0 : 0 ≤ x) (h1 : x < l.length) (h2 : l.length ≤ 16777216) : ixF (.str (tx l)) (.int x) s = some (.str (tx [l.getD x.toNat 0])) := by
  have hl : x.toNat < l.length := by omega
  simp [ixF, tx_len, h2, atI, ixN, h0, h1, hl]
theorem getD_mem {l : List Nat} {x : Nat} (h : x < l.length) : l.getD x 0 ∈ l := by
  rw [List.getD_eq_getElem?_getD, List.getElem?_eq_getElem h]
  exact List.getElem_mem h
theorem az_len : az.length = 26 := rfl
end En

namespace En
open PySem PySem.Spec L2
def c_law_feed : E := (.seq (.asg 1 (.lc [3] (.tn 3) (.it (.sl (.var 0) .abs (.one (.cst (.int 63))))) (.cst (.bl true)) (.bi .int (.cns (.var 3) .nil)))) (.seq (.asg 2 (.bop .add (.cst (.int 10029)) (.bop .mul (.cst (.int 71)) (.bi .len (.cns (.var 1) .nil))))) (.seq (.frr (.tn 3) (.it (.var 1)) (.seq (.asg 2 (.bop .mod (.bi .int (.cns (.bop .add (.bop .mul (.var 2) (.cst (.int 8101))) (.var 3)) .nil)) (.cst (.int 2147483269)))) .skp)) (.seq (.ret (.lst (.cns (.var 1) (.cns (.cst (.int 0)) (.cns (.cst (.int 0)) (.cns (.var 2) .nil)))))) .skp))))
def c_law_take : E := (.seq (.iff (.cmp .lt (.ix (.var 0) (.cst (.int 2))) (.cst (.int 2))) (.seq (.sit (.var 0) (.cst (.int 1)) (.bop .add (.ix (.var 0) (.cst (.int 1))) (.cst (.int 1)))) (.seq (.asg 3 (.bop .add (.ix (.var 0) (.cst (.int 3))) (.bop .mul (.ix (.var 0) (.cst (.int 1))) (.cst (.int 9311))))) (.seq (.iff (.cmp .le (.ix (.var 0) (.cst (.int 1))) (.bi .len (.cns (.ix (.var 0) (.cst (.int 0))) .nil))) (.seq (.asg 3 (.ix (.ix (.var 0) (.cst (.int 0))) (.bop .sub (.ix (.var 0) (.cst (.int 1))) (.cst (.int 1))))) .skp) .skp) (.seq (.iff (.bor (.cmp .gt (.ix (.var 0) (.cst (.int 1))) (.bi .len (.cns (.ix (.var 0) (.cst (.int 0))) .nil))) (.one (.cmp .lt (.var 3) (.bop .pow (.cst (.int 10)) (.cst (.int 18)))))) (.seq (.asg 4 (.bop .mod (.bi .int (.cns (.bop .add (.bop .add (.bop .mul (.var 3) (.cst (.int 46687))) (.bop .mul (.ix (.var 0) (.cst (.int 1))) (.cst (.int 36007)))) (.ix (.var 0) (.cst (.int 3)))) .nil)) (.cst (.int 2147483647)))) (.seq (.asg 5 (.bop .mod (.bi .int (.cns (.bop .add (.bop .mul (.var 4) (.var 4)) (.bop .mul (.ix (.var 0) (.cst (.int 1))) (.cst (.int 51539)))) .nil)) (.cst (.int 998244353)))) (.seq (.ret (.bop .mod (.bop .div (.bop .mod (.bi .int (.cns (.bop .add (.bop .mul (.var 5) (.cst (.int 48109))) (.var 4)) .nil)) (.cst (.int 2147483579))) (.cst (.int 29))) (.var 1))) .skp))) .skp) (.seq (.sit (.var 0) (.cst (.int 2)) (.var 3)) .skp))))) .skp) (.seq (.asg 2 (.bop .mod (.bi .int (.cns (.ix (.var 0) (.cst (.int 2))) .nil)) (.var 1))) (.seq (.sit (.var 0) (.cst (.int 2)) (.bop .div (.bi .int (.cns (.ix (.var 0) (.cst (.int 2))) .nil)) (.var 1))) (.seq (.ret (.var 2)) .skp))))
def c_law_of : E := (.seq (.ret (.ix (.var 1) (.cal 11 (.cns (.var 0) (.cns (.bi .len (.cns (.var 1) .nil)) .nil))))) .skp)
def c_law_same : E := (.seq (.iff (.isn (.var 1)) (.seq (.ret (.isn (.var 0))) .skp) .skp) (.seq (.iff (.bor (.isi (.var 1) [.bool]) (.one (.isi (.var 0) [.bool]))) (.seq (.ret (.band (.isi (.var 1) [.bool]) (.band (.isi (.var 0) [.bool]) (.one (.cmp .eq (.var 0) (.var 1)))))) .skp) .skp) (.seq (.iff (.isi (.var 1) [.int, .str]) (.seq (.ret (.band (.isi (.var 0) [.int, .str]) (.band (.cmp .eq (.isi (.var 0) [.int]) (.isi (.var 1) [.int])) (.one (.cmp .eq (.var 0) (.var 1)))))) .skp) .skp) (.seq (.iff (.isi (.var 1) [.dict]) (.seq (.ret (.band (.isi (.var 0) [.dict]) (.band (.cmp .eq (.bi .len (.cns (.var 0) .nil)) (.bi .len (.cns (.var 1) .nil))) (.one (.bi .all (.cns (.lc [2] (.tn 2) (.it (.var 1)) (.cst (.bl true)) (.band (.cmp .isin (.var 2) (.var 0)) (.one (.cal 13 (.cns (.ix (.var 0) (.var 2)) (.cns (.ix (.var 1) (.var 2)) .nil)))))) .nil)))))) .skp) .skp) (.seq (.iff (.bor (.cmp .ne (.isi (.var 1) [.list]) (.isi (.var 0) [.list])) (.one (.cmp .ne (.isi (.var 1) [.tuple]) (.isi (.var 0) [.tuple])))) (.seq (.ret (.cst (.bl false))) .skp) .skp) (.seq (.ret (.band (.cmp .eq (.bi .len (.cns (.var 0) .nil)) (.bi .len (.cns (.var 1) .nil))) (.one (.bi .all (.cns (.lc [3, 4] (.tt [3, 4]) (.zp (.var 0) (.var 1)) (.cst (.bl true)) (.cal 13 (.cns (.var 3) (.cns (.var 4) .nil)))) .nil))))) .skp))))))
def c_law_new_names : E := (.seq (.asg 2 (.cst (.str (tx az)))) (.seq (.asg 3 (.bm .join (.cst (.str (tx []))) (.cns (.lc [6] (.tn 6) (.rng (.cal 11 (.cns (.var 0) (.cns (.cst (.int 5)) .nil)))) (.cst (.bl true)) (.cal 12 (.cns (.var 0) (.cns (.var 2) .nil)))) .nil))) (.seq (.ast (.tt [4, 5]) (.tpl (.cns (.cal 11 (.cns (.var 0) (.cns (.bop .add (.bi .len (.cns (.var 3) .nil)) (.cst (.int 1))) .nil))) (.cns (.cal 11 (.cns (.var 0) (.cns (.cst (.int 26)) .nil))) .nil)))) (.seq (.ret (.lc [6] (.tn 6) (.rng (.var 1)) (.cst (.bl true)) (.bop .add (.bop .add (.sl (.var 3) .abs (.one (.var 4))) (.ix (.var 2) (.bop .mod (.bi .int (.cns (.bop .add (.var 5) (.bop .mul (.cst (.int 7)) (.var 6))) .nil)) (.cst (.int 26))))) (.sl (.var 3) (.one (.var 4)) .abs)))) .skp))))
def Ints (ds : List D) : Prop := ∀ d ∈ ds, ∃ i : Int, d = .int i
/-- a feed: the cells, how many are read, what is left of one, the mark -/
def FdB (b : MO) : Prop := ∃ (cs : List D) (k d mk : Int), b = .bx [.lst cs, .int k, .int d, .int mk] ∧ Ints cs ∧ 0 ≤ k
section
variable {Cd : Nat → Option Ent} {Gm : Nat → D}
theorem feed_ok (hc : Cd 10 = some ⟨4, 1, c_law_feed, id⟩) (n : Nat) (m : List MO) (ns : List Int) (hl : ns.length ≤ 63) : ∃ ds, Pn Cd Gm (n + 1) 10 [.fzl (ns.map D.int)] m = some (.frs ds, m) ∧ FdB (.bx ds) := by
  have hI : ∀ l : List D, Ints l → l.length ≤ 63 → compL (store (.tn 3)) (ev (Pn Cd Gm n) Gm (.cst (.bl true))) (ev (Pn Cd Gm n) Gm (.bi .int (.cns (.var 3) .nil))) [some (.val (.fzl (ns.map D.int))), none, none, none] l [] m = some (.frs l, ⟨[some (.val (.fzl (ns.map D.int))), none, none, none], m⟩) := by
    intro l hi hl
    have e := compL_map (st := store (.tn 3)) (cd := ev (Pn Cd Gm n) Gm (.cst (.bl true))) (el := ev (Pn Cd Gm n) Gm (.bi .int (.cns (.var 3) .nil))) (r := [some (.val (.fzl (ns.map D.int))), none, none, none]) (fun _ => true) id l [] m (fun d hd => by
      obtain ⟨i, rfl⟩ := hi d hd
      simp [store]) (by simp; unfold big; omega)
    rw [e]
    simp
  have hcut : Ints (cutD (ns.map D.int) none (some 63)) ∧ (cutD (ns.map D.int) none (some 63)).length ≤ 63 := by
    unfold cutD
    constructor
    · intro d hd
      have := List.mem_of_mem_drop (List.mem_of_mem_take hd)
      obtain ⟨i, _, rfl⟩ := List.mem_map.mp this
      exact ⟨i, rfl⟩
    · simp
      omega
  have hi := hI _ hcut.1 hcut.2
  generalize hL : cutD (ns.map D.int) none (some 63) = l at hi hcut
  rw [Pn_def hc]
  obtain ⟨s', e, _, mk, c3, rfl⟩ := forL_inv (st := store (.tn 3)) (body := ev (Pn Cd Gm n) Gm (.seq (.asg 2 (.bop .mod (.bi .int (.cns (.bop .add (.bop .mul (.var 2) (.cst (.int 8101))) (.var 3)) .nil)) (.cst (.int 2147483269)))) .skp))
    (fun ds s => Ints ds ∧ ∃ (mk : Int) (c3 : Option Cell), s = ⟨[some (.val (.fzl (ns.map D.int))), some (.val (.lst l)), some (.val (.int mk)), c3], m⟩) l ⟨[some (.val (.fzl (ns.map D.int))), some (.val (.lst l)), some (.val (.int (10029 + 71 * l.length))), none], m⟩ ⟨hcut.1, _, _, rfl⟩ (by
      rintro d ds s ⟨h1, mk, c3, rfl⟩
      obtain ⟨i, rfl⟩ := h1 d (List.mem_cons_self ..)
      simp [store]
      exact fun x hx => h1 x (List.mem_cons_of_mem _ hx))
  refine ⟨[.lst l, .int 0, .int 0, .int mk], ?_, l, 0, 0, mk, rfl, hcut.1, by omega⟩
  simp [c_law_feed, ini, hL, valR, wipeR, itemsOf, hi, e, List.replicate]
/-- a draw -/
theorem take_ok (hc : Cd 11 = some ⟨6, 2, c_law_take, id⟩) (n : Nat) {m : List MO} {i : Nat} {cs : List D} {k d mk many : Int} (hm : m[i]? = some (.bx [.lst cs, .int k, .int d, .int mk])) (hI : Ints cs) (hk : 0 ≤ k) (h0 : 0 < many) (h1 : many < 1073741824) :
    Sat (Pn Cd Gm (n + 1) 11 [.adr i, .int many] m) fun x m' => ∃ r k' d' : Int, x = .val (.int r) ∧ m' = m.set i (.bx [.lst cs, .int k', .int d', .int mk]) ∧ 0 ≤ r ∧ r < many ∧ 0 ≤ k' := by
  have hi : i < m.length := (List.getElem?_eq_some_iff.mp hm).1
  have hr := fun z : Int => And.intro (Int.emod_nonneg z (show many ≠ 0 by omega)) (Int.emod_lt_of_pos z h0)
  have he := fun z : Int => And.intro (show -18446744073709551616 < z % 2147483647 by omega) (show z % 2147483647 < 18446744073709551616 by omega)
  have hs : ∀ b : MO, (m.set i b)[i]? = some b := fun b => List.getElem?_set_self hi
  clear hi
  rw [Pn_def hc]
  by_cases hd : d < 2
  · by_cases hl : k + 1 ≤ cs.length
    · obtain ⟨c, hcl⟩ := hI cs[k.toNat] (List.getElem_mem (by omega))
      have hkk : k.toNat < cs.length := by omega
      have e2 : cs[k.toNat]? = some (.int c) := by rw [List.getElem?_eq_getElem hkk, hcl]
      have hn : ¬ (cs.length : Int) < k + 1 := by omega
      have hk2 : k < cs.length := by omega
      by_cases hc2 : c < 1000000000000000000
      · simp [c_law_take, ini, hm, atI, ixN, hd, hl, hs, hn, hk, hk2, e2, hcl, hc2, h0, h1, hr, he]
        exact ⟨k + 1, ⟨_, rfl⟩, by omega⟩
      · simp [c_law_take, ini, hm, atI, ixN, hd, hl, hs, hn, hk, hk2, e2, hcl, hc2, h0, h1, hr, he]
        exact ⟨k + 1, ⟨_, rfl⟩, by omega⟩
    · have hn : (cs.length : Int) < k + 1 := by omega
      simp [c_law_take, ini, hm, atI, ixN, hd, hl, hn, hs, h0, h1, hr, he]
      exact ⟨k + 1, ⟨_, rfl⟩, by omega⟩
  · simp [c_law_take, ini, hm, atI, ixN, hd, hs, h0, h1, hr]
    exact ⟨k, ⟨_, rfl⟩, hk⟩
theorem take_b (hc : Cd 11 = some ⟨6, 2, c_law_take, id⟩) (n : Nat) (hn : 1 ≤ n) {m : List MO} {i : Nat} {b : MO} {many : Int} (hm : m[i]? = some b) (hb : FdB b) (h0 : 0 < many) (h1 : many < 1073741824) :
    ∃ (r : Int) (b' : MO), Pn Cd Gm n 11 [.adr i, .int many] m = some (.val (.int r), m.set i b') ∧ FdB b' ∧ 0 ≤ r ∧ r < many := by
  obtain ⟨cs, k, d, mk, rfl, hI, hk⟩ := hb
  obtain ⟨n, rfl⟩ : ∃ n', n = n' + 1 := ⟨n - 1, by omega⟩
  obtain ⟨x, m', e, r, k', d', rfl, rfl, q1, q2, q3⟩ := take_ok (Gm := Gm) hc n hm hI hk h0 h1
  exact ⟨r, _, e, ⟨cs, k', d', mk, rfl, hI, q3⟩, q1, q2⟩
theorem of_lst (hc : Cd 12 = some ⟨2, 2, c_law_of, id⟩) (ht : Cd 11 = some ⟨6, 2, c_law_take, id⟩) (n : Nat) (hn : 2 ≤ n) {m : List MO} {i : Nat} {b : MO} {ds : List D} (hm : m[i]? = some b) (hb : FdB b) (h0 : 0 < ds.length) (h1 : ds.length ≤ 16777216) :
    ∃ (d : D) (b' : MO), Pn Cd Gm n 12 [.adr i, .lst ds] m = some (.val d, m.set i b') ∧ FdB b' ∧ d ∈ ds := by
  obtain ⟨n, rfl⟩ : ∃ n', n = n' + 1 := ⟨n - 1, by omega⟩
  obtain ⟨r, b', e, q1, q2, q3⟩ := take_b (Gm := Gm) ht n (by omega) (many := ds.length) hm hb (by omega) (by omega)
  have hr : r.toNat < ds.length := by omega
  refine ⟨ds[r.toNat], b', ?_, q1, List.getElem_mem hr⟩
  rw [Pn_def hc]
  simp [c_law_of, ini, e, atI, ixN, q2, q3, hr]
theorem of_str (hc : Cd 12 = some ⟨2, 2, c_law_of, id⟩) (ht : Cd 11 = some ⟨6, 2, c_law_take, id⟩) (n : Nat) (hn : 2 ≤ n) {m : List MO} {i : Nat} {b : MO} {z : List Nat} (hm : m[i]? = some b) (hb : FdB b) (h0 : 0 < z.length) (h1 : z.length ≤ 16777216) :
    ∃ (c : Nat) (b' : MO), Pn Cd Gm n 12 [.adr i, .str (tx z)] m = some (.val (.str (tx [c])), m.set i b') ∧ FdB b' ∧ c ∈ z := by
  obtain ⟨n, rfl⟩ : ∃ n', n = n' + 1 := ⟨n - 1, by omega⟩
  obtain ⟨r, b', e, q1, q2, q3⟩ := take_b (Gm := Gm) ht n (by omega) (many := z.length) hm hb (by omega) (by omega)
  have hr : r.toNat < z.length := by omega
  refine ⟨z[r.toNat], b', ?_, q1, List.getElem_mem hr⟩
  rw [Pn_def hc]
  have q := ix_tx (l := z) (x := r) ⟨[some (.val (.adr i)), some (.val (.str (tx z)))], m.set i b'⟩ q2 q3 h1
  rw [List.getD_eq_getElem?_getD, List.getElem?_eq_getElem hr] at q
  simp [c_law_of, ini, tx_len, e, h1, q]
theorem zip_self (ds : List D) : List.zipWith (fun p q => D.tup [p, q]) ds ds = ds.map fun p => D.tup [p, p] := by
  induction ds with
  | nil => rfl
  | cons d ds ih => simp [ih]
theorem bls_true (l : List D) (h : ∀ d ∈ l, d = .bl true) : ∃ bs, blsOf l = some bs ∧ bs.all id = true := by
  induction l with
  | nil => exact ⟨[], rfl, rfl⟩
  | cons d l ih =>
    obtain ⟨bs, e1, e2⟩ := ih fun x hx => h x (List.mem_cons_of_mem _ hx)
    have e := h d (List.mem_cons_self ..)
    subst e
    exact ⟨true :: bs, by simp [blsOf, e1], by simp [e2]⟩
/-- data of at most so many items in a list, everywhere -/
def smD : Nat → D → Bool
  | n + 1, .lst ds => decide (ds.length ≤ big) && ds.all (smD n)
  | n + 1, .tup ds => decide (ds.length ≤ big) && ds.all (smD n)
  | _, .non => true
  | _, .bl _ => true
  | _, .int _ => true
  | _, .str _ => true
  | _, _ => false
/-- the same data -/
theorem same_refl (hc : Cd 13 = some ⟨5, 2, c_law_same, id⟩) : ∀ (k : Nat) (d : D) (m : List MO), smD k d = true → ∀ n, k < n → Pn Cd Gm n 13 [d, d] m = some (.val (.bl true), m) := by
  intro k
  induction k with
  | zero =>
    intro d m hd n hn
    obtain ⟨n, rfl⟩ : ∃ n', n = n' + 1 := ⟨n - 1, by omega⟩
    rw [Pn_def hc]
    cases d <;> first | (cases hd; done) | simp [c_law_same, ini, tyAny, tyIs, kIsn]
  | succ k ih =>
    intro d m hd n hn
    obtain ⟨n, rfl⟩ : ∃ n', n = n' + 1 := ⟨n - 1, by omega⟩
    have key : ∀ (r : List (Option Cell)) (ds : List D), ds.all (smD k) = true → ds.length ≤ big → r.length = 5 → ∃ bs, (compL (store (.tt [3, 4])) (ev (Pn Cd Gm n) Gm (.cst (.bl true))) (ev (Pn Cd Gm n) Gm (.cal 13 (.cns (.var 3) (.cns (.var 4) .nil)))) r (ds.map fun p => D.tup [p, p]) [] m = some (.frs bs, ⟨r, m⟩)) ∧ ∃ qs, blsOf bs = some qs ∧ qs.all id = true := by
      intro r ds hds hl hr
      match r, hr with
      | [a, b, c, e, f], _ =>
      refine ⟨_, compL_map (fun _ => true) (fun _ => .bl true) _ _ _ (fun d hd => ?_) (by simpa using hl), bls_true _ fun d hd => ?_⟩
      · obtain ⟨p, hp, rfl⟩ := List.mem_map.mp hd
        have e := ih p m (List.all_eq_true.mp hds p hp) n (by omega)
        simp [store, storeAll, e]
      · obtain ⟨_, _, e⟩ := List.mem_map.mp hd
        exact e.symm
    rw [Pn_def hc]
    cases d with
    | lst ds =>
      simp only [smD, Bool.and_eq_true, decide_eq_true_eq] at hd
      obtain ⟨bs, e1, qs, e2, e3⟩ := key [some (.val (.lst ds)), some (.val (.lst ds)), none, none, none] ds hd.2 hd.1 rfl
      simp [c_law_same, ini, tyAny, tyIs, kIsn, zip_self, valR, wipeR, e1, all_l e2, e3]
    | tup ds =>
      simp only [smD, Bool.and_eq_true, decide_eq_true_eq] at hd
      obtain ⟨bs, e1, qs, e2, e3⟩ := key [some (.val (.tup ds)), some (.val (.tup ds)), none, none, none] ds hd.2 hd.1 rfl
      simp [c_law_same, ini, tyAny, tyIs, kIsn, zip_self, valR, wipeR, e1, all_l e2, e3]
    | _ => first | (cases hd; done) | simp [c_law_same, ini, tyAny, tyIs, kIsn]
/-- a new name: one to five letters -/
def NmD (d : D) : Prop := ∃ l : List Nat, d = .str (tx l) ∧ 1 ≤ l.length ∧ l.length ≤ 5 ∧ ∀ c ∈ l, c ∈ az
theorem store_len {b b' : MO} {m : List MO} {i : Nat} (hm : m[i]? = some b) : (m.set i b')[i]? = some b' := List.getElem?_set_self (List.getElem?_eq_some_iff.mp hm).1
/-- the stores whose box i is a feed, the rest as in m -/
def Fdm (i : Nat) (m m' : List MO) : Prop := ∃ b, m' = m.set i b ∧ FdB b
theorem names_ok (hc : Cd 14 = some ⟨7, 2, c_law_new_names, id⟩) (ho : Cd 12 = some ⟨2, 2, c_law_of, id⟩) (ht : Cd 11 = some ⟨6, 2, c_law_take, id⟩) (n : Nat) (hn : 3 ≤ n) {m : List MO} {i : Nat} {b : MO} {many : Int} (hm : m[i]? = some b) (hb : FdB b) (hm0 : 0 ≤ many) (hmy : many ≤ 1000) :
    ∃ (ds : List D) (b' : MO), Pn Cd Gm n 14 [.adr i, .int many] m = some (.frs ds, m.set i b') ∧ FdB b' ∧ ds.length = many.toNat ∧ ∀ d ∈ ds, NmD d := by
  obtain ⟨n, rfl⟩ : ∃ n', n = n' + 1 := ⟨n - 1, by omega⟩
  -- how many letters
  obtain ⟨r1, b1, e1, f1, p1, p2⟩ := take_b (Gm := Gm) ht n (by omega) (many := 5) hm hb (by omega) (by omega)
  -- the stem
  obtain ⟨ys, m2, e2, l2, q2, b2, rfl, f2⟩ := compL_inv (st := store (.tn 6)) (cd := ev (Pn Cd Gm n) Gm (.cst (.bl true))) (el := ev (Pn Cd Gm n) Gm (.cal 12 (.cns (.var 0) (.cns (.var 2) .nil)))) (r := [some (.val (.adr i)), some (.val (.int many)), some (.val (.str (tx az))), none, none, none, none])
    (Fdm i m) (fun d => ∃ c, d = .str (tx [c]) ∧ c ∈ az) ((List.range r1.toNat).map fun (k : Nat) => D.int k) [] (m.set i b1) ⟨b1, rfl, f1⟩ (by
      rintro d hd m' ⟨b2, rfl, f2⟩
      obtain ⟨c, b3, e, g1, g2⟩ := of_str (Gm := Gm) ho ht n (by omega) (z := az) (store_len (b' := b2) hm) f2 (by rw [az_len]; omega) (by rw [az_len]; omega)
      simp [store, e]
      exact ⟨_, _, ⟨rfl, rfl⟩, ⟨b3, rfl, g1⟩, c, rfl, g2⟩) (by simp; unfold big; omega)
  obtain ⟨w, rfl⟩ : ∃ w : List Nat, ys = w.map fun c => .str (tx [c]) := by
    clear e2 l2
    induction ys with
    | nil => exact ⟨[], rfl⟩
    | cons y ys ih =>
      obtain ⟨c, rfl, _⟩ := q2 y (List.mem_cons_self ..)
      obtain ⟨w, rfl⟩ := ih fun z hz => q2 z (List.mem_cons_of_mem _ hz)
      exact ⟨c :: w, rfl⟩
  have hw : ∀ c ∈ w, c ∈ az := fun c hcw => by
    obtain ⟨c', e, h⟩ := q2 _ (List.mem_map.mpr ⟨c, hcw, rfl⟩)
    cases e
    exact h
  have lw : w.length = r1.toNat := by simpa using l2
  rw [Pn_def hc]
  have u1 : -4611686018427387904 ≤ r1 := by omega
  have u2 : r1 < 4611686018427387904 := by omega
  have e3 := join_one w
  -- where, and the first sign
  obtain ⟨r2, b3, e4, f3, p3, p4⟩ := take_b (Gm := Gm) ht n (by omega) (many := w.length + 1) (store_len (b' := b2) hm) f2 (by omega) (by omega)
  obtain ⟨r3, b4, e5, f4, p5, p6⟩ := take_b (Gm := Gm) ht n (by omega) (many := 26) (store_len (b' := b3) hm) f3 (by omega) (by omega)
  rw [List.set_set] at e4
  rw [List.set_set] at e5
  obtain ⟨k, rfl⟩ : ∃ k : Nat, r2 = k := ⟨r2.toNat, by omega⟩
  have u3 : w.length ≤ 16777216 := by omega
  obtain ⟨ws, e6, l6, q6⟩ : ∃ ws, compL (store (.tn 6)) (ev (Pn Cd Gm n) Gm (.cst (.bl true))) (ev (Pn Cd Gm n) Gm (.bop .add (.bop .add (.sl (.var 3) .abs (.one (.var 4))) (.ix (.var 2) (.bop .mod (.bi .int (.cns (.bop .add (.var 5) (.bop .mul (.cst (.int 7)) (.var 6))) .nil)) (.cst (.int 26))))) (.sl (.var 3) (.one (.var 4)) .abs)))
    [some (.val (.adr i)), some (.val (.int many)), some (.val (.str (tx az))), some (.val (.str (tx w))), some (.val (.int k)), some (.val (.int r3)), none] ((List.range many.toNat).map fun (k : Nat) => D.int k) [] (m.set i b4) = some (.frs ws, ⟨[some (.val (.adr i)), some (.val (.int many)), some (.val (.str (tx az))), some (.val (.str (tx w))), some (.val (.int k)), some (.val (.int r3)), none], m.set i b4⟩) ∧ ws.length = many.toNat ∧ ∀ d ∈ ws, NmD d := ⟨_, compL_all
    (fun d => match d with
      | .int j => .str (tx (w.take k ++ [az.getD ((r3 + 7 * j) % 26).toNat 0] ++ w.drop k))
      | _ => .non) ((List.range many.toNat).map fun (k : Nat) => D.int k) [] (m.set i b4) (by
      intro d hd
      obtain ⟨j, _, rfl⟩ := List.mem_map.mp hd
      have q := ix_tx (l := az) (x := (r3 + 7 * (j : Int)) % 26) ⟨[some (.val (.adr i)), some (.val (.int many)), some (.val (.str (tx az))), some (.val (.str (tx w))), some (.val (.int k)), some (.val (.int r3)), some (.val (.int j))], m.set i b4⟩ (by omega) (by rw [az_len]; omega) (by rw [az_len]; omega)
      have v1 : min k w.length + 1 ≤ 16777216 := by omega
      have v2 : min k w.length + 1 + (w.length - k) ≤ 16777216 := by omega
      simp [store, tx_len, u3, tx_to, tx_from, q, tx_cat, v1, v2]) (by simp; unfold big; omega), by simp, fun d hd => by
      rw [List.nil_append] at hd
      obtain ⟨e, he, rfl⟩ := List.mem_map.mp hd
      obtain ⟨j, _, rfl⟩ := List.mem_map.mp he
      have v0 : ((r3 + 7 * (j : Int)) % 26).toNat < 26 := by omega
      refine ⟨_, rfl, ?_, ?_, ?_⟩
      · simp
        omega
      · simp
        omega
      · intro c hc
        simp only [List.mem_append, List.mem_singleton] at hc
        rcases hc with (hc | rfl) | hc
        · exact hw c (List.mem_of_mem_take hc)
        · exact getD_mem v0
        · exact hw c (List.mem_of_mem_drop hc)⟩
  have u4 : many < 4611686018427387904 := by omega
  have u5 : -4611686018427387904 ≤ many := by omega
  refine ⟨ws, b4, ?_, f4, l6, q6⟩
  simp [c_law_new_names, store, storeAll, ini, e1, p1, u1, u2, valR, wipeR, e2, e3, u3, tx_len, e4, e5, u4, u5, e6]
end
end En

namespace En
open PySem PySem.Spec L2
def c_is_word : E := (.seq (.iff (.bor (.nt (.isi (.var 0) [.str])) (.one (.nt (.chn .le .le (.cst (.int 1)) (.bi .len (.cns (.var 0) .nil)) (.gv 1))))) (.seq (.ret (.cst (.bl false))) .skp) .skp) (.seq (.ret (.bi .all (.cns (.lc [1] (.tn 1) (.it (.var 0)) (.cst (.bl true)) (.cmp .isin (.var 1) (.gv 0))) .nil))) .skp))
def c_is_number : E := (.seq (.ret (.band (.isi (.var 0) [.int]) (.band (.nt (.isi (.var 0) [.bool])) (.one (.chn .le .le (.var 1) (.var 0) (.var 2)))))) .skp)
def c_is_date : E := (.seq (.ret (.cal 1 (.cns (.var 0) (.cns (.cst (.int 0)) (.cns (.gv 2) .nil))))) .skp)
def c_law_b0 : E := (.seq (.asg 4 (.ix (.cal 14 (.cns (.var 1) (.cns (.cst (.int 2)) .nil))) (.cst (.int 1)))) (.seq (.asg 5 (.cal 11 (.cns (.var 1) (.cns (.bop .add (.bi .len (.cns (.var 4) .nil)) (.cst (.int 1))) .nil)))) (.seq (.asg 6 (.cal 12 (.cns (.var 1) (.cns (.lst (.cns (.cst (.str (tx []))) (.cns (.cst (.str (tx [97]))) (.cns (.cst (.str (tx [122]))) (.cns (.cst (.str (tx [65]))) (.cns (.cst (.str (tx [49]))) (.cns (.cst (.str (tx [32]))) (.cns (.cst (.str (tx [45]))) (.cns (.cst (.str (tx [95]))) (.cns (.cst (.str (tx [98, 99]))) (.cns (.cst (.str (tx [10]))) .nil))))))))))) .nil)))) (.seq (.asg 7 (.bop .add (.bop .add (.sl (.var 4) .abs (.one (.var 5))) (.var 6)) (.sl (.var 4) (.one (.bop .add (.var 5) (.cal 11 (.cns (.var 1) (.cns (.cst (.int 2)) .nil))))) .abs))) (.seq (.asg 8 (.band (.chn .le .le (.cst (.int 1)) (.bi .len (.cns (.var 7) .nil)) (.cst (.int 6))) (.one (.cmp .eq (.lc [10] (.tn 10) (.it (.var 7)) (.cmp .notin (.var 10) (.cst (.str (tx az)))) (.var 10)) (.lst .nil))))) (.seq (.iff (.nt (.cal 13 (.cns (.lst (.cns (.cal 0 (.cns (.var 4) .nil)) (.cns (.calk 3 0 .nil 1 (.cns (.var 7) .nil)) (.cns (.cal 2 (.cns (.var 7) .nil)) .nil)))) (.cns (.lst (.cns (.cst (.bl true)) (.cns (.var 8) (.cns (.cst (.bl false)) .nil)))) .nil)))) (.seq (.ret (.cst (.bl false))) .skp) .skp) (.seq (.asg 9 (.cal 12 (.cns (.var 1) (.cns (.lst (.cns (.neg (.cst (.int 1))) (.cns (.cst (.int 0)) (.cns (.cst (.int 9999)) (.cns (.cst (.int 10000)) (.cns (.bop .pow (.cst (.int 10)) (.cst (.int 17))) (.cns (.cal 11 (.cns (.var 1) (.cns (.cst (.int 10001)) .nil))) .nil))))))) .nil)))) (.seq (.iff (.nt (.cal 13 (.cns (.lst (.cns (.cal 2 (.cns (.var 9) .nil)) (.cns (.calk 4 0 .nil 1 (.cns (.var 9) .nil)) (.cns (.cal 0 (.cns (.var 9) .nil)) .nil)))) (.cns (.lst (.cns (.chn .le .le (.cst (.int 0)) (.var 9) (.cst (.int 9999))) (.cns (.chn .le .le (.cst (.int 0)) (.var 9) (.cst (.int 9999))) (.cns (.cst (.bl false)) .nil)))) .nil)))) (.seq (.ret (.cst (.bl false))) .skp) .skp) .skp))))))))
def c_law : E := (.seq (.asb 1 (.cal 10 (.cns (.var 0) .nil))) (.seq (.frr (.tn 2) (.rng (.cst (.int 5))) c_law_b0) (.seq (.asg 3 (.lst (.cns (.cst .non) (.cns (.cst (.bl true)) (.cns (.cst (.bl false)) (.cns (.tpl .nil) (.cns (.lst .nil) (.cns (.lst (.cns (.cst (.str (tx [97]))) .nil)) (.cns (.tpl (.cns (.cst (.str (tx [97]))) .nil)) (.cns (.cst (.str (tx []))) (.cns (.cst (.str (tx [97, 98, 99, 100, 101, 102, 103]))) (.cns (.tpl (.cns (.cst (.int 1)) .nil)) (.cns (.lst (.cns (.cst (.int 0)) .nil)) .nil))))))))))))) (.seq (.ret (.cal 13 (.cns (.bop .add (.bop .add (.lc [11] (.tn 11) (.it (.var 3)) (.cst (.bl true)) (.cal 0 (.cns (.var 11) .nil))) (.lc [11] (.tn 11) (.it (.var 3)) (.cst (.bl true)) (.cal 2 (.cns (.var 11) .nil)))) (.lst (.cns (.cal 0 (.cns (.cst (.str (tx [97, 98, 99, 100, 101, 102]))) .nil)) .nil))) (.cns (.bop .add (.bop .mul (.lst (.cns (.cst (.bl false)) .nil)) (.cst (.int 22))) (.lst (.cns (.cst (.bl true)) .nil))) .nil)))) .skp))))
section
variable {Cd : Nat → Option Ent} {Gm : Nat → D}
/-- a word, as the document has it -/
def isWord : D → Bool
  | .str z => decide (1 ≤ z.length ∧ z.length ≤ 6) && z.cps.toList.all fun c => decide (c ∈ az)
  | _ => false
def isDate : D → Bool
  | .int i => decide (0 ≤ i ∧ i ≤ 9999)
  | _ => false
/-- values whose kind is_word can tell -/
def tellD : D → Bool
  | .str z => decide (z.length ≤ 16777216)
  | .obj _ _ _ => false
  | .adr _ => false
  | .fzl _ => false
  | _ => true
theorem word_ok (hc : Cd 0 = some ⟨2, 1, c_is_word, id⟩) (g0 : Gm 0 = .str (tx az)) (g1 : Gm 1 = .int 6) (n : Nat) (hn : 1 ≤ n) (d : D) (m : List MO) (hd : tellD d = true) : Pn Cd Gm n 0 [d] m = some (.val (.bl (isWord d)), m) := by
  obtain ⟨n, rfl⟩ : ∃ n', n = n' + 1 := ⟨n - 1, by omega⟩
  rw [Pn_def hc]
  cases d with
  | str z =>
    have hz : z.length ≤ 16777216 := by simpa [tellD] using hd
    by_cases h1 : 1 ≤ z.length
    · by_cases h2 : z.length ≤ 6
      · have e := compL_all (st := store (.tn 1)) (cd := ev (Pn Cd Gm n) Gm (.cst (.bl true))) (el := ev (Pn Cd Gm n) Gm (.cmp .isin (.var 1) (.gv 0))) (r := [some (.val (.str z)), none]) (fun d => match d with
          | .str a => .bl (a.cps.toList.all fun c => decide (c ∈ az))
          | _ => .non) (z.cps.toList.map fun c => D.str ⟨#[c]⟩) [] m (fun d hd => by
            obtain ⟨c, _, rfl⟩ := List.mem_map.mp hd
            simp [store, g0]) (by
            have : z.cps.toList.length = z.length := by simp [Str.length]
            simp only [List.length_nil, List.length_map, Nat.zero_add, this]
            exact hz)
        have e2 : ∀ l : List Nat, blsOf ((l.map fun c => D.str ⟨#[c]⟩).map (fun d => match d with
          | .str a => .bl (a.cps.toList.all fun c => decide (c ∈ az))
          | _ => .non)) = some (l.map fun c => decide (c ∈ az)) := by
          intro l
          induction l with
          | nil => rfl
          | cons c l ih => simp only [List.map_cons, blsOf, ih]; simp
        have e3 := all_l (s := ⟨[some (.val (.str z)), none], m⟩) (e2 z.cps.toList)
        obtain ⟨ws, e, e3⟩ : ∃ ws, compL (store (.tn 1)) (ev (Pn Cd Gm n) Gm (.cst (.bl true))) (ev (Pn Cd Gm n) Gm (.cmp .isin (.var 1) (.gv 0))) [some (.val (.str z)), none] (z.cps.toList.map fun c => D.str ⟨#[c]⟩) [] m = some (.frs ws, ⟨[some (.val (.str z)), none], m⟩) ∧
          biF .all [.lst ws] ⟨[some (.val (.str z)), none], m⟩ = some (.val (.bl (isWord (.str z))), ⟨[some (.val (.str z)), none], m⟩) := by
          refine ⟨_, e, ?_⟩
          rw [List.nil_append, e3]
          have q : (List.map (fun c => decide (c ∈ az)) z.cps.toList).all id = isWord (.str z) := by
            show _ = (decide (1 ≤ z.length ∧ z.length ≤ 6) && z.cps.toList.all fun c => decide (c ∈ az))
            rw [decide_eq_true (And.intro h1 h2), Bool.true_and, List.all_map]
            rfl
          rw [q]
        have i1 : (1 : Int) ≤ z.length := by omega
        have i2 : (z.length : Int) ≤ 6 := by omega
        simp [c_is_word, ini, tyAny, tyIs, hz, i1, i2, g1, valR, wipeR, itemsOf, e, e3]
      · have i1 : (1 : Int) ≤ z.length := by omega
        have i2 : ¬ (z.length : Int) ≤ 6 := by omega
        have w : isWord (.str z) = false := by simp [isWord, h2]
        simp [c_is_word, ini, tyAny, tyIs, hz, i1, i2, g1, w]
    · have i1 : ¬ (1 : Int) ≤ z.length := by omega
      have w : isWord (.str z) = false := by simp [isWord, h1]
      simp [c_is_word, ini, tyAny, tyIs, hz, i1, g1, w]
  | _ => first | (cases hd; done) | simp [c_is_word, ini, tyAny, tyIs, isWord]
theorem date_ok (hc : Cd 2 = some ⟨1, 1, c_is_date, id⟩) (hk : Cd 1 = some ⟨3, 3, c_is_number, id⟩) (g2 : Gm 2 = .int 9999) (n : Nat) (hn : 2 ≤ n) (d : D) (m : List MO) (hd : tellD d = true) : Pn Cd Gm n 2 [d] m = some (.val (.bl (isDate d)), m) := by
  obtain ⟨n, rfl⟩ : ∃ n', n = n' + 2 := ⟨n - 2, by omega⟩
  have key : Pn Cd Gm (n + 1) 1 [d, .int 0, .int 9999] m = some (.val (.bl (isDate d)), m) := by
    rw [Pn_def hk]
    cases d with
    | int i =>
      by_cases h1 : 0 ≤ i
      · simp [c_is_number, ini, tyAny, tyIs, h1, isDate]
      · simp [c_is_number, ini, tyAny, tyIs, h1, isDate]
    | _ => first | (cases hd; done) | simp [c_is_number, ini, tyAny, tyIs, isDate]
  rw [Pn_def hc]
  simp [c_is_date, ini, g2, key]
end
end En

namespace En
open PySem PySem.Spec L2
structure K02T (Cd : Nat → Option Ent) (Gm : Nat → D) : Prop where
  h0 : Cd 0 = some ⟨2, 1, c_is_word, id⟩
  h1 : Cd 1 = some ⟨3, 3, c_is_number, id⟩
  h2 : Cd 2 = some ⟨1, 1, c_is_date, id⟩
  h3 : Cd 3 = some ⟨2, 1, c_is_word, id⟩
  h4 : Cd 4 = some ⟨1, 1, c_is_date, id⟩
  h10 : Cd 10 = some ⟨4, 1, c_law_feed, id⟩
  h11 : Cd 11 = some ⟨6, 2, c_law_take, id⟩
  h12 : Cd 12 = some ⟨2, 2, c_law_of, id⟩
  h13 : Cd 13 = some ⟨5, 2, c_law_same, id⟩
  h14 : Cd 14 = some ⟨7, 2, c_law_new_names, id⟩
  h15 : Cd 15 = some ⟨12, 1, c_law, id⟩
  g0 : Gm 0 = .str (tx az)
  g1 : Gm 1 = .int 6
  g2 : Gm 2 = .int 9999
def VC (c : Option Cell) : Prop := c = none ∨ ∃ d, c = some (.val d)
theorem valR_c {c : Option Cell} {r : List (Option Cell)} (h : VC c) : valR (c :: r) = c :: valR r := by
  rcases h with rfl | ⟨d, rfl⟩ <;> rfl
theorem VC_n : VC none := .inl rfl
theorem VC_v {d : D} : VC (some (.val d)) := .inr ⟨d, rfl⟩
section
variable {Cd : Nat → Option Ent} {Gm : Nat → D}
theorem Pn_same {Cd : Nat → Option Ent} {Gm : Nat → D} {f g : Nat} {e : Ent} (h : Cd f = some e) (k : Cd g = some e) (n : Nat) (ds : List D) (m : List MO) : Pn Cd Gm n f ds m = Pn Cd Gm n g ds m := by
  cases n with
  | zero => rfl
  | succ n => rw [Pn_def h, Pn_def k]
/-- the signs of a text that are no letters -/
theorem bad_ok (P : Nat → List D → List MO → Option (Out × List MO)) (z : List Nat) (hz : z.length ≤ 16777216) (r : List (Option Cell)) (m : List MO) (hr : r.length = 12) :
    compL (store (.tn 10)) (ev P Gm (.cmp .notin (.var 10) (.cst (.str (tx az))))) (ev P Gm (.var 10)) r (z.map fun c => D.str ⟨#[c]⟩) [] m = some (.frs ((z.filter fun c => !decide (c ∈ az)).map fun c => D.str ⟨#[c]⟩), ⟨r, m⟩) := by
  have h10 : ∀ c : Option Cell, (r.set 10 c)[10]? = some c := fun c => List.getElem?_set_self (by omega)
  have e := compL_map (st := store (.tn 10)) (cd := ev P Gm (.cmp .notin (.var 10) (.cst (.str (tx az))))) (el := ev P Gm (.var 10)) (r := r) (fun d => match d with
    | .str a => match a.cps.toList with
      | [c] => !decide (c ∈ az)
      | _ => false
    | _ => false) id (z.map fun c => D.str ⟨#[c]⟩) [] m (fun d hd => by
      obtain ⟨c, _, rfl⟩ := List.mem_map.mp hd
      simp [store, h10]) (by show _ ≤ 16777216; simpa using hz)
  rw [e]
  congr 3
  rw [List.nil_append, List.map_id, List.filter_map]
  rfl
theorem turn_ok (T : K02T Cd Gm) (n : Nat) (hn : 6 ≤ n) (sc t : D) (b : MO) (hb : FdB b) (c4 c5 c6 c7 c8 c9 : Option Cell) (h8 : VC c8) (h9 : VC c9) :
    ∃ b' d4 d5 d6 d7 d8 d9, FdB b' ∧ ev (Pn Cd Gm n) Gm c_law_b0 ⟨[some (.val sc), some (.val (.adr 0)), some (.val t), none, c4, c5, c6, c7, c8, c9, none, none], [b]⟩ =
      some (.nx, ⟨[some (.val sc), some (.val (.adr 0)), some (.val t), none, some (.val d4), some (.val d5), some (.val d6), some (.val d7), some (.val d8), some (.val d9), none, none], [b']⟩) := by
  -- the word
  obtain ⟨ds, b1, e1, f1, l1, q1⟩ := names_ok (Gm := Gm) (m := [b]) (i := 0) T.h14 T.h12 T.h11 n (by omega) rfl hb (many := 2) (by omega) (by omega)
  match ds, l1 with
  | [w0, w1], _ =>
  obtain ⟨w, rfl, lw1, lw2, hw⟩ := q1 w1 (by simp)
  -- a place
  obtain ⟨k, b2, e2, f2, p2, p3⟩ := take_b (Gm := Gm) (m := [b1]) (i := 0) T.h11 n (by omega) (many := w.length + 1) rfl f1 (by omega) (by omega)
  obtain ⟨k, rfl⟩ : ∃ j : Nat, k = j := ⟨k.toNat, by omega⟩
  -- a sign
  obtain ⟨sg, b3, e3, f3, q3⟩ := of_lst (Gm := Gm) (m := [b2]) (i := 0) T.h12 T.h11 n (by omega) (ds := [.str (tx []), .str (tx [97]), .str (tx [122]), .str (tx [65]), .str (tx [49]), .str (tx [32]), .str (tx [45]), .str (tx [95]), .str (tx [98, 99]), .str (tx [10])]) rfl f2 (by simp) (by simp)
  obtain ⟨g, rfl, lg⟩ : ∃ g, sg = .str (tx g) ∧ g.length ≤ 2 := by
    simp only [List.mem_cons, List.not_mem_nil, or_false] at q3
    rcases q3 with h | h | h | h | h | h | h | h | h | h <;> exact ⟨_, h, by simp⟩
  obtain ⟨r4, b4, e4, f4, p4, p5⟩ := take_b (Gm := Gm) (m := [b3]) (i := 0) T.h11 n (by omega) (many := 2) rfl f3 (by omega) (by omega)
  obtain ⟨j, hj⟩ : ∃ j : Nat, (k : Int) + r4 = j := ⟨((k : Int) + r4).toNat, by omega⟩
  have lb : (w.take k ++ g ++ w.drop j).length ≤ 16 := by
    simp only [List.length_append, List.length_take, List.length_drop]
    omega
  generalize hbt : w.take k ++ g ++ w.drop j = bt at lb
  -- number
  obtain ⟨r5, b5, e5, f5, p6, p7⟩ := take_b (Gm := Gm) (m := [b4]) (i := 0) T.h11 n (by omega) (many := 10001) rfl f4 (by omega) (by omega)
  obtain ⟨nd, b6, e6, f6, q6⟩ := of_lst (Gm := Gm) (m := [b5]) (i := 0) T.h12 T.h11 n (by omega) (ds := [.int (-1), .int 0, .int 9999, .int 10000, .int 100000000000000000, .int r5]) rfl f5 (by simp) (by simp)
  obtain ⟨nb, rfl⟩ : ∃ i : Int, nd = .int i := by
    simp only [List.mem_cons, List.not_mem_nil, or_false] at q6
    rcases q6 with h | h | h | h | h | h <;> exact ⟨_, h⟩
  -- what the program answers
  have tb : tellD (.str (tx bt)) = true := by
    show decide ((tx bt).length ≤ 16777216) = true
    rw [tx_len]
    exact decide_eq_true (by omega)
  have tw : tellD (.str (tx w)) = true := by
    show decide ((tx w).length ≤ 16777216) = true
    rw [tx_len]
    exact decide_eq_true (by omega)
  have aw := word_ok (Gm := Gm) T.h0 T.g0 T.g1 n (by omega) (.str (tx w)) [b4] tw
  have ab := (Pn_same (Gm := Gm) T.h3 T.h0 n _ _).trans (word_ok (Gm := Gm) T.h0 T.g0 T.g1 n (by omega) (.str (tx bt)) [b4] tb)
  have db := date_ok (Gm := Gm) T.h2 T.h1 T.g2 n (by omega) (.str (tx bt)) [b4] tb
  have dn := date_ok (Gm := Gm) T.h2 T.h1 T.g2 n (by omega) (.int nb) [b6] rfl
  have dn2 := (Pn_same (Gm := Gm) T.h4 T.h2 n _ _).trans (date_ok (Gm := Gm) T.h2 T.h1 T.g2 n (by omega) (.int nb) [b6] rfl)
  have an := word_ok (Gm := Gm) T.h0 T.g0 T.g1 n (by omega) (.int nb) [b6] rfl
  have iw : isWord (.str (tx w)) = true := by
    show (decide (1 ≤ (tx w).length ∧ (tx w).length ≤ 6) && (tx w).cps.toList.all fun c => decide (c ∈ az)) = true
    rw [tx_len, decide_eq_true (And.intro lw1 (show w.length ≤ 6 by omega)), Bool.true_and]
    exact List.all_eq_true.mpr fun c hc => decide_eq_true (hw c (by simpa using hc))
  rw [iw] at aw
  have id1 : isDate (.str (tx bt)) = false := rfl
  rw [id1] at db
  have iw2 : isWord (.int nb) = false := rfl
  rw [iw2] at an
  have s1 := same_refl (Gm := Gm) T.h13 2 (.lst [.bl true, .bl (isWord (.str (tx bt))), .bl false]) [b4] (by simp [smD]) n (by omega)
  have s2 := same_refl (Gm := Gm) T.h13 2 (.lst [.bl (isDate (.int nb)), .bl (isDate (.int nb)), .bl false]) [b6] (by simp [smD]) n (by omega)
  -- what is due
  have due : ∀ r : List (Option Cell), r.length = 12 → r[7]? = some (some (.val (.str (tx bt)))) → ev (Pn Cd Gm n) Gm (.band (.chn .le .le (.cst (.int 1)) (.bi .len (.cns (.var 7) .nil)) (.cst (.int 6))) (.one (.cmp .eq (.lc [10] (.tn 10) (.it (.var 7)) (.cmp .notin (.var 10) (.cst (.str (tx az)))) (.var 10)) (.lst .nil)))) ⟨r, [b4]⟩ = some (.val (.bl (isWord (.str (tx bt)))), ⟨r, [b4]⟩) := by
    intro r hr h7
    have w0 : isWord (.str (tx bt)) = (decide (1 ≤ bt.length ∧ bt.length ≤ 6) && bt.all fun c => decide (c ∈ az)) := by
      show (decide (1 ≤ (tx bt).length ∧ (tx bt).length ≤ 6) && _) = _
      rw [tx_len]
    have v0 : bt.length ≤ 16777216 := by omega
    rw [w0]
    by_cases i1 : (1 : Int) ≤ bt.length
    · by_cases i2 : (bt.length : Int) ≤ 6
      · have n1 : 1 ≤ bt.length := by omega
        have n2 : bt.length ≤ 6 := by omega
        obtain ⟨v, hv⟩ : ∃ v, valR r = v := ⟨_, rfl⟩
        have lv : ∀ r : List (Option Cell), (valR r).length = r.length := by
          intro r
          induction r with
          | nil => rfl
          | cons c r ih =>
            match c with
            | none => simp [valR, ih]
            | some (.val d) => simp [valR, ih]
            | some (.ol d) => simp [valR, ih]
            | some (.od _ d) => simp [valR, ih]
        have e := bad_ok (Gm := Gm) (Pn Cd Gm n) bt v0 (wipeR (valR r) [10]) [b4] (by simp [wipeR, lv, hr])
        have q : ∀ l : List Nat, eqDs ((l.filter fun c => !decide (c ∈ az)).map fun c => D.str ⟨#[c]⟩) [] = l.all fun c => decide (c ∈ az) := by
          intro l
          induction l with
          | nil => rfl
          | cons c l ih =>
            by_cases hc : c ∈ az
            · simp [List.filter_cons, hc, ih]
            · simp [List.filter_cons, hc]
        have ok : ∀ (l : List Nat) (s : S), cmpF .eq (.lst ((l.filter fun c => !decide (c ∈ az)).map fun c => D.str ⟨#[c]⟩)) (.lst []) s = some (l.all fun c => decide (c ∈ az)) := fun l s => by
          rw [cmp_eq (by show ((l.filter fun c => !decide (c ∈ az)).map fun c => D.str ⟨#[c]⟩).all (okD 7) = true; rw [List.all_eq_true]; intro d hd; obtain ⟨c, _, rfl⟩ := List.mem_map.mp hd; rfl) rfl]
          show some (eqDs _ _) = _
          rw [q]
        simp [h7, tx_len, v0, i1, i2, itemsOf, e, ok, n1, n2]
      · have n2 : ¬ bt.length ≤ 6 := by omega
        simp [h7, tx_len, v0, i1, i2, n2]
    · have n1 : ¬ 1 ≤ bt.length := by omega
      simp [h7, tx_len, v0, i1, n1]
  have dd : ∀ r : List (Option Cell), r.length = 12 → r[9]? = some (some (.val (.int nb))) → ev (Pn Cd Gm n) Gm (.chn .le .le (.cst (.int 0)) (.var 9) (.cst (.int 9999))) ⟨r, [b6]⟩ = some (.val (.bl (isDate (.int nb))), ⟨r, [b6]⟩) := by
    intro r hr h9
    by_cases i1 : 0 ≤ nb
    · simp [h9, i1, isDate]
    · simp [h9, i1, isDate]
  refine ⟨b6, .str (tx w), .int k, .str (tx g), .str (tx bt), .bl (isWord (.str (tx bt))), .int nb, f6, ?_⟩
  have u1 : w.length ≤ 16777216 := by omega
  have u2 : g.length ≤ 5 := by omega
  have u3 : min k w.length + g.length ≤ 16777216 := by omega
  have u4 : min k w.length + (g.length + (w.length - j)) ≤ 16777216 := by omega
  have u5 : min k w.length + g.length + (w.length - j) ≤ 16777216 := by omega
  have hbt' : w.take k ++ (g ++ w.drop j) = bt := by rw [← hbt, List.append_assoc]
  simp [c_law_b0, e1, e2, e3, e4, e5, e6, tx_len, tx_to, tx_from, tx_cat, u1, u3, u4, u5, atI, ixN, hj, hbt', due, dd, aw, ab, db, dn, dn2, an, s1, s2]
theorem law_ok (T : K02T Cd Gm) (ns : List Int) (hl : ns.length ≤ 63) : ∃ m, Pn Cd Gm 8 15 [.fzl (ns.map D.int)] [] = some (.val (.bl true), m) := by
  obtain ⟨fd, e0, f0⟩ := feed_ok (Gm := Gm) T.h10 6 [] ns hl
  rw [Pn_def T.h15]
  obtain ⟨s', e1, d, c2, c4, c5, c6, c7, c8, c9, hb, h8, h9, rfl⟩ := forL_inv (st := store (.tn 2)) (body := ev (Pn Cd Gm 7) Gm c_law_b0) (fun ds s => ∃ b c2 c4 c5 c6 c7 c8 c9, FdB b ∧ VC c8 ∧ VC c9 ∧ s = ⟨[some (.val (.fzl (ns.map D.int))), some (.val (.adr 0)), c2, none, c4, c5, c6, c7, c8, c9, none, none], [b]⟩) ((List.range 5).map fun (k : Nat) => D.int k)
    ⟨[some (.val (.fzl (ns.map D.int))), some (.val (.adr 0)), none, none, none, none, none, none, none, none, none, none], [.bx fd]⟩ ⟨_, _, _, _, _, _, _, _, f0, VC_n, VC_n, rfl⟩ (by
      rintro t ds s ⟨b, c2, c4, c5, c6, c7, c8, c9, hb, h8, h9, rfl⟩
      obtain ⟨b', d4, d5, d6, d7, d8, d9, q1, q2⟩ := turn_ok T 7 (by omega) (.fzl (ns.map D.int)) t b hb c4 c5 c6 c7 c8 c9 h8 h9
      exact ⟨_, rfl, _, .inl q2, b', _, _, _, _, _, _, _, q1, VC_v, VC_v, rfl⟩)
  have step : ∀ (f : D → Bool) (k : Nat) (hk : ∀ x m, tellD x = true → Pn Cd Gm 7 k [x] m = some (.val (.bl (f x)), m)) (r : List (Option Cell)) (m : List MO) (hr : r.length = 12) (l : List D) (hl : l.length ≤ 100) (ht : ∀ x ∈ l, tellD x = true),
      compL (store (.tn 11)) (ev (Pn Cd Gm 7) Gm (.cst (.bl true))) (ev (Pn Cd Gm 7) Gm (.cal k (.cns (.var 11) .nil))) r l [] m = some (.frs (l.map fun x => .bl (f x)), ⟨r, m⟩) := by
    intro f k hk r m hr l hl ht
    have h11 : ∀ c : Option Cell, (r.set 11 c)[11]? = some c := fun c => List.getElem?_set_self (by omega)
    have e := compL_all (st := store (.tn 11)) (cd := ev (Pn Cd Gm 7) Gm (.cst (.bl true))) (el := ev (Pn Cd Gm 7) Gm (.cal k (.cns (.var 11) .nil))) (r := r) (fun x => .bl (f x)) l [] m (fun d hd => by
      simp [store, h11, hk d m (ht d hd)]) (by show _ ≤ 16777216; simp; omega)
    rw [e, List.nil_append]
  have w3 : isWord (.str (tx [97, 98, 99, 100, 101, 102, 103])) = false := by decide
  have w4 : isWord (.str (tx [])) = false := by decide
  have ht : ∀ x ∈ ([.non, .bl true, .bl false, .tup [], .lst [], .lst [.str (tx [97])], .tup [.str (tx [97])], .str (tx []), .str (tx [97, 98, 99, 100, 101, 102, 103]), .tup [.int 1], .lst [.int 0]] : List D), tellD x = true := by
    intro x hx
    simp only [List.mem_cons, List.not_mem_nil, or_false] at hx
    rcases hx with h | h | h | h | h | h | h | h | h | h | h <;> subst h <;> rfl
  have s1 : ∀ (r : List (Option Cell)) (m : List MO), r.length = 12 → compL (store (.tn 11)) (ev (Pn Cd Gm 7) Gm (.cst (.bl true))) (ev (Pn Cd Gm 7) Gm (.cal 0 (.cns (.var 11) .nil))) r [.non, .bl true, .bl false, .tup [], .lst [], .lst [.str (tx [97])], .tup [.str (tx [97])], .str (tx []), .str (tx [97, 98, 99, 100, 101, 102, 103]), .tup [.int 1], .lst [.int 0]] [] m = some (.frs [.bl false, .bl false, .bl false, .bl false, .bl false, .bl false, .bl false, .bl false, .bl false, .bl false, .bl false], ⟨r, m⟩) := fun r m hr => by
    rw [step isWord 0 (fun x m hx => word_ok (Gm := Gm) T.h0 T.g0 T.g1 7 (by omega) x m hx) r m hr _ (by decide) ht]
    simp [isWord, tx_len]
  have s2 : ∀ (r : List (Option Cell)) (m : List MO), r.length = 12 → compL (store (.tn 11)) (ev (Pn Cd Gm 7) Gm (.cst (.bl true))) (ev (Pn Cd Gm 7) Gm (.cal 2 (.cns (.var 11) .nil))) r [.non, .bl true, .bl false, .tup [], .lst [], .lst [.str (tx [97])], .tup [.str (tx [97])], .str (tx []), .str (tx [97, 98, 99, 100, 101, 102, 103]), .tup [.int 1], .lst [.int 0]] [] m = some (.frs [.bl false, .bl false, .bl false, .bl false, .bl false, .bl false, .bl false, .bl false, .bl false, .bl false, .bl false], ⟨r, m⟩) := fun r m hr => by
    rw [step isDate 2 (fun x m hx => date_ok (Gm := Gm) T.h2 T.h1 T.g2 7 (by omega) x m hx) r m hr _ (by decide) ht]
    simp [isDate]
  have w1 := word_ok (Gm := Gm) T.h0 T.g0 T.g1 7 (by omega) (.str (tx [97, 98, 99, 100, 101, 102])) [d] rfl
  have sm := same_refl (Gm := Gm) T.h13 2 (.lst [.bl false, .bl false, .bl false, .bl false, .bl false, .bl false, .bl false, .bl false, .bl false, .bl false, .bl false, .bl false, .bl false, .bl false, .bl false, .bl false, .bl false, .bl false, .bl false, .bl false, .bl false, .bl false, .bl true]) [d] (by simp [smD]) 7 (by omega)
  have w2 : isWord (.str (tx [97, 98, 99, 100, 101, 102])) = true := by decide
  simp [c_law, ini, e0, e1, itemsOf, valR_len, wipeR_len, s1, s2, w1, w2, sm, List.replicate]
end
end En

namespace En
open PySem PySem.Spec L2
theorem ints_rp {x : SX} {G : Hp} {io : List Addr} : ∀ ns : List Int, RpL x G io (ns.map D.int) (ns.map V.int)
  | [] => rfl
  | n :: ns => ⟨.int n, _, rfl, rfl, ints_rp ns⟩
/-! the law's own tables -/
def top (i : Nat) : Stmt := PySem.Challenge.pw_namehold_k02_words_and_dates.main.body.getD i (.Pass ⟨0, 0, 0, 0⟩)
def fnmL : Nat → Str
  | 0 => "is_word"
  | 1 => "is_number"
  | 2 => "is_date"
  | 10 => "_law_feed"
  | 11 => "_law_take"
  | 12 => "_law_of"
  | 13 => "_law_same"
  | 14 => "_law_new_names"
  | 15 => "law"
  | 3 => "is_word"
  | 4 => "is_date"
  | _ => ""
def gvnL : Nat → Str
  | 0 => "LETTERS"
  | 1 => "MOST_LETTERS"
  | 2 => "MOST_DATE"
  | _ => ""
def knL : Nat → Nat
  | 3 => 0
  | 4 => 0
  | _ => 0
def kkL : Nat → List Str
  | 3 => ["value"]
  | 4 => ["value"]
  | _ => []
def ntL : NT := { fnm := fnmL, gvn := gvnL, isF := fun f => decide (f ∈ ([0, 1, 2, 10, 11, 12, 13, 14, 15] : List Nat)), isK := fun f => decide (f ∈ ([3, 4] : List Nat)), kn := knL, kk := kkL }
def CdL : Nat → Option Ent
  | 0 => some ⟨2, 1, c_is_word, id⟩
  | 1 => some ⟨3, 3, c_is_number, id⟩
  | 2 => some ⟨1, 1, c_is_date, id⟩
  | 10 => some ⟨4, 1, c_law_feed, id⟩
  | 11 => some ⟨6, 2, c_law_take, id⟩
  | 12 => some ⟨2, 2, c_law_of, id⟩
  | 13 => some ⟨5, 2, c_law_same, id⟩
  | 14 => some ⟨7, 2, c_law_new_names, id⟩
  | 15 => some ⟨12, 1, c_law, id⟩
  | 3 => some ⟨2, 1, c_is_word, id⟩
  | 4 => some ⟨1, 1, c_is_date, id⟩
  | _ => none
def GmL : Nat → D
  | 0 => .str (tx az)
  | 1 => .int 6
  | 2 => .int 9999
  | _ => .non
theorem sc_is_word : FnScope ["value", "letter"] ["value"] (defScope (top 4)) := ⟨rfl, rfl, rfl, by decide +kernel, rfl, by decide +kernel, by decide +kernel⟩
theorem ck_is_word : chk ntL c_is_word (CC.fn ["value", "letter"] (defScope (top 4))) (.blk (defBody (top 4))) = true := by decide +kernel
theorem sc_is_number : FnScope ["value", "least", "most"] ["value", "least", "most"] (defScope (top 5)) := ⟨rfl, rfl, rfl, by decide +kernel, rfl, by decide +kernel, by decide +kernel⟩
theorem ck_is_number : chk ntL c_is_number (CC.fn ["value", "least", "most"] (defScope (top 5))) (.blk (defBody (top 5))) = true := by decide +kernel
theorem sc_is_date : FnScope ["value"] ["value"] (defScope (top 6)) := ⟨rfl, rfl, rfl, by decide +kernel, rfl, by decide +kernel, by decide +kernel⟩
theorem ck_is_date : chk ntL c_is_date (CC.fn ["value"] (defScope (top 6))) (.blk (defBody (top 6))) = true := by decide +kernel
theorem sc_law_feed : FnScope ["_law_script", "_law_cells", "_law_mark", "_law_cell"] ["_law_script"] (defScope (top 8)) := ⟨rfl, rfl, rfl, by decide +kernel, rfl, by decide +kernel, by decide +kernel⟩
theorem ck_law_feed : chk ntL c_law_feed (CC.fn ["_law_script", "_law_cells", "_law_mark", "_law_cell"] (defScope (top 8))) (.blk (defBody (top 8))) = true := by decide +kernel
theorem sc_law_take : FnScope ["_law_feed_here", "_law_many", "_law_drawn", "_law_cell", "_law_early", "_law_late"] ["_law_feed_here", "_law_many"] (defScope (top 9)) := ⟨rfl, rfl, rfl, by decide +kernel, rfl, by decide +kernel, by decide +kernel⟩
theorem ck_law_take : chk ntL c_law_take (CC.fn ["_law_feed_here", "_law_many", "_law_drawn", "_law_cell", "_law_early", "_law_late"] (defScope (top 9))) (.blk (defBody (top 9))) = true := by decide +kernel
theorem sc_law_of : FnScope ["_law_feed_here", "_law_items"] ["_law_feed_here", "_law_items"] (defScope (top 10)) := ⟨rfl, rfl, rfl, by decide +kernel, rfl, by decide +kernel, by decide +kernel⟩
theorem ck_law_of : chk ntL c_law_of (CC.fn ["_law_feed_here", "_law_items"] (defScope (top 10))) (.blk (defBody (top 10))) = true := by decide +kernel
theorem sc_law_same : FnScope ["_law_found", "_law_due", "_law_key", "_law_one", "_law_two"] ["_law_found", "_law_due"] (defScope (top 11)) := ⟨rfl, rfl, rfl, by decide +kernel, rfl, by decide +kernel, by decide +kernel⟩
theorem ck_law_same : chk ntL c_law_same (CC.fn ["_law_found", "_law_due", "_law_key", "_law_one", "_law_two"] (defScope (top 11))) (.blk (defBody (top 11))) = true := by decide +kernel
theorem sc_law_new_names : FnScope ["_law_feed_here", "_law_many", "_law_letters", "_law_stem", "_law_at", "_law_first", "_law_k"] ["_law_feed_here", "_law_many"] (defScope (top 12)) := ⟨rfl, rfl, rfl, by decide +kernel, rfl, by decide +kernel, by decide +kernel⟩
theorem ck_law_new_names : chk ntL c_law_new_names (CC.fn ["_law_feed_here", "_law_many", "_law_letters", "_law_stem", "_law_at", "_law_first", "_law_k"] (defScope (top 12))) (.blk (defBody (top 12))) = true := by decide +kernel
theorem sc_law : FnScope ["_law_script", "_law_feed_here", "_law_turn", "_law_odds", "_law_word", "_law_at", "_law_sign", "_law_bent", "_law_due", "_law_number", "_law_letter", "_law_odd"] ["_law_script"] (defScope (top 13)) := ⟨rfl, rfl, rfl, by decide +kernel, rfl, by decide +kernel, by decide +kernel⟩
theorem ck_law : chk ntL c_law (CC.fn ["_law_script", "_law_feed_here", "_law_turn", "_law_odds", "_law_word", "_law_at", "_law_sign", "_law_bent", "_law_due", "_law_number", "_law_letter", "_law_odd"] (defScope (top 13))) (.blk (defBody (top 13))) = true := by decide +kernel
def spLaw (K : PySem.W.Frag) : Sp := fun vs H Q _ => ∃ (a : Addr) (ns : List Int), vs = [.ref a] ∧ SqL K H a (ns.map V.int) ∧ ns.length ≤ 63 ∧ ∀ H', Q (.bl true) H'
theorem all_mk {l : PySem.W.OpenLaw} {w : World} {K : PySem.W.Frag} {h : Heap} {mg : Str → Option Value} {fa f0 f1 f2 f3 f4 f5 f6 f7 f8 : Addr} (X : K.In h) (G : h.Ns mainGlobals mg) (hfa : mg "law" = some (.ref fa))
    {od0 an0 od1 an1 od2 an2 od3 an3 od4 an4 od5 an5 od6 an6 od7 an7 od8 an8 : Option Addr} {sl0 sl1 sl2 sl3 sl4 sl5 sl6 sl7 sl8 : Array (Option Value)} {oc0 kV0 dc0 pm0 cd0 ct0 oc1 kV1 dc1 pm1 cd1 ct1 oc2 kV2 dc2 pm2 cd2 ct2 oc3 kV3 dc3 pm3 cd3 ct3 oc4 kV4 dc4 pm4 cd4 ct4 oc5 kV5 dc5 pm5 cd5 ct5 oc6 kV6 dc6 pm6 cd6 ct6 oc7 kV7 dc7 pm7 cd7 ct7 oc8 kV8 dc8 pm8 cd8 ct8 : Value} {t0 : Tok} {t1 : Tok} {t2 : Tok}
    (a0 : PySem.W.nsIn K mainGlobals "is_word" = some (some (.ref f0))) (l0 : K.lookup f0 = some ⟨oc0, od0, .func (PySem.W.fnOf "is_word" "is_word" (defArgs (top 4)) (defBody (top 4)) (defScope (top 4)) .none kV0 dc0 pm0 an0 cd0 ct0), sl0⟩) (c0 : PySem.W.codeIn K cd0 "is_word" = true) (k0 : PySem.W.keepIn K (.ref f0) = true)
    (a1 : PySem.W.nsIn K mainGlobals "is_number" = some (some (.ref f1))) (l1 : K.lookup f1 = some ⟨oc1, od1, .func (PySem.W.fnOf "is_number" "is_number" (defArgs (top 5)) (defBody (top 5)) (defScope (top 5)) .none kV1 dc1 pm1 an1 cd1 ct1), sl1⟩) (c1 : PySem.W.codeIn K cd1 "is_number" = true) (k1 : PySem.W.keepIn K (.ref f1) = true)
    (a2 : PySem.W.nsIn K mainGlobals "is_date" = some (some (.ref f2))) (l2 : K.lookup f2 = some ⟨oc2, od2, .func (PySem.W.fnOf "is_date" "is_date" (defArgs (top 6)) (defBody (top 6)) (defScope (top 6)) .none kV2 dc2 pm2 an2 cd2 ct2), sl2⟩) (c2 : PySem.W.codeIn K cd2 "is_date" = true) (k2 : PySem.W.keepIn K (.ref f2) = true)
    (a3 : PySem.W.nsIn K mainGlobals "_law_feed" = some (some (.ref f3))) (l3 : K.lookup f3 = some ⟨oc3, od3, .func (PySem.W.fnOf "_law_feed" "_law_feed" (defArgs (top 8)) (defBody (top 8)) (defScope (top 8)) .none kV3 dc3 pm3 an3 cd3 ct3), sl3⟩) (c3 : PySem.W.codeIn K cd3 "_law_feed" = true) (k3 : PySem.W.keepIn K (.ref f3) = true)
    (a4 : PySem.W.nsIn K mainGlobals "_law_take" = some (some (.ref f4))) (l4 : K.lookup f4 = some ⟨oc4, od4, .func (PySem.W.fnOf "_law_take" "_law_take" (defArgs (top 9)) (defBody (top 9)) (defScope (top 9)) .none kV4 dc4 pm4 an4 cd4 ct4), sl4⟩) (c4 : PySem.W.codeIn K cd4 "_law_take" = true) (k4 : PySem.W.keepIn K (.ref f4) = true)
    (a5 : PySem.W.nsIn K mainGlobals "_law_of" = some (some (.ref f5))) (l5 : K.lookup f5 = some ⟨oc5, od5, .func (PySem.W.fnOf "_law_of" "_law_of" (defArgs (top 10)) (defBody (top 10)) (defScope (top 10)) .none kV5 dc5 pm5 an5 cd5 ct5), sl5⟩) (c5 : PySem.W.codeIn K cd5 "_law_of" = true) (k5 : PySem.W.keepIn K (.ref f5) = true)
    (a6 : PySem.W.nsIn K mainGlobals "_law_same" = some (some (.ref f6))) (l6 : K.lookup f6 = some ⟨oc6, od6, .func (PySem.W.fnOf "_law_same" "_law_same" (defArgs (top 11)) (defBody (top 11)) (defScope (top 11)) .none kV6 dc6 pm6 an6 cd6 ct6), sl6⟩) (c6 : PySem.W.codeIn K cd6 "_law_same" = true) (k6 : PySem.W.keepIn K (.ref f6) = true)
    (a7 : PySem.W.nsIn K mainGlobals "_law_new_names" = some (some (.ref f7))) (l7 : K.lookup f7 = some ⟨oc7, od7, .func (PySem.W.fnOf "_law_new_names" "_law_new_names" (defArgs (top 12)) (defBody (top 12)) (defScope (top 12)) .none kV7 dc7 pm7 an7 cd7 ct7), sl7⟩) (c7 : PySem.W.codeIn K cd7 "_law_new_names" = true) (k7 : PySem.W.keepIn K (.ref f7) = true)
    (a8 : PySem.W.nsIn K mainGlobals "law" = some (some (.ref f8))) (l8 : K.lookup f8 = some ⟨oc8, od8, .func (PySem.W.fnOf "law" "law" (defArgs (top 13)) (defBody (top 13)) (defScope (top 13)) .none kV8 dc8 pm8 an8 cd8 ct8), sl8⟩) (c8 : PySem.W.codeIn K cd8 "law" = true) (k8 : PySem.W.keepIn K (.ref f8) = true)
    (gv0 : PySem.W.nsIn K mainGlobals "LETTERS" = some (some (.str "abcdefghijklmnopqrstuvwxyz" t0)))
    (gv1 : PySem.W.nsIn K mainGlobals "MOST_LETTERS" = some (some (.int 6 t1)))
    (gv2 : PySem.W.nsIn K mainGlobals "MOST_DATE" = some (some (.int 9999 t2)))
    (z0 : PySem.W.nsIn K mainGlobals "len" = some none)
    (z1 : PySem.W.nsIn K mainGlobals "int" = some none)
    (z2 : PySem.W.nsIn K mainGlobals "all" = some none)
    (z3 : PySem.W.nsIn K mainGlobals "any" = some none)
    (z4 : PySem.W.nsIn K mainGlobals "list" = some none)
    (z5 : PySem.W.nsIn K mainGlobals "tuple" = some none)
    (z6 : PySem.W.nsIn K mainGlobals "str" = some none)
    (z7 : PySem.W.nsIn K mainGlobals "bool" = some none)
    (z8 : PySem.W.nsIn K mainGlobals "isinstance" = some none)
    (z9 : PySem.W.nsIn K mainGlobals "dict" = some none)
    (z10 : PySem.W.nsIn K mainGlobals "range" = some none)
    (z11 : PySem.W.nsIn K mainGlobals "enumerate" = some none)
    (z12 : PySem.W.nsIn K mainGlobals "zip" = some none)
    (z13 : PySem.W.nsIn K mainGlobals "sorted" = some none)
    (z14 : PySem.W.nsIn K mainGlobals "min" = some none)
    (z15 : PySem.W.nsIn K mainGlobals "max" = some none)
    (z16 : PySem.W.nsIn K mainGlobals "repr" = some none)
    (z17 : PySem.W.nsIn K mainGlobals "sum" = some none)
    : ∃ fd : FuncData, (∀ (s : Shared) (v : Value), BindsTo s fd ⟨[v], []⟩ [("_law_script", v)]) ∧ ∀ base : Heap, K.In base → base.Ns mainGlobals mg → FnOk l.prog w K mg base (L2.CX l.prog w) 9 fa fd ["_law_script"] (spLaw K) := by
  have e := hfa.symm.trans (PySem.W.mg_of X G a8)
  cases e
  have F0 := fun_mk (st := top 4) l0 c0 k0
  have b0 := F0.binds (ps := ["value"]) fun _ _ _ _ _ _ us hl => match us, hl with | [_], _ => rfl
  have F1 := fun_mk (st := top 5) l1 c1 k1
  have b1 := F1.binds (ps := ["value", "least", "most"]) fun _ _ _ _ _ _ us hl => match us, hl with | [_, _, _], _ => rfl
  have F2 := fun_mk (st := top 6) l2 c2 k2
  have b2 := F2.binds (ps := ["value"]) fun _ _ _ _ _ _ us hl => match us, hl with | [_], _ => rfl
  have F3 := fun_mk (st := top 8) l3 c3 k3
  have b3 := F3.binds (ps := ["_law_script"]) fun _ _ _ _ _ _ us hl => match us, hl with | [_], _ => rfl
  have F4 := fun_mk (st := top 9) l4 c4 k4
  have b4 := F4.binds (ps := ["_law_feed_here", "_law_many"]) fun _ _ _ _ _ _ us hl => match us, hl with | [_, _], _ => rfl
  have F5 := fun_mk (st := top 10) l5 c5 k5
  have b5 := F5.binds (ps := ["_law_feed_here", "_law_items"]) fun _ _ _ _ _ _ us hl => match us, hl with | [_, _], _ => rfl
  have F6 := fun_mk (st := top 11) l6 c6 k6
  have b6 := F6.binds (ps := ["_law_found", "_law_due"]) fun _ _ _ _ _ _ us hl => match us, hl with | [_, _], _ => rfl
  have F7 := fun_mk (st := top 12) l7 c7 k7
  have b7 := F7.binds (ps := ["_law_feed_here", "_law_many"]) fun _ _ _ _ _ _ us hl => match us, hl with | [_, _], _ => rfl
  have F8 := fun_mk (st := top 13) l8 c8 k8
  have b8 := F8.binds (ps := ["_law_script"]) fun _ _ _ _ _ _ us hl => match us, hl with | [_], _ => rfl
  refine ⟨PySem.W.fnOf "law" "law" (defArgs (top 13)) (defBody (top 13)) (defScope (top 13)) .none kV8 dc8 pm8 an8 cd8 ct8, fun s v => .of_eq rfl, fun base hK hN => ?_⟩
  let L : Ld := { x := ⟨K, fun _ => 0, fun _ => ""⟩, nt := ntL, prog := l.prog, w := w, mg := mg, base := base, Gm := GmL, Cd := CdL }
  have D0 : FnD L 0 "is_word" "is_word" (top 4) f0 _ ["value", "letter"] ["value"] c_is_word := ⟨F0, sc_is_word, ck_is_word, PySem.W.mg_of X G a0⟩
  have D1 : FnD L 1 "is_number" "is_number" (top 5) f1 _ ["value", "least", "most"] ["value", "least", "most"] c_is_number := ⟨F1, sc_is_number, ck_is_number, PySem.W.mg_of X G a1⟩
  have D2 : FnD L 2 "is_date" "is_date" (top 6) f2 _ ["value"] ["value"] c_is_date := ⟨F2, sc_is_date, ck_is_date, PySem.W.mg_of X G a2⟩
  have D3 : FnD L 10 "_law_feed" "_law_feed" (top 8) f3 _ ["_law_script", "_law_cells", "_law_mark", "_law_cell"] ["_law_script"] c_law_feed := ⟨F3, sc_law_feed, ck_law_feed, PySem.W.mg_of X G a3⟩
  have D4 : FnD L 11 "_law_take" "_law_take" (top 9) f4 _ ["_law_feed_here", "_law_many", "_law_drawn", "_law_cell", "_law_early", "_law_late"] ["_law_feed_here", "_law_many"] c_law_take := ⟨F4, sc_law_take, ck_law_take, PySem.W.mg_of X G a4⟩
  have D5 : FnD L 12 "_law_of" "_law_of" (top 10) f5 _ ["_law_feed_here", "_law_items"] ["_law_feed_here", "_law_items"] c_law_of := ⟨F5, sc_law_of, ck_law_of, PySem.W.mg_of X G a5⟩
  have D6 : FnD L 13 "_law_same" "_law_same" (top 11) f6 _ ["_law_found", "_law_due", "_law_key", "_law_one", "_law_two"] ["_law_found", "_law_due"] c_law_same := ⟨F6, sc_law_same, ck_law_same, PySem.W.mg_of X G a6⟩
  have D7 : FnD L 14 "_law_new_names" "_law_new_names" (top 12) f7 _ ["_law_feed_here", "_law_many", "_law_letters", "_law_stem", "_law_at", "_law_first", "_law_k"] ["_law_feed_here", "_law_many"] c_law_new_names := ⟨F7, sc_law_new_names, ck_law_new_names, PySem.W.mg_of X G a7⟩
  have D8 : FnD L 15 "law" "law" (top 13) fa _ ["_law_script", "_law_feed_here", "_law_turn", "_law_odds", "_law_word", "_law_at", "_law_sign", "_law_bent", "_law_due", "_law_number", "_law_letter", "_law_odd"] ["_law_script"] c_law := ⟨F8, sc_law, ck_law, PySem.W.mg_of X G a8⟩
  have ok : LdOk L := {
    fn := fun f hf => by
      have hf : f ∈ ([0, 1, 2, 10, 11, 12, 13, 14, 15] : List Nat) := of_decide_eq_true hf
      simp only [List.mem_cons, List.not_mem_nil, or_false] at hf
      rcases hf with h | h | h | h | h | h | h | h | h
      · subst h; exact ⟨_, _, _, _, _, _, _, _, D0, b0, rfl⟩
      · subst h; exact ⟨_, _, _, _, _, _, _, _, D1, b1, rfl⟩
      · subst h; exact ⟨_, _, _, _, _, _, _, _, D2, b2, rfl⟩
      · subst h; exact ⟨_, _, _, _, _, _, _, _, D3, b3, rfl⟩
      · subst h; exact ⟨_, _, _, _, _, _, _, _, D4, b4, rfl⟩
      · subst h; exact ⟨_, _, _, _, _, _, _, _, D5, b5, rfl⟩
      · subst h; exact ⟨_, _, _, _, _, _, _, _, D6, b6, rfl⟩
      · subst h; exact ⟨_, _, _, _, _, _, _, _, D7, b7, rfl⟩
      · subst h; exact ⟨_, _, _, _, _, _, _, _, D8, b8, rfl⟩
    fk := fun f hf => by
      have hf : f ∈ ([3, 4] : List Nat) := of_decide_eq_true hf
      simp only [List.mem_cons, List.not_mem_nil, or_false] at hf
      rcases hf with h | h
      · subst h
        have q : KBn K (PySem.W.fnOf "is_word" "is_word" (defArgs (top 4)) (defBody (top 4)) (defScope (top 4)) .none kV0 dc0 pm0 an0 cd0 ct0) ["value"] 0 ["value"] (fun us ws => us ++ ws) (fun vs zs => vs ++ zs) := ⟨fun s us ws X l1 l2 => match us, ws, l1, l2 with | [], [_], _, _ => BindsTo.of_eq rfl, fun r1 r2 => r1.append r2⟩
        exact ⟨_, _, _, _, _, _, _, _, id, _, _, ⟨F0, sc_is_word, ck_is_word, PySem.W.mg_of X G a0⟩, q, rfl, fun G io ds es vs zs h1 h2 r1 r2 => ⟨by rw [List.length_append, h1, h2]; rfl, r1.append r2⟩⟩
      · subst h
        have q : KBn K (PySem.W.fnOf "is_date" "is_date" (defArgs (top 6)) (defBody (top 6)) (defScope (top 6)) .none kV2 dc2 pm2 an2 cd2 ct2) ["value"] 0 ["value"] (fun us ws => us ++ ws) (fun vs zs => vs ++ zs) := ⟨fun s us ws X l1 l2 => match us, ws, l1, l2 with | [], [_], _, _ => BindsTo.of_eq rfl, fun r1 r2 => r1.append r2⟩
        exact ⟨_, _, _, _, _, _, _, _, id, _, _, ⟨F2, sc_is_date, ck_is_date, PySem.W.mg_of X G a2⟩, q, rfl, fun G io ds es vs zs h1 h2 r1 r2 => ⟨by rw [List.length_append, h1, h2]; rfl, r1.append r2⟩⟩
    gv := fun g hg => by
      match g, hg with
      | 0, _ => exact ⟨_, .str "abcdefghijklmnopqrstuvwxyz", PySem.W.mg_of X G gv0, ⟨_, rfl⟩, fun _ _ => (by show V.str "abcdefghijklmnopqrstuvwxyz" = V.str (tx az); exact congrArg V.str (by decide +kernel))⟩
      | 1, _ => exact ⟨_, .int 6, PySem.W.mg_of X G gv1, ⟨_, rfl⟩, fun _ _ => rfl⟩
      | 2, _ => exact ⟨_, .int 9999, PySem.W.mg_of X G gv2, ⟨_, rfl⟩, fun _ _ => rfl⟩
      | n + 3, hg => exact absurd rfl hg
    bl := fun n hn => by
      simp only [bltNames, List.mem_cons, List.not_mem_nil, or_false] at hn
      rcases hn with h | h | h | h | h | h | h | h | h | h | h | h | h | h | h | h | h | h
      · subst h; exact PySem.W.mg_none_of X G z0
      · subst h; exact PySem.W.mg_none_of X G z1
      · subst h; exact PySem.W.mg_none_of X G z2
      · subst h; exact PySem.W.mg_none_of X G z3
      · subst h; exact PySem.W.mg_none_of X G z4
      · subst h; exact PySem.W.mg_none_of X G z5
      · subst h; exact PySem.W.mg_none_of X G z6
      · subst h; exact PySem.W.mg_none_of X G z7
      · subst h; exact PySem.W.mg_none_of X G z8
      · subst h; exact PySem.W.mg_none_of X G z9
      · subst h; exact PySem.W.mg_none_of X G z10
      · subst h; exact PySem.W.mg_none_of X G z11
      · subst h; exact PySem.W.mg_none_of X G z12
      · subst h; exact PySem.W.mg_none_of X G z13
      · subst h; exact PySem.W.mg_none_of X G z14
      · subst h; exact PySem.W.mg_none_of X G z15
      · subst h; exact PySem.W.mg_none_of X G z16
      · subst h; exact PySem.W.mg_none_of X G z17
    }
  refine (ld_ok ok 8 D8).imp fun vs H Q E hs => ?_
  obtain ⟨a, ns, rfl, hS, hl, k⟩ := hs
  obtain ⟨m, hm⟩ := law_ok (Cd := CdL) (Gm := GmL) ⟨rfl, rfl, rfl, rfl, rfl, rfl, rfl, rfl, rfl, rfl, rfl, rfl, rfl, rfl⟩ ns hl
  refine ⟨rfl, [.fzl (ns.map D.int)], [], H, [], Same.refl _, ⟨rfl, .nil, fun _ _ _ h => by simp at h⟩, .cons ⟨a, _, rfl, hS, ints_rp ns⟩ .nil, ?_⟩
  have e : PfC L 8 12 1 c_law [.fzl (ns.map D.int)] [] = some (.val (.bl true), m) := (Pn_eq (L := L) (f := 15) (gd := id) rfl _ _).symm.trans hm
  show PostF L.x H H [] (PfC L 8 12 1 c_law [.fzl (ns.map D.int)] []) Q E
  rw [e]
  intro v H' G' io' _ r
  rw [show v = .bl true from r]
  exact k H'
theorem walk {l : PySem.W.OpenLaw} {q : Program} {loose : List Str} {XP : (Str → Option Value) → Heap → Prop} {YP : World → Heap → Prop} {d : DefRec} {K : Params → PySem.W.Frag} (hn : l.most = some 63) (hdf : d.params.defaults = [])
    (hY : ∀ (w : World) (h : Heap), YP w h → (K w.params).In h)
    (F : ∀ (w : World) (mg : Str → Option Value) (fa : Addr) (h : Heap), (K w.params).In h → h.Ns mainGlobals mg → mg d.name = some (.ref fa) →
      ∃ fd : FuncData, (∀ (s : Shared) (u : Value), BindsTo s fd ⟨[u], []⟩ [("_law_script", u)]) ∧ ∀ base : Heap, (K w.params).In base → base.Ns mainGlobals mg → FnOk l.prog w (K w.params) mg base (L2.CX l.prog w) 9 fa fd ["_law_script"] (spLaw (K w.params))) :
    PySem.W.WalkO q loose XP YP l.row.toRowW d [] (fun f vs => PySem.call f vs) :=
  L2.walk_of (n := 63) (k := 9) (x := "_law_script") (CX := fun w => L2.CX l.prog w) (sp := fun w => spLaw (K w.params)) hn (by decide) hdf ⟨rfl, by decide, by decide⟩ hY F (fun _ _ a ns hl _ hS => ⟨a, ns, rfl, hS, hl, fun _ => rfl⟩) fun _ _ _ _ _ z => by obtain ⟨_, _, _, _, _, _, _, _, _, _, _, _, z⟩ := z; exact z
end En
open PySem PySem.W PyProof.Rows
set_option maxRecDepth 100000 in
set_option maxHeartbeats 0 in
theorem PySem.Challenge.cw_namehold_k02_words_and_dates_holds : PySem.Challenge.rw_namehold_k02_words_and_dates.Holds := by
  w_on; o_law; k_head; (case hw => w_witness2)
  k_fill
  refine En.walk (l := PySem.Challenge.rw_namehold_k02_words_and_dates) rfl rfl (fun w h Y => PySem.W.kIn_of Y) ?F
  case F =>
    intro w mg fa h KX G hmg
    refine' En.all_mk KX G hmg ?a0 ?l0 ?c0 ?k0 ?a1 ?l1 ?c1 ?k1 ?a2 ?l2 ?c2 ?k2 ?a3 ?l3 ?c3 ?k3 ?a4 ?l4 ?c4 ?k4 ?a5 ?l5 ?c5 ?k5 ?a6 ?l6 ?c6 ?k6 ?a7 ?l7 ?c7 ?k7 ?a8 ?l8 ?c8 ?k8 ?gv0 ?gv1 ?gv2 ?z0 ?z1 ?z2 ?z3 ?z4 ?z5 ?z6 ?z7 ?z8 ?z9 ?z10 ?z11 ?z12 ?z13 ?z14 ?z15 ?z16 ?z17
    (case a0 => k_is)
    (case l0 => k_is)
    (case c0 => k_is)
    (case k0 => k_is)
    (case a1 => k_is)
    (case l1 => k_is)
    (case c1 => k_is)
    (case k1 => k_is)
    (case a2 => k_is)
    (case l2 => k_is)
    (case c2 => k_is)
    (case k2 => k_is)
    (case a3 => k_is)
    (case l3 => k_is)
    (case c3 => k_is)
    (case k3 => k_is)
    (case a4 => k_is)
    (case l4 => k_is)
    (case c4 => k_is)
    (case k4 => k_is)
    (case a5 => k_is)
    (case l5 => k_is)
    (case c5 => k_is)
    (case k5 => k_is)
    (case a6 => k_is)
    (case l6 => k_is)
    (case c6 => k_is)
    (case k6 => k_is)
    (case a7 => k_is)
    (case l7 => k_is)
    (case c7 => k_is)
    (case k7 => k_is)
    (case a8 => k_is)
    (case l8 => k_is)
    (case c8 => k_is)
    (case k8 => k_is)
    (case gv0 => k_is)
    (case gv1 => k_is)
    (case gv2 => k_is)
    (case z0 => k_is)
    (case z1 => k_is)
    (case z2 => k_is)
    (case z3 => k_is)
    (case z4 => k_is)
    (case z5 => k_is)
    (case z6 => k_is)
    (case z7 => k_is)
    (case z8 => k_is)
    (case z9 => k_is)
    (case z10 => k_is)
    (case z11 => k_is)
    (case z12 => k_is)
    (case z13 => k_is)
    (case z14 => k_is)
    (case z15 => k_is)
    (case z16 => k_is)
    (case z17 => k_is)
