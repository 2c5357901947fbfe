import PyProof.Rows.All
import Wide.All
import OpenK.AllK
import Wide.FinOn
import HandS.ForMost
import HandS.ForExc
import HandS.IsInst
import HandS.Deep
import HandS.CallSlots
import HandS.Wide
import HandS.Conv
import HandS.Flow
import PyProof.NeData
import HandS.TupAny
import HandS.WordsDict
import HandS.SortInts
import HandS.More
import HandS.Defaults
import KE.GoesEnum
import HandS.Zip
import HandS.Small
import HandS.MakeKw
import HandS.CallRecv
import HandS.SlotsOwn
import HandS.Style
import HandS.FStr
import HandS.Star
import HandS.Iter
import HandS.MakeKwOnly
import HandS.HeadHook1
import HandS.Codes
import PySem.Challenge.RW_namehold_k13_books_equal
set_option Elab.async false
set_option linter.all false
set_option maxRecDepth 100000
set_option maxHeartbeats 4000000
namespace En
open PySem PySem.Spec L2

/-- data: a value with all that hangs on it; adr: a mutable object by its number -/
inductive D where
  | non | bl (b : Bool) | int (i : Int) | str (x : Str)
  | lst (xs : List D) | tup (xs : List D)
  | dct (ks : List Key) (ds : List D)
  | obj (c : Nat) (ns : List Nat) (ds : List D)
  | adr (n : Nat)
  | fzl (xs : List D)

/-- the static world: the written part, class addresses, names by number -/
structure SX where
  K : PySem.W.Frag
  ca : Nat → Addr
  nm : Nat → Str
  live : Nat → Bool

mutual
def Rp (x : SX) (G : Hp) (io : List Addr) : D → V → Prop
  | .non, v => v = .non
  | .bl b, v => v = .bl b
  | .int i, v => v = .int i
  | .str s, v => v = .str s
  | .lst ds, v => ∃ a vs, v = .ref a ∧ G a = some (.lst vs) ∧ RpL x G io ds vs
  | .fzl ds, v => ∃ a vs, v = .ref a ∧ SqL x.K G a vs ∧ RpL x G io ds vs
  | .tup ds, v => ∃ a vs, v = .ref a ∧ SqT x.K G a vs ∧ RpL x G io ds vs
  | .dct ks ds, v => ∃ a vs o, v = .ref a ∧ G a = some (.frz o (.dK (ks.zip vs))) ∧ vs.length = ks.length ∧ RpL x G io ds vs
  | .obj c ns ds, v => x.live c = true ∧ ∃ a dx vs, v = .ref a ∧ G a = some (.ins (x.ca c) dx ((ns.map x.nm).zip vs)) ∧ vs.length = ns.length ∧ RpL x G io ds vs
  | .adr n, v => ∃ a, v = .ref a ∧ io[n]? = some a
def RpL (x : SX) (G : Hp) (io : List Addr) : List D → List V → Prop
  | [], vs => vs = []
  | d :: ds, vs => ∃ v r, vs = v :: r ∧ Rp x G io d v ∧ RpL x G io ds r
end

def Pre (io io' : List Addr) : Prop := ∃ m, io' = io ++ m
theorem Pre.refl (io : List Addr) : Pre io io := ⟨[], by simp⟩
theorem Pre.trans {a b c : List Addr} (h : Pre a b) (g : Pre b c) : Pre a c := by
  obtain ⟨m, rfl⟩ := h
  obtain ⟨n, rfl⟩ := g
  exact ⟨m ++ n, by simp⟩
theorem Pre.get {a b : List Addr} (h : Pre a b) {n : Nat} {p : Addr} (e : a[n]? = some p) : b[n]? = some p := by
  obtain ⟨m, rfl⟩ := h
  obtain ⟨hn, _⟩ := List.getElem?_eq_some_iff.mp e
  rw [List.getElem?_append_left hn]
  exact e
theorem Same.tup {K : PySem.W.Frag} {H H' : Hp} {a : Addr} {xs : List V} (e : Same H H') (h : SqT K H a xs) : SqT K H' a xs := by
  rcases h with (h | ⟨o, h⟩) | h
  · exact .inl (.inl (e _ _ h))
  · exact .inl (.inr ⟨o, e _ _ h⟩)
  · exact .inr h

section
variable {x : SX} {G G' : Hp} {io io' : List Addr}
mutual
theorem Rp.mono (s : Same G G') (i : Pre io io') : ∀ {d : D} {v : V}, Rp x G io d v → Rp x G' io' d v
  | .non, _, h => h
  | .bl _, _, h => h
  | .int _, _, h => h
  | .str _, _, h => h
  | .lst ds, _, h => by
    obtain ⟨a, vs, e, q, r⟩ := h
    exact ⟨a, vs, e, s _ _ q, RpL.mono s i r⟩
  | .fzl ds, _, h => by
    obtain ⟨a, vs, e, q, r⟩ := h
    exact ⟨a, vs, e, s.seq q, RpL.mono s i r⟩
  | .tup ds, _, h => by
    obtain ⟨a, vs, e, q, r⟩ := h
    exact ⟨a, vs, e, Same.tup s q, RpL.mono s i r⟩
  | .dct ks ds, _, h => by
    obtain ⟨a, vs, o, e, q, l, r⟩ := h
    exact ⟨a, vs, o, e, s _ _ q, l, RpL.mono s i r⟩
  | .obj c ns ds, _, h => by
    obtain ⟨hl, a, dx, vs, e, q, l, r⟩ := h
    exact ⟨hl, a, dx, vs, e, s _ _ q, l, RpL.mono s i r⟩
  | .adr n, _, h => by
    obtain ⟨a, e, q⟩ := h
    exact ⟨a, e, i.get q⟩
theorem RpL.mono (s : Same G G') (i : Pre io io') : ∀ {ds : List D} {vs : List V}, RpL x G io ds vs → RpL x G' io' ds vs
  | [], _, h => h
  | d :: ds, _, h => by
    obtain ⟨v, r, e, q, t⟩ := h
    exact ⟨v, r, e, Rp.mono s i q, RpL.mono s i t⟩
end
theorem RpL.nil : RpL x G io [] [] := rfl
theorem RpL.cons {d : D} {ds : List D} {v : V} {vs : List V} (h : Rp x G io d v) (t : RpL x G io ds vs) : RpL x G io (d :: ds) (v :: vs) := ⟨v, vs, rfl, h, t⟩
theorem RpL.length : ∀ {ds : List D} {vs : List V}, RpL x G io ds vs → vs.length = ds.length
  | [], _, h => by
    have e : _ = [] := h
    rw [e]
    rfl
  | d :: ds, _, h => by
    obtain ⟨v, r, rfl, _, t⟩ := h
    simp [RpL.length t]
theorem RpL.append : ∀ {ds es : List D} {vs us : List V}, RpL x G io ds vs → RpL x G io es us → RpL x G io (ds ++ es) (vs ++ us)
  | [], _, _, _, h, k => by
    have e : _ = [] := h
    rw [e]
    exact k
  | d :: ds, _, _, _, h, k => by
    obtain ⟨v, r, rfl, q, t⟩ := h
    exact ⟨v, r ++ _, rfl, q, RpL.append t k⟩
theorem RpL.get : ∀ {ds : List D} {vs : List V} {i : Nat} {d : D}, RpL x G io ds vs → ds[i]? = some d → ∃ v, vs[i]? = some v ∧ Rp x G io d v
  | [], _, _, _, _, e => by simp at e
  | d :: ds, _, 0, _, h, e => by
    obtain ⟨v, r, rfl, q, t⟩ := h
    simp at e
    subst e
    exact ⟨v, rfl, q⟩
  | d :: ds, _, i + 1, _, h, e => by
    obtain ⟨v, r, rfl, q, t⟩ := h
    simpa using RpL.get (i := i) t (by simpa using e)
theorem RpL.of_get {ds : List D} {vs : List V} {i : Nat} {v : V} (h : RpL x G io ds vs) (e : vs[i]? = some v) : ∃ d, ds[i]? = some d ∧ Rp x G io d v := by
  obtain ⟨hi, _⟩ := List.getElem?_eq_some_iff.mp e
  rw [h.length] at hi
  obtain ⟨u, e2, r⟩ := h.get (List.getElem?_eq_getElem hi)
  rw [e] at e2
  cases e2
  exact ⟨_, List.getElem?_eq_getElem hi, r⟩
theorem RpL.take : ∀ {ds : List D} {vs : List V} (n : Nat), RpL x G io ds vs → RpL x G io (ds.take n) (vs.take n)
  | ds, _, 0, h => by simp; exact .nil
  | [], _, n + 1, h => by
    have e : _ = [] := h
    subst e
    simp
    exact .nil
  | d :: ds, _, n + 1, h => by
    obtain ⟨v, r, rfl, q, t⟩ := h
    exact ⟨v, r.take n, rfl, q, RpL.take n t⟩
theorem RpL.drop : ∀ {ds : List D} {vs : List V} (n : Nat), RpL x G io ds vs → RpL x G io (ds.drop n) (vs.drop n)
  | ds, _, 0, h => by simpa using h
  | [], _, n + 1, h => by
    have e : _ = [] := h
    subst e
    simp
    exact .nil
  | d :: ds, _, n + 1, h => by
    obtain ⟨v, r, rfl, q, t⟩ := h
    exact RpL.drop n t
theorem RpL.set : ∀ {ds : List D} {vs : List V} (n : Nat) {d : D} {v : V}, RpL x G io ds vs → Rp x G io d v → RpL x G io (ds.set n d) (vs.set n v)
  | [], _, n, _, _, h, _ => by
    have e : _ = [] := h
    subst e
    simp
    exact .nil
  | d :: ds, _, 0, _, _, h, k => by
    obtain ⟨v, r, rfl, q, t⟩ := h
    exact ⟨_, r, rfl, k, t⟩
  | d :: ds, _, n + 1, _, _, h, k => by
    obtain ⟨v, r, rfl, q, t⟩ := h
    exact ⟨v, _, rfl, q, RpL.set n t k⟩
end

/-- what a slot holds: data, or a list or dict of its own that nothing else knows -/
inductive Cell where
  | val (d : D) | ol (ds : List D) | od (ks : List Key) (ds : List D)
/-- a mutable object of the store -/
inductive MO where
  | bx (ds : List D) | ob (c : Nat) (ns : List Nat) (ds : List D) | dx (ks : List Key) (ds : List D) | dl (ks : List Key) (ds : List D) | ll (ds : List D)
def MO.ds : MO → List D
  | .bx ds => ds
  | .ob _ _ ds => ds
  | .dx _ ds => ds
  | .dl _ ds => ds
  | .ll ds => ds
/-- the state -/
structure S where
  r : List (Option Cell)
  m : List MO
/-- what a run comes to -/
inductive Out where
  | val (d : D) | fr (o : MO) | vals (ds : List D) | exc (c : Nat) (ns : List Nat) (ds : List D)
  | nx | rt (o : D) | rtf (o : MO) | bk | ct
/-- the data of what is made fast -/
def MO.d : MO → D
  | .bx ds => .lst ds
  | .ob c ns ds => .obj c ns ds
  | .dx ks ds => .dct ks ds
  | .dl ks ds => .dct ks ds
  | .ll ds => .lst ds
def MO.isX : MO → Bool
  | .dx _ _ => true
  | .ll _ => true
  | _ => false
/-- a new thing as a value: a dict stays in the store, the rest is data -/
def frD (o : MO) (s : S) : D × S := match o with
  | .bx ds => (.lst ds, s)
  | .ob c ns ds => (.obj c ns ds, s)
  | .dl ks ds => (.dct ks ds, s)
  | .dx ks ds => (.adr s.m.length, { r := s.r, m := s.m ++ [.dx ks ds] })
  | .ll ds => (.adr s.m.length, { r := s.r, m := s.m ++ [.ll ds] })

/-- the frame's entry -/
structure Fr where
  h : Hp
  g : Hp
  i : List Addr
  z : Hp
/-- a locked dict -/
def IsFz (u : HO) : Prop := ∃ o w, u = .frz o w
/-- what is locked -/
def zOf (H : Hp) : Hp := fun b => match H b with
  | some (.frz o u) => some (.frz o u)
  | _ => none
theorem zOf_at {H : Hp} {b : Addr} {u : HO} (h : zOf H b = some u) : H b = some u ∧ IsFz u := by
  unfold zOf at h
  split at h
  · rename_i o w e
    cases h
    exact ⟨e, _, _, rfl⟩
  · cases h
theorem zOf_of {H : Hp} {b : Addr} {o : Obj} {u : HO} (h : H b = some (.frz o u)) : zOf H b = some (.frz o u) := by
  unfold zOf
  rw [h]

def OwnL (x : SX) (F : Fr) (G : Hp) (io : List Addr) (H : Hp) (ds : List D) (a : Addr) : Prop :=
  ∃ vs, H a = some (.lst vs) ∧ G a = none ∧ F.h a = none ∧ RpL x G io ds vs
def OwnD (x : SX) (F : Fr) (G : Hp) (io : List Addr) (H : Hp) (ks : List Key) (ds : List D) (a : Addr) : Prop :=
  ∃ vs, H a = some (.dK (ks.zip vs)) ∧ G a = none ∧ F.h a = none ∧ vs.length = ks.length ∧ RpL x G io ds vs
def CellR (x : SX) (F : Fr) (G : Hp) (io : List Addr) (H : Hp) : Cell → V → Prop
  | .val d, v => Rp x G io d v
  | .ol ds, v => ∃ a, v = .ref a ∧ a ∉ io ∧ OwnL x F G io H ds a
  | .od ks ds, v => ∃ a, v = .ref a ∧ a ∉ io ∧ OwnD x F G io H ks ds a
def isOwn : Cell → Bool
  | .val _ => false
  | _ => true
/-- how an object of the store looks -/
def MoH (x : SX) : MO → List V → HO → Prop
  | .bx _, vs, h => h = .lst vs
  | .ob c ns _, vs, h => x.live c = true ∧ ∃ dx, h = .ins (x.ca c) dx ((ns.map x.nm).zip vs)
  | .dx ks _, vs, h => h = .dK (ks.zip vs)
  | .dl ks _, vs, h => ∃ o, h = .frz o (.dK (ks.zip vs))
  | .ll _, vs, h => ∃ o, h = .frz o (.lst vs)
def MoL : MO → Prop
  | .bx _ => True
  | .ob _ ns ds => ds.length = ns.length
  | .dx ks ds => ds.length = ks.length
  | .dl ks ds => ds.length = ks.length
  | .ll _ => True
def MO.isL : MO → Bool
  | .dl _ _ => true
  | .ll _ => true
  | _ => false
theorem MoH.nfz {x : SX} {o : MO} {vs : List V} {h : HO} (ho : o.isL = false) (hM : MoH x o vs h) : ¬ IsFz h := by
  rintro ⟨q, w, rfl⟩
  cases o with
  | bx ds => cases hM
  | ob c ns ds => obtain ⟨_, dx, e⟩ := hM; cases e
  | dx ks ds => cases hM
  | dl ks ds => cases ho
  | ll ds => cases ho
/-- a thing that nobody knows yet -/
def Own (x : SX) (F : Fr) (G : Hp) (io : List Addr) (H : Hp) (o : MO) (a : Addr) : Prop := ∃ vs h, H a = some h ∧ G a = none ∧ F.h a = none ∧ RpL x G io o.ds vs ∧ MoH x o vs h ∧ MoL o
theorem Own.l {x : SX} {F : Fr} {G : Hp} {io : List Addr} {H : Hp} {ds : List D} {a : Addr} (h : Own x F G io H (.bx ds) a) : OwnL x F G io H ds a := by
  obtain ⟨vs, _, q1, q2, q3, q4, rfl, _⟩ := h
  exact ⟨vs, q1, q2, q3, q4⟩
theorem OwnL.o {x : SX} {F : Fr} {G : Hp} {io : List Addr} {H : Hp} {ds : List D} {a : Addr} (h : OwnL x F G io H ds a) : Own x F G io H (.bx ds) a := by
  obtain ⟨vs, q1, q2, q3, q4⟩ := h
  exact ⟨vs, _, q1, q2, q3, q4, rfl, trivial⟩
/-- made fast, it is data -/
theorem fast_rp {x : SX} {G : Hp} {io : List Addr} {o : MO} {a : Addr} {vs : List V} {h : HO} (hx : o.isX = false) (hM : MoH x o vs h) (hL : MoL o) (r : RpL x G io o.ds vs) (e : G a = some h) : Rp x G io o.d (.ref a) := by
  cases o with
  | bx ds => cases hM; exact ⟨a, vs, rfl, e, r⟩
  | ob c ns ds =>
    obtain ⟨hl, dx, rfl⟩ := hM
    exact ⟨hl, a, dx, vs, rfl, e, by rw [r.length]; exact hL, r⟩
  | dx ks ds => cases hx
  | dl ks ds => obtain ⟨o, rfl⟩ := hM; exact ⟨a, vs, o, rfl, e, by rw [r.length]; exact hL, r⟩
  | ll ds => cases hx
def MemR (x : SX) (G : Hp) (io : List Addr) (H : Hp) (o : MO) (a : Addr) : Prop := ∃ vs h, H a = some h ∧ G a = none ∧ RpL x G io o.ds vs ∧ MoH x o vs h ∧ MoL o
def MemA (x : SX) (G : Hp) (io : List Addr) (H : Hp) (m : List MO) : Prop :=
  m.length = io.length ∧ io.Nodup ∧ ∀ (n : Nat) (o : MO) (a : Addr), m[n]? = some o → io[n]? = some a → MemR x G io H o a

structure StR (x : SX) (F : Fr) (s : S) (G : Hp) (io : List Addr) (σ : St) (H : Hp) : Prop where
  gh : Same G H
  len : s.r.length = σ.length
  slot : ∀ (i : Nat) (c : Cell), s.r[i]? = some (some c) → ∃ v, σ[i]? = some (some v) ∧ CellR x F G io H c v
  own : ∀ (i j : Nat) (c c' : Cell) (v : V), i ≠ j → s.r[i]? = some (some c) → s.r[j]? = some (some c') → isOwn c = true → isOwn c' = true → σ[i]? = some (some v) → σ[j]? = some (some v) → False
  mem : MemA x G io H s.m
  kh : ∀ b o, F.h b = some o → b ∉ F.i → H b = some o
  kg : ∀ b, F.h b ≠ none → G b = F.g b
  ki : Pre F.i io
  ni : ∀ (n : Nat) (a : Addr), F.i.length ≤ n → io[n]? = some a → F.h a = none
  zl : ∀ b u, F.z b = some u → H b = some u ∧ IsFz u

/-- an exception as it leaves: its class, its fields -/
def ExcR (x : SX) (G : Hp) (io : List Addr) (c : Nat) (ns : List Nat) (ds : List D) (cls : Value) (dd : Option Addr) (H : Hp) : Prop :=
  cls = .ref (x.ca c) ∧ ∃ a vs, dd = some a ∧ H a = some (.xd ((ns.map x.nm).zip vs)) ∧ vs.length = ns.length ∧ RpL x G io ds vs

abbrev Res := Option (Out × S)

def Post (x : SX) (F : Fr) (W : WX) (G : Hp) (io : List Addr) (o : Res) (σ : St) (Q : VK) : Prop :=
  match o with
  | some (.val d, s) => ∀ v H' G' io', Same G G' → Pre io io' → StR x F s G' io' σ H' → Rp x G' io' d v → Q v H'
  | some (.fr o, s) => ∀ a H' G' io', Same G G' → Pre io io' → StR x F s G' io' σ H' → a ∉ io' → Own x F G' io' H' o a →
      (∀ (i : Nat) (c : Cell), s.r[i]? = some (some c) → isOwn c = true → σ[i]? ≠ some (some (.ref a))) → Q (.ref a) H'
  | some (.exc c ns ds, s) => ∀ cls dd H' G' io', Same G G' → Pre io io' → StR x F s G' io' σ H' → ExcR x G' io' c ns ds cls dd H' → W cls dd σ H'
  | _ => False

def PostA (x : SX) (F : Fr) (W : WX) (G : Hp) (io : List Addr) (o : Res) (σ : St) (Q : List V → Hp → Prop) : Prop :=
  match o with
  | some (.vals ds, s) => ∀ vs H' G' io', Same G G' → Pre io io' → StR x F s G' io' σ H' → RpL x G' io' ds vs → Q vs H'
  | some (.exc c ns ds, s) => ∀ cls dd H' G' io', Same G G' → Pre io io' → StR x F s G' io' σ H' → ExcR x G' io' c ns ds cls dd H' → W cls dd σ H'
  | _ => False

def PostS (x : SX) (F : Fr) (W : WX) (G : Hp) (io : List Addr) (o : Res) (D : Ends) : Prop :=
  match o with
  | some (.nx, s) => ∀ σ' H' G' io', Same G G' → Pre io io' → StR x F s G' io' σ' H' → D.nx σ' H'
  | some (.bk, s) => ∀ σ' H' G' io', Same G G' → Pre io io' → StR x F s G' io' σ' H' → D.bk σ' H'
  | some (.ct, s) => ∀ σ' H' G' io', Same G G' → Pre io io' → StR x F s G' io' σ' H' → D.ct σ' H'
  | some (.rt d, s) => ∀ v σ' H' G' io', Same G G' → Pre io io' → StR x F s G' io' σ' H' → Rp x G' io' d v → D.rt v H'
  | some (.rtf o, s) => ∀ a σ' H' G' io', Same G G' → Pre io io' → StR x F s G' io' σ' H' → a ∉ io' → Own x F G' io' H' o a → D.rt (.ref a) H'
  | some (.exc c ns ds, s) => ∀ cls dd σ' H' G' io', Same G G' → Pre io io' → StR x F s G' io' σ' H' → ExcR x G' io' c ns ds cls dd H' → W cls dd σ' H'
  | _ => False

section
variable {x : SX} {F : Fr} {W : WX} {G G1 H : Hp} {io io1 : List Addr} {σ : St} {s : S}

theorem Post.anti {o : Res} {Q : VK} (h : Post x F W G io o σ Q) (a : Same G G1) (b : Pre io io1) : Post x F W G1 io1 o σ Q := by
  unfold Post at h ⊢
  split at h
  · exact fun v H' G' io' c d => h v H' G' io' (a.trans c) (b.trans d)
  · exact fun v H' G' io' c d => h v H' G' io' (a.trans c) (b.trans d)
  · exact fun v dd H' G' io' c d => h v dd H' G' io' (a.trans c) (b.trans d)
  · exact h.elim
theorem PostA.anti {o : Res} {Q : List V → Hp → Prop} (h : PostA x F W G io o σ Q) (a : Same G G1) (b : Pre io io1) : PostA x F W G1 io1 o σ Q := by
  unfold PostA at h ⊢
  split at h
  · exact fun v H' G' io' c d => h v H' G' io' (a.trans c) (b.trans d)
  · exact fun v dd H' G' io' c d => h v dd H' G' io' (a.trans c) (b.trans d)
  · exact h.elim
theorem PostS.anti {o : Res} {D : Ends} (h : PostS x F W G io o D) (a : Same G G1) (b : Pre io io1) : PostS x F W G1 io1 o D := by
  unfold PostS at h ⊢
  split at h
  · exact fun v H' G' io' c d => h v H' G' io' (a.trans c) (b.trans d)
  · exact fun v H' G' io' c d => h v H' G' io' (a.trans c) (b.trans d)
  · exact fun v H' G' io' c d => h v H' G' io' (a.trans c) (b.trans d)
  · exact fun v dd H' G' io' c d => h v dd H' G' io' (a.trans c) (b.trans d)
  · exact fun v dd H' G' io' c d => h v dd H' G' io' (a.trans c) (b.trans d)
  · exact fun v dd σ' H' G' io' c d => h v dd σ' H' G' io' (a.trans c) (b.trans d)
  · exact h.elim

theorem same_upd {p : Addr} {o : HO} (h : H p = none) : Same H (upd H p o) := fun b u e => by
  rw [upd_ne (ne_of_none e h)]
  exact e
/-- a new object is laid beside: all stands -/
theorem StR.grow {H' : Hp} (t : StR x F s G io σ H) (k : Same H H') : StR x F s G io σ H' where
  gh := t.gh.trans k
  len := t.len
  slot := fun i c e => by
    obtain ⟨v, e1, r⟩ := t.slot i c e
    refine ⟨v, e1, ?_⟩
    cases c with
    | val d => exact r
    | ol ds =>
      obtain ⟨a, q1, q2, vs, q3, q4⟩ := r
      exact ⟨a, q1, q2, vs, k _ _ q3, q4⟩
    | od ks ds =>
      obtain ⟨a, q1, q2, vs, q3, q4⟩ := r
      exact ⟨a, q1, q2, vs, k _ _ q3, q4⟩
  own := t.own
  mem := ⟨t.mem.1, t.mem.2.1, fun n o a e1 e2 => by
    have q := t.mem.2.2 n o a e1 e2
    obtain ⟨vs, h, q1, q2⟩ := q
    exact ⟨vs, h, k _ _ q1, q2⟩⟩
  kh := fun b o e n => k _ _ (t.kh b o e n)
  kg := t.kg
  ki := t.ki
  ni := t.ni
  zl := fun b u e => ⟨k _ _ (t.zl b u e).1, (t.zl b u e).2⟩
/-- an object nobody owns is made fast: it is data from now on -/
theorem StR.fast {a : Addr} {o : HO} (t : StR x F s G io σ H) (ha : H a = some o) (hg : G a = none) (hf : F.h a = none) (hi : a ∉ io)
    (ho : ∀ (i : Nat) (c : Cell), s.r[i]? = some (some c) → isOwn c = true → σ[i]? ≠ some (some (.ref a))) : StR x F s (upd G a o) io σ H := by
  have sg : Same G (upd G a o) := same_upd hg
  refine ⟨fun b u e => ?_, t.len, fun i c e => ?_, t.own, ⟨t.mem.1, t.mem.2.1, fun n u b e1 e2 => ?_⟩, t.kh, fun b hb => ?_, t.ki, t.ni, t.zl⟩
  · by_cases hb : b = a
    · subst hb
      rw [upd_same] at e
      cases e
      exact ha
    · rw [upd_ne hb] at e
      exact t.gh _ _ e
  · obtain ⟨v, e1, r⟩ := t.slot i c e
    refine ⟨v, e1, ?_⟩
    cases c with
    | val d => exact Rp.mono sg (Pre.refl _) r
    | ol ds =>
      obtain ⟨b, rfl, q2, vs, q3, q4, q5, q6⟩ := r
      have nb : b ≠ a := fun z => ho i _ e rfl (by rw [← z]; exact e1)
      exact ⟨b, rfl, q2, vs, q3, by rw [upd_ne nb]; exact q4, q5, RpL.mono sg (Pre.refl _) q6⟩
    | od ks ds =>
      obtain ⟨b, rfl, q2, vs, q3, q4, q5, q6, q7⟩ := r
      have nb : b ≠ a := fun z => ho i _ e rfl (by rw [← z]; exact e1)
      exact ⟨b, rfl, q2, vs, q3, by rw [upd_ne nb]; exact q4, q5, q6, RpL.mono sg (Pre.refl _) q7⟩
  · have q := t.mem.2.2 n u b e1 e2
    have nb : b ≠ a := fun z => hi (by rw [← z]; exact List.mem_of_getElem? e2)
    obtain ⟨vs, h, q1, q2, q3, q4⟩ := q
    exact ⟨vs, h, q1, by rw [upd_ne nb]; exact q2, RpL.mono sg (Pre.refl _) q3, q4⟩
  · have nb : b ≠ a := fun z => hb (by rw [z]; exact hf)
    rw [upd_ne nb]
    exact t.kg b hb
end
/-- a new thing becomes an object of the store -/
theorem StR.push {x : SX} {F : Fr} {G H : Hp} {io : List Addr} {σ : L2.St} {s : S} {o1 : MO} {p : Addr} (t : StR x F s G io σ H) (ni : p ∉ io) (ow : Own x F G io H o1 p)
    (no : ∀ (j : Nat) (c : Cell), s.r[j]? = some (some c) → isOwn c = true → σ[j]? ≠ some (some (.ref p))) : StR x F { r := s.r, m := s.m ++ [o1] } G (io ++ [p]) σ H where
  gh := t.gh
  len := t.len
  slot := fun j c e => by
    obtain ⟨v, e1, q⟩ := t.slot j c e
    refine ⟨v, e1, ?_⟩
    have pr : Pre io (io ++ [p]) := ⟨[p], rfl⟩
    cases c with
    | val d => exact Rp.mono (Same.refl _) pr q
    | ol es =>
      obtain ⟨a, rfl, q1, vs, q2, q3, q4, q5⟩ := q
      have ne : a ≠ p := fun z => no j _ e rfl (by rw [← z]; exact e1)
      exact ⟨a, rfl, by simp [q1, ne], vs, q2, q3, q4, q5.mono (Same.refl _) pr⟩
    | od ks es =>
      obtain ⟨a, rfl, q1, vs, q2, q3, q4, q5, q6⟩ := q
      have ne : a ≠ p := fun z => no j _ e rfl (by rw [← z]; exact e1)
      exact ⟨a, rfl, by simp [q1, ne], vs, q2, q3, q4, q5, q6.mono (Same.refl _) pr⟩
  own := t.own
  mem := by
    have pr : Pre io (io ++ [p]) := ⟨[p], rfl⟩
    obtain ⟨vs, ho, q1, q2, q3, q4, qM, qL⟩ := ow
    refine ⟨by simp [t.mem.1], ?_, fun n mo a e1 e2 => ?_⟩
    · rw [List.nodup_append]
      exact ⟨t.mem.2.1, by simp, fun a ha b hb => by simp at hb; rw [hb]; exact fun z => ni (by rw [← z]; exact ha)⟩
    · by_cases hn : n < io.length
      · rw [List.getElem?_append_left (by rw [t.mem.1]; exact hn)] at e1
        rw [List.getElem?_append_left hn] at e2
        have q := t.mem.2.2 n mo a e1 e2
        obtain ⟨ws, h, w1, w2, w3, w4⟩ := q
        exact ⟨ws, h, w1, w2, w3.mono (Same.refl _) pr, w4⟩
      · rw [List.getElem?_append_right (by rw [t.mem.1]; omega)] at e1
        rw [List.getElem?_append_right (by omega)] at e2
        rw [t.mem.1] at e1
        cases hk : n - io.length with
        | zero =>
          rw [hk] at e1 e2
          cases e1
          cases e2
          exact ⟨vs, ho, q1, q2, q4.mono (Same.refl _) pr, qM, qL⟩
        | succ k => rw [hk] at e2; simp at e2
  kh := t.kh
  kg := t.kg
  ki := t.ki.trans ⟨[p], rfl⟩
  ni := fun n a hn e => by
    by_cases hl : n < io.length
    · rw [List.getElem?_append_left hl] at e
      exact t.ni n a hn e
    · rw [List.getElem?_append_right (by omega)] at e
      cases hk : n - io.length with
      | zero => rw [hk] at e; cases e; exact ow.elim fun vs q => q.elim fun _ q => q.2.2.1
      | succ k => rw [hk] at e; simp at e
  zl := t.zl
/-- a new thing as a value -/
theorem fr_rp {x : SX} {F : Fr} {G H : Hp} {io : List Addr} {σ : L2.St} {s : S} {o1 : MO} {p : Addr} (t : StR x F s G io σ H) (ni : p ∉ io) (ow : Own x F G io H o1 p)
    (no : ∀ (j : Nat) (c : Cell), s.r[j]? = some (some c) → isOwn c = true → σ[j]? ≠ some (some (.ref p))) :
    ∃ G2 io2, Same G G2 ∧ Pre io io2 ∧ StR x F (frD o1 s).2 G2 io2 σ H ∧ Rp x G2 io2 (frD o1 s).1 (.ref p) := by
  cases hx : o1.isX with
  | true =>
    cases o1 with
    | dx ks ds => exact ⟨G, io ++ [p], Same.refl _, ⟨[p], rfl⟩, t.push ni ow no, ⟨p, rfl, by rw [t.mem.1]; simp⟩⟩
    | ll ds => exact ⟨G, io ++ [p], Same.refl _, ⟨[p], rfl⟩, t.push ni ow no, ⟨p, rfl, by rw [t.mem.1]; simp⟩⟩
    | _ => cases hx
  | false =>
    obtain ⟨vs, ho, e1, e2, e3, r, hM, hL⟩ := ow
    have s2 : Same G (upd G p ho) := same_upd e2
    have t' := t.fast e1 e2 e3 ni no
    have q := fast_rp hx hM hL (r.mono s2 (Pre.refl _)) (upd_same (H := G) (a := p) (o := ho))
    cases o1 with
    | dx ks ds => cases hx
    | ll ds => cases hx
    | _ => exact ⟨_, io, s2, Pre.refl _, t', q⟩
section
variable {x : SX} {F : Fr} {W : WX} {G G1 H : Hp} {io io1 : List Addr} {σ : St} {s : S}
/-- a new object, made fast at once -/
theorem StR.newfast {a : Addr} {o : HO} (t : StR x F s G io σ H) (ha : H a = none) : StR x F s (upd G a o) io σ (upd H a o) ∧ Same G (upd G a o) := by
  have hg : G a = none := by
    cases e : G a with
    | none => rfl
    | some u => rw [t.gh _ _ e] at ha; cases ha
  have hi : a ∉ io := fun hm => by
    obtain ⟨n, hn, e⟩ := List.getElem_of_mem hm
    have e2 : io[n]? = some a := by rw [List.getElem?_eq_getElem hn, e]
    have hl : n < s.m.length := by rw [t.mem.1]; exact hn
    have q := t.mem.2.2 n _ a (List.getElem?_eq_getElem hl) e2
    obtain ⟨vs, h, q1, _⟩ := q
    rw [ha] at q1; cases q1
  have hf : F.h a = none := by
    cases e : F.h a with
    | none => rfl
    | some u =>
      by_cases hm : a ∈ F.i
      · obtain ⟨m, hm2⟩ := t.ki
        exact absurd (by rw [hm2]; exact List.mem_append_left _ hm) hi
      · rw [t.kh _ _ e hm] at ha; cases ha
  refine ⟨(t.grow (same_upd ha)).fast upd_same hg hf hi fun i c e ho z => ?_, same_upd hg⟩
  obtain ⟨v, e1, r⟩ := t.slot i c e
  rw [z] at e1
  cases e1
  cases c with
  | val d => cases ho
  | ol ds =>
    obtain ⟨b, e2, _, vs, q3, _⟩ := r
    cases e2
    rw [ha] at q3; cases q3
  | od ks ds =>
    obtain ⟨b, e2, _, vs, q3, _⟩ := r
    cases e2
    rw [ha] at q3; cases q3
/-- a new object, nobody's yet -/
theorem StR.new {a : Addr} {o : HO} (t : StR x F s G io σ H) (ha : H a = none) : StR x F s G io σ (upd H a o) ∧ G a = none ∧ F.h a = none ∧ a ∉ io ∧
    ∀ (i : Nat) (c : Cell), s.r[i]? = some (some c) → isOwn c = true → σ[i]? ≠ some (some (.ref a)) := by
  have hg : G a = none := by
    cases e : G a with
    | none => rfl
    | some u => rw [t.gh _ _ e] at ha; cases ha
  have hi : a ∉ io := fun hm => by
    obtain ⟨n, hn, e⟩ := List.getElem_of_mem hm
    have e2 : io[n]? = some a := by rw [List.getElem?_eq_getElem hn, e]
    have hl : n < s.m.length := by rw [t.mem.1]; exact hn
    have q := t.mem.2.2 n _ a (List.getElem?_eq_getElem hl) e2
    obtain ⟨vs, h, q1, _⟩ := q
    rw [ha] at q1; cases q1
  have hf : F.h a = none := by
    cases e : F.h a with
    | none => rfl
    | some u =>
      by_cases hm : a ∈ F.i
      · obtain ⟨m, hm2⟩ := t.ki
        exact absurd (by rw [hm2]; exact List.mem_append_left _ hm) hi
      · rw [t.kh _ _ e hm] at ha; cases ha
  refine ⟨t.grow (same_upd ha), hg, hf, hi, fun i c e ho z => ?_⟩
  obtain ⟨v, e1, r⟩ := t.slot i c e
  rw [z] at e1
  cases e1
  cases c with
  | val d => cases ho
  | ol ds =>
    obtain ⟨b, e2, _, vs, q3, _⟩ := r
    cases e2
    rw [ha] at q3; cases q3
  | od ks ds =>
    obtain ⟨b, e2, _, vs, q3, _⟩ := r
    cases e2
    rw [ha] at q3; cases q3
end

/-- the value of what came: a fresh list is made fast -/
def bnd (o : Res) (k : D → S → Res) : Res :=
  match o with
  | some (.val d, s) => k d s
  | some (.fr o, s) => k (frD o s).1 (frD o s).2
  | some (.exc c ns ds, s) => some (.exc c ns ds, s)
  | _ => none
def bndA (o : Res) (k : List D → S → Res) : Res :=
  match o with
  | some (.vals ds, s) => k ds s
  | some (.exc c ns ds, s) => some (.exc c ns ds, s)
  | _ => none
section
variable {x : SX} {F : Fr} {W : WX} {G G1 H : Hp} {io io1 : List Addr} {σ : St} {s : S}
theorem Post.bnd {o : Res} {k : D → S → Res} {Q Q1 : VK} (h : Post x F W G io (bnd o k) σ Q)
    (hk : ∀ d s v H' G' io', Same G G' → Pre io io' → StR x F s G' io' σ H' → Rp x G' io' d v → Post x F W G' io' (k d s) σ Q → Q1 v H') : Post x F W G io o σ Q1 := by
  unfold Post
  split
  · exact fun v H' G' io' a b t r => hk _ _ v H' G' io' a b t r (h.anti a b)
  · rename_i o1 s
    refine fun a H' G' io' sg sp t ni ow no => ?_
    obtain ⟨G2, io2, a1, a2, a3, a4⟩ := fr_rp t ni ow no
    exact hk _ _ (.ref a) H' G2 io2 (sg.trans a1) (sp.trans a2) a3 a4 (h.anti (sg.trans a1) (sp.trans a2))
  · exact h
  · rename_i h1 h2 h3
    unfold En.bnd at h
    split at h
    · exact h1 _ _ rfl
    · exact h2 _ _ rfl
    · exact h3 _ _ _ _ rfl
    · exact h
theorem Post.bndA {o : Res} {k : List D → S → Res} {Q : VK} {Q1 : List V → Hp → Prop} (h : Post x F W G io (bndA o k) σ Q)
    (hk : ∀ d s v H' G' io', Same G G' → Pre io io' → StR x F s G' io' σ H' → RpL x G' io' d v → Post x F W G' io' (k d s) σ Q → Q1 v H') : PostA x F W G io o σ Q1 := by
  unfold PostA
  split
  · exact fun v H' G' io' a b t r => hk _ _ v H' G' io' a b t r (h.anti a b)
  · exact h
  · rename_i h1 h3
    unfold En.bndA at h
    split at h
    · exact h1 _ _ rfl
    · exact h3 _ _ _ _ rfl
    · exact h
theorem PostA.bnd {o : Res} {k : D → S → Res} {Q : List V → Hp → Prop} {Q1 : VK} (h : PostA x F W G io (bnd o k) σ Q)
    (hk : ∀ d s v H' G' io', Same G G' → Pre io io' → StR x F s G' io' σ H' → Rp x G' io' d v → PostA x F W G' io' (k d s) σ Q → Q1 v H') : Post x F W G io o σ Q1 := by
  unfold Post
  split
  · exact fun v H' G' io' a b t r => hk _ _ v H' G' io' a b t r (h.anti a b)
  · rename_i o1 s
    refine fun a H' G' io' sg sp t ni ow no => ?_
    obtain ⟨G2, io2, a1, a2, a3, a4⟩ := fr_rp t ni ow no
    exact hk _ _ (.ref a) H' G2 io2 (sg.trans a1) (sp.trans a2) a3 a4 (h.anti (sg.trans a1) (sp.trans a2))
  · exact h
  · rename_i h1 h2 h3
    unfold En.bnd at h
    split at h
    · exact h1 _ _ rfl
    · exact h2 _ _ rfl
    · exact h3 _ _ _ _ rfl
    · exact h
theorem PostA.bndA {o : Res} {k : List D → S → Res} {Q Q1 : List V → Hp → Prop} (h : PostA x F W G io (bndA o k) σ Q)
    (hk : ∀ d s v H' G' io', Same G G' → Pre io io' → StR x F s G' io' σ H' → RpL x G' io' d v → PostA x F W G' io' (k d s) σ Q → Q1 v H') : PostA x F W G io o σ Q1 := by
  unfold PostA
  split
  · exact fun v H' G' io' a b t r => hk _ _ v H' G' io' a b t r (h.anti a b)
  · exact h
  · rename_i h1 h3
    unfold En.bndA at h
    split at h
    · exact h1 _ _ rfl
    · exact h3 _ _ _ _ rfl
    · exact h
end
end En

namespace En
open PySem PySem.Spec L2

/-! ### values: equality as Python has it, for data without objects -/
/-- data without objects, at most so deep -/
def flat : D → Bool
  | .non => true
  | .bl _ => true
  | .int _ => true
  | .str _ => true
  | _ => false
def okD : Nat → D → Bool
  | n + 1, .lst ds => ds.all (okD n)
  | n + 1, .tup ds => ds.all (okD n)
  | _, .non => true
  | _, .bl _ => true
  | _, .int _ => true
  | _, .str _ => true
  | _, _ => false
mutual
def eqD : D → D → Bool
  | .non, .non => true
  | .bl a, .bl b => a == b
  | .bl a, .int j => (if a then (1 : Int) else 0) == j
  | .int i, .bl b => i == (if b then (1 : Int) else 0)
  | .int i, .int j => i == j
  | .str a, .str b => a == b
  | .lst a, .lst b => eqDs a b
  | .tup a, .tup b => eqDs a b
  | _, _ => false
def eqDs : List D → List D → Bool
  | [], [] => true
  | a :: as, b :: bs => eqD a b && eqDs as bs
  | _, _ => false
end

inductive Bop where | add | sub | mul | div | mod | pow
  deriving DecidableEq
inductive Cop where | eq | ne | lt | le | gt | ge | isin | notin
  deriving DecidableEq
inductive Ty where | int | bool | str | list | tuple | dict | own (c : Nat)
  deriving DecidableEq
inductive Bi where | len | int | all | any | list | tuple | str | bool | repr | sorted | dict
  deriving DecidableEq
inductive Bm where | join | append | insert | index
  deriving DecidableEq

/-- code -/
inductive E where
  | var (i : Nat) | mv (i : Nat) | fz (i : Nat) | cst (d : D) | gv (g : Nat)
  | one (a : E) | bop (o : Bop) (a b : E) | neg (a : E) | nt (a : E) | band (a b : E) | bor (a b : E) | ite (c a b : E)
  | cmp (o : Cop) (a b : E) | cmo (o : Cop) (tbl : List (Nat × Nat)) (a b : E) | isb (k : Bool) (a : E) | chn (o p : Cop) (a b c : E) | isn (a : E) | nin (a : E)
  | ix (a b : E) | sl (a lo hi : E) | fld (a : E) (f : Nat) (cs : List Nat)
  | cal (f : Nat) (as : E) | calk (f n : Nat) (as : E) (m : Nat) (ks : E) | met (tbl : List (Nat × Nat)) (o : E) (n : Nat) (as : E) (m : Nat) (ks : E) | wal | bi (b : Bi) (as : E) | bio (b : Bi) (tbl : List (Nat × Nat)) (a : E) | fmt (a : E) | fst (as : E) | bm (m : Bm) (o as : E)
  | lst (as : E) | tpl (as : E) | isi (a : E) (ts : List Ty)
  | lc (own : List Nat) (tg it cd el : E)
  | lkp (p e : E) | lks (p e : E) | bxe (a : E) | emp | con (neg : Bool) (tbl : List (Nat × Nat)) (a b : E)
  | nil | cns (a b : E) | spl (a b : E) | abs | rev (a : E)
  | it (a : E) | rng (a : E) | rng2 (a b : E) | enm (a : E) | zp (a b : E)
  | tn (i : Nat) | tt (is : List Nat)
  | skp | seq (a b : E) | asg (i : Nat) (e : E) | ast (tg e : E) | aso (i : Nat) (e : E) | asb (i : Nat) (e : E) | par (i j : Nat) (a b : E) | sit (o k e : E) | fls (o : E) (f : Nat) (cs : List Nat) (e : E)
  | ret (e : E) | rtn | iff (c a b : E) | frr (tg i b : E) | whl (c b : E) | exp (e : E) | apo (i : Nat) (e : E) | ino (i : Nat) (k e : E)

def big : Nat := 16777216
/-- a field among the fields -/
def lookF (f : Nat) : List Nat → List D → Option D
  | n :: ns, d :: ds => if n = f then some d else lookF f ns ds
  | _, _ => none
/-- which class is below which: the classes' numbers are the package's, once for all -/
def subC (c k : Nat) : Bool := c == k || (k == 4 && decide (5 ≤ c) && decide (c ≤ 8)) || (k == 10 && (c == 11 || c == 12)) || (k == 30 && decide (32 ≤ c) && decide (c ≤ 51)) || (k == 31 && (c == 52 || c == 53))
/-- what stands at a place of the store, as data -/
def MO.dv (n : Nat) : MO → D
  | .bx ds => .lst ds
  | .ob c ns ds => .obj c ns ds
  | .dx ks ds => .dct ks ds
  | .dl ks ds => .dct ks ds
  | .ll _ => .adr n
def S.v (s : S) : D → D
  | .adr n => match s.m[n]? with
    | some o => o.dv n
    | none => .adr n
  | d => d
/-- an object's class, fields -/
def clsF (s : S) : D → Option (Nat × List Nat × List D)
  | .obj c ns ds => some (c, ns, ds)
  | .adr n => match s.m[n]? with
    | some (.ob c ns ds) => some (c, ns, ds)
    | _ => none
  | _ => none
def fldF (cs : List Nat) (f : Nat) (x : D) (s : S) : Option D := match clsF s x with
  | some (c, ns, ds) => if c ∈ cs then lookF f ns ds else none
  | none => none
def clsN (s : S) (x : D) : Option Nat := match clsF s x with
  | some (c, _, _) => some c
  | none => none
/-- a field written -/
def putN (f : Nat) (d : D) : List Nat → List D → List Nat × List D
  | n :: ns, e :: ds => if n = f then (n :: ns, d :: ds) else ((n :: (putN f d ns ds).1), (e :: (putN f d ns ds).2))
  | _, _ => ([f], [d])
def bopF : Bop → D → D → S → Res
  | .add, .int i, .int j, s => some (.val (.int (i + j)), s)
  | .add, .str a, .str b, s => if a.length + b.length ≤ big then some (.val (.str (a ++ b)), s) else none
  | .add, .lst a, .lst b, s => if a.length + b.length ≤ big then some (.fr (.bx (a ++ b)), s) else none
  | .add, .tup a, .tup b, s => if a.length + b.length ≤ big ∧ a ≠ [] then some (.val (.tup (a ++ b)), s) else none
  | .sub, .int i, .int j, s => some (.val (.int (i - j)), s)
  | .mul, .int i, .int j, s => if (-(2 ^ 64) < i ∧ i < 2 ^ 64) ∨ (-(2 ^ 64) < j ∧ j < 2 ^ 64) then some (.val (.int (i * j)), s) else none
  | .mul, .lst a, .int k, s => if -(2 ^ 63) ≤ k ∧ k < 2 ^ 63 ∧ a.length * k.toNat ≤ big then some (.fr (.bx (List.replicate k.toNat a).flatten), s) else none
  | .div, .int i, .int j, s => if 0 < j ∧ j < 1073741824 then some (.val (.int (i / j)), s) else none
  | .mod, .int i, .int j, s => if 0 < j then some (.val (.int (i % j)), s) else none
  | .pow, .int i, .int j, s => if 0 ≤ j ∧ j ≤ 1000000 ∧ i.natAbs < 2 ^ 64 then some (.val (.int (i ^ j.toNat)), s) else none
  | _, _, _, _ => none
/-- what a value holds for reading: a list's, a tuple's items; a box's -/
def viewL (s : S) : D → Option (List D)
  | .lst ds => some ds
  | .adr n => match s.m[n]? with
    | some (.bx ds) => some ds
    | some (.ll ds) => some ds
    | _ => none
  | _ => none
def viewQ (s : S) : D → Option (List D)
  | .tup ds => some ds
  | d => viewL s d
def keyD : D → Option Key
  | .int i => some (.inl i)
  | .str x => some (.inr x)
  | _ => none
def lookK (k : Key) : List Key → List D → Option D
  | a :: ks, d :: ds => if a = k then some d else lookK k ks ds
  | _, _ => none
def keyV : Key → D
  | .inl i => .int i
  | .inr z => .str z
/-- a dict's keys and values -/
def viewM (s : S) : D → Option (List Key × List D)
  | .dct ks ds => some (ks, ds)
  | .adr n => match s.m[n]? with
    | some (.dx ks ds) => some (ks, ds)
    | some (.dl ks ds) => some (ks, ds)
    | _ => none
  | _ => none
/-- d[k] = e -/
def putL (k : Key) (e : D) (ks : List Key) (ds : List D) : List Key × List D :=
  if ks.any fun a => decide (a = k) then (ks, List.zipWith (fun a d => if a = k then e else d) ks ds) else (ks ++ [k], ds ++ [e])
def inQ (x y : D) (s : S) : Option Bool := match viewM s y with
  | some (ks, _) => match keyD x with
    | some k => some (ks.any fun a => decide (a = k))
    | none => none
  | none => match viewQ s y with
    | some ds => if flat x && ds.all flat then some (ds.any fun z => eqD z x) else none
    | none => none
def inF (x y : D) (s : S) : Option Bool :=
  match x, y with
  | .str a, .str z => match a.cps.toList with
    | [c] => some (decide (c ∈ z.cps.toList))
    | _ => none
  | x, y => inQ x y s
def cmpF : Cop → D → D → S → Option Bool
  | .eq, x, y, _ => if okD 8 x && okD 8 y then some (eqD x y) else none
  | .ne, x, y, _ => if okD 8 x && okD 8 y then some (!eqD x y) else none
  | .lt, .int i, .int j, _ => some (decide (i < j))
  | .le, .int i, .int j, _ => some (decide (i ≤ j))
  | .gt, .int i, .int j, _ => some (decide (j < i))
  | .ge, .int i, .int j, _ => some (decide (j ≤ i))
  | .isin, x, y, s => inF x y s
  | .notin, x, y, s => (inF x y s).map (!·)
  | _, _, _, _ => none
def resB (s : S) : Option Bool → Res
  | some b => some (.val (.bl b), s)
  | none => none
def resD (s : S) : Option D → Res
  | some d => some (.val d, s)
  | none => none
def ixF (x y : D) (s : S) : Option D :=
  match x, y with
  | .str z, .int i => if z.length ≤ big then (atI z.cps.toList i).map fun c => .str ⟨#[c]⟩ else none
  | x, y => match viewM s x with
    | some (ks, ds) => match keyD y with
      | some k => lookK k ks ds
      | none => none
    | none => match y with
      | .int i => match viewQ s x with
        | some ds => atI ds i
        | none => none
      | _ => none
def cutD (ds : List D) (lo hi : Option Int) : List D := (ds.drop (HT.sIx ds.length 0 lo)).take (HT.sIx ds.length ds.length hi - HT.sIx ds.length 0 lo)
def slF (x : D) (lo hi : Option Int) (s : S) : Res :=
  match x with
  | .str z => if z.length ≤ big then some (.val (.str (cutS z lo hi)), s) else none
  | .tup ds => some (.val (.tup (cutD ds lo hi)), s)
  | .fzl ds => some (.fr (.bx (cutD ds lo hi)), s)
  | x => match viewL s x with
    | some ds => some (.fr (.bx (cutD ds lo hi)), s)
    | none => none
def tyIs : D → Ty → Option Bool
  | .non, t => match t with
    | .own _ => some false
    | _ => some false
  | .bl _, t => match t with
    | .own _ => some false
    | .bool => some true
    | .int => some true
    | _ => some false
  | .int _, t => match t with
    | .own _ => some false
    | .int => some true
    | _ => some false
  | .str _, t => match t with
    | .own _ => some false
    | .str => some true
    | _ => some false
  | .lst _, t => match t with
    | .own _ => some false
    | .list => some true
    | _ => some false
  | .tup _, t => match t with
    | .own _ => some false
    | .tuple => some true
    | _ => some false
  | .dct _ _, t => match t with
    | .own _ => some false
    | .dict => some true
    | _ => some false
  | .obj c _ _, t => match t with
    | .own k => some (subC c k)
    | _ => some false
  | _, _ => none
def tyAny (d : D) : List Ty → Option Bool
  | [] => some false
  | t :: ts => match tyIs d t, tyAny d ts with
    | some b, some c => some (b || c)
    | _, _ => none
def blsOf : List D → Option (List Bool)
  | [] => some []
  | .bl b :: ds => (blsOf ds).map (b :: ·)
  | _ => none
def strsOf : List D → Option (List Str)
  | [] => some []
  | .str b :: ds => (strsOf ds).map (b :: ·)
  | _ => none
/-- the text of a value in a f-string -/
def txD : D → Option Str
  | .str z => some z
  | .int i => if i.natAbs.log2 < 1920 then some (toString i : String) else none
  | _ => none
def fstF : List D → Option Str
  | [] => some Str.empty
  | .str y :: ds => match fstF ds with
    | some z => some (y ++ z)
    | none => none
  | _ => none
/-- the order of texts -/
def leS (a b : Str) : Bool := !ltCps b.cps.toList a.cps.toList
def leI (a b : Int) : Bool := decide (a ≤ b)
def insB {α : Type} (le : α → α → Bool) (x : α) : List α → List α
  | [] => [x]
  | y :: ys => if le x y then x :: y :: ys else y :: insB le x ys
def srtB {α : Type} (le : α → α → Bool) : List α → List α
  | [] => []
  | x :: xs => insB le x (srtB le xs)
def intsOf : List D → Option (List Int)
  | [] => some []
  | .int i :: ds => (intsOf ds).map (i :: ·)
  | _ => none
def srtD (ds : List D) : Option (List D) := match strsOf ds with
  | some ys => if ys.length < 64 then some ((srtB leS ys).map D.str) else none
  | none => match intsOf ds with
    | some is => some ((srtB leI is).map D.int)
    | none => none
def biF : Bi → List D → S → Res
  | .len, [.str z], s => if z.length ≤ big then some (.val (.int z.length), s) else none
  | .len, [x], s => match viewM s x with
    | some (ks, _) => some (.val (.int ks.length), s)
    | none => match viewQ s x with
      | some ds => some (.val (.int ds.length), s)
      | none => none
  | .int, [.int i], s => some (.val (.int i), s)
  | .int, [.bl b], s => some (.val (.int (if b then 1 else 0)), s)
  | .all, [x], s => match viewL s x with
    | some ds => match blsOf ds with
      | some bs => some (.val (.bl (bs.all id)), s)
      | none => none
    | none => none
  | .any, [x], s => match viewL s x with
    | some ds => match blsOf ds with
      | some bs => some (.val (.bl (bs.any id)), s)
      | none => none
    | none => none
  | .list, [x], s => match viewM s x with
    | some (ks, _) => some (.fr (.bx (ks.map keyV)), s)
    | none => match viewQ s x with
      | some ds => some (.fr (.bx ds), s)
      | none => none
  | .dict, [x], s => match viewM s x with
    | some (ks, ds) => if ds.length = ks.length then some (.fr (.dx ks ds), s) else none
    | none => none
  | .tuple, [.tup ds], s => some (.val (.tup ds), s)
  | .tuple, [x], s => match viewL s x with
    | some ds => some (.val (.tup ds), s)
    | none => none
  | .str, [.int i], s => if i.natAbs.log2 < 1920 then some (.val (.str (toString i : String)), s) else none
  | .bool, [.bl b], s => some (.val (.bl b), s)
  | .sorted, [x], s => match viewL s x with
    | some ds => match srtD ds with
      | some es => some (.fr (.bx es), s)
      | none => none
    | none => none
  | _, _, _ => none
def bmR : Bm → D → S → Bool
  | .join, .str _, _ => true
  | .join, _, _ => false
  | _, x, s => (viewL s x).isSome
def bmF : Bm → D → List D → S → Res
  | .join, .str a, [x], s => match viewQ s x with
    | some ds => match strsOf ds with
      | some ys => if (ys.map (·.length)).sum + ys.length * a.length ≤ big then some (.val (.str (Txt.join a ys)), s) else none
      | none => none
    | none => none
  | .append, .adr n, [y], s => match s.m[n]? with
    | some (.bx ds) => if ds.length < big then some (.val .non, { s with m := s.m.set n (.bx (ds ++ [y])) }) else none
    | _ => none
  | .insert, .adr n, [.int i, y], s => match s.m[n]? with
    | some (.bx ds) => if ds.length < big ∧ 0 ≤ i ∧ i < 2 ^ 62 then some (.val .non, { s with m := s.m.set n (.bx (ds.take i.toNat ++ [y] ++ ds.drop i.toNat)) }) else none
    | _ => none
  | .index, x, [y], s => match viewL s x with
    | some ds => if flat y && ds.all flat then (match ds.findIdx? fun z => eqD z y with
      | some j => some (.val (.int (j : Nat)), s)
      | none => none) else none
    | none => none
  | _, _, _, _ => none

def S.set (s : S) (i : Nat) (c : Option Cell) : S := { s with r := s.r.set i c }
/-- a target's stores -/
def storeAll : List Nat → List D → S → Option S
  | [], [], s => some s
  | i :: is, d :: ds, s => storeAll is ds (s.set i (some (.val d)))
  | _, _, _ => none
def store : E → D → S → Option S
  | .tn i, d, s => some (s.set i (some (.val d)))
  | .tt is, .tup ds, s => storeAll is ds s
  | .tt is, .lst ds, s => storeAll is ds s
  | _, _, _ => none
def wipeR (r : List (Option Cell)) : List Nat → List (Option Cell)
  | [] => r
  | v :: vs => (wipeR r vs).set v none
/-- the slots that hold data -/
def valR : List (Option Cell) → List (Option Cell)
  | [] => []
  | some (.val d) :: r => some (.val d) :: valR r
  | _ :: r => none :: valR r
/-- a comprehension's turns -/
def compL (st : D → S → Option S) (cd el : S → Res) (r : List (Option Cell)) : List D → List D → List MO → Res
  | [], acc, m => some (.fr (.bx acc), ⟨r, m⟩)
  | d :: ds, acc, m => match st d ⟨r, m⟩ with
    | none => none
    | some s1 => bnd (cd s1) fun c s2 => match c with
      | .bl true => bnd (el s2) fun y s3 => if acc.length < big then compL st cd el r ds (acc ++ [y]) s3.m else none
      | .bl false => compL st cd el r ds acc s2.m
      | _ => none
/-- a while's turns -/
def whlL (c b : S → Res) : Nat → S → Res
  | 0, _ => none
  | n + 1, s => bnd (c s) fun x s => match x with
    | .bl true => (match b s with
      | some (.nx, s2) => whlL c b n s2
      | some (.ct, s2) => whlL c b n s2
      | some (.bk, s2) => some (.nx, s2)
      | r => r)
    | .bl false => some (.nx, s)
    | _ => none
/-- a for's turns -/
def forL (st : D → S → Option S) (body : S → Res) : List D → S → Res
  | [], s => some (.nx, s)
  | d :: ds, s => match st d s with
    | none => none
    | some s1 => match body s1 with
      | some (.nx, s2) => forL st body ds s2
      | some (.ct, s2) => forL st body ds s2
      | some (.bk, s2) => some (.nx, s2)
      | r => r
def itemsOf : D → Option (List D)
  | .dct ks _ => some (ks.map keyV)
  | .str z => some (z.cps.toList.map fun c => .str ⟨#[c]⟩)
  | .lst ds => some ds
  | .tup ds => some ds
  | _ => none
def itF (x : D) (s : S) : Option (List D) := match x with
  | .adr n => match s.m[n]? with
    | some (.dl ks _) => some (ks.map keyV)
    | some (.ll ds) => some ds
    | _ => none
  | x => itemsOf x
/-- a dict that was locked is free again -/
def unlk (n : Nat) (o : Res) : Res := match o with
  | some (.val d, s) => match s.m[n]? with
    | some (.dl ks ds) => some (.val d, { s with m := s.m.set n (.dx ks ds) })
    | some (.ll ds) => some (.val d, { s with m := s.m.set n (.bx ds) })
    | _ => none
  | some (.fr q, s) => match s.m[n]? with
    | some (.dl ks ds) => some (.fr q, { s with m := s.m.set n (.dx ks ds) })
    | some (.ll ds) => some (.fr q, { s with m := s.m.set n (.bx ds) })
    | _ => none
  | _ => none
def bkO : Option MO → Option MO
  | some (.dl ks ds) => some (.dx ks ds)
  | some (.ll ds) => some (.bx ds)
  | _ => none
def isEnd : Out → Bool
  | .nx => true
  | .bk => true
  | .ct => true
  | .rt _ => true
  | .rtf _ => true
  | _ => false
def unlkS (n : Nat) : Res → Res
  | some (o, s) => if isEnd o then (bkO s.m[n]?).map fun q => (o, { s with m := s.m.set n q }) else none
  | none => none
/-- a new thing of the store -/
def bxF : Res → Res
  | some (.fr o, s) => some (.val (.adr s.m.length), { r := s.r, m := s.m ++ [o] })
  | r => r
def lstOf : D → Option (List D)
  | .lst ds => some ds
  | .tup ds => some ds
  | _ => none
def zipOf : D → D → Option (List D)
  | .lst ds, .lst es => some (List.zipWith (fun p q => .tup [p, q]) ds es)
  | .tup ds, .tup es => some (List.zipWith (fun p q => .tup [p, q]) ds es)
  | _, _ => none
def enumF : Nat → List D → List D
  | _, [] => []
  | n, d :: ds => .tup [.int n, d] :: enumF (n + 1) ds
def asoK (i : Nat) : MO → S → Res
  | .bx ds, s => some (.nx, s.set i (some (.ol ds)))
  | _, _ => none
def isAbs : E → Bool
  | .abs => true
  | _ => false
def prt (b : Bool) (o : Res) (s : S) (k : Option Int → S → Res) : Res :=
  match b with
  | true => k none s
  | false => bnd o fun d s => match d with
    | .int i => k (some i) s
    | _ => none
section
variable (P : Nat → List D → List MO → Option (Out × List MO)) (Gm : Nat → D)
/-- the right one is asked second -/
def nfD (c : Nat) : D → Bool
  | .fzl _ => false
  | .adr _ => false
  | .obj k _ _ => k == c || !subC k c
  | _ => true
def callF (f : Nat) (ds : List D) (s : S) : Res :=
  match P f ds s.m with
  | some (.val d, m) => some (.val d, { s with m := m })
  | some (.fr o, m) => some (.fr o, { s with m := m })
  | some (.exc c ns es, m) => some (.exc c ns es, { s with m := m })
  | _ => none
/-- a method that answers by a truth value -/
def callB (neg : Bool) (f : Nat) (ds : List D) (s : S) : Res :=
  match P f ds s.m with
  | some (.val (.bl b), m) => some (.val (.bl (neg != b)), { s with m := m })
  | _ => none
/-- what a built-in function may make of a method's answer -/
def bioOk : Bi → D → Bool
  | .len, .int i => decide (0 ≤ i) && decide (i < 9223372036854775808)
  | .bool, .bl _ => true
  | .repr, .str _ => true
  | _, _ => false
def bioB : Bi → Bool
  | .len => true
  | .bool => true
  | .repr => true
  | _ => false
def callV (b : Bi) (f : Nat) (x : D) (s : S) : Res :=
  match P f [x] s.m with
  | some (.val d, m) => if bioOk b d then some (.val d, { s with m := m }) else none
  | _ => none
/-- == of an instance by its own method; of anything else as cmpF says -/
def cmoF (o : Cop) (tbl : List (Nat × Nat)) (x y : D) (s : S) : Res := match clsN s x with
  | some c => match tbl.lookup c with
    | some i => if nfD c (s.v y) then (match o with
      | .eq => callB P false i [x, y] s
      | .ne => callB P true i [x, y] s
      | _ => none) else none
    | none => none
  | none => match clsN s y with
    | some _ => none
    | none => resB s (cmpF o x y s)
/-- x in y by y's own method; of anything else as cmpF says -/
def conF (neg : Bool) (tbl : List (Nat × Nat)) (x y : D) (s : S) : Res := match clsN s y with
  | some c => match tbl.lookup c with
    | some i => callB P neg i [y, x] s
    | none => none
  | none => resB s (cmpF (if neg then .notin else .isin) x y s)
def bioF (b : Bi) (tbl : List (Nat × Nat)) (x : D) (s : S) : Res := match clsN s x with
  | some c => match tbl.lookup c with
    | some i => if bioB b then callV P b i x s else none
    | none => none
  | none => biF b [x] s
/-- where a path leads -/
def pathV : E → S → Option D
  | .var i, s => match s.r[i]? with
    | some (some (.val d)) => some d
    | _ => none
  | .fld a f cs, s => match pathV a s with
    | some x => fldF cs f x s
    | none => none
  | _, _ => none
/-- the run of code -/
def ev : E → S → Res
  | .var i, s => match s.r[i]? with
    | some (some (.val d)) => some (.val d, s)
    | _ => none
  | .mv i, s => match s.r[i]? with
    | some (some (.ol ds)) => some (.fr (.bx ds), s.set i none)
    | _ => none
  | .fz i, s => match s.r[i]? with
    | some (some (.ol ds)) => some (.val (.lst ds), s.set i (some (.val (.lst ds))))
    | some (some (.val d)) => some (.val d, s)
    | _ => none
  | .cst d, s => if flat d then some (.val d, s) else none
  | .gv g, s => some (.val (Gm g), s)
  | .one a, s => ev a s
  | .bop o a b, s => bnd (ev a s) fun x s => bnd (ev b s) fun y s => bopF o x y s
  | .neg a, s => bnd (ev a s) fun x s => match x with
    | .int i => some (.val (.int (-i)), s)
    | _ => none
  | .nt a, s => bnd (ev a s) fun x s => match x with
    | .bl b => some (.val (.bl (!b)), s)
    | _ => none
  | .band a b, s => bnd (ev a s) fun x s => match x with
    | .bl c => if c then ev b s else some (.val (.bl false), s)
    | _ => none
  | .bor a b, s => bnd (ev a s) fun x s => match x with
    | .bl c => if c then some (.val (.bl true), s) else ev b s
    | _ => none
  | .ite c a b, s => bnd (ev c s) fun x s => match x with
    | .bl c => if c then ev a s else ev b s
    | _ => none
  | .cmp o a b, s => bnd (ev a s) fun x s => bnd (ev b s) fun y s => resB s (cmpF o x y s)
  | .cmo o tbl a b, s => bnd (ev a s) fun x s => bnd (ev b s) fun y s => cmoF P o tbl x y s
  | .emp, s => some (.fr (.dx [] []), s)
  | .con neg tbl a b, s => bnd (ev a s) fun x s => bnd (ev b s) fun y s => conF P neg tbl x y s
  | .isb k a, s => bnd (ev a s) fun x s => match x with
    | .bl b => some (.val (.bl (b == k)), s)
    | _ => none
  | .chn o p a b c, s => bnd (ev a s) fun x s => bnd (ev b s) fun y s => match cmpF o x y s with
    | some true => bnd (ev c s) fun z s => resB s (cmpF p y z s)
    | some false => some (.val (.bl false), s)
    | none => none
  | .isn a, s => bnd (ev a s) fun x s => match x with
    | .non => some (.val (.bl true), s)
    | _ => some (.val (.bl false), s)
  | .nin a, s => bnd (ev a s) fun x s => match x with
    | .non => some (.val (.bl false), s)
    | _ => some (.val (.bl true), s)
  | .ix a b, s => bnd (ev a s) fun x s => bnd (ev b s) fun y s => resD s (ixF x y s)
  | .sl a lo hi, s => bnd (ev a s) fun x s => prt (isAbs lo) (ev lo s) s fun l s => prt (isAbs hi) (ev hi s) s fun h s => slF x l h s
  | .fld a f cs, s => bnd (ev a s) fun x s => resD s (fldF cs f x s)
  | .met tbl o n as m ks, s => bnd (ev o s) fun x s => match clsN s x with
    | some c => match tbl.lookup c with
      | some i => bndA (ev as s) fun ds s => bndA (ev ks s) fun es s => if ds.length = n ∧ es.length = m then callF P i ((x :: ds) ++ es) s else none
      | none => none
    | none => none
  | .spl a b, s => bnd (ev a s) fun x s => match viewQ s x with
    | some ds => bndA (ev b s) fun es s => some (.vals (ds ++ es), s)
    | none => none
  | .rev a, s => bnd (ev a s) fun x s => match viewL s x with
    | some ds => some (.fr (.bx ds.reverse), s)
    | none => none
  | .abs, s => some (.val .non, s)
  | .cal f as, s => bndA (ev as s) fun ds s => callF P f ds s
  | .calk f n as m ks, s => bndA (ev as s) fun ds s => bndA (ev ks s) fun es s => if ds.length = n ∧ es.length = m then callF P f (ds ++ es) s else none
  | .bi b as, s => bndA (ev as s) fun ds s => biF b ds s
  | .bio b tbl a, s => bnd (ev a s) fun x s => bioF P b tbl x s
  | .fmt a, s => bnd (ev a s) fun x s => match txD x with
    | some y => if y.length ≤ 100000 then some (.val (.str y), s) else none
    | none => none
  | .fst as, s => bndA (ev as s) fun ds s => match fstF ds with
    | some z => some (.val (.str z), s)
    | none => none
  | .bm m o as, s => bnd (ev o s) fun x s => if bmR m x s then bndA (ev as s) fun ds s => bmF m x ds s else none
  | .lst as, s => bndA (ev as s) fun ds s => if ds.length ≤ big then some (.fr (.bx ds), s) else none
  | .tpl as, s => bndA (ev as s) fun ds s => if ds.length ≤ big then some (.val (.tup ds), s) else none
  | .isi a ts, s => bnd (ev a s) fun x s => resB s (tyAny (s.v x) ts)
  | .nil, s => some (.vals [], s)
  | .cns a b, s => bnd (ev a s) fun d s => bndA (ev b s) fun ds s => some (.vals (d :: ds), s)
  | .it a, s => bnd (ev a s) fun x s => match itF x s with
    | some ds => some (.vals ds, s)
    | none => none
  | .lkp p e, s => match pathV p s with
    | some (.adr n) => match s.m[n]? with
      | some (.dx ks ds) => unlk n (ev e { s with m := s.m.set n (.dl ks ds) })
      | some (.bx ds) => unlk n (ev e { s with m := s.m.set n (.ll ds) })
      | _ => ev e s
    | _ => ev e s
  | .lks p e, s => match pathV p s with
    | some (.adr n) => match s.m[n]? with
      | some (.dx ks ds) => unlkS n (ev e { s with m := s.m.set n (.dl ks ds) })
      | some (.bx ds) => unlkS n (ev e { s with m := s.m.set n (.ll ds) })
      | _ => ev e s
    | _ => ev e s
  | .bxe a, s => bxF (ev a s)
  | .rng a, s => bnd (ev a s) fun x s => match x with
    | .int j => if -(2 ^ 62) ≤ j ∧ j < 2 ^ 62 then some (.vals ((List.range j.toNat).map fun (k : Nat) => .int k), s) else none
    | _ => none
  | .rng2 a b, s => bnd (ev a s) fun x s => bnd (ev b s) fun y s => match x, y with
    | .int i, .int j => if -(2 ^ 62) ≤ i ∧ i < 2 ^ 62 ∧ -(2 ^ 62) ≤ j ∧ j < 2 ^ 62 then some (.vals ((List.range (j - i).toNat).map fun (k : Nat) => .int (i + k)), s) else none
    | _, _ => none
  | .enm a, s => bnd (ev a s) fun x s => match lstOf x with
    | some ds => some (.vals (enumF 0 ds), s)
    | none => none
  | .zp a b, s => bnd (ev a s) fun x s => bnd (ev b s) fun y s => match zipOf x y with
    | some ds => some (.vals ds, s)
    | none => none
  | .lc own tg it cd el, s => bndA (ev it s) fun ds s => match compL (store tg) (ev cd) (ev el) (wipeR (valR s.r) own) ds [] s.m with
    | some (.fr (.bx acc), s') => some (.fr (.bx acc), { s with m := s'.m })
    | _ => none
  | .skp, s => some (.nx, s)
  | .seq a b, s => match ev a s with
    | some (.nx, s) => ev b s
    | r => r
  | .asg i e, s => bnd (ev e s) fun d s => some (.nx, s.set i (some (.val d)))
  | .ast tg e, s => bnd (ev e s) fun d s => match store tg d s with
    | some s => some (.nx, s)
    | none => none
  | .aso i e, s => match ev e s with
    | some (.fr o, s) => asoK i o s
    | some (.exc c ns ds, s) => some (.exc c ns ds, s)
    | _ => none
  | .asb i e, s => match ev e s with
    | some (.fr o, s) => some (.nx, { r := s.r.set i (some (.val (.adr s.m.length))), m := s.m ++ [o] })
    | some (.exc c ns ds, s) => some (.exc c ns ds, s)
    | _ => none
  | .par i j a b, s => bnd (ev a s) fun x s => bnd (ev b s) fun y s => some (.nx, (s.set i (some (.val x))).set j (some (.val y)))
  | .sit o k e, s => bnd (ev e s) fun d s => bnd (ev o s) fun x s => bnd (ev k s) fun y s => match x with
    | .adr n => match s.m[n]? with
      | some (.bx ds) => match y with
        | .int i => match ixN ds.length i with
          | some j => some (.nx, { s with m := s.m.set n (.bx (ds.set j d)) })
          | none => none
        | _ => none
      | some (.dx ks ds) => match keyD y with
        | some k => if ks.length < big then some (.nx, { s with m := s.m.set n (.dx (putL k d ks ds).1 (putL k d ks ds).2) }) else none
        | none => none
      | _ => none
    | _ => none
  | .fls o f cs e, s => bnd (ev e s) fun d s => bnd (ev o s) fun x s => match x with
    | .adr n => match s.m[n]? with
      | some (.ob c ns ds) => if c ∈ cs ∧ ns.length < 1000 then some (.nx, { s with m := s.m.set n (.ob c (putN f d ns ds).1 (putN f d ns ds).2) }) else none
      | _ => none
    | _ => none
  | .ret e, s => match ev e s with
    | some (.val d, s) => some (.rt d, s)
    | some (.fr o, s) => some (.rtf o, s)
    | some (.exc c ns ds, s) => some (.exc c ns ds, s)
    | _ => none
  | .rtn, s => some (.rt .non, s)
  | .iff c a b, s => bnd (ev c s) fun x s => match x with
    | .bl c => if c then ev a s else ev b s
    | _ => none
  | .frr tg i b, s => bndA (ev i s) fun ds s => forL (store tg) (ev b) ds s
  | .whl c b, s => whlL (ev c) (ev b) 100000 s
  | .exp e, s => bnd (ev e s) fun _ s => some (.nx, s)
  | .apo i e, s => match s.r[i]? with
    | some (some (.ol _)) => bnd (ev e s) fun d s => match s.r[i]? with
      | some (some (.ol ds)) => if ds.length < big then some (.nx, s.set i (some (.ol (ds ++ [d])))) else none
      | _ => none
    | _ => none
  | _, _ => none
end
end En

namespace En
open PySem PySem.Spec L2
/-! ### sorting: one result -/
section
variable {α : Type} {le : α → α → Bool}
theorem insB_perm (x : α) : ∀ l : List α, (insB le x l).Perm (x :: l)
  | [] => .refl _
  | y :: ys => by
    unfold insB
    split
    · exact .refl _
    · exact ((insB_perm x ys).cons y).trans (.swap x y ys)
theorem srtB_perm : ∀ l : List α, (srtB le l).Perm l
  | [] => .refl _
  | x :: xs => (insB_perm x _).trans ((srtB_perm xs).cons x)
theorem insB_pw (tot : ∀ a b, le a b = true ∨ le b a = true) (tr : ∀ a b c, le a b = true → le b c = true → le a c = true) (x : α) : ∀ l : List α, l.Pairwise (fun a b => le a b = true) → (insB le x l).Pairwise (fun a b => le a b = true)
  | [], _ => by simp [insB]
  | y :: ys, h => by
    have h0 := List.pairwise_cons.mp h
    unfold insB
    split
    · rename_i hxy
      refine List.pairwise_cons.mpr ⟨fun z hz => ?_, h⟩
      rcases List.mem_cons.mp hz with rfl | hz
      · exact hxy
      · exact tr _ _ _ hxy (h0.1 z hz)
    · rename_i hxy
      have hyx : le y x = true := (tot x y).resolve_left hxy
      refine List.pairwise_cons.mpr ⟨fun z hz => ?_, insB_pw tot tr x ys h0.2⟩
      rcases List.mem_cons.mp ((insB_perm x ys).mem_iff.mp hz) with rfl | hz
      · exact hyx
      · exact h0.1 z hz
theorem srtB_pw (tot : ∀ a b, le a b = true ∨ le b a = true) (tr : ∀ a b c, le a b = true → le b c = true → le a c = true) : ∀ l : List α, (srtB le l).Pairwise (fun a b => le a b = true)
  | [] => .nil
  | x :: xs => insB_pw tot tr x _ (srtB_pw tot tr xs)
theorem srt_uniq (asy : ∀ a b, le a b = true → le b a = true → a = b) : ∀ {ys zs : List α}, ys.Perm zs → ys.Pairwise (fun a b => le a b = true) → zs.Pairwise (fun a b => le a b = true) → ys = zs
  | [], zs, p, _, _ => p.nil_eq
  | y :: ys, [], p, _, _ => by cases p.length_eq
  | y :: ys, z :: zs, p, h1, h2 => by
    have a1 := List.pairwise_cons.mp h1
    have a2 := List.pairwise_cons.mp h2
    have e : y = z := by
      rcases List.mem_cons.mp (p.mem_iff.mp (List.mem_cons_self ..)) with e | hy
      · exact e
      · rcases List.mem_cons.mp (p.mem_iff.mpr (List.mem_cons_self ..)) with e | hz
        · exact e.symm
        · exact asy _ _ (a1.1 z hz) (a2.1 y hy)
    subst e
    rw [srt_uniq asy ((List.perm_cons y).mp p) a1.2 a2.2]
end
theorem leI_tot (a b : Int) : leI a b = true ∨ leI b a = true := by
  unfold leI
  rcases Int.le_total a b with h | h
  · exact .inl (decide_eq_true h)
  · exact .inr (decide_eq_true h)
theorem leI_tr (a b c : Int) (h1 : leI a b = true) (h2 : leI b c = true) : leI a c = true :=
  decide_eq_true (Int.le_trans (of_decide_eq_true h1) (of_decide_eq_true h2))
theorem leI_asy (a b : Int) (h1 : leI a b = true) (h2 : leI b a = true) : a = b := Int.le_antisymm (of_decide_eq_true h1) (of_decide_eq_true h2)
theorem leS_iff {a b : Str} : leS a b = true ↔ a.cps.toList ≤ b.cps.toList := by
  unfold leS
  rw [PyProof.Rows.ltCps_eq, Bool.not_eq_true', decide_eq_false_iff_not]
  exact Iff.rfl
theorem leS_tot (a b : Str) : leS a b = true ∨ leS b a = true := by
  rw [leS_iff, leS_iff]
  exact List.le_total _ _
theorem leS_tr (a b c : Str) (h1 : leS a b = true) (h2 : leS b c = true) : leS a c = true := by
  rw [leS_iff] at *
  exact List.le_trans h1 h2
theorem leS_asy (a b : Str) (h1 : leS a b = true) (h2 : leS b a = true) : a = b := by
  rw [leS_iff] at h1 h2
  have e := List.le_antisymm h1 h2
  obtain ⟨x⟩ := a
  obtain ⟨y⟩ := b
  have e : x.toList = y.toList := e
  rw [Array.toList_inj.mp e]
theorem rising_pw : ∀ {p : Str} {l : List Str}, PyProof.Rows.risingS p l = true → (p :: l).Pairwise (fun a b => leS a b = true)
  | p, [], _ => by simp
  | p, x :: r, h => by
    have h : (leS p x && PyProof.Rows.risingS x r) = true := h
    rw [Bool.and_eq_true] at h
    have ih := rising_pw h.2
    refine List.pairwise_cons.mpr ⟨fun z hz => ?_, ih⟩
    rcases List.mem_cons.mp hz with rfl | hz
    · exact h.1
    · exact leS_tr _ _ _ h.1 ((List.pairwise_cons.mp ih).1 z hz)
theorem sorted_pw : ∀ {l : List Str}, PyProof.Rows.sortedS l = true → l.Pairwise (fun a b => leS a b = true)
  | [], _ => .nil
  | x :: r, h => rising_pw h
theorem srtS_eq {ys xs : List Str} (p : ys.Perm xs) (h : PyProof.Rows.sortedS ys = true) : ys = srtB leS xs := srt_uniq leS_asy (p.trans (srtB_perm xs).symm) (sorted_pw h) (srtB_pw leS_tot leS_tr xs)
theorem srtI_eq {ys xs : List Int} (p : ys.Perm xs) (h : ys.Pairwise (· ≤ ·)) : ys = srtB leI xs := srt_uniq leI_asy (p.trans (srtB_perm xs).symm) (h.imp fun h => decide_eq_true h) (srtB_pw leI_tot leI_tr xs)
end En

namespace En
open PySem PySem.Spec L2

/-! ### equality of data in the model -/
def pairE (ds es : List D) (j : Nat) : Bool := match ds[j]?, es[j]? with
  | some a, some b => eqD a b
  | _, _ => false
theorem pairE_all : ∀ (ds es : List D), ds.length = es.length → (List.range ds.length).all (pairE ds es) = eqDs ds es
  | [], [], _ => rfl
  | [], _ :: _, h => by simp at h
  | _ :: _, [], h => by simp at h
  | a :: ds, b :: es, h => by
    have ih := pairE_all ds es (by simpa using h)
    rw [List.length_cons, List.range_succ_eq_map, List.all_cons, List.all_map]
    have e1 : pairE (a :: ds) (b :: es) 0 = eqD a b := rfl
    have e2 : (pairE (a :: ds) (b :: es) ∘ Nat.succ) = pairE ds es := by
      funext j
      simp [pairE, Function.comp]
    rw [e1, e2, ih, eqDs]
theorem eqDs_len : ∀ (ds es : List D), ds.length ≠ es.length → eqDs ds es = false
  | [], [], h => absurd rfl h
  | [], _ :: _, _ => rfl
  | _ :: _, [], _ => rfl
  | a :: ds, b :: es, h => by
    rw [eqDs, eqDs_len ds es (by simpa using h), Bool.and_false]
theorem pairE_tup : ∀ (ds es : List D), ((List.range (min ds.length es.length)).all (pairE ds es) && ds.length == es.length) = eqDs ds es
  | ds, es => by
    by_cases h : ds.length = es.length
    · rw [h, Nat.min_self, ← h, pairE_all ds es h]
      simp
    · rw [eqDs_len ds es h]
      simp [h]

section
variable {X : Cx} {pins : List (Addr × Obj)} {σ : L2.St} {H G : Hp} {s : Shared} {x : SX} {io : List Addr}
theorem okD_flat {n : Nat} {d : D} (f : flat d = true) : okD n d = true := by
  cases d <;> cases n <;> first | rfl | cases f
def Deq (n : Nat) (X : Cx) (x : SX) (G : Hp) (io : List Addr) (s : Shared) : Prop :=
  ∀ (d e : D) (v w : V) (u t : Value) (A : Around), okD n d = true → okD n e = true → Rp x G io d v → Rp x G io e w → RelV v u → RelV w t → A.units + n < cLine →
    SeqAt.EqAt A s u t (eqD d e) ∧ SeqAt.RcAt A s u t (eqD d e) ∧ SeqAt.RcNeAt A s u t (!eqD d e)
theorem lstAt (I : Inv X pins σ H s) (gh : Same G H) {a : Addr} {vs : List V} (h : G a = some (.lst vs)) : ∃ its : List Value, Vals vs its ∧ s.heap.IsList a its.toArray ∧ vs.length ≤ sizeLine := by
  obtain ⟨its, r, p, l⟩ := I.list (xs := vs) (SqL.of (gh _ _ h))
  exact ⟨its, r, p.isList, l⟩
theorem tupAt (I : Inv X pins σ H s) (ek : X.K = x.K) (gh : Same G H) {a : Addr} {vs : List V} (h : SqT x.K G a vs) : ∃ its : List Value, Vals vs its ∧ s.heap.IsTuple a its.toArray ∧ vs.length ≤ sizeLine := by
  have h' : SqT X.K H a vs := by rw [ek]; exact Same.tup gh h
  exact I.tuple h'
theorem deq_items {n : Nat} (ih : Deq n X x G io s) {A : Around} {ds es : List D} {vs ws : List V} {us ts : List Value} (o1 : ds.all (okD n) = true) (o2 : es.all (okD n) = true)
    (r1 : RpL x G io ds vs) (r2 : RpL x G io es ws) (q1 : Vals vs us) (q2 : Vals ws ts) (hu : A.units + (n + 1) < cLine) :
    ∀ j (h1 : j < us.toArray.size) (h2 : j < ts.toArray.size), SeqAt.EqAt A.in1 s us.toArray[j] ts.toArray[j] (pairE ds es j) := fun j h1 h2 => by
  have l1 : us.toArray.size = ds.length := by rw [List.size_toArray, ← q1.length, r1.length]
  have l2 : ts.toArray.size = es.length := by rw [List.size_toArray, ← q2.length, r2.length]
  have e1 : ds[j]? = some ds[j] := List.getElem?_eq_getElem (by omega)
  have e2 : es[j]? = some es[j] := List.getElem?_eq_getElem (by omega)
  obtain ⟨v, v1, v2⟩ := r1.get e1
  obtain ⟨w, w1, w2⟩ := r2.get e2
  obtain ⟨u, u1, u2⟩ := q1.get v1
  obtain ⟨t, t1, t2⟩ := q2.get w1
  have z1 : us.toArray[j] = u := by
    have : us[j]? = some us.toArray[j] := by simp
    rw [u1] at this; exact (Option.some.inj this).symm
  have z2 : ts.toArray[j] = t := by
    have : ts[j]? = some ts.toArray[j] := by simp
    rw [t1] at this; exact (Option.some.inj this).symm
  rw [z1, z2]
  have ep : pairE ds es j = eqD ds[j] es[j] := by simp [pairE, e1, e2]
  rw [ep]
  refine (ih _ _ v w u t A.in1 ?_ ?_ v2 w2 u2 t2 (by show A.units + 1 + n < cLine; omega)).1
  · exact List.all_eq_true.mp o1 _ (List.getElem_mem _)
  · exact List.all_eq_true.mp o2 _ (List.getElem_mem _)
theorem deq_flat (n : Nat) {d e : D} {v w : V} {u t : Value} {A : Around} (f1 : flat d = true) (f2 : flat e = true) (r1 : Rp x G io d v) (r2 : Rp x G io e w) (q1 : RelV v u) (q2 : RelV w t) :
    SeqAt.EqAt A s u t (eqD d e) ∧ SeqAt.RcAt A s u t (eqD d e) ∧ SeqAt.RcNeAt A s u t (!eqD d e) := by
  cases d with
  | non =>
    cases (show v = .non from r1)
    cases (show u = Value.none from q1)
    cases e with
    | non => cases (show w = .non from r2); cases (show t = Value.none from q2); exact ⟨SeqAt.EqAt.same _, SeqAt.RcAt.none_none, SeqAt.RcNeAt.none_none⟩
    | bl b => cases (show w = .bl b from r2); cases (show t = Value.bool b from q2); exact ⟨SeqAt.EqAt.none_bool b, SeqAt.RcAt.none_bool b, SeqAt.RcNeAt.none_bool b⟩
    | int i => cases (show w = .int i from r2); obtain ⟨k, rfl⟩ := (show ∃ k, t = Value.int i k from q2); exact ⟨SeqAt.EqAt.none_int i k, SeqAt.RcAt.none_int i k, SeqAt.RcNeAt.none_int i k⟩
    | str i => cases (show w = .str i from r2); obtain ⟨k, rfl⟩ := (show ∃ k, t = Value.str i k from q2); exact ⟨SeqAt.EqAt.none_str i k, SeqAt.RcAt.none_str i k, SeqAt.RcNeAt.none_str i k⟩
    | _ => cases f2
  | bl a =>
    cases (show v = .bl a from r1)
    cases (show u = Value.bool a from q1)
    cases e with
    | non => cases (show w = .non from r2); cases (show t = Value.none from q2); exact ⟨SeqAt.EqAt.bool_none a, SeqAt.RcAt.bool_none a, SeqAt.RcNeAt.bool_none a⟩
    | bl b => cases (show w = .bl b from r2); cases (show t = Value.bool b from q2); exact ⟨SeqAt.EqAt.bool_bool a b, SeqAt.RcAt.bool_bool a b, SeqAt.RcNeAt.bool_bool a b⟩
    | int i => cases (show w = .int i from r2); obtain ⟨k, rfl⟩ := (show ∃ k, t = Value.int i k from q2); exact ⟨SeqAt.EqAt.bool_int a i k, SeqAt.RcAt.bool_int a i k, SeqAt.RcNeAt.bool_int a i k⟩
    | str i => cases (show w = .str i from r2); obtain ⟨k, rfl⟩ := (show ∃ k, t = Value.str i k from q2); exact ⟨SeqAt.EqAt.bool_str a i k, SeqAt.RcAt.bool_str a i k, SeqAt.RcNeAt.bool_str a i k⟩
    | _ => cases f2
  | int a =>
    cases (show v = .int a from r1)
    obtain ⟨m, rfl⟩ := (show ∃ k, u = Value.int a k from q1)
    cases e with
    | non => cases (show w = .non from r2); cases (show t = Value.none from q2); exact ⟨SeqAt.EqAt.int_none a m, SeqAt.RcAt.int_none a m, SeqAt.RcNeAt.int_none a m⟩
    | bl b => cases (show w = .bl b from r2); cases (show t = Value.bool b from q2); exact ⟨SeqAt.EqAt.int_bool a m b, SeqAt.RcAt.int_bool a m b, SeqAt.RcNeAt.int_bool a m b⟩
    | int i => cases (show w = .int i from r2); obtain ⟨k, rfl⟩ := (show ∃ k, t = Value.int i k from q2); exact ⟨SeqAt.EqAt.int_int a m i k, SeqAt.RcAt.int_int a m i k, SeqAt.RcNeAt.int_int a m i k⟩
    | str i => cases (show w = .str i from r2); obtain ⟨k, rfl⟩ := (show ∃ k, t = Value.str i k from q2); exact ⟨SeqAt.EqAt.int_str a m i k, SeqAt.RcAt.int_str a m i k, SeqAt.RcNeAt.int_str a m i k⟩
    | _ => cases f2
  | str a =>
    cases (show v = .str a from r1)
    obtain ⟨m, rfl⟩ := (show ∃ k, u = Value.str a k from q1)
    cases e with
    | non => cases (show w = .non from r2); cases (show t = Value.none from q2); exact ⟨SeqAt.EqAt.str_none a m, SeqAt.RcAt.str_none a m, SeqAt.RcNeAt.str_none a m⟩
    | bl b => cases (show w = .bl b from r2); cases (show t = Value.bool b from q2); exact ⟨SeqAt.EqAt.str_bool a m b, SeqAt.RcAt.str_bool a m b, SeqAt.RcNeAt.str_bool a m b⟩
    | int i => cases (show w = .int i from r2); obtain ⟨k, rfl⟩ := (show ∃ k, t = Value.int i k from q2); exact ⟨SeqAt.EqAt.str_int a m i k, SeqAt.RcAt.str_int a m i k, SeqAt.RcNeAt.str_int a m i k⟩
    | str i => cases (show w = .str i from r2); obtain ⟨k, rfl⟩ := (show ∃ k, t = Value.str i k from q2); exact ⟨SeqAt.EqAt.str_str a m i k, SeqAt.RcAt.str_str a m i k, SeqAt.RcNeAt.str_str a m i k⟩
    | _ => cases f2
  | _ => cases f1
theorem eqD_self (K : PySem.W.Frag) (I : Inv X pins σ H s) (ek : X.K = x.K) (gh : Same G H) : ∀ (n : Nat) (d e : D) (v : V), okD n d = true → okD n e = true → Rp x G io d v → Rp x G io e v → eqD d e = true
  | n, d, e, v, o1, o2, r1, r2 => by
    have all : ∀ (n : Nat), (∀ d e v, okD n d = true → okD n e = true → Rp x G io d v → Rp x G io e v → eqD d e = true) → ∀ (ds es : List D) (vs : List V), ds.all (okD n) = true → es.all (okD n) = true → RpL x G io ds vs → RpL x G io es vs → eqDs ds es = true := by
      intro n ih ds
      induction ds with
      | nil =>
        intro es vs _ _ r1 r2
        have e1 : vs = [] := r1
        subst e1
        cases es with
        | nil => rfl
        | cons e es => obtain ⟨_, _, z, _⟩ := r2; cases z
      | cons d ds ihl =>
        intro es vs o1 o2 r1 r2
        obtain ⟨v, r, rfl, q, t⟩ := r1
        cases es with
        | nil => have z : v :: r = [] := r2; cases z
        | cons e es =>
          obtain ⟨v', r', z, q', t'⟩ := r2
          cases z
          rw [List.all_cons, Bool.and_eq_true] at o1 o2
          rw [eqDs, ih d e v o1.1 o2.1 q q', ihl es r o1.2 o2.2 t t']
          rfl
    cases n with
    | zero =>
      cases d <;> cases e <;> simp_all [okD, Rp, eqD] <;> (try (have z := r1.symm.trans r2; first | (injection z with z; simp [z]) | cases z))
    | succ n =>
      have ih := fun d e v => eqD_self K I ek gh n d e v
      cases d with
      | lst ds =>
        obtain ⟨a, vs, rfl, h, r⟩ := r1
        cases e with
        | lst es =>
          obtain ⟨b, ws, z, h', r'⟩ := r2
          cases z
          rw [h] at h'
          cases h'
          exact all n ih ds es vs o1 o2 r r'
        | tup es =>
          obtain ⟨b, ws, z, h', r'⟩ := r2
          cases z
          obtain ⟨its, _, p1, _⟩ := lstAt I gh h
          obtain ⟨its2, _, p2, _⟩ := tupAt I ek gh h'
          obtain ⟨o, e1, e2, _⟩ := p1
          obtain ⟨o', e3, e4, _⟩ := p2
          rw [e1] at e3; cases e3
          rw [e2] at e4; exact absurd e4 (by decide)
        | non => cases r2
        | bl b => cases r2
        | int b => cases r2
        | str b => cases r2
        | _ => cases o2
      | tup ds =>
        obtain ⟨a, vs, rfl, h, r⟩ := r1
        cases e with
        | tup es =>
          obtain ⟨b, ws, z, h', r'⟩ := r2
          cases z
          have h1 : SqT X.K H a vs := by rw [ek]; exact Same.tup gh h
          have h2 : SqT X.K H a ws := by rw [ek]; exact Same.tup gh h'
          have z := I.tuple_inj h1 h2
          subst z
          exact all n ih ds es vs o1 o2 r r'
        | lst es =>
          obtain ⟨b, ws, z, h', r'⟩ := r2
          cases z
          obtain ⟨its, _, p1, _⟩ := lstAt I gh h'
          obtain ⟨its2, _, p2, _⟩ := tupAt I ek gh h
          obtain ⟨o, e1, e2, _⟩ := p1
          obtain ⟨o', e3, e4, _⟩ := p2
          rw [e1] at e3; cases e3
          rw [e2] at e4; exact absurd e4 (by decide)
        | non => cases r2
        | bl b => cases r2
        | int b => cases r2
        | str b => cases r2
        | _ => cases o2
      | non => cases e <;> simp_all [okD, Rp, eqD] <;> (try (have z := r1.symm.trans r2; cases z))
      | bl b => cases e <;> simp_all [okD, Rp, eqD] <;> (try (have z := r1.symm.trans r2; first | (injection z with z; simp [z]) | cases z))
      | int b => cases e <;> simp_all [okD, Rp, eqD] <;> (try (have z := r1.symm.trans r2; first | (injection z with z; simp [z]) | cases z))
      | str b => cases e <;> simp_all [okD, Rp, eqD] <;> (try (have z := r1.symm.trans r2; first | (injection z with z; simp [z]) | cases z))
      | _ => cases o1
end
end En

namespace En
open PySem PySem.Spec L2
section
variable {X : Cx} {pins : List (Addr × Obj)} {σ : L2.St} {H G : Hp} {s : Shared} {x : SX} {io : List Addr}
theorem deq (I : Inv X pins σ H s) (ek : X.K = x.K) (gh : Same G H) : ∀ n, Deq n X x G io s
  | n, d, e, v, w, u, t, A, o1, o2, r1, r2, q1, q2, hu => by
    by_cases f1 : flat d = true
    · by_cases f2 : flat e = true
      · exact deq_flat n f1 f2 r1 r2 q1 q2
      · have hu' : A.units < cLine := by omega
        cases e with
        | lst es =>
          obtain ⟨b, ws, rfl, h', r'⟩ := r2
          cases (show t = Value.ref b from q2)
          obtain ⟨its, _, p, _⟩ := lstAt I gh h'
          cases d with
          | non => cases (show v = .non from r1); cases (show u = Value.none from q1); exact ⟨.none_list p hu', .none_list p hu', .none_list p hu'⟩
          | bl a => cases (show v = .bl a from r1); cases (show u = Value.bool a from q1); exact ⟨.bool_list a p hu', .bool_list a p hu', .bool_list a p hu'⟩
          | int a => cases (show v = .int a from r1); obtain ⟨k, rfl⟩ := (show ∃ k, u = Value.int a k from q1); exact ⟨.int_list a k p hu', .int_list a k p hu', .int_list a k p hu'⟩
          | str a => cases (show v = .str a from r1); obtain ⟨k, rfl⟩ := (show ∃ k, u = Value.str a k from q1); exact ⟨.str_list a k p hu', .str_list a k p hu', .str_list a k p hu'⟩
          | _ => cases f1
        | tup es =>
          obtain ⟨b, ws, rfl, h', r'⟩ := r2
          cases (show t = Value.ref b from q2)
          obtain ⟨its, _, p, _⟩ := tupAt I ek gh h'
          cases d with
          | non => cases (show v = .non from r1); cases (show u = Value.none from q1); exact ⟨.none_tuple p hu', .none_tuple p hu', .none_tuple p hu'⟩
          | bl a => cases (show v = .bl a from r1); cases (show u = Value.bool a from q1); exact ⟨.bool_tuple a p hu', .bool_tuple a p hu', .bool_tuple a p hu'⟩
          | int a => cases (show v = .int a from r1); obtain ⟨k, rfl⟩ := (show ∃ k, u = Value.int a k from q1); exact ⟨.int_tuple a k p hu', .int_tuple a k p hu', .int_tuple a k p hu'⟩
          | str a => cases (show v = .str a from r1); obtain ⟨k, rfl⟩ := (show ∃ k, u = Value.str a k from q1); exact ⟨.str_tuple a k p hu', .str_tuple a k p hu', .str_tuple a k p hu'⟩
          | _ => cases f1
        | non => exact absurd rfl f2
        | bl _ => exact absurd rfl f2
        | int _ => exact absurd rfl f2
        | str _ => exact absurd rfl f2
        | _ => cases n <;> cases o2
    · have hu' : A.units < cLine := by omega
      cases d with
      | lst ds =>
        cases n with
        | zero => cases o1
        | succ n =>
          obtain ⟨a, vs, rfl, h, r⟩ := id r1
          cases (show u = Value.ref a from q1)
          obtain ⟨its, rv, p, _⟩ := lstAt I gh h
          cases e with
          | non => cases (show w = .non from r2); cases (show t = Value.none from q2); exact ⟨.list_none p hu', .list_none p hu', .list_none p hu'⟩
          | bl b => cases (show w = .bl b from r2); cases (show t = Value.bool b from q2); exact ⟨.list_bool b p hu', .list_bool b p hu', .list_bool b p hu'⟩
          | int b => cases (show w = .int b from r2); obtain ⟨k, rfl⟩ := (show ∃ k, t = Value.int b k from q2); exact ⟨.list_int b k p hu', .list_int b k p hu', .list_int b k p hu'⟩
          | str b => cases (show w = .str b from r2); obtain ⟨k, rfl⟩ := (show ∃ k, t = Value.str b k from q2); exact ⟨.list_str b k p hu', .list_str b k p hu', .list_str b k p hu'⟩
          | tup es =>
            obtain ⟨b, ws, rfl, h', r'⟩ := r2
            cases (show t = Value.ref b from q2)
            obtain ⟨its2, _, p2, _⟩ := tupAt I ek gh h'
            exact ⟨.list_tuple p p2 hu', .list_tuple p p2 hu', .list_tuple p p2 hu'⟩
          | lst es =>
            obtain ⟨b, ws, rfl, h', r'⟩ := id r2
            cases (show t = Value.ref b from q2)
            obtain ⟨its2, rv2, p2, _⟩ := lstAt I gh h'
            have l1 : its.toArray.size = ds.length := by rw [List.size_toArray, ← rv.length, r.length]
            have l2 : its2.toArray.size = es.length := by rw [List.size_toArray, ← rv2.length, r'.length]
            have both : SeqAt.RcAt A s (.ref a) (.ref b) (eqD (.lst ds) (.lst es)) ∧ SeqAt.RcNeAt A s (.ref a) (.ref b) (!eqD (.lst ds) (.lst es)) := by
              by_cases hl : ds.length = es.length
              · have he := deq_items (deq I ek gh n) (A := A) o1 o2 r r' rv rv2 hu
                have z1 := SeqAt.RcAt.lists p p2 (by omega) hu' he
                have z2 := SeqAt.RcNeAt.lists p p2 (by omega) hu' he
                rw [l1, pairE_all ds es hl] at z1 z2
                exact ⟨z1, z2⟩
              · have hb : (its.toArray.size != its2.toArray.size) = true := by rw [l1, l2]; simpa using hl
                have z1 := SeqAt.RcAt.lists_lengths p p2 hb hu'
                have z2 := SeqAt.RcNeAt.lists_lengths p p2 hb hu'
                rw [show eqD (.lst ds) (.lst es) = false from eqDs_len ds es hl]
                exact ⟨z1, z2⟩
            refine ⟨?_, both⟩
            by_cases hab : a = b
            · subst hab
              rw [eqD_self X.K I ek gh (n + 1) (.lst ds) (.lst es) (.ref a) o1 o2 r1 r2]
              exact .same _
            · exact .of_refs hab both.1
          | _ => cases o2
      | tup ds =>
        cases n with
        | zero => cases o1
        | succ n =>
          obtain ⟨a, vs, rfl, h, r⟩ := id r1
          cases (show u = Value.ref a from q1)
          obtain ⟨its, rv, p, _⟩ := tupAt I ek gh h
          cases e with
          | non => cases (show w = .non from r2); cases (show t = Value.none from q2); exact ⟨.tuple_none p hu', .tuple_none p hu', .tuple_none p hu'⟩
          | bl b => cases (show w = .bl b from r2); cases (show t = Value.bool b from q2); exact ⟨.tuple_bool b p hu', .tuple_bool b p hu', .tuple_bool b p hu'⟩
          | int b => cases (show w = .int b from r2); obtain ⟨k, rfl⟩ := (show ∃ k, t = Value.int b k from q2); exact ⟨.tuple_int b k p hu', .tuple_int b k p hu', .tuple_int b k p hu'⟩
          | str b => cases (show w = .str b from r2); obtain ⟨k, rfl⟩ := (show ∃ k, t = Value.str b k from q2); exact ⟨.tuple_str b k p hu', .tuple_str b k p hu', .tuple_str b k p hu'⟩
          | lst es =>
            obtain ⟨b, ws, rfl, h', r'⟩ := r2
            cases (show t = Value.ref b from q2)
            obtain ⟨its2, _, p2, _⟩ := lstAt I gh h'
            exact ⟨.tuple_list p p2 hu', .tuple_list p p2 hu', .tuple_list p p2 hu'⟩
          | tup es =>
            obtain ⟨b, ws, rfl, h', r'⟩ := id r2
            cases (show t = Value.ref b from q2)
            obtain ⟨its2, rv2, p2, _⟩ := tupAt I ek gh h'
            have l1 : its.toArray.size = ds.length := by rw [List.size_toArray, ← rv.length, r.length]
            have l2 : its2.toArray.size = es.length := by rw [List.size_toArray, ← rv2.length, r'.length]
            have he := deq_items (deq I ek gh n) (A := A) o1 o2 r r' rv rv2 hu
            have z1 := SeqAt.RcAt.tuples p p2 hu' he
            have z2 := SeqAt.RcNeAt.tuples p p2 hu' he
            rw [l1, l2, pairE_tup ds es] at z1 z2
            refine ⟨?_, z1, z2⟩
            by_cases hab : a = b
            · subst hab
              rw [eqD_self X.K I ek gh (n + 1) (.tup ds) (.tup es) (.ref a) o1 o2 r1 r2]
              exact .same _
            · exact .of_refs hab z1
          | _ => cases o2
      | non => exact absurd rfl f1
      | bl _ => exact absurd rfl f1
      | int _ => exact absurd rfl f1
      | str _ => exact absurd rfl f1
      | _ => cases n <;> cases o1
end
end En

namespace En
open PySem PySem.Spec L2
theorem big_line {n : Nat} (h : n ≤ big) : n ≤ sizeLine := by rw [sizeLine_eq]; exact h
theorem big_lt {n : Nat} (h : n < big) : n < sizeLine := by rw [sizeLine_eq]; exact h
section
variable {x : SX} {F : Fr} {W : WX} {G H : Hp} {io : List Addr} {σ : L2.St} {s : S}
theorem Post.v {d : D} {v : V} {Q : VK} (h : Post x F W G io (some (.val d, s)) σ Q) (t : StR x F s G io σ H) (r : Rp x G io d v) : Q v H := h v H G io (Same.refl _) (Pre.refl _) t r
theorem Post.f {ds : List D} {vs : List V} {Q : VK} (h : Post x F W G io (some (.fr (.bx ds), s)) σ Q) (t : StR x F s G io σ H) (r : RpL x G io ds vs) : ∀ p, H p = none → Q (.ref p) (upd H p (.lst vs)) := fun p hp => by
  obtain ⟨t', hg, hf, hi, ho⟩ := t.new (o := .lst vs) hp
  exact h p _ G io (Same.refl _) (Pre.refl _) t' hi ⟨vs, _, upd_same, hg, hf, r, rfl, trivial⟩ ho
theorem Post.fD {ks : List Key} {ds : List D} {vs : List V} {Q : VK} (h : Post x F W G io (some (.fr (.dx ks ds), s)) σ Q) (t : StR x F s G io σ H) (hl : ds.length = ks.length) (r : RpL x G io ds vs) : ∀ p, H p = none → Q (.ref p) (upd H p (.dK (ks.zip vs))) := fun p hp => by
  obtain ⟨t', hg, hf, hi, ho⟩ := t.new (o := .dK (ks.zip vs)) hp
  exact h p _ G io (Same.refl _) (Pre.refl _) t' hi ⟨vs, _, upd_same, hg, hf, r, rfl, hl⟩ ho
theorem Post.tn {ds : List D} {vs : List V} {Q : VK} (h : Post x F W G io (some (.val (.tup ds), s)) σ Q) (t : StR x F s G io σ H) (r : RpL x G io ds vs) : ∀ p, H p = none → Q (.ref p) (upd H p (.tup vs)) := fun p hp => by
  obtain ⟨t', sg⟩ := t.newfast (o := .tup vs) hp
  exact h _ _ _ io sg (Pre.refl _) t' ⟨p, vs, rfl, .of upd_same, r.mono sg (Pre.refl _)⟩
theorem view_lst {d : D} {ds : List D} {v : V} (t : StR x F s G io σ H) (h : viewL s d = some ds) (r : Rp x G io d v) : ∃ a vs, v = .ref a ∧ Rd H a (.lst vs) ∧ RpL x G io ds vs := by
  cases d with
  | lst es =>
    cases h
    obtain ⟨a, vs, e, q, r⟩ := r
    exact ⟨a, vs, e, .inl (t.gh _ _ q), r⟩
  | adr n =>
    obtain ⟨a, e, q⟩ := r
    simp only [viewL] at h
    cases hm : s.m[n]? with
    | none => rw [hm] at h; cases h
    | some mo =>
      rw [hm] at h
      cases mo with
      | bx es =>
        cases h
        obtain ⟨vs, h, q1, _, q3, rfl, _⟩ := t.mem.2.2 n _ a hm q
        exact ⟨a, vs, e, .inl q1, q3⟩
      | ll es =>
        cases h
        obtain ⟨vs, h, q1, _, q3, ⟨o, rfl⟩, _⟩ := t.mem.2.2 n _ a hm q
        exact ⟨a, vs, e, .inr ⟨o, q1⟩, q3⟩
      | _ => cases h
  | _ => cases h
theorem view_seq {d : D} {ds : List D} {v : V} (t : StR x F s G io σ H) (h : viewQ s d = some ds) (r : Rp x G io d v) : ∃ a vs, v = .ref a ∧ (Rd H a (.lst vs) ∨ SqT x.K H a vs) ∧ RpL x G io ds vs := by
  cases d with
  | tup es =>
    cases h
    obtain ⟨a, vs, e, q, r⟩ := r
    exact ⟨a, vs, e, .inr (Same.tup t.gh q), r⟩
  | lst es =>
    obtain ⟨a, vs, e, q, r⟩ := view_lst t (d := .lst es) h r
    exact ⟨a, vs, e, .inl q, r⟩
  | adr n =>
    obtain ⟨a, vs, e, q, r⟩ := view_lst t (d := .adr n) h r
    exact ⟨a, vs, e, .inl q, r⟩
  | _ => cases h
/-- the state stands, two values and what is wanted -/
def rB (x : SX) (F : Fr) (W : WX) (f : D → D → S → Res) : R2 := fun v w H Q => ∃ σ s G io d e, StR x F s G io σ H ∧ Rp x G io d v ∧ Rp x G io e w ∧ Post x F W G io (f d e s) σ Q
def opOf : Bop → Operator
  | .add => .Add
  | .sub => .Sub
  | .mul => .Mult
  | .div => .FloorDiv
  | .mod => .Mod
  | .pow => .Pow
theorem RpL.nil_iff : ∀ {ds : List D} {vs : List V}, RpL x G io ds vs → (vs = [] ↔ ds = [])
  | [], _, h => by
    have e : _ = [] := h
    simp [e]
  | d :: ds, _, h => by
    obtain ⟨v, r, rfl, _⟩ := h
    simp
theorem RpL.reps {ds : List D} {vs : List V} (r : RpL x G io ds vs) : ∀ n, RpL x G io (List.replicate n ds).flatten (List.replicate n vs).flatten
  | 0 => by simp; exact .nil
  | n + 1 => by
    rw [List.replicate_succ, List.replicate_succ, List.flatten_cons, List.flatten_cons]
    exact r.append (r.reps n)
end
/-! ### what is in a dict -/
theorem keyD_rp {x : SX} {G : Hp} {io : List Addr} {d : D} {v : V} {k : Key} (r : Rp x G io d v) (h : keyD d = some k) : v = kV k := by
  cases d with
  | int i => cases h; exact r
  | str s => cases h; exact r
  | _ => cases h
theorem look_rp {x : SX} {G : Hp} {io : List Addr} {k : Key} : ∀ {ks : List Key} {ds : List D} {vs : List V} {d : D}, RpL x G io ds vs → lookK k ks ds = some d → ∃ v, valV (ks.zip vs) k = some v ∧ Rp x G io d v
  | [], _, _, _, _, h => by simp [lookK] at h
  | _ :: _, [], _, _, _, h => by simp [lookK] at h
  | a :: ks, e :: ds, _, d, r, h => by
    obtain ⟨v, vs, rfl, q, t⟩ := r
    rw [lookK] at h
    by_cases z : a = k
    · rw [if_pos z] at h
      cases h
      exact ⟨v, by simp [valV, z], q⟩
    · rw [if_neg z] at h
      obtain ⟨w, e1, e2⟩ := look_rp t h
      exact ⟨w, by simpa [valV, z] using e1, e2⟩
theorem has_rp {k : Key} : ∀ {ks : List Key} {vs : List V}, vs.length = ks.length → (valV (ks.zip vs) k).isSome = ks.any fun a => decide (a = k)
  | [], _, _ => by simp [valV]
  | a :: ks, [], h => by simp at h
  | a :: ks, v :: vs, h => by
    have ih := has_rp (k := k) (ks := ks) (vs := vs) (by simpa using h)
    by_cases z : a = k
    · simp [valV, z]
    · simp [valV, z] at ih ⊢
      exact ih
theorem view_map {x : SX} {F : Fr} {s : S} {G H : Hp} {io : List Addr} {σ : L2.St} {d : D} {ks : List Key} {ds : List D} {v : V} (t : StR x F s G io σ H) (h : viewM s d = some (ks, ds)) (r : Rp x G io d v) :
    ∃ a vs, v = .ref a ∧ Rd H a (.dK (ks.zip vs)) ∧ vs.length = ks.length ∧ RpL x G io ds vs := by
  cases d with
  | dct ks' ds' =>
    cases h
    obtain ⟨a, vs, ob, rfl, e1, hl, rr⟩ := r
    exact ⟨a, vs, rfl, .inr ⟨ob, t.gh _ _ e1⟩, hl, rr⟩
  | adr n =>
    obtain ⟨a, rfl, q⟩ := r
    unfold viewM at h
    dsimp only at h
    split at h
    · rename_i ks' ds' hm
      cases h
      obtain ⟨vs, ho, q1, _, q3, rfl, q5⟩ := t.mem.2.2 n _ a hm q
      exact ⟨a, vs, rfl, .inl q1, by rw [q3.length]; exact q5, q3⟩
    · rename_i ks' ds' hm
      cases h
      obtain ⟨vs, ho, q1, _, q3, ⟨o, rfl⟩, q5⟩ := t.mem.2.2 n _ a hm q
      exact ⟨a, vs, rfl, .inr ⟨o, q1⟩, by rw [q3.length]; exact q5, q3⟩
    · cases h
  | _ => cases h
section
variable {X : Cx} {x : SX} {F : Fr} {W : WX}
theorem bop_ok (ek : X.K = x.K) (o : Bop) : OpR X (binaryOp (opOf o)) (rB x F W (bopF o)) := by
  intro pins s' σ' H v w u t Q I r1 r2 h
  obtain ⟨σ, s, G, io, d, e, st, q1, q2, hp⟩ := h
  unfold bopF at hp
  split at hp
  · rename_i i j; cases (show v = .int i from q1); cases (show w = .int j from q2)
    exact op_add pins s' σ' H _ _ u t Q I r1 r2 ⟨i, j, rfl, rfl, hp.v st rfl⟩
  · rename_i a b; cases (show v = .str a from q1); cases (show w = .str b from q2)
    split at hp
    · rename_i hl
      exact op_add_str pins s' σ' H _ _ u t Q I r1 r2 ⟨a, b, rfl, rfl, big_line hl, hp.v st rfl⟩
    · exact hp.elim
  · rename_i a b
    obtain ⟨p, vs, rfl, e1, k1⟩ := q1
    obtain ⟨p', ws, rfl, e2, k2⟩ := q2
    split at hp
    · rename_i hl
      exact op_cat pins s' σ' H _ _ u t Q I r1 r2 ⟨p, p', vs, ws, rfl, rfl, st.gh _ _ e1, st.gh _ _ e2, by rw [k1.length, k2.length]; exact big_line hl, hp.f st (k1.append k2)⟩
    · exact hp.elim
  · rename_i a b
    obtain ⟨p, vs, rfl, e1, k1⟩ := id q1
    obtain ⟨p', ws, rfl, e2, k2⟩ := id q2
    split at hp
    · rename_i hl
      refine op_catT pins s' σ' H _ _ u t Q I r1 r2 ⟨p, p', vs, ws, rfl, rfl, by rw [ek]; exact Same.tup st.gh e1, by rw [ek]; exact Same.tup st.gh e2, fun z => hl.2 (k1.nil_iff.mp z), by rw [k1.length, k2.length]; exact big_line hl.1, fun z => ?_, fun _ => hp.tn st (k1.append k2)⟩
      have z' := k2.nil_iff.mp z
      subst z'
      rw [List.append_nil] at hp
      exact hp.v st q1
    · exact hp.elim
  · rename_i i j; cases (show v = .int i from q1); cases (show w = .int j from q2)
    exact op_sub pins s' σ' H _ _ u t Q I r1 r2 ⟨i, j, rfl, rfl, hp.v st rfl⟩
  · rename_i i j; cases (show v = .int i from q1); cases (show w = .int j from q2)
    split at hp
    · rename_i hc
      exact op_mul pins s' σ' H _ _ u t Q I r1 r2 ⟨i, j, rfl, rfl, hc, hp.v st rfl⟩
    · exact hp.elim
  · rename_i a k
    obtain ⟨p, vs, rfl, e1, k1⟩ := q1
    cases (show w = .int k from q2)
    split at hp
    · rename_i hl
      exact op_rep pins s' σ' H _ _ u t Q I r1 r2 ⟨p, k, vs, rfl, rfl, st.gh _ _ e1, hl.1, hl.2.1, by rw [k1.length]; exact big_line hl.2.2, hp.f st (k1.reps _)⟩
    · exact hp.elim
  · rename_i i j; cases (show v = .int i from q1); cases (show w = .int j from q2)
    split at hp
    · rename_i hc
      exact op_fdiv pins s' σ' H _ _ u t Q I r1 r2 ⟨i, j, rfl, rfl, hc, hp.v st rfl⟩
    · exact hp.elim
  · rename_i i j; cases (show v = .int i from q1); cases (show w = .int j from q2)
    split at hp
    · rename_i hc
      exact op_mod pins s' σ' H _ _ u t Q I r1 r2 ⟨i, j, rfl, rfl, hc, hp.v st rfl⟩
    · exact hp.elim
  · rename_i i j; cases (show v = .int i from q1); cases (show w = .int j from q2)
    split at hp
    · rename_i hc
      exact op_pow pins s' σ' H _ _ u t Q I r1 r2 ⟨i, j, rfl, rfl, hc, hp.v st rfl⟩
    · exact hp.elim
  · exact hp.elim

/-! ### comparisons -/
def copOf : Cop → CmpOp
  | .eq => .Eq
  | .ne => .NotEq
  | .lt => .Lt
  | .le => .LtE
  | .gt => .Gt
  | .ge => .GtE
  | .isin => .In
  | .notin => .NotIn
def rC (x : SX) (F : Fr) (o : Cop) : R2 := fun v w H Q => ∃ σ s G io d e b, StR x F s G io σ H ∧ Rp x G io d v ∧ Rp x G io e w ∧ cmpF o d e s = some b ∧ Q (.bl b) H
theorem op_inK (hu : X.A.units + 1 < cLine) : OpR X (compareOp .In) (fun y x H Q => ∃ a o, x = .ref a ∧ DGet H a y o ∧ Q (.bl o.isSome) H) := by
  intro pins s σ H y x v u Q I ry rx h
  obtain ⟨a, ov, ex, g, q⟩ := h
  subst ex
  obtain rfl : u = Value.ref a := rx
  exact d_in hu I g ry fun s3 I3 => ⟨.bl ov.isSome, H, I3, rfl, q⟩
theorem op_notInK (hu : X.A.units + 1 < cLine) : OpR X (compareOp .NotIn) (fun y x H Q => ∃ a o, x = .ref a ∧ DGet H a y o ∧ Q (.bl (!o.isSome)) H) := by
  intro pins s σ H y x v u Q I ry rx h
  obtain ⟨a, ov, ex, g, q⟩ := h
  subst ex
  obtain rfl : u = Value.ref a := rx
  exact d_notIn hu I g ry fun s3 I3 => ⟨.bl (!ov.isSome), H, I3, rfl, q⟩
theorem ix_dct (hu : X.A.units + 1 < cLine) : IxR X (fun x y H Q => ∃ a v, x = .ref a ∧ DGet H a y (some v) ∧ Q v H) := by
  intro value slice pins s σ H x y v u Q I rx ry h hs
  obtain ⟨a, w, ex, g, q⟩ := h
  subst ex
  obtain rfl : v = Value.ref a := rx
  exact PyProof.Rows.tail_any (dict_typeIs I g) PySem.F.slot_dict_getitem.lookup (d_getItem hu I g ry fun w' s3 I3 rw' => ⟨w, H, I3, rw', q⟩) hs
theorem flat_fv {G : Hp} {io : List Addr} {d : D} {v : V} (r : Rp x G io d v) (f : flat d = true) : flatV v = true := by
  cases d with
  | non => cases (show v = .non from r); rfl
  | bl b => cases (show v = .bl b from r); rfl
  | int b => cases (show v = .int b from r); rfl
  | str b => cases (show v = .str b from r); rfl
  | _ => cases f
theorem flat_eqV {G : Hp} {io : List Addr} {d e : D} {v w : V} (r : Rp x G io d v) (q : Rp x G io e w) (f : flat d = true) (g : flat e = true) : eqV w v = eqD e d := by
  cases d with
  | non => cases (show v = .non from r); cases e <;> first | (cases g; done) | (cases (show w = _ from q); rfl)
  | bl b => cases (show v = .bl b from r); cases e <;> first | (cases g; done) | (cases (show w = _ from q); rfl)
  | int b => cases (show v = .int b from r); cases e <;> first | (cases g; done) | (cases (show w = _ from q); rfl)
  | str b => cases (show v = .str b from r); cases e <;> first | (cases g; done) | (cases (show w = _ from q); rfl)
  | _ => cases f
theorem inV_eq {G : Hp} {io : List Addr} {d : D} {v : V} (r : Rp x G io d v) (f : flat d = true) : ∀ {es : List D} {ws : List V}, RpL x G io es ws → es.all flat = true → ws.all flatV = true ∧ inV v ws = es.any fun z => eqD z d
  | [], _, h, _ => by
    have e : _ = [] := h
    subst e
    exact ⟨rfl, rfl⟩
  | e :: es, _, h, g => by
    obtain ⟨w, ws, rfl, q, t⟩ := h
    rw [List.all_cons, Bool.and_eq_true] at g
    obtain ⟨a1, a2⟩ := inV_eq r f t g.2
    refine ⟨by rw [List.all_cons, flat_fv q g.1, a1]; rfl, ?_⟩
    unfold inV at a2 ⊢
    rw [List.any_cons, List.any_cons, a2, flat_eqV r q f g.1]
theorem cmp_ok (ek : X.K = x.K) (hu : X.A.units + 64 < cLine) (o : Cop) : OpR X (compareOp (copOf o)) (rC x F o) := by
  intro pins s' σ' H v w u t Q I r1 r2 h
  obtain ⟨σ, s, G, io, d, e, b, st, q1, q2, hc, q⟩ := h
  have hin : ∀ b', inF d e s = some b' → (∃ a o, w = .ref a ∧ DGet H a v o ∧ b' = o.isSome) ∨ (∃ (c : Nat) (z : Str), v = .str ⟨#[c]⟩ ∧ w = .str z ∧ b' = decide (c ∈ z.cps.toList)) ∨
      (∃ p xs, w = .ref p ∧ (SqL X.K H p xs ∨ SqT X.K H p xs) ∧ flatV v = true ∧ xs.all flatV = true ∧ b' = inV v xs) := by
    intro b' hb
    unfold inF at hb
    split at hb
    · rename_i a z
      cases (show v = .str a from q1); cases (show w = .str z from q2)
      split at hb
      · rename_i c hc
        cases hb
        refine .inr (.inl ⟨c, z, ?_, rfl, rfl⟩)
        obtain ⟨arr⟩ := a
        have : arr = #[c] := by
          apply Array.ext'
          simpa using hc
        rw [this]
      · cases hb
    · unfold inQ at hb
      split at hb
      · rename_i ks ds hv
        split at hb
        · rename_i k hk
          cases hb
          obtain ⟨a, vs, rfl, hr, hl, rr⟩ := view_map st hv q2
          exact .inl ⟨a, _, rfl, .inl ⟨_, k, hr, keyD_rp q1 hk, rfl⟩, (has_rp hl).symm⟩
        · cases hb
      · split at hb
        · rename_i ds hv
          split at hb
          · rename_i hf
            rw [Bool.and_eq_true] at hf
            cases hb
            obtain ⟨a, vs, rfl, hq, hr⟩ := view_seq st hv q2
            obtain ⟨a1, a2⟩ := inV_eq q1 hf.1 hr hf.2
            refine .inr (.inr ⟨a, vs, rfl, ?_, flat_fv q1 hf.1, a1, a2.symm⟩)
            rcases hq with hq | hq
            · exact .inl (.inl hq)
            · exact .inr (by rw [ek]; exact hq)
          · cases hb
        · cases hb
  unfold cmpF at hc
  split at hc
  · split at hc
    · rename_i _ ho
      rw [Bool.and_eq_true] at ho
      cases hc
      exact ((deq I ek st.gh 8 d e v w u t X.A ho.1 ho.2 q1 q2 r1 r2 (by omega)).2.1) _ _ _ _ ⟨.bl _, H, I, rfl, q⟩
    · cases hc
  · split at hc
    · rename_i _ ho
      rw [Bool.and_eq_true] at ho
      cases hc
      exact ((deq I ek st.gh 8 d e v w u t X.A ho.1 ho.2 q1 q2 r1 r2 (by omega)).2.2) _ _ _ _ ⟨.bl _, H, I, rfl, q⟩
    · cases hc
  · rename_i i j; cases (show v = .int i from q1); cases (show w = .int j from q2); cases hc
    exact op_lt pins s' σ' H _ _ u t Q I r1 r2 ⟨i, j, rfl, rfl, q⟩
  · rename_i i j; cases (show v = .int i from q1); cases (show w = .int j from q2); cases hc
    exact op_le pins s' σ' H _ _ u t Q I r1 r2 ⟨i, j, rfl, rfl, q⟩
  · rename_i i j; cases (show v = .int i from q1); cases (show w = .int j from q2); cases hc
    exact op_gt pins s' σ' H _ _ u t Q I r1 r2 ⟨i, j, rfl, rfl, q⟩
  · rename_i i j; cases (show v = .int i from q1); cases (show w = .int j from q2); cases hc
    exact op_ge pins s' σ' H _ _ u t Q I r1 r2 ⟨i, j, rfl, rfl, q⟩
  · rcases hin b hc with ⟨a, ov, rfl, g, rfl⟩ | ⟨c, z, rfl, rfl, rfl⟩ | ⟨p, xs, rfl, a1, a2, a3, rfl⟩
    · exact op_inK (by omega) pins s' σ' H _ _ u t Q I r1 r2 ⟨a, ov, rfl, g, q⟩
    · exact op_in_sign pins s' σ' H _ _ u t Q I r1 r2 ⟨c, z, rfl, rfl, q⟩
    · exact op_in_seq pins s' σ' H _ _ u t Q I r1 r2 ⟨p, xs, rfl, a1, a2, a3, q⟩
  · obtain ⟨b', hb, rfl⟩ := Option.map_eq_some_iff.mp hc
    rcases hin b' hb with ⟨a, ov, rfl, g, rfl⟩ | ⟨c, z, rfl, rfl, rfl⟩ | ⟨p, xs, rfl, a1, a2, a3, rfl⟩
    · exact op_notInK (by omega) pins s' σ' H _ _ u t Q I r1 r2 ⟨a, ov, rfl, g, q⟩
    · exact op_notIn_sign pins s' σ' H _ _ u t Q I r1 r2 ⟨c, z, rfl, rfl, q⟩
    · exact op_notIn_seq pins s' σ' H _ _ u t Q I r1 r2 ⟨p, xs, rfl, a1, a2, a3, q⟩
  · cases hc

/-! ### items, slices -/
def rX (x : SX) (F : Fr) : R2 := fun v w H Q => ∃ σ s G io d e y, StR x F s G io σ H ∧ Rp x G io d v ∧ Rp x G io e w ∧ ixF d e s = some y ∧ ∀ z, Rp x G io y z → Q z H
theorem atI_rp {G : Hp} {io : List Addr} {ds : List D} {vs : List V} {i : Int} {y : D} (r : RpL x G io ds vs) (h : atI ds i = some y) : ∃ z, atI vs i = some z ∧ Rp x G io y z := by
  unfold atI at h ⊢
  rw [r.length]
  cases hj : ixN ds.length i with
  | none => rw [hj] at h; cases h
  | some j =>
    rw [hj] at h
    exact r.get (by simpa using h)
theorem ix_ok (ek : X.K = x.K) (hu : X.A.units + 64 < cLine) : IxR X (rX x F) := by
  intro value slice pins s' σ' H v w u t Q I r1 r2 h hs
  obtain ⟨σ, s, G, io, d, e, y, st, q1, q2, hc, q⟩ := h
  unfold ixF at hc
  split at hc
  · rename_i z i; cases (show v = .str z from q1); cases (show w = .int i from q2)
    split at hc
    · rename_i hl
      obtain ⟨c, hc2, rfl⟩ := Option.map_eq_some_iff.mp hc
      exact ix_str value slice pins s' σ' H _ _ u t Q I r1 r2 ⟨z, i, c, rfl, rfl, big_line hl, hc2, q _ rfl⟩ hs
    · cases hc
  · split at hc
    · rename_i ks ds hv
      split at hc
      · rename_i k hk
        obtain ⟨a, vs, rfl, hr, hl, rr⟩ := view_map st hv q1
        obtain ⟨z, e2, rz⟩ := look_rp rr hc
        exact ix_dct (by omega) value slice pins s' σ' H _ _ u t Q I r1 r2 ⟨a, z, rfl, .inl ⟨_, k, hr, keyD_rp q2 hk, e2.symm⟩, q z rz⟩ hs
      · cases hc
    · split at hc
      · rename_i i _; cases (show w = .int i from q2)
        split at hc
        · rename_i ds hv
          obtain ⟨a, vs, rfl, hq, hr⟩ := view_seq st hv q1
          obtain ⟨z, hz, rz⟩ := atI_rp hr hc
          rcases hq with hq | hq
          · exact ix_list value slice pins s' σ' H _ _ u t Q I r1 r2 ⟨a, vs, i, z, rfl, rfl, .inl hq, hz, q z rz⟩ hs
          · exact ix_tup value slice pins s' σ' H _ _ u t Q I r1 r2 ⟨a, vs, i, z, rfl, rfl, by rw [ek]; exact hq, hz, q z rz⟩ hs
        · cases hc
      · cases hc
def rS (x : SX) (F : Fr) (W : WX) : V → Option Int → Option Int → Hp → VK → Prop := fun v lo hi H Q => ∃ σ s G io d, StR x F s G io σ H ∧ Rp x G io d v ∧ Post x F W G io (slF d lo hi s) σ Q
theorem cut_rp {G : Hp} {io : List Addr} {ds : List D} {vs : List V} (lo hi : Option Int) (r : RpL x G io ds vs) : RpL x G io (cutD ds lo hi) (cutV vs lo hi) := by
  unfold cutD cutV
  rw [r.length]
  exact (r.drop _).take _
theorem sl_ok (ek : X.K = x.K) : SlR X (rS x F W) := by
  intro pins s' σ' H v u vl vu lo hi sl Q I r1 hs pl pu h
  obtain ⟨σ, s, G, io, d, st, q1, hp⟩ := h
  unfold slF at hp
  split at hp
  · rename_i z; cases (show v = .str z from q1)
    split at hp
    · rename_i hl
      exact sl_str pins s' σ' H _ u vl vu lo hi sl Q I r1 hs pl pu ⟨z, rfl, big_line hl, hp.v st rfl⟩
    · exact hp.elim
  · rename_i ds
    obtain ⟨a, vs, rfl, hq, hr⟩ := id q1
    have hq' : SqT X.K H a vs := by rw [ek]; exact Same.tup st.gh hq
    refine sl_tupA pins s' σ' H _ u vl vu lo hi sl Q I r1 hs pl pu ⟨a, vs, rfl, hq', fun hw => ?_, fun _ => hp.tn st (cut_rp lo hi hr)⟩
    have e : cutD ds lo hi = ds := by
      unfold cutD
      rw [← hr.length, hw.1, hw.2, List.drop_zero, Nat.sub_zero, hr.length, List.take_length]
    rw [e] at hp
    exact hp.v st q1
  · rename_i ds
    obtain ⟨a, vs, rfl, hq, hr⟩ := id q1
    exact sl_list pins s' σ' H _ u vl vu lo hi sl Q I r1 hs pl pu ⟨a, vs, rfl, by rw [ek]; exact st.gh.seq hq, hp.f st (cut_rp lo hi hr)⟩
  · split at hp
    · rename_i ds hv
      obtain ⟨a, vs, rfl, hq, hr⟩ := view_lst st hv q1
      exact sl_list pins s' σ' H _ u vl vu lo hi sl Q I r1 hs pl pu ⟨a, vs, rfl, .inl hq, hp.f st (cut_rp lo hi hr)⟩
    · exact hp.elim
end
end En

namespace En
open PySem PySem.Spec L2
section
variable {x : SX} {G H : Hp} {io : List Addr}
theorem bls_rp : ∀ {ds : List D} {bs : List Bool} {vs : List V}, blsOf ds = some bs → RpL x G io ds vs → vs = bs.map V.bl
  | [], _, _, h, r => by
    cases h
    exact r
  | d :: ds, _, _, h, r => by
    obtain ⟨v, r, rfl, q, t⟩ := r
    cases d with
    | bl b =>
      simp only [blsOf] at h
      obtain ⟨bs, hb, rfl⟩ := Option.map_eq_some_iff.mp h
      rw [bls_rp hb t, show v = .bl b from q]
      rfl
    | _ => cases h
theorem ints_rpL : ∀ {ds : List D} {is : List Int} {vs : List V}, intsOf ds = some is → RpL x G io ds vs → vs = is.map V.int
  | [], _, _, h, r => by
    cases h
    exact r
  | d :: ds, _, _, h, r => by
    obtain ⟨v, r, rfl, q, t⟩ := r
    cases d with
    | int b =>
      simp only [intsOf] at h
      obtain ⟨bs, hb, rfl⟩ := Option.map_eq_some_iff.mp h
      rw [ints_rpL hb t, show v = .int b from q]
      rfl
    | _ => cases h
theorem keyV_rp : ∀ (l : List Key), RpL x G io (l.map keyV) (l.map kV)
  | [] => rfl
  | k :: l => ⟨kV k, _, rfl, by cases k <;> exact rfl, keyV_rp l⟩
theorem keys_zip {ks : List Key} {ws : List V} (h : ws.length = ks.length) : (ks.zip ws).map (fun kv => kV kv.1) = ks.map kV := by
  have e : (ks.zip ws).map (fun kv => kV kv.1) = ((ks.zip ws).map Prod.fst).map kV := by rw [List.map_map]; rfl
  rw [e, List.map_fst_zip (Nat.le_of_eq h.symm)]
theorem strL_rp : ∀ (l : List Str), RpL x G io (l.map D.str) (l.map V.str)
  | [] => rfl
  | z :: l => ⟨.str z, _, rfl, rfl, strL_rp l⟩
theorem intL_rp : ∀ (l : List Int), RpL x G io (l.map D.int) (l.map V.int)
  | [] => rfl
  | z :: l => ⟨.int z, _, rfl, rfl, intL_rp l⟩
theorem strs_rp : ∀ {ds : List D} {bs : List Str} {vs : List V}, strsOf ds = some bs → RpL x G io ds vs → vs = bs.map V.str
  | [], _, _, h, r => by
    cases h
    exact r
  | d :: ds, _, _, h, r => by
    obtain ⟨v, r, rfl, q, t⟩ := r
    cases d with
    | str b =>
      simp only [strsOf] at h
      obtain ⟨bs, hb, rfl⟩ := Option.map_eq_some_iff.mp h
      rw [strs_rp hb t, show v = .str b from q]
      rfl
    | _ => cases h
end
def biV : Bi → Value
  | .len => .builtin "len"
  | .int => .type "int"
  | .all => .builtin "all"
  | .any => .builtin "any"
  | .list => .type "list"
  | .tuple => .type "tuple"
  | .str => .type "str"
  | .bool => .type "bool"
  | .repr => .builtin "repr"
  | .sorted => .builtin "sorted"
  | .dict => .type "dict"
def biN : Bi → Str
  | .len => "len"
  | .int => "int"
  | .all => "all"
  | .any => "any"
  | .list => "list"
  | .tuple => "tuple"
  | .str => "str"
  | .bool => "bool"
  | .repr => "repr"
  | .sorted => "sorted"
  | .dict => "dict"
def rBi (x : SX) (F : Fr) (W : WX) (b : Bi) : List V → Hp → VK → Prop := fun vs H Q => ∃ σ s G io ds, StR x F s G io σ H ∧ RpL x G io ds vs ∧ Post x F W G io (biF b ds s) σ Q
theorem RpL.one {x : SX} {G : Hp} {io : List Addr} {d : D} {vs : List V} (h : RpL x G io [d] vs) : ∃ v, vs = [v] ∧ Rp x G io d v := by
  obtain ⟨v, r, rfl, q, t⟩ := h
  have e : r = [] := t
  subst e
  exact ⟨v, rfl, q⟩
section
variable {X : Cx} {x : SX} {F : Fr} {W : WX}
theorem bi_ok (ek : X.K = x.K) (hc : X.calm = true) (b : Bi) : CallR X (biV b) (rBi x F W b) := by
  intro pins s' σ' H vs us Q I r h
  obtain ⟨σ, s, G, io, ds, st, q1, hp⟩ := h
  unfold biF at hp
  split at hp
  · rename_i z
    obtain ⟨v, rfl, q⟩ := q1.one
    cases (show v = .str z from q)
    split at hp
    · rename_i hl
      exact call_len_str pins s' σ' H _ us Q I r ⟨z, rfl, big_line hl, hp.v st rfl⟩
    · exact hp.elim
  · rename_i d _
    obtain ⟨v, rfl, q⟩ := q1.one
    split at hp
    · rename_i ks es hv
      obtain ⟨a, ws, rfl, e, hl, rr⟩ := view_map st hv q
      obtain ⟨u, rfl, ru⟩ := vals1 r
      cases ru
      have el : (ks.zip ws).length = ks.length := by rw [List.length_zip, hl, Nat.min_self]
      refine d_len I e fun t s2 I' => ⟨.int (ks.zip ws).length, H, I', ⟨t, rfl⟩, ?_⟩
      rw [el]
      exact hp.v st rfl
    · split at hp
      · rename_i es hv
        obtain ⟨a, ws, rfl, hq, hr⟩ := view_seq st hv q
        refine call_len_seq pins s' σ' H _ us Q I r ⟨a, ws, rfl, ?_, by rw [hr.length]; exact hp.v st rfl⟩
        rcases hq with hq | hq
        · exact .inl (.inl hq)
        · exact .inr (by rw [ek]; exact hq)
      · exact hp.elim
  · rename_i i
    obtain ⟨v, rfl, q⟩ := q1.one
    cases (show v = .int i from q)
    exact call_int1 pins s' σ' H _ us Q I r (.inl ⟨i, rfl, hp.v st rfl⟩)
  · rename_i b
    obtain ⟨v, rfl, q⟩ := q1.one
    cases (show v = .bl b from q)
    exact call_int1 pins s' σ' H _ us Q I r (.inr ⟨b, rfl, hp.v st rfl⟩)
  · obtain ⟨v, rfl, q⟩ := q1.one
    split at hp
    · rename_i es hv
      split at hp
      · rename_i bs hb
        obtain ⟨a, ws, rfl, hq, hr⟩ := view_lst st hv q
        have e := bls_rp hb hr
        subst e
        exact cr_all hc pins s' σ' H _ us Q I r ⟨a, bs, rfl, .inl hq, hp.v st rfl⟩
      · exact hp.elim
    · exact hp.elim
  · obtain ⟨v, rfl, q⟩ := q1.one
    split at hp
    · rename_i es hv
      split at hp
      · rename_i bs hb
        obtain ⟨a, ws, rfl, hq, hr⟩ := view_lst st hv q
        have e := bls_rp hb hr
        subst e
        exact cr_any hc pins s' σ' H _ us Q I r ⟨a, bs, rfl, .inl hq, hp.v st rfl⟩
      · exact hp.elim
    · exact hp.elim
  · obtain ⟨v, rfl, q⟩ := q1.one
    split at hp
    · rename_i ks es hv
      obtain ⟨a, ws, rfl, e, hl, rr⟩ := view_map st hv q
      refine call_listD hc pins s' σ' H _ us Q I r ⟨a, _, rfl, e, fun p hn => ?_⟩
      rw [keys_zip hl]
      exact hp.f st (keyV_rp ks) p hn
    · split at hp
      · rename_i es hv
        obtain ⟨a, ws, rfl, hq, hr⟩ := view_seq st hv q
        refine call_list_of pins s' σ' H _ us Q I r ⟨a, ws, rfl, ?_, hp.f st hr⟩
        rcases hq with hq | hq
        · exact .inl (.inl hq)
        · exact .inr (by rw [ek]; exact hq)
      · exact hp.elim
  · obtain ⟨v, rfl, q⟩ := q1.one
    split at hp
    · rename_i ks es hv
      obtain ⟨a, ws, rfl, e, hl, rr⟩ := view_map st hv q
      split at hp
      · rename_i hle
        refine call_dictD pins s' σ' H _ us Q I r ⟨a, _, rfl, e, fun p hn => ?_⟩
        exact Post.fD hp st hle rr p hn
      · exact hp.elim
    · exact hp.elim
  · rename_i es
    obtain ⟨v, rfl, q⟩ := q1.one
    obtain ⟨a, ws, rfl, hq, hr⟩ := id q
    exact call_tuple_of pins s' σ' H _ us Q I r ⟨a, ws, rfl, .inr ⟨by rw [ek]; exact Same.tup st.gh hq, hp.v st q⟩⟩
  · obtain ⟨v, rfl, q⟩ := q1.one
    split at hp
    · rename_i es hv
      obtain ⟨a, ws, rfl, hq, hr⟩ := view_lst st hv q
      exact call_tuple_of pins s' σ' H _ us Q I r ⟨a, ws, rfl, .inl ⟨.inl hq, hp.tn st hr⟩⟩
    · exact hp.elim
  · rename_i i
    obtain ⟨v, rfl, q⟩ := q1.one
    cases (show v = .int i from q)
    split at hp
    · rename_i hl
      exact call_str_int pins s' σ' H _ us Q I r ⟨i, rfl, hl, hp.v st rfl⟩
    · exact hp.elim
  · rename_i b
    obtain ⟨v, rfl, q⟩ := q1.one
    cases (show v = .bl b from q)
    exact call_bool1 pins s' σ' H _ us Q I r (.inr ⟨b, rfl, hp.v st rfl⟩)
  · obtain ⟨v, rfl, q⟩ := q1.one
    split at hp
    · rename_i es hv
      obtain ⟨a, ws, rfl, hq, hr⟩ := view_lst st hv q
      unfold srtD at hp
      split at hp
      · rename_i zs hz
        split at hz
        · rename_i ys hy
          have e := strs_rp hy hr
          subst e
          split at hz
          · rename_i hl
            cases hz
            refine cr_sortedS pins s' σ' H _ us Q I r ⟨a, ys, rfl, .inl hq, hl, fun zs p hp1 hs hn => ?_⟩
            rw [srtS_eq hp1 hs]
            exact hp.f st (strL_rp _) p hn
          · cases hz
        · split at hz
          · rename_i is hi
            have e := ints_rpL hi hr
            subst e
            cases hz
            refine cr_sortedI pins s' σ' H _ us Q I r ⟨a, is, rfl, .inl hq, fun zs p hp1 hs hn => ?_⟩
            rw [srtI_eq hp1 hs]
            exact hp.f st (intL_rp _) p hn
          · cases hz
      · exact hp.elim
    · exact hp.elim
  · exact hp.elim

/-! ### isinstance -/
def tyN : Ty → Str
  | .int => "int"
  | .bool => "bool"
  | .str => "str"
  | .list => "list"
  | .tuple => "tuple"
  | .dict => "dict"
  | .own _ => ""
def tyB : Ty → String
  | .int => "int"
  | .bool => "bool"
  | .str => "str"
  | .list => "list"
  | .tuple => "tuple"
  | .dict => "dict"
  | .own _ => ""
def tyV (x : SX) : Ty → Value
  | .own c => .ref (x.ca c)
  | t => .type (tyB t)
def tyNames : List String := ["NoneType", "bool", "int", "str", "list", "tuple", "dict"]
/-- what is known of a class -/
structure ClF (K : PySem.W.Frag) (C : Addr) : Prop where
  cl : Cls K C
  ha : PySem.W.findIn K (.ref C) "__class__" = some (some (.builtin "object.__class__"))
  hm : PySem.W.mroIn K C (.type "object") = some true
  ne : PySem.W.findIn K (.ref C) "__ne__" = some (some (.builtin "object.__ne__"))
  kb : ∀ n ∈ tyNames, PySem.W.kitOne K (.type n) (.ref C) = some false ∧ PySem.W.kitOne K (.ref C) (.type n) = some false
/-- what is known of the classes -/
structure ClO (x : SX) : Prop where
  hn : PySem.W.specialIn x.K (.builtin "object.__class__") "__get__" = some (some (.builtin "getset_descriptor.__get__"))
  ht : PySem.W.takesIn x.K (.builtin "object.__class__") = some true
  cl : ∀ c, x.live c = true → ClF x.K (x.ca c)
  cc : ∀ c k, x.live c = true → x.live k = true → PySem.W.kitOne x.K (.ref (x.ca c)) (.ref (x.ca k)) = some (subC c k)
/-- the class a value is of -/
def clD (x : SX) : D → Option Value
  | .non => some (.type "NoneType")
  | .bl _ => some (.type "bool")
  | .int _ => some (.type "int")
  | .str _ => some (.type "str")
  | .lst _ => some (.type "list")
  | .tup _ => some (.type "tuple")
  | .dct _ _ => some (.type "dict")
  | .obj c _ _ => some (.ref (x.ca c))
  | _ => none
def lvD (x : SX) : D → Bool
  | .obj c _ _ => x.live c
  | _ => true
def lvT (x : SX) : Ty → Bool
  | .own c => x.live c
  | _ => true
theorem tyx_of (k : ClO x) {s : S} {G H : Hp} {io : List Addr} {σ : L2.St} {d : D} {v : V} {c : Value} (t : StR x F s G io σ H) (r : Rp x G io d v) (h : clD x (s.v d) = some c) : TyX x.K H v c ∧ lvD x (s.v d) = true := by
  have ins : ∀ {n : Nat} {a dx : Addr} {fs : List (Str × V)}, x.live n = true → H a = some (.ins (x.ca n) dx fs) → TyX x.K H (.ref a) (.ref (x.ca n)) := fun {n a dx fs} hl e =>
    .base (.ins e (k.cl n hl).cl (k.cl n hl).ha k.hn k.ht (k.cl n hl).hm)
  cases d with
  | non => cases h; cases (show v = .non from r); exact ⟨.base .non, rfl⟩
  | bl b => cases h; cases (show v = .bl b from r); exact ⟨.base (.bl b), rfl⟩
  | int b => cases h; cases (show v = .int b from r); exact ⟨.base (.int b), rfl⟩
  | str b => cases h; cases (show v = .str b from r); exact ⟨.base (.str b), rfl⟩
  | lst ds =>
    cases h
    obtain ⟨a, vs, rfl, e, _⟩ := r
    exact ⟨.base (.lst (t.gh _ _ e)), rfl⟩
  | tup ds =>
    cases h
    obtain ⟨a, vs, rfl, e, _⟩ := r
    refine ⟨?_, rfl⟩
    rcases Same.tup t.gh e with (e | ⟨o, e⟩) | ⟨o, its, n, e1, e2, _⟩
    · exact .base (.tup e)
    · exact .fTuple e
    · exact .kTuple e1 e2
  | dct ks ds =>
    cases h
    obtain ⟨a, vs, o, rfl, e, _⟩ := r
    exact ⟨.fDict (t.gh _ _ e), rfl⟩
  | obj n ns ds =>
    cases h
    obtain ⟨hl, a, dx, vs, rfl, e, _⟩ := r
    exact ⟨ins hl (t.gh _ _ e), hl⟩
  | adr j =>
    obtain ⟨a, rfl, q⟩ := r
    unfold S.v at h ⊢
    dsimp only at h ⊢
    split at h
    · rename_i o hm
      obtain ⟨vs, ho, q1, _, _, q4, _⟩ := t.mem.2.2 j o a hm q
      cases o with
      | bx ds => cases h; cases q4; exact ⟨.base (.lst q1), rfl⟩
      | ob n ns ds => cases h; obtain ⟨hl, dx, rfl⟩ := q4; exact ⟨ins hl q1, hl⟩
      | dx ks ds => cases h; cases q4; exact ⟨.base (.dK q1), rfl⟩
      | dl ks ds => cases h; obtain ⟨o, rfl⟩ := q4; exact ⟨.fDict q1, rfl⟩
      | ll ds => cases h
    · cases h
  | _ => cases h
theorem tyIs_kit (k : ClO x) {d : D} {t : Ty} {b : Bool} (hd : lvD x d = true) (hl : lvT x t = true) (h : tyIs d t = some b) : ∃ c, clD x d = some c ∧ PySem.W.kitOne x.K c (tyV x t) = some b := by
  have bt : ∀ {n : String} {c : Nat}, n ∈ tyNames → lvT x (.own c) = true → PySem.W.kitOne x.K (.type n) (.ref (x.ca c)) = some false := fun hn hc => ((k.cl _ hc).kb _ hn).1
  cases d with
  | obj c ns ds =>
    cases t with
    | own k' => cases h; exact ⟨_, rfl, k.cc c k' hd hl⟩
    | _ => cases h; exact ⟨_, rfl, ((k.cl c hd).kb _ (by decide)).2⟩
  | _ =>
    cases t <;> simp only [tyIs] at h <;> first
      | (cases h; done)
      | (cases h; exact ⟨_, rfl, bt (by decide) hl⟩)
      | (cases h; exact ⟨_, rfl, kit_ty (by decide +kernel)⟩)
theorem tyAny_kit (k : ClO x) {d : D} {c : Value} (hd : lvD x d = true) (hcl : clD x d = some c) : ∀ {ts : List Ty} {b : Bool}, (ts.all (lvT x)) = true → tyAny d ts = some b → PySem.W.kitAny x.K c (ts.map (tyV x)) = some b
  | [], b, _, h => by
    cases h
    rfl
  | t :: ts, b, hl, h => by
    rw [List.all_cons, Bool.and_eq_true] at hl
    simp only [tyAny] at h
    split at h
    · rename_i b1 b2 h1 h2
      cases h
      obtain ⟨c', e1, e2⟩ := tyIs_kit k hd hl.1 h1
      rw [hcl] at e1; cases e1
      refine kitAny_cons e2 (fun z => ?_) (fun z => by rw [z]; rfl)
      rw [z, Bool.false_or]
      exact tyAny_kit k hd hcl hl.2 h2
    · cases h
theorem tyIs_cl {d : D} {t : Ty} {b : Bool} (h : tyIs d t = some b) : ∃ c, clD x d = some c := by
  cases d <;> first | exact ⟨_, rfl⟩ | (cases t <;> cases h)
theorem tyAny_cl {d : D} {t : Ty} {ts : List Ty} {b : Bool} (h : tyAny d (t :: ts) = some b) : ∃ c, clD x d = some c := by
  simp only [tyAny] at h
  split at h
  · rename_i b1 b2 h1 h2
    exact tyIs_cl h1
  · cases h
end
end En

namespace En
open PySem PySem.Spec L2
/-! ### side conditions of the model's syntax -/
def isStar : Expr → Bool
  | .Starred _ _ => true
  | _ => false
def isComp : Expr → Bool
  | .ListComp _ _ _ _ => true
  | .SetComp _ _ _ _ => true
  | .DictComp _ _ _ _ _ => true
  | _ => false
def isSet : Expr → Bool
  | .Set _ _ _ => true
  | _ => false
def isSl : Expr → Bool
  | .Slice _ _ _ _ => true
  | _ => false
def isSup : Expr → Bool
  | .Call (.Name _ _) [] [] _ => true
  | _ => false
def plainT : Expr → Bool
  | .UnaryOp .Not _ _ => false
  | .BoolOp _ _ _ => false
  | .IfExp _ _ _ _ => false
  | .Compare _ _ _ _ => false
  | _ => true
theorem star_no {e : Expr} {es : List Expr} {env : Env} (h : isStar e = false) : starEach (e :: es) env = (false, eval e env) :: starEach es env := by
  cases e <;> first | rfl | cases h
theorem star_any {es : List Expr} {env : Env} {pos : Pos} (h : es.all (fun e => !isStar e) = true) : (backTo pos (starEach es env)).any (·.1) = false := by
  induction es with
  | nil => rfl
  | cons e es ih =>
    rw [List.all_cons, Bool.and_eq_true] at h
    have he : isStar e = false := by simpa using h.1
    rw [star_no he]
    have ih' := ih h.2
    unfold backTo at ih' ⊢
    simp only [List.map_cons, List.any_cons]
    simpa using ih'
theorem swaps_no {e : Expr} {t : Option Expr} {l : Nat} {env : Env} (h : isComp e = false) : swapsWith e t l env = pure false := by
  cases e <;> first | rfl | cases h
theorem swapsSole_no {e : Expr} {ts : List Expr} {l : Nat} {env : Env} (h : isComp e = false) : swapsWithSole ts e l env = pure false := by
  cases ts with
  | nil => rfl
  | cons t ts =>
    cases ts with
    | nil => exact swaps_no h
    | cons _ _ => rfl
theorem swaps_att {e l : Expr} {m : Str} {q : Pos} {n : Nat} {env : Env} : swapsWith e (some (.Attribute l m q)) n env = pure false := by cases e <;> rfl
theorem swaps_sub {e l r : Expr} {q : Pos} {n : Nat} {env : Env} : swapsWithSole [.Subscript l r q] e n env = pure false := by cases e <;> rfl
theorem marks_no {op : CmpOp} {e : Expr} (h : isSet e = false) : behindInMarks op e = false := by
  cases e <;> first | rfl | cases h
theorem folded_no {e : Expr} {env : Env} (h : isSet e = false) : ∀ v, foldedSetIterable e env v = pure v := by
  cases e <;> first | (intro v; rfl) | cases h
theorem ix_plain {e : Expr} (h : isSl e = false) : PlainIx e := by
  cases e <;> first | exact fun _ _ => rfl | exact Bool.noConfusion h
theorem isTrue_plain {e : Expr} {env : Env} (h : plainT e = true) : ∀ whole, isTrue e env whole = (do let v ← whole; standAt e.pos; holding [v] (truthy v)) := by
  cases e with
  | UnaryOp op a p => cases op <;> first | (intro w; rfl) | cases h
  | BoolOp op a p => cases h
  | IfExp a b c p => cases h
  | Compare a b c p => cases h
  | _ => intro w; rfl
theorem base_no {e : Expr} {f : Str} {env : Env} (h : isSup e = false) : attributeBase e f env (eval e env) = eval e env := by
  cases e with
  | Call g as ks p =>
    cases g <;> first
      | rfl
      | (cases as <;> cases ks <;> first | rfl | cases h)
  | _ => rfl

/-! ### the context -/
structure CC where
  N : List Str
  sc : Scope
  loc : List Str
/-- the names: defs, globals, fields, methods, classes by number -/
structure NT where
  fnm : Nat → Str
  gvn : Nat → Str
  isF : Nat → Bool
  isK : Nat → Bool
  isM : Nat → Bool
  fl : List Str
  fa : Nat → Nat → Bool
  me : Nat → Nat → Option (Str × Nat × List Str)
  gone : Nat → Bool
  live : Nat → Bool
  cn : Nat → Str
  kn : Nat → Nat
  kk : Nat → List Str
def NT.nm (nt : NT) (j : Nat) : Str := nt.fl.getD j ""
def vis (cc : CC) (i : Nat) (x : Str) : Bool :=
  decide (cc.N[i]? = some x) && (decide (cc.sc.names.lookup x = some .local) || decide (cc.sc.names.lookup x = some .cell) || decide (cc.sc.names.lookup x = some .free)) &&
    !(x == ("__debug__" : Str)) && !(x == ("__classdict__" : Str))
def glo (cc : CC) (x : Str) : Bool := decide (cc.sc.names.lookup x = some .globalImplicit) && !(x == ("__debug__" : Str)) && !decide (x = ("__name__" : Str))
def tgt (cc : CC) (i : Nat) (x : Str) : Bool := decide (cc.N[i]? = some x) && decide (x ∈ cc.loc)
def bltNames : List Str := ["len", "int", "all", "any", "list", "tuple", "str", "bool", "isinstance", "dict", "range", "enumerate", "zip", "sorted", "min", "max", "repr", "sum"]
def CC.blk (cc : CC) (scope : Scope) : CC :=
  { N := cc.N, sc := relS scope cc.sc, loc := (scope.names.filter fun p => decide (p.2 = .local) || decide (p.2 = .cell)).map (·.1) }
/-- the def's own -/
def CC.fn (N : List Str) (sc : Scope) : CC := { N := N, sc := sc, loc := (sc.names.map (·.1)).filter fun y => decide (sc.names.lookup y = some .local) || decide (sc.names.lookup y = some .cell) }

structure Tb where
  x : SX
  lv : Nat
  nt : NT
  prog : Program
  w : World
  mg : Str → Option Value
  base : Heap
  P : Nat → List D → List MO → Option (Out × List MO)
  Gm : Nat → D

def FF (x : SX) (H G : Hp) (io : List Addr) (m' : List MO) (H' G' : Hp) (io' : List Addr) : Prop :=
  Same G' H' ∧ MemA x G' io' H' m' ∧ (∀ b o, H b = some o → b ∉ io → H' b = some o) ∧ (∀ b, H b ≠ none → G' b = G b) ∧ Pre io io' ∧
    (∀ (n : Nat) (a : Addr), io.length ≤ n → io'[n]? = some a → H a = none) ∧ ∀ b o u, H b = some (.frz o u) → H' b = some (.frz o u)
def PostF (x : SX) (H G : Hp) (io : List Addr) (r : Option (Out × List MO)) (Q : VK) (E : XK) : Prop :=
  match r with
  | some (.val d, m') => ∀ v H' G' io', FF x H G io m' H' G' io' → Rp x G' io' d v → Q v H'
  | some (.fr o, m') => ∀ a H' G' io', FF x H G io m' H' G' io' → a ∉ io' → H a = none → (∃ vs h, H' a = some h ∧ G' a = none ∧ RpL x G' io' o.ds vs ∧ MoH x o vs h ∧ MoL o) → Q (.ref a) H'
  | some (.exc c ns ds, m') => ∀ cls dd H' G' io', FF x H G io m' H' G' io' → ExcR x G' io' c ns ds cls dd H' → E cls dd H'
  | _ => False
def spP (x : SX) (Pf : List D → List MO → Option (Out × List MO)) (n : Nat) : Sp := fun vs H Q E => vs.length = n ∧ ∃ ds m G io, Same G H ∧ MemA x G io H m ∧ RpL x G io ds vs ∧ PostF x H G io (Pf ds m) Q E
def spOf (T : Tb) (f n : Nat) : Sp := spP T.x (T.P f) n
def FnAt (T : Tb) (f : Nat) : Prop := ∃ (a : Addr) (fd : FuncData) (ps : List Str), T.mg (T.nt.fnm f) = some (.ref a) ∧ PySem.W.keepIn T.x.K (.ref a) = true ∧
  FnOk T.prog T.w T.x.K T.mg T.base (L2.CX T.prog T.w) T.lv a fd ps (spOf T f ps.length) ∧ Binds T.x.K fd ps [] ∧ ∀ ds m r, T.P f ds m = some r → ds.length = ps.length
/-- what stands at a, called with n values and these keywords, does what P says of i -/
def Cal (T : Tb) (i n : Nat) (kk : List Str) (a : Addr) : Prop := ∃ (k : Nat) (fd : FuncData) (ps : List Str) (g : List Value → List Value → List Value) (gV : List V → List V → List V) (sp : Sp), k + 3 ≤ T.lv ∧
  FnOk T.prog T.w T.x.K T.mg T.base (L2.CX T.prog T.w) k a fd ps sp ∧ KBn T.x.K fd ps n kk g gV ∧
  ∀ vs zs H Q E, vs.length = n → zs.length = kk.length → (∃ ds es m G io, Same G H ∧ MemA T.x G io H m ∧ RpL T.x G io ds vs ∧ RpL T.x G io es zs ∧ PostF T.x H G io (T.P i (ds ++ es) m) Q E) → sp (gV vs zs) H Q E
def FnAtK (T : Tb) (f : Nat) : Prop := ∃ a : Addr, T.mg (T.nt.fnm f) = some (.ref a) ∧ PySem.W.keepIn T.x.K (.ref a) = true ∧ Cal T f (T.nt.kn f) (T.nt.kk f) a
/-- a method of a class, called with n values behind the object -/
def FnAtE (T : Tb) (c i : Nat) (m : Str) (n : Nat) (kk : List Str) : Prop := ∃ a : Addr, Meth T.x.K (T.x.ca c) m a ∧ Cal T i (n + 1) kk a
theorem Cal.mk {T : Tb} {j n : Nat} {kk : List Str} {Pf : List D → List MO → Option (Out × List MO)} {a : Addr} {fd : FuncData} {ps : List Str} {g : List Value → List Value → List Value} {gV : List V → List V → List V}
    {k : Nat} (hkl : k + 3 ≤ T.lv) (F : FnOk T.prog T.w T.x.K T.mg T.base (L2.CX T.prog T.w) k a fd ps (spP T.x Pf ps.length)) (hb : KBn T.x.K fd ps n kk g gV)
    (h : ∀ (G : Hp) (io : List Addr) ds es vs zs, vs.length = n → zs.length = kk.length → RpL T.x G io ds vs → RpL T.x G io es zs → (gV vs zs).length = ps.length ∧ ∃ ds', RpL T.x G io ds' (gV vs zs) ∧ ∀ m, T.P j (ds ++ es) m = Pf ds' m) : Cal T j n kk a := by
  refine ⟨k, fd, ps, g, gV, _, hkl, F, hb, ?_⟩
  rintro vs zs H Q E l1 l2 ⟨ds, es, m, G, io, gh, hmem, r1, r2, hp⟩
  obtain ⟨q1, ds', q2, q3⟩ := h G io ds es vs zs l1 l2 r1 r2
  rw [q3] at hp
  exact ⟨q1, ds', m, G, io, gh, hmem, q2, hp⟩
/-- a class called with n values and these keywords -/
def FnAtM (T : Tb) (f : Nat) : Prop := ∃ (C fI : Addr) (k : Nat) (fd : FuncData) (ps : List Str) (g : List Value → List Value → List Value) (gV : List V → List V → List V) (sp : Sp), T.mg (T.nt.fnm f) = some (.ref C) ∧ Mk T.x.K C fI ∧ k + 3 ≤ T.lv ∧
  FnOk T.prog T.w T.x.K T.mg T.base (L2.CX T.prog T.w) k fI fd ps sp ∧ KBn T.x.K fd ps (T.nt.kn f + 1) (T.nt.kk f) g gV ∧
  ∀ vs zs H Q E, vs.length = T.nt.kn f → zs.length = (T.nt.kk f).length → (∃ ds es m G io, Same G H ∧ MemA T.x G io H m ∧ RpL T.x G io ds vs ∧ RpL T.x G io es zs ∧ PostF T.x H G io (T.P f (ds ++ es) m) Q E) →
    ∀ x dx, H x = none → H dx = none → dx ≠ x → sp (gV (.ref x :: vs) zs) (upd (upd H dx (.own x)) x (.ins C dx [])) (fun v H2 => v = .non ∧ Q (.ref x) H2) E
structure TOk (T : Tb) : Prop where
  fn : ∀ f, T.nt.isF f = true → FnAt T f
  fk : ∀ f, T.nt.isK f = true → FnAtK T f
  fm : ∀ f, T.nt.isM f = true → FnAtM T f
  nm : T.x.nm = T.nt.nm
  nd : T.nt.fl.Nodup
  lv : T.x.live = T.nt.live
  ko : ClO T.x
  fa : ∀ c f, T.nt.fa c f = true → NoAttr T.x.K (T.x.ca c) (T.nt.nm f)
  me : ∀ c i m n kk, T.nt.me c i = some (m, n, kk) → FnAtE T c i m n kk
  gone : ∀ i, T.nt.gone i = true → ∀ ds m, T.P i ds m = none
  cn : ∀ c, T.nt.cn c ≠ "" → T.mg (T.nt.cn c) = some (.ref (T.x.ca c)) ∧ T.nt.live c = true
  gv : ∀ g, T.nt.gvn g ≠ "" → ∃ u v, T.mg (T.nt.gvn g) = some u ∧ RelV v u ∧ ∀ G io, Rp T.x G io (T.Gm g) v
  bl : ∀ n ∈ bltNames, T.mg n = none
theorem TOk.nmI {T : Tb} (t : TOk T) {f : Nat} (h : T.nt.nm f ≠ "") : ∀ i, T.x.nm i = T.x.nm f → i = f := fun i hi => by
  rw [t.nm] at hi
  unfold NT.nm at h hi
  rw [List.getD_eq_getElem?_getD] at h hi hi
  have hf : f < T.nt.fl.length := by
    by_cases hf : f < T.nt.fl.length
    · exact hf
    · rw [List.getElem?_eq_none (by omega)] at h; exact absurd rfl h
  have hI : i < T.nt.fl.length := by
    by_cases hI : i < T.nt.fl.length
    · exact hI
    · rw [List.getElem?_eq_none (show T.nt.fl.length ≤ i by omega)] at hi; exact absurd hi.symm h
  rw [List.getElem?_eq_getElem hf, List.getElem?_eq_getElem hI] at hi
  exact (List.getElem_inj t.nd).mp hi
/-- no field bears the name -/
theorem TOk.noF {T : Tb} (t : TOk T) {m : Str} (h1 : m ≠ "") (h2 : m ∉ T.nt.fl) : ∀ (ns : List Nat) (vs : List V), ((ns.map T.x.nm).zip vs).lookup m = none
  | [], _ => rfl
  | _ :: _, [] => rfl
  | n :: ns, v :: vs => by
    rw [List.map_cons, List.zip_cons_cons, List.lookup_cons]
    have hne : (m == T.x.nm n) = false := by
      cases hb : (m == T.x.nm n) with
      | false => rfl
      | true =>
        exfalso
        have e := beq_iff_eq.mp hb
        rw [t.nm] at e
        unfold NT.nm at e
        rw [List.getD_eq_getElem?_getD] at e
        by_cases hn : n < T.nt.fl.length
        · rw [List.getElem?_eq_getElem hn] at e
          exact h2 (by rw [e]; exact List.getElem_mem hn)
        · rw [List.getElem?_eq_none (by omega)] at e
          exact h1 e
    rw [hne]
    exact t.noF h1 h2 ns vs
structure XOk (T : Tb) (cc : CC) (X : Cx) (W : WX) : Prop where
  prog : X.prog = T.prog
  w : X.w = T.w
  K : X.K = T.x.K
  mg : X.mg = T.mg
  base : X.base = T.base
  N : X.N = cc.N
  nd : X.N.Nodup
  sc : X.env.scope = cc.sc
  calm : X.calm = true
  tk : Takes X W
  po : PassesOwn (model X.prog X.w) X.A X.env X.xe
  room : Room T.lv X.A
  loc : ∀ y ∈ cc.loc, Loc X.env.scope y ∧ (X.fn y = true ∨ X.env.scope.names.lookup y = some .local)
section
variable {T : Tb} {cc : CC} {X : Cx} {W : WX}
theorem XOk.vis (o : XOk T cc X W) {i : Nat} {y : Str} (h : vis cc i y = true) : X.N[i]? = some y ∧ Vis X.env.scope y ∧ (y == ("__debug__" : Str)) = false ∧ (y == ("__classdict__" : Str)) = false := by
  unfold En.vis at h
  simp only [Bool.and_eq_true, Bool.or_eq_true, decide_eq_true_eq, Bool.not_eq_true'] at h
  obtain ⟨⟨⟨h1, h2⟩, h3⟩, h4⟩ := h
  refine ⟨by rw [o.N]; exact h1, ?_, h3, h4⟩
  unfold Vis
  rw [o.sc]
  rcases h2 with (h2 | h2) | h2
  · exact .inl h2
  · exact .inr (.inl h2)
  · exact .inr (.inr h2)
theorem XOk.glo (o : XOk T cc X W) {y : Str} (h : glo cc y = true) : Gl X y ∧ (y == ("__debug__" : Str)) = false ∧ y ≠ ("__name__" : Str) := by
  unfold En.glo at h
  simp only [Bool.and_eq_true, decide_eq_true_eq, Bool.not_eq_true', decide_eq_false_iff_not] at h
  refine ⟨?_, h.1.2, h.2⟩
  show X.env.scope.names.lookup y = _
  rw [o.sc]
  exact h.1.1
theorem XOk.tgt (o : XOk T cc X W) {i : Nat} {y : Str} (h : tgt cc i y = true) : X.N[i]? = some y ∧ Loc X.env.scope y ∧ (X.fn y = true ∨ X.env.scope.names.lookup y = some .local) := by
  unfold En.tgt at h
  simp only [Bool.and_eq_true, decide_eq_true_eq] at h
  exact ⟨by rw [o.N]; exact h.1, o.loc y h.2⟩
theorem XOk.blt (o : XOk T cc X W) (t : TOk T) {y : Str} (h : y ∈ bltNames) : X.mg y = none := by rw [o.mg]; exact t.bl y h
theorem XOk.hu (o : XOk T cc X W) : X.A.units + 64 < cLine := o.room.units
end
/-! ### behind a call -/
theorem StR.call {x : SX} {F : Fr} {s : S} {G G' H H' : Hp} {io io' : List Addr} {σ : L2.St} {m' : List MO} (t : StR x F s G io σ H) (f : FF x H G io m' H' G' io') :
    StR x F { s with m := m' } G' io' σ H' ∧ Same G G' := by
  obtain ⟨f1, f2, f3, f4, f5, f6, f7⟩ := f
  have sg : Same G G' := fun b o e => by rw [f4 b (by rw [t.gh _ _ e]; simp)]; exact e
  have mem : ∀ {b : Addr}, b ∈ io → ∃ o, H b = some o := fun {b} hb => by
    obtain ⟨n, hn, e⟩ := List.getElem_of_mem hb
    have hl : n < s.m.length := by rw [t.mem.1]; exact hn
    have q := t.mem.2.2 n _ b (List.getElem?_eq_getElem hl) (by rw [List.getElem?_eq_getElem hn, e])
    obtain ⟨vs, h, q1, _⟩ := q
    exact ⟨_, q1⟩
  have fh : ∀ {b : Addr}, H b = none → F.h b = none := fun {b} e => by
    cases z : F.h b with
    | none => rfl
    | some o =>
      by_cases hm : b ∈ F.i
      · obtain ⟨k, hk⟩ := t.ki
        obtain ⟨o', e'⟩ := mem (b := b) (by rw [hk]; exact List.mem_append_left _ hm)
        rw [e] at e'; cases e'
      · rw [t.kh _ _ z hm] at e; cases e
  have nio : ∀ {b : Addr}, b ∉ io → H b ≠ none → b ∉ io' := fun {b} h1 h2 hm => by
    obtain ⟨n, hn, e⟩ := List.getElem_of_mem hm
    by_cases hl : n < io.length
    · obtain ⟨k, hk⟩ := f5
      apply h1
      have : io'[n] = io[n] := by simp [hk, List.getElem_append_left hl]
      rw [← e, this]
      exact List.getElem_mem _
    · exact h2 (f6 n b (by omega) (by rw [List.getElem?_eq_getElem hn, e]))
  refine ⟨⟨f1, t.len, fun i c e => ?_, t.own, f2, fun b o e n => ?_, fun b hb => ?_, t.ki.trans f5, fun n a hn e => ?_, fun b u e => ?_⟩, sg⟩
  · obtain ⟨v, e1, r⟩ := t.slot i c e
    refine ⟨v, e1, ?_⟩
    cases c with
    | val d => exact Rp.mono sg f5 r
    | ol ds =>
      obtain ⟨a, q1, q2, vs, q3, q4, q5, q6⟩ := r
      have hn : H a ≠ none := by rw [q3]; simp
      exact ⟨a, q1, nio q2 hn, vs, f3 _ _ q3 q2, by rw [f4 a hn]; exact q4, q5, q6.mono sg f5⟩
    | od ks ds =>
      obtain ⟨a, q1, q2, vs, q3, q4, q5, q6, q7⟩ := r
      have hn : H a ≠ none := by rw [q3]; simp
      exact ⟨a, q1, nio q2 hn, vs, f3 _ _ q3 q2, by rw [f4 a hn]; exact q4, q5, q6, q7.mono sg f5⟩
  · refine f3 _ _ (t.kh b o e n) fun hm => ?_
    obtain ⟨k, hk, e2⟩ := List.getElem_of_mem hm
    by_cases hl : k < F.i.length
    · obtain ⟨z, hz⟩ := t.ki
      apply n
      have : io[k] = F.i[k] := by simp [hz, List.getElem_append_left hl]
      rw [← e2, this]
      exact List.getElem_mem _
    · rw [t.ni k b (by omega) (by rw [List.getElem?_eq_getElem hk, e2])] at e; cases e
  · rw [f4 b (fun z => hb (fh z)), t.kg b hb]
  · by_cases hl : n < io.length
    · obtain ⟨k, hk⟩ := f5
      refine t.ni n a hn ?_
      rw [hk, List.getElem?_append_left hl] at e
      exact e
    · exact fh (f6 n a (by omega) e)
  · obtain ⟨e1, o, w, rfl⟩ := t.zl b u e
    exact ⟨f7 _ _ _ e1, o, w, rfl⟩
end En

namespace En
open PySem PySem.Spec L2
/-! ### weakening, joining of rules -/
theorem PE.wk {X : Cx} {e : Expr} {t t' : TE} (h : PE X e t) (i : ∀ σ H Q, t' σ H Q → t σ H Q) : PE X e t' := ⟨fun pins s σ H Q I q => h.run pins s σ H Q I (i σ H Q q)⟩
theorem PT.wk {X : Cx} {e : Expr} {t t' : TT} (h : PT X e t) (i : ∀ σ H Q, t' σ H Q → t σ H Q) : PT X e t' := ⟨fun pins s σ H Q I q => h.run pins s σ H Q I (i σ H Q q)⟩
theorem PW.wk {X : Cx} {e : Expr} {t t' : TT} (h : PW X e t) (i : ∀ σ H Q, t' σ H Q → t σ H Q) : PW X e t' := ⟨fun wh pins s σ H Q I q => h.run wh pins s σ H Q I (i σ H Q q)⟩
theorem PA.wk {X : Cx} {e : List Expr} {t t' : TA} (h : PA X e t) (i : ∀ σ H Q, t' σ H Q → t σ H Q) : PA X e t' := ⟨fun p pins s σ H Q I q => h.run p pins s σ H Q I (i σ H Q q)⟩
theorem PS.wk {X : Cx} {e : Stmt} {t t' : TS} (h : PS X e t) (i : ∀ D σ H, t' D σ H → t D σ H) : PS X e t' := ⟨fun pins s σ H D I q => h.run pins s σ H D I (i D σ H q)⟩
theorem PSs.wk {X : Cx} {e : List Stmt} {t t' : TS} (h : PSs X e t) (i : ∀ D σ H, t' D σ H → t D σ H) : PSs X e t' := ⟨fun pins s σ H D I q => h.run pins s σ H D I (i D σ H q)⟩
theorem PG.wk {X : Cx} {e : Expr} {t t' : TG} (h : PG X e t) (i : ∀ v σ H Q, t' v σ H Q → t v σ H Q) : PG X e t' := ⟨fun pins s σ H v u Q I r q => h.run pins s σ H v u Q I r (i v σ H Q q)⟩
theorem PGs.wk {X : Cx} {e : List Expr} {t t' : TGs} (h : PGs X e t) (i : ∀ v σ H Q, t' v σ H Q → t v σ H Q) : PGs X e t' := ⟨fun pins s σ H v u Q I r q => h.run pins s σ H v u Q I r (i v σ H Q q)⟩
theorem PI.wk {X : Cx} {tg e : Expr} {t t' : TI} (h : PI X tg e t) (i : ∀ σ H R, t' σ H R → t σ H R) : PI X tg e t' := ⟨fun pins s σ H R I q => h.run pins s σ H R I (i σ H R q)⟩
theorem PE.or {X : Cx} {e : Expr} {t u : TE} (h : PE X e t) (k : PE X e u) : PE X e (fun σ H Q => t σ H Q ∨ u σ H Q) := ⟨fun pins s σ H Q I q => q.elim (h.run pins s σ H Q I) (k.run pins s σ H Q I)⟩
theorem PG.or {X : Cx} {e : Expr} {t u : TG} (h : PG X e t) (k : PG X e u) : PG X e (fun v σ H Q => t v σ H Q ∨ u v σ H Q) := ⟨fun pins s σ H v w Q I r q => q.elim (h.run pins s σ H v w Q I r) (k.run pins s σ H v w Q I r)⟩
theorem PI.or {X : Cx} {tg e : Expr} {t u : TI} (h : PI X tg e t) (k : PI X tg e u) : PI X tg e (fun σ H R => t σ H R ∨ u σ H R) := ⟨fun pins s σ H R I q => q.elim (h.run pins s σ H R I) (k.run pins s σ H R I)⟩

/-! ### readings -/
section
variable (T : Tb) (F : Fr) (W : WX)
def rd (c : E) : TE := fun σ H Q => ∃ s G io, StR T.x F s G io σ H ∧ Post T.x F W G io (ev T.P T.Gm c s) σ Q
def rdT (c : E) : TT := fun σ H Q => rd T F W c σ H fun v H' => ∃ b, v = .bl b ∧ Q b H'
def rdA (c : E) : TA := fun σ H Q => ∃ s G io, StR T.x F s G io σ H ∧ PostA T.x F W G io (ev T.P T.Gm c s) σ Q
def rdS (c : E) : TS := fun D σ H => ∃ s G io, StR T.x F s G io σ H ∧ PostS T.x F W G io (ev T.P T.Gm c s) D
end
/-- a walk that yields just these data -/
structure WalkD (x : SX) (Z G0 : Hp) (io0 : List Addr) (J : It) (ds : List D) : Prop where
  go : ∀ (i : Nat) H, i < ds.length → Same G0 H → (∀ b u, Z b = some u → H b = some u) → J.go i H
  stop : ∀ H, Same G0 H → (∀ b u, Z b = some u → H b = some u) → J.stop ds.length H
  yld : ∀ (i : Nat) H v H' d, Same G0 H → (∀ b u, Z b = some u → H b = some u) → ds[i]? = some d → J.yld i H v H' →
    (H' = H ∧ (∀ G io, Same G0 G → Pre io0 io → Rp x G io d v)) ∨ ∃ p vs es, H p = none ∧ H' = upd H p (.tup vs) ∧ v = .ref p ∧ d = .tup es ∧ ∀ G io, Same G0 G → Pre io0 io → RpL x G io es vs
def PostI (x : SX) (F : Fr) (W : WX) (G : Hp) (io : List Addr) (o : Res) (σ : L2.St) (R : It → Hp → Prop) : Prop :=
  match o with
  | some (.vals ds, s) => ∀ J H' G' io', Same G G' → Pre io io' → StR x F s G' io' σ H' → WalkD x (zOf H') G' io' J ds → R J H'
  | some (.exc c ns ds, s) => ∀ cls dd H' G' io', Same G G' → Pre io io' → StR x F s G' io' σ H' → ExcR x G' io' c ns ds cls dd H' → W cls dd σ H'
  | _ => False
def rdI (T : Tb) (F : Fr) (W : WX) (c : E) : TI := fun σ H R => ∃ s G io, StR T.x F s G io σ H ∧ PostI T.x F W G io (ev T.P T.Gm c s) σ R
def tgIx : E → List Nat
  | .tn i => [i]
  | .tt is => is
  | _ => []
theorem wipe_set {σ : L2.St} {i : Nat} {v : Option V} : ∀ {js : List Nat}, i ∈ js → wipe (σ.set i v) js = wipe σ js
  | [], h => by cases h
  | j :: js, h => by
    have key : ∀ (js : List Nat) (σ : L2.St) (v : Option V), (wipe (σ.set i v) js).set i none = (wipe σ js).set i none := by
      intro js
      induction js with
      | nil => intro σ v; simp [wipe]
      | cons k js ih =>
        intro σ v
        unfold wipe
        by_cases hk : k = i
        · subst hk
          rw [List.set_set, List.set_set]
          exact ih σ v
        · rw [List.set_comm _ _ hk, List.set_comm _ _ hk, ih σ v]
    by_cases hj : i ∈ js
    · unfold wipe
      rw [wipe_set hj]
    · have e : i = j := by
        rcases List.mem_cons.mp h with h | h
        · exact h
        · exact absurd h hj
      subst e
      unfold wipe
      exact key js σ v
def rdG (T : Tb) (F : Fr) (c : E) : TG := fun v σ H Q => ∃ s G io d s', StR T.x F s G io σ H ∧ Rp T.x G io d v ∧ store c d s = some s' ∧ ∀ σ', StR T.x F s' G io σ' H → (∀ js, (∀ j ∈ tgIx c, j ∈ js) → wipe σ' js = wipe σ js) → Q σ' H
def rdGs (T : Tb) (F : Fr) (is : List Nat) : TGs := fun vs σ H Q => ∃ s G io ds s', StR T.x F s G io σ H ∧ RpL T.x G io ds vs ∧ storeAll is ds s = some s' ∧ ∀ σ', StR T.x F s' G io σ' H → (∀ js, (∀ j ∈ is, j ∈ js) → wipe σ' js = wipe σ js) → Q σ' H

section
variable {x : SX} {F : Fr} {W : WX} {G G1 H : Hp} {io io1 : List Addr} {σ : L2.St} {s : S}
theorem PostI.anti {o : Res} {R : It → Hp → Prop} (h : PostI x F W G io o σ R) (a : Same G G1) (b : Pre io io1) : PostI x F W G1 io1 o σ R := by
  unfold PostI at h ⊢
  split at h
  · exact fun v H' G' io' c d => h v H' G' io' (a.trans c) (b.trans d)
  · exact fun v dd H' G' io' c d => h v dd H' G' io' (a.trans c) (b.trans d)
  · exact h.elim
theorem PostI.bnd {o : Res} {k : D → S → Res} {Q : It → Hp → Prop} {Q1 : VK} (h : PostI x F W G io (bnd o k) σ Q)
    (hk : ∀ d s v H' G' io', Same G G' → Pre io io' → StR x F s G' io' σ H' → Rp x G' io' d v → PostI x F W G' io' (k d s) σ Q → Q1 v H') : Post x F W G io o σ Q1 := by
  unfold Post
  split
  · exact fun v H' G' io' a b t r => hk _ _ v H' G' io' a b t r (h.anti a b)
  · rename_i o1 s
    refine fun a H' G' io' sg sp t ni ow no => ?_
    obtain ⟨G2, io2, a1, a2, a3, a4⟩ := fr_rp t ni ow no
    exact hk _ _ (.ref a) H' G2 io2 (sg.trans a1) (sp.trans a2) a3 a4 (h.anti (sg.trans a1) (sp.trans a2))
  · exact h
  · rename_i h1 h2 h3
    unfold En.bnd at h
    split at h
    · exact h1 _ _ rfl
    · exact h2 _ _ rfl
    · exact h3 _ _ _ _ rfl
    · exact h
theorem PostS.bnd {o : Res} {k : D → S → Res} {D : Ends} {Q1 : VK} (h : PostS x F W G io (bnd o k) D)
    (hk : ∀ d s v H' G' io', Same G G' → Pre io io' → StR x F s G' io' σ H' → Rp x G' io' d v → PostS x F W G' io' (k d s) D → Q1 v H') : Post x F W G io o σ Q1 := by
  unfold Post
  split
  · exact fun v H' G' io' a b t r => hk _ _ v H' G' io' a b t r (h.anti a b)
  · rename_i o1 s
    refine fun a H' G' io' sg sp t ni ow no => ?_
    obtain ⟨G2, io2, a1, a2, a3, a4⟩ := fr_rp t ni ow no
    exact hk _ _ (.ref a) H' G2 io2 (sg.trans a1) (sp.trans a2) a3 a4 (h.anti (sg.trans a1) (sp.trans a2))
  · exact fun cls dd H' G' io' a b t r => h cls dd σ H' G' io' a b t r
  · rename_i h1 h2 h3
    unfold En.bnd at h
    split at h
    · exact h1 _ _ rfl
    · exact h2 _ _ rfl
    · exact h3 _ _ _ _ rfl
    · exact h
theorem PostS.bndI {o : Res} {k : List D → S → Res} {D : Ends} {R : It → Hp → Prop} (h : PostS x F W G io (bndA o k) D)
    (hk : ∀ ds s J H' G' io', Same G G' → Pre io io' → StR x F s G' io' σ H' → WalkD x (zOf H') G' io' J ds → PostS x F W G' io' (k ds s) D → R J H') : PostI x F W G io o σ R := by
  unfold PostI
  split
  · exact fun v H' G' io' a b t r => hk _ _ v H' G' io' a b t r (h.anti a b)
  · exact fun cls dd H' G' io' a b t r => h cls dd σ H' G' io' a b t r
  · rename_i h1 h3
    unfold En.bndA at h
    split at h
    · exact h1 _ _ rfl
    · exact h3 _ _ _ _ rfl
    · exact h
theorem Post.bndI {o : Res} {k : List D → S → Res} {Q : VK} {R : It → Hp → Prop} (h : Post x F W G io (En.bndA o k) σ Q)
    (hk : ∀ ds s J H' G' io', Same G G' → Pre io io' → StR x F s G' io' σ H' → WalkD x (zOf H') G' io' J ds → Post x F W G' io' (k ds s) σ Q → R J H') : PostI x F W G io o σ R := by
  unfold PostI
  split
  · exact fun v H' G' io' a b t r => hk _ _ v H' G' io' a b t r (h.anti a b)
  · exact h
  · rename_i h1 h3
    unfold En.bndA at h
    split at h
    · exact h1 _ _ rfl
    · exact h3 _ _ _ _ rfl
    · exact h
/-- a slot is stored -/
theorem StR.setv {i : Nat} {d : D} {v : V} (t : StR x F s G io σ H) (r : Rp x G io d v) : StR x F (s.set i (some (.val d))) G io (σ.set i (some v)) H where
  gh := t.gh
  len := by simp [S.set, t.len]
  slot := fun j c e => by
    have e : (s.r.set i (some (.val d)))[j]? = some (some c) := e
    by_cases hj : i = j
    · subst hj
      by_cases hi : i < s.r.length
      · rw [List.getElem?_set_self hi] at e
        cases e
        refine ⟨v, ?_, r⟩
        rw [List.getElem?_set_self (by rw [← t.len]; exact hi)]
      · rw [List.getElem?_eq_none (by simpa using hi)] at e; cases e
    · rw [List.getElem?_set_ne hj] at e
      obtain ⟨w, e1, q⟩ := t.slot j c e
      exact ⟨w, by rw [List.getElem?_set_ne hj]; exact e1, q⟩
  own := fun j k c c' w hjk e1 e2 o1 o2 z1 z2 => by
    have e1 : (s.r.set i (some (.val d)))[j]? = some (some c) := e1
    have e2 : (s.r.set i (some (.val d)))[k]? = some (some c') := e2
    have nv : ∀ {j : Nat} {c : Cell}, (s.r.set i (some (.val d)))[j]? = some (some c) → isOwn c = true → i ≠ j := fun {j c} e o z => by
      subst z
      by_cases hi : i < s.r.length
      · rw [List.getElem?_set_self hi] at e; cases e; cases o
      · rw [List.getElem?_eq_none (by simpa using hi)] at e; cases e
    have h1 := nv e1 o1
    have h2 := nv e2 o2
    rw [List.getElem?_set_ne h1] at e1 z1
    rw [List.getElem?_set_ne h2] at e2 z2
    exact t.own j k c c' w hjk e1 e2 o1 o2 z1 z2
  mem := t.mem
  kh := t.kh
  kg := t.kg
  ki := t.ki
  ni := t.ni
  zl := t.zl
/-- what is known of slots is forgotten -/
theorem StR.weak {r' : List (Option Cell)} (t : StR x F s G io σ H) (hl : r'.length = s.r.length) (h : ∀ (i : Nat) c, r'[i]? = some (some c) → s.r[i]? = some (some c)) : StR x F { s with r := r' } G io σ H where
  gh := t.gh
  len := hl.trans t.len
  slot := fun i c e => t.slot i c (h i c e)
  own := fun i j c c' v a e1 e2 => t.own i j c c' v a (h i c e1) (h j c' e2)
  mem := t.mem
  kh := t.kh
  kg := t.kg
  ki := t.ki
  ni := t.ni
  zl := t.zl
end

/-! ### targets -/
section
variable {T : Tb} {cc : CC} {X : Cx} {W : WX} {F : Fr}
theorem g_name (o : XOk T cc X W) {i : Nat} {y : Str} {p : Pos} (h : tgt cc i y = true) : PG X (.Name y p) (rdG T F (.tn i)) := by
  obtain ⟨h1, h2, h3⟩ := o.tgt h
  refine PG.wk (pg_name (i := i) o.nd h1 h2 h3) fun v σ H Q hq => ?_
  obtain ⟨s, G, io, d, s', t, r, e, q⟩ := hq
  cases e
  exact q _ (t.setv r) fun js hj => wipe_set (hj i (by simp [tgIx]))
def tgtAll (cc : CC) : List Nat → List Expr → Bool
  | [], [] => true
  | i :: is, .Name y _ :: es => tgt cc i y && tgtAll cc is es
  | _, _ => false
theorem g_names (o : XOk T cc X W) : ∀ {is : List Nat} {es : List Expr}, tgtAll cc is es = true → PGs X es (rdGs T F is)
  | [], [], _ => PGs.wk pgs_nil fun v σ H Q hq => by
    obtain ⟨s, G, io, ds, s', t, r, e, q⟩ := hq
    cases ds with
    | nil =>
      cases e
      exact ⟨r, q σ t fun _ _ => rfl⟩
    | cons _ _ => cases e
  | i :: is, e :: es, h => by
    cases e with
    | Name y p =>
      rw [tgtAll, Bool.and_eq_true] at h
      refine PGs.wk (pgs_cons (g_name (F := F) o h.1) (g_names o h.2)) fun v σ H Q hq => ?_
      obtain ⟨s, G, io, ds, s', t, r, e, q⟩ := hq
      cases ds with
      | nil => cases e
      | cons d ds =>
        obtain ⟨v, rest, rfl, r1, r2⟩ := r
        exact ⟨v, rest, rfl, s, G, io, d, _, t, r1, rfl, fun σ' t' w => ⟨_, G, io, ds, s', t', r2, e, fun σ2 t2 w2 => q σ2 t2 fun js hj => (w2 js fun j h => hj j (List.mem_cons_of_mem _ h)).trans (w js fun j h => hj j (by simp [tgIx] at h; subst h; exact List.mem_cons_self))⟩⟩
    | _ => cases h
  | [], _ :: _, h => by cases h
  | _ :: _, [], h => by cases h
theorem asg_len {env : Env} {cc : CC} : ∀ {is : List Nat} {es : List Expr}, tgtAll cc is es = true → (assignEach es env).length = is.length ∧ List.findIdx? (fun x => x.1) (assignEach es env) = none
  | [], [], _ => ⟨rfl, rfl⟩
  | i :: is, e :: es, h => by
    cases e with
    | Name y p =>
      rw [tgtAll, Bool.and_eq_true] at h
      obtain ⟨a, b⟩ := asg_len (env := env) h.2
      refine ⟨by simp only [assignEach, List.length_cons, a], ?_⟩
      simp only [assignEach, List.findIdx?_cons, b]
      rfl
    | _ => cases h
  | [], _ :: _, h => by cases h
  | _ :: _, [], h => by cases h
theorem storeAll_len : ∀ {is : List Nat} {ds : List D} {s s' : S}, storeAll is ds s = some s' → ds.length = is.length
  | [], [], _, _, _ => rfl
  | i :: is, d :: ds, _, _, h => by rw [List.length_cons, List.length_cons, storeAll_len (is := is) h]
  | [], _ :: _, _, _, h => by cases h
  | _ :: _, [], _, _, h => by cases h
theorem g_tup (o : XOk T cc X W) {is : List Nat} {es : List Expr} {k : Nat} {p : Pos} (h : tgtAll cc is es = true) : PG X (.Tuple es k p) (rdG T F (.tt is)) := by
  refine PG.wk (PG.or (pg_tup (n := is.length) o.calm (g_names (F := F) o h) (asg_len h).1 (asg_len h).2) (pg_lst (n := is.length) o.calm (g_names (F := F) o h) (asg_len h).1 (asg_len h).2)) fun v σ H Q hq => ?_
  obtain ⟨s, G, io, d, s', t, r, e, q⟩ := hq
  cases d with
  | tup ds =>
    obtain ⟨a, vs, rfl, q1, rr⟩ := r
    exact .inl ⟨a, vs, rfl, by rw [o.K]; exact Same.tup t.gh q1, by rw [rr.length, storeAll_len e], s, G, io, ds, s', t, rr, e, q⟩
  | lst ds =>
    obtain ⟨a, vs, rfl, q1, rr⟩ := r
    exact .inr ⟨a, vs, rfl, .of (t.gh _ _ q1), by rw [rr.length, storeAll_len e], s, G, io, ds, s', t, rr, e, q⟩
  | _ => cases e
end
end En

namespace En
open PySem PySem.Spec L2
section
variable {T : Tb} {cc : CC} {X : Cx} {W : WX} {F : Fr} {e l r c : Expr} {es : List Expr} {a b : E} {pos : Pos}
/-! ### names, constants -/
theorem s_var (o : XOk T cc X W) {i : Nat} {y : Str} (h : vis cc i y = true) : PE X (.Name y pos) (rd T F W (.var i)) := by
  obtain ⟨h1, h2, h3, h4⟩ := o.vis h
  refine PE.wk (pe_var h1 h2 h3 h4) fun σ H Q hq => ?_
  obtain ⟨s, G, io, t, hp⟩ := hq
  simp only [ev] at hp
  split at hp
  · rename_i d hd
    obtain ⟨v, e1, q⟩ := t.slot i _ hd
    exact ⟨v, e1, hp.v t q⟩
  · exact hp.elim
theorem s_mv (o : XOk T cc X W) {i : Nat} {y : Str} (h : vis cc i y = true) : PE X (.Name y pos) (rd T F W (.mv i)) := by
  obtain ⟨h1, h2, h3, h4⟩ := o.vis h
  refine PE.wk (pe_var h1 h2 h3 h4) fun σ H Q hq => ?_
  obtain ⟨s, G, io, t, hp⟩ := hq
  simp only [ev] at hp
  split at hp
  · rename_i ds hd
    obtain ⟨v, e1, a, rfl, q1, q2⟩ := t.slot i _ hd
    refine ⟨_, e1, hp a H G io (Same.refl _) (Pre.refl _) (t.weak (by simp) fun j c e => ?_) q1 q2.o fun j c e ho z => ?_⟩
    · by_cases hj : i = j
      · subst hj
        by_cases hi : i < s.r.length
        · rw [List.getElem?_set_self hi] at e; cases e
        · rw [List.getElem?_eq_none (by simpa using hi)] at e; cases e
      · rw [List.getElem?_set_ne hj] at e; exact e
    · have e : (s.r.set i none)[j]? = some (some c) := e
      by_cases hj : i = j
      · subst hj
        by_cases hi : i < s.r.length
        · rw [List.getElem?_set_self hi] at e; cases e
        · rw [List.getElem?_eq_none (by simpa using hi)] at e; cases e
      · rw [List.getElem?_set_ne hj] at e
        exact t.own i j _ _ _ hj hd e rfl ho e1 z
  · exact hp.elim
theorem s_cst {d : D} {k : Const} {j : Nat} (h : (match d, k with
    | .non, .none => true
    | .bl b, .bool c => b == c
    | .int i, .int m => i == m
    | .str x, .str y => decide (x = y)
    | _, _ => false) = true) : PE X (.Constant k j pos) (rd T F W (.cst d)) := by
  have fin : ∀ {v : V}, (∀ G io, Rp T.x G io d v) → flat d = true → ∀ σ H Q, rd T F W (.cst d) σ H Q → Q v H := fun {v} r f σ H Q hq => by
    obtain ⟨s, G, io, t, hp⟩ := hq
    simp only [ev, f, if_true] at hp
    exact hp.v t (r _ _)
  split at h
  · exact PE.wk pe_non (fin (fun _ _ => rfl) rfl)
  · have e := eq_of_beq h
    subst e
    exact PE.wk pe_bl (fin (fun _ _ => rfl) rfl)
  · have e := eq_of_beq h
    subst e
    exact PE.wk pe_int (fin (fun _ _ => rfl) rfl)
  · have e := of_decide_eq_true h
    subst e
    exact PE.wk pe_str (fin (fun _ _ => rfl) rfl)
  · cases h
theorem s_gv (o : XOk T cc X W) (t : TOk T) {g : Nat} {y : Str} (h : glo cc y = true) (hn : T.nt.gvn g = y) (h0 : y ≠ "") : PE X (.Name y pos) (rd T F W (.gv g)) := by
  obtain ⟨h1, h2, _⟩ := o.glo h
  obtain ⟨u, v, e1, e2, e3⟩ := t.gv g (by rw [hn]; exact h0)
  rw [hn, ← o.mg] at e1
  refine PE.wk (pe_glob h1 e1 e2 h2) fun σ H Q hq => ?_
  obtain ⟨s, G, io, t, hp⟩ := hq
  exact hp.v t (e3 G io)
/-! ### operators -/
theorem s_bop (o : XOk T cc X W) {op : Bop} (ha : PE X l (rd T F W a)) (hb : PE X r (rd T F W b)) : PE X (.BinOp l (opOf op) r pos) (rd T F W (.bop op a b)) := by
  refine PE.wk (pe_op (bop_ok (F := F) (W := W) o.K op) ha hb) fun σ H Q ⟨s, G, io, t, hp⟩ => ⟨s, G, io, t, ?_⟩
  refine Post.bnd hp fun d s v H1 G1 io1 sg si t1 r1 hp1 => ⟨s, G1, io1, t1, ?_⟩
  refine Post.bnd hp1 fun d2 s2 v2 H2 G2 io2 sg2 si2 t2 r2 hp2 => ?_
  exact ⟨σ, s2, G2, io2, d, d2, t2, r1.mono sg2 si2, r2, hp2⟩
theorem s_neg (o : XOk T cc X W) (ha : PE X l (rd T F W a)) : PE X (.UnaryOp .USub l pos) (rd T F W (.neg a)) := by
  refine PE.wk (pe_un un_neg ha) fun σ H Q ⟨s, G, io, t, hp⟩ => ⟨s, G, io, t, ?_⟩
  refine Post.bnd hp fun d s v H1 G1 io1 sg si t1 r1 hp1 => ?_
  split at hp1
  · rename_i i
    exact ⟨i, r1, hp1.v t1 rfl⟩
  · exact hp1.elim
theorem s_nt (ha : PE X l (rd T F W a)) : PE X (.UnaryOp .Not l pos) (rd T F W (.nt a)) := by
  refine PE.wk (pe_not ha) fun σ H Q ⟨s, G, io, t, hp⟩ => ⟨s, G, io, t, ?_⟩
  refine Post.bnd hp fun d s v H1 G1 io1 sg si t1 r1 hp1 => ?_
  split at hp1
  · rename_i i
    exact ⟨i, r1, hp1.v t1 rfl⟩
  · exact hp1.elim
theorem t_nt (ha : PT X l (rdT T F W a)) : PT X (.UnaryOp .Not l pos) (rdT T F W (.nt a)) := by
  refine PT.wk (pt_not ha) fun σ H Q ⟨s, G, io, t, hp⟩ => ⟨s, G, io, t, ?_⟩
  refine Post.bnd hp fun d s v H1 G1 io1 sg si t1 r1 hp1 => ?_
  split at hp1
  · rename_i i
    obtain ⟨b, e, q⟩ := hp1.v t1 rfl
    cases e
    exact ⟨i, r1, q⟩
  · exact hp1.elim
theorem s_band {es : List Expr} (ha : PE X l (rd T F W a)) (hb : PE X (.BoolOp .And (r :: es) pos) (rd T F W b)) : PE X (.BoolOp .And (l :: r :: es) pos) (rd T F W (.band a b)) := by
  refine PE.wk (pe_and ha hb) fun σ H Q ⟨s, G, io, t, hp⟩ => ⟨s, G, io, t, ?_⟩
  refine Post.bnd hp fun d s v H1 G1 io1 sg si t1 r1 hp1 => ?_
  split at hp1
  · rename_i k
    refine ⟨k, r1, ?_⟩
    cases k with
    | true => exact iteT ⟨s, G1, io1, t1, hp1⟩
    | false => exact iteF (hp1.v t1 rfl)
  · exact hp1.elim
theorem s_bor {es : List Expr} (ha : PE X l (rd T F W a)) (hb : PE X (.BoolOp .Or (r :: es) pos) (rd T F W b)) : PE X (.BoolOp .Or (l :: r :: es) pos) (rd T F W (.bor a b)) := by
  refine PE.wk (pe_or ha hb) fun σ H Q ⟨s, G, io, t, hp⟩ => ⟨s, G, io, t, ?_⟩
  refine Post.bnd hp fun d s v H1 G1 io1 sg si t1 r1 hp1 => ?_
  split at hp1
  · rename_i k
    refine ⟨k, r1, ?_⟩
    cases k with
    | true => exact iteT (hp1.v t1 rfl)
    | false => exact iteF ⟨s, G1, io1, t1, hp1⟩
  · exact hp1.elim
theorem w_band {es : List Expr} (ha : PT X l (rdT T F W a)) (hb : PW X (.BoolOp .And (r :: es) pos) (rdT T F W b)) : PW X (.BoolOp .And (l :: r :: es) pos) (rdT T F W (.band a b)) := by
  refine PW.wk (pw_and ha hb) fun σ H Q ⟨s, G, io, t, hp⟩ => ⟨s, G, io, t, ?_⟩
  refine Post.bnd hp fun d s v H1 G1 io1 sg si t1 r1 hp1 => ?_
  split at hp1
  · rename_i k
    refine ⟨k, r1, ?_⟩
    cases k with
    | true => exact iteT ⟨s, G1, io1, t1, hp1⟩
    | false =>
      obtain ⟨b, e, q⟩ := hp1.v t1 rfl
      cases e
      exact iteF q
  · exact hp1.elim
theorem w_bor {es : List Expr} (ha : PT X l (rdT T F W a)) (hb : PW X (.BoolOp .Or (r :: es) pos) (rdT T F W b)) : PW X (.BoolOp .Or (l :: r :: es) pos) (rdT T F W (.bor a b)) := by
  refine PW.wk (pw_or ha hb) fun σ H Q ⟨s, G, io, t, hp⟩ => ⟨s, G, io, t, ?_⟩
  refine Post.bnd hp fun d s v H1 G1 io1 sg si t1 r1 hp1 => ?_
  split at hp1
  · rename_i k
    refine ⟨k, r1, ?_⟩
    cases k with
    | true =>
      obtain ⟨b, e, q⟩ := hp1.v t1 rfl
      cases e
      exact iteT q
    | false => exact iteF ⟨s, G1, io1, t1, hp1⟩
  · exact hp1.elim
theorem w_one_and (ha : PT X l (rdT T F W a)) : PW X (.BoolOp .And [l] pos) (rdT T F W (.one a)) := pw_and1 ha
theorem w_one_or (ha : PT X l (rdT T F W a)) : PW X (.BoolOp .Or [l] pos) (rdT T F W (.one a)) := pw_or1 ha
theorem s_one {op : BoolOp} (ha : PE X l (rd T F W a)) : PE X (.BoolOp op [l] pos) (rd T F W (.one a)) := pe_one ha
theorem s_ite {k : E} (hc : PT X c (rdT T F W k)) (ha : PE X l (rd T F W a)) (hb : PE X r (rd T F W b)) : PE X (.IfExp c l r pos) (rd T F W (.ite k a b)) := by
  refine PE.wk (pe_ifExp hc ha hb) fun σ H Q ⟨s, G, io, t, hp⟩ => ⟨s, G, io, t, ?_⟩
  refine Post.bnd hp fun d s v H1 G1 io1 sg si t1 r1 hp1 => ?_
  split at hp1
  · rename_i k
    refine ⟨k, r1, ?_⟩
    cases k with
    | true => exact iteT ⟨s, G1, io1, t1, hp1⟩
    | false => exact iteF ⟨s, G1, io1, t1, hp1⟩
  · exact hp1.elim
/-- a test of any other form -/
theorem t_plain (ha : PE X e (rd T F W a)) (h : plainT e = true) : PT X e (rdT T F W a) := pt_val ha (isTrue_plain h)
/-! ### comparisons -/
theorem s_cmp (o : XOk T cc X W) {op : Cop} (hm : isSet r = false) (ha : PE X l (rd T F W a)) (hb : PE X r (rd T F W b)) : PE X (.Compare l [copOf op] [r] pos) (rd T F W (.cmp op a b)) := by
  refine PE.wk (pe_cmpR (cmp_ok (F := F) o.K o.hu op) ha hb (marks_no hm)) fun σ H Q ⟨s, G, io, t, hp⟩ => ⟨s, G, io, t, ?_⟩
  refine Post.bnd hp fun d s v H1 G1 io1 sg si t1 r1 hp1 => ⟨s, G1, io1, t1, ?_⟩
  refine Post.bnd hp1 fun d2 s2 v2 H2 G2 io2 sg2 si2 t2 r2 hp2 => ?_
  cases hc : cmpF op d d2 s2 with
  | none => rw [hc] at hp2; exact hp2.elim
  | some k =>
    rw [hc] at hp2
    exact ⟨σ, s2, G2, io2, d, d2, k, t2, r1.mono sg2 si2, r2, hc, hp2.v t2 rfl⟩
theorem t_cmp (o : XOk T cc X W) {op : Cop} (hm : isSet r = false) (ha : PE X l (rd T F W a)) (hb : PE X r (rd T F W b)) : PT X (.Compare l [copOf op] [r] pos) (rdT T F W (.cmp op a b)) := by
  refine PT.wk (pt_cmpR (cmp_ok (F := F) o.K o.hu op) ha hb (marks_no hm)) fun σ H Q ⟨s, G, io, t, hp⟩ => ⟨s, G, io, t, ?_⟩
  refine Post.bnd hp fun d s v H1 G1 io1 sg si t1 r1 hp1 => ⟨s, G1, io1, t1, ?_⟩
  refine Post.bnd hp1 fun d2 s2 v2 H2 G2 io2 sg2 si2 t2 r2 hp2 => ?_
  cases hc : cmpF op d d2 s2 with
  | none => rw [hc] at hp2; exact hp2.elim
  | some k =>
    rw [hc] at hp2
    exact ⟨σ, s2, G2, io2, d, d2, k, t2, r1.mono sg2 si2, r2, hc, hp2.v t2 rfl⟩
theorem isn_key {σ : L2.St} {H : Hp} {Q : VK} (hq : rd T F W (.isn a) σ H Q) : tIsN (rd T F W a) σ H Q := by
  obtain ⟨s, G, io, t, hp⟩ := hq
  refine ⟨s, G, io, t, ?_⟩
  refine Post.bnd hp fun d s v H1 G1 io1 sg si t1 r1 hp1 => ?_
  have key : ∀ b, (decide (v = V.non)) = b → Post T.x F W G1 io1 (some (.val (.bl b), s)) σ Q → Q (.bl (decide (v = V.non))) H1 := fun b e h => by rw [e]; exact h.v t1 rfl
  split at hp1
  · cases (show v = .non from r1)
    exact hp1.v t1 rfl
  · rename_i hd
    refine key false (decide_eq_false fun z => ?_) hp1
    subst z
    cases d with
    | non => exact hd rfl
    | bl b => cases r1
    | int b => cases r1
    | str b => cases r1
    | lst ds => obtain ⟨_, _, z, _⟩ := r1; cases z
    | fzl ds => obtain ⟨_, _, z, _⟩ := r1; cases z
    | tup ds => obtain ⟨_, _, z, _⟩ := r1; cases z
    | dct ks ds => obtain ⟨_, _, _, z, _⟩ := r1; cases z
    | obj k ns ds => obtain ⟨_, _, _, _, z, _⟩ := r1; cases z
    | adr n => obtain ⟨_, z, _⟩ := r1; cases z
theorem nin_key {σ : L2.St} {H : Hp} {Q : VK} (hq : rd T F W (.nin a) σ H Q) : tNotN (rd T F W a) σ H Q := by
  obtain ⟨s, G, io, t, hp⟩ := hq
  refine ⟨s, G, io, t, ?_⟩
  refine Post.bnd hp fun d s v H1 G1 io1 sg si t1 r1 hp1 => ?_
  have key : ∀ b, (!decide (v = V.non)) = b → Post T.x F W G1 io1 (some (.val (.bl b), s)) σ Q → Q (.bl (!decide (v = V.non))) H1 := fun b e h => by rw [e]; exact h.v t1 rfl
  split at hp1
  · cases (show v = .non from r1)
    exact hp1.v t1 rfl
  · rename_i hd
    refine key true (by
      rw [decide_eq_false fun z => ?_]; rfl
      subst z
      cases d with
      | non => exact hd rfl
      | bl b => cases r1
      | int b => cases r1
      | str b => cases r1
      | lst ds => obtain ⟨_, _, z, _⟩ := r1; cases z
      | fzl ds => obtain ⟨_, _, z, _⟩ := r1; cases z
      | tup ds => obtain ⟨_, _, z, _⟩ := r1; cases z
      | dct ks ds => obtain ⟨_, _, _, z, _⟩ := r1; cases z
      | obj k ns ds => obtain ⟨_, _, _, _, z, _⟩ := r1; cases z
      | adr n => obtain ⟨_, z, _⟩ := r1; cases z) hp1
theorem s_isn (ha : PE X l (rd T F W a)) {j : Nat} {p' : Pos} : PE X (.Compare l [.Is] [.Constant .none j p'] pos) (rd T F W (.isn a)) := PE.wk (pe_cmp (pc_isN ha) rfl) fun σ H Q hq => isn_key hq
theorem s_nin (ha : PE X l (rd T F W a)) {j : Nat} {p' : Pos} : PE X (.Compare l [.IsNot] [.Constant .none j p'] pos) (rd T F W (.nin a)) := PE.wk (pe_cmp (pc_notN ha) rfl) fun σ H Q hq => nin_key hq
theorem s_isn2 (ha : PE X l (rd T F W a)) {j : Nat} {p' : Pos} : PE X (.Compare l [.Is] [.Constant .none j p'] pos) (rd T F W (.isn a)) ∧ PT X (.Compare l [.Is] [.Constant .none j p'] pos) (rdT T F W (.isn a)) :=
  ⟨s_isn ha, PT.wk (pt_cmp (pc_isN ha) rfl) fun σ H Q hq => isn_key hq⟩
theorem s_nin2 (ha : PE X l (rd T F W a)) {j : Nat} {p' : Pos} : PE X (.Compare l [.IsNot] [.Constant .none j p'] pos) (rd T F W (.nin a)) ∧ PT X (.Compare l [.IsNot] [.Constant .none j p'] pos) (rdT T F W (.nin a)) :=
  ⟨s_nin ha, PT.wk (pt_cmp (pc_notN ha) rfl) fun σ H Q hq => nin_key hq⟩
/-- a comparison as a test by its value -/
theorem t_of_cmp {op : CmpOp} (h : PC X op l r (rd T F W a)) (h1 : behindInMarks op r = false) : PT X (.Compare l [op] [r] pos) (rdT T F W a) := pt_cmp h h1
end
end En

namespace En
open PySem PySem.Spec L2
theorem lastMarks_no {o p : CmpOp} {l r : Expr} (h : isSet r = false) : lastMarks [o, p] [l, r] = false := marks_no h
section
variable {T : Tb} {cc : CC} {X : Cx} {W : WX} {F : Fr} {e l r c : Expr} {es : List Expr} {a b : E} {pos : Pos}
theorem s_chn (o : XOk T cc X W) {op op2 : Cop} {k : E} (hm : isSet c = false) (ha : PE X l (rd T F W a)) (hb : PE X r (rd T F W b)) (hc : PE X c (rd T F W k)) :
    PE X (.Compare l [copOf op, copOf op2] [r, c] pos) (rd T F W (.chn op op2 a b k)) ∧ PT X (.Compare l [copOf op, copOf op2] [r, c] pos) (rdT T F W (.chn op op2 a b k)) := by
  have key : ∀ σ H Q, rd T F W (.chn op op2 a b k) σ H Q → tChain (rC T.x F op) (rC T.x F op2) (rd T F W a) (rd T F W b) (rd T F W k) σ H Q := fun σ H Q ⟨s, G, io, t, hp⟩ => ⟨s, G, io, t, by
    refine Post.bnd hp fun d s v H1 G1 io1 sg si t1 r1 hp1 => ⟨s, G1, io1, t1, ?_⟩
    refine Post.bnd hp1 fun d2 s2 v2 H2 G2 io2 sg2 si2 t2 r2 hp2 => ?_
    split at hp2
    · rename_i hcm
      refine ⟨σ, s2, G2, io2, d, d2, true, t2, r1.mono sg2 si2, r2, hcm, true, rfl, iteT ⟨s2, G2, io2, t2, ?_⟩⟩
      refine Post.bnd hp2 fun d3 s3 v3 H3 G3 io3 sg3 si3 t3 r3 hp3 => ?_
      cases hc3 : cmpF op2 d2 d3 s3 with
      | none => rw [hc3] at hp3; exact hp3.elim
      | some q =>
        rw [hc3] at hp3
        exact ⟨σ, s3, G3, io3, d2, d3, q, t3, r2.mono sg3 si3, r3, hc3, hp3.v t3 rfl⟩
    · rename_i hcm
      exact ⟨σ, s2, G2, io2, d, d2, false, t2, r1.mono sg2 si2, r2, hcm, false, rfl, iteF (hp2.v t2 rfl)⟩
    · exact hp2.elim⟩
  refine ⟨PE.wk (pe_chain (cmp_ok (F := F) o.K o.hu op) (cmp_ok (F := F) o.K o.hu op2) ha hb hc (lastMarks_no hm)) key, PT.wk (pt_chain (cmp_ok (F := F) o.K o.hu op) (cmp_ok (F := F) o.K o.hu op2) ha hb hc (lastMarks_no hm)) fun σ H Q hq => ?_⟩
  exact key σ H _ hq
theorem s_ix (o : XOk T cc X W) (hs : PlainIx r) (ha : PE X l (rd T F W a)) (hb : PE X r (rd T F W b)) : PE X (.Subscript l r pos) (rd T F W (.ix a b)) := by
  refine PE.wk (pe_ix (ix_ok (F := F) o.K o.hu) ha hb hs) fun σ H Q ⟨s, G, io, t, hp⟩ => ⟨s, G, io, t, ?_⟩
  refine Post.bnd hp fun d s v H1 G1 io1 sg si t1 r1 hp1 => ⟨s, G1, io1, t1, ?_⟩
  refine Post.bnd hp1 fun d2 s2 v2 H2 G2 io2 sg2 si2 t2 r2 hp2 => ?_
  cases hc : ixF d d2 s2 with
  | none => rw [hc] at hp2; exact hp2.elim
  | some y =>
    rw [hc] at hp2
    exact ⟨σ, s2, G2, io2, d, d2, y, t2, r1.mono sg2 si2, r2, hc, fun z rz => hp2.v t2 rz⟩
/-- a slice's part -/
def rdO (T : Tb) (F : Fr) (W : WX) (c : E) : TO := fun σ H Q => match isAbs c with
  | true => Q none H
  | false => rd T F W c σ H fun v H' => ∃ i, v = .int i ∧ Q (some i) H'
theorem o_abs : PO X none (rdO T F W .abs) := (po_none : PO X none tNoPart)
theorem o_some (h : PE X e (rd T F W a)) (hn : isAbs a = false) : PO X (some e) (rdO T F W a) := by
  have h := po_some h
  exact ⟨fun pins s σ H Q I q => h.run pins s σ H Q I (by
    unfold rdO at q
    rw [hn] at q
    exact q)⟩
theorem part_step {G H : Hp} {io : List Addr} {σ : L2.St} {s : S} {k : Option Int → S → Res} {Q : VK} {R : Option Int → Hp → Prop} (t : StR T.x F s G io σ H) (hp : Post T.x F W G io (prt (isAbs a) (ev T.P T.Gm a s) s k) σ Q)
    (hk : ∀ l s' H' G' io', Same G G' → Pre io io' → StR T.x F s' G' io' σ H' → Post T.x F W G' io' (k l s') σ Q → R l H') : rdO T F W a σ H R := by
  unfold rdO
  unfold prt at hp
  cases h : isAbs a with
  | true =>
    rw [h] at hp
    exact hk none s H G io (Same.refl _) (Pre.refl _) t hp
  | false =>
    rw [h] at hp
    refine ⟨s, G, io, t, ?_⟩
    refine Post.bnd hp fun d s v H1 G1 io1 sg si t1 r1 hp1 => ?_
    split at hp1
    · rename_i i
      exact ⟨i, r1, hk _ _ _ _ _ sg si t1 hp1⟩
    · exact hp1.elim
theorem s_sl (o : XOk T cc X W) {lo hi : E} {p2 : Pos} {ol oh : Option Expr} (ha : PE X l (rd T F W a)) (hl : PO X ol (rdO T F W lo)) (hh : PO X oh (rdO T F W hi)) : PE X (.Subscript l (.Slice ol oh none p2) pos) (rd T F W (.sl a lo hi)) := by
  refine PE.wk (pe_slice (sl_ok (F := F) (W := W) o.K) ha hl hh) fun σ H Q ⟨s, G, io, t, hp⟩ => ⟨s, G, io, t, ?_⟩
  refine Post.bnd hp fun d s v H1 G1 io1 sg si t1 r1 hp1 => ?_
  refine part_step t1 hp1 fun l s2 H2 G2 io2 sg2 si2 t2 hp2 => ?_
  refine part_step t2 hp2 fun h s3 H3 G3 io3 sg3 si3 t3 hp3 => ?_
  exact ⟨σ, s3, G3, io3, d, t3, (r1.mono sg2 si2).mono sg3 si3, hp3⟩
/-! ### arguments, displays -/
theorem a_nil : PA X [] (rdA T F W .nil) := PA.wk pa_nil fun σ H Q ⟨s, G, io, t, hp⟩ => hp [] H G io (Same.refl _) (Pre.refl _) t .nil
theorem a_cns {es : List Expr} (hs : isStar e = false) (ha : PE X e (rd T F W a)) (hb : PA X es (rdA T F W b)) : PA X (e :: es) (rdA T F W (.cns a b)) := by
  refine PA.wk (pa_cons ha hb (star_no hs)) fun σ H Q ⟨s, G, io, t, hp⟩ => ⟨s, G, io, t, ?_⟩
  refine PostA.bnd hp fun d s v H1 G1 io1 sg si t1 r1 hp1 => ⟨s, G1, io1, t1, ?_⟩
  refine PostA.bndA hp1 fun ds s2 vs H2 G2 io2 sg2 si2 t2 r2 hp2 => ?_
  exact hp2 _ H2 G2 io2 (Same.refl _) (Pre.refl _) t2 (.cons (r1.mono sg2 si2) r2)
theorem s_lst {es : List Expr} (ha : PA X es (rdA T F W a)) : PE X (.List es pos) (rd T F W (.lst a)) := by
  refine PE.wk (pe_lst ha) fun σ H Q ⟨s, G, io, t, hp⟩ => ⟨s, G, io, t, ?_⟩
  refine Post.bndA hp fun ds s vs H1 G1 io1 sg si t1 r1 hp1 => ?_
  split at hp1
  · rename_i hl
    exact ⟨by rw [r1.length]; exact big_line hl, hp1.f t1 r1⟩
  · exact hp1.elim
theorem s_tpl {es : List Expr} {k : Nat} (ha : PA X es (rdA T F W a)) : PE X (.Tuple es k pos) (rd T F W (.tpl a)) := by
  refine PE.wk (pe_tup ha) fun σ H Q ⟨s, G, io, t, hp⟩ => ⟨s, G, io, t, ?_⟩
  refine Post.bndA hp fun ds s vs H1 G1 io1 sg si t1 r1 hp1 => ?_
  split at hp1
  · rename_i hl
    exact ⟨by rw [r1.length]; exact big_line hl, hp1.tn t1 r1⟩
  · exact hp1.elim
/-! ### built-ins -/
theorem s_bi (o : XOk T cc X W) (t : TOk T) {k : Bi} {p : Pos} {es : List Expr} (hg : glo cc (biN k) = true) (hs : (e :: es).all (fun e => !isStar e) = true) (ha : PA X (e :: es) (rdA T F W a)) :
    PE X (.Call (.Name (biN k) p) (e :: es) [] pos) (rd T F W (.bi k a)) := by
  obtain ⟨h1, h2, h3⟩ := o.glo hg
  rw [List.all_cons, Bool.and_eq_true] at hs
  have hs1 : isStar e = false := by simpa using hs.1
  have hm : X.mg (biN k) = none := o.blt t (by cases k <;> decide +kernel)
  have key : ∀ σ H Q, rd T F W (.bi k a) σ H Q → tCB (rBi T.x F W k) (rdA T F W a) σ H Q := fun σ H Q ⟨s, G, io, t, hp⟩ => ⟨s, G, io, t, by
    refine Post.bndA hp fun ds s vs H1 G1 io1 sg si t1 r1 hp1 => ?_
    exact ⟨σ, s, G1, io1, ds, t1, r1, hp1⟩⟩
  have B := bi_ok (F := F) (W := W) o.K o.calm k
  have hst := star_no (es := es) (env := X.env) hs1
  have hpl := star_any (env := X.env) (pos := pos) hs.2
  cases k with
  | len => exact PE.wk (pe_callB B h1 hm PySem.boot_len ha h3 h2 hst hpl) key
  | all => exact PE.wk (pe_callB B h1 hm (by decide +kernel) ha h3 h2 hst hpl) key
  | sorted => exact PE.wk (pe_callB B h1 hm (by decide +kernel) ha h3 h2 hst hpl) key
  | any => exact PE.wk (pe_callB B h1 hm (by decide +kernel) ha h3 h2 hst hpl) key
  | int => exact PE.wk (pe_callTy B h1 hm (by decide +kernel) ha h3 h2 hst hpl) key
  | list => exact PE.wk (pe_callTy B h1 hm (by decide +kernel) ha h3 h2 hst hpl) key
  | dict => exact PE.wk (pe_callTy B h1 hm (by decide +kernel) ha h3 h2 hst hpl) key
  | tuple => exact PE.wk (pe_callTy B h1 hm (by decide +kernel) ha h3 h2 hst hpl) key
  | str => exact PE.wk (pe_callTy B h1 hm (by decide +kernel) ha h3 h2 hst hpl) key
  | bool => exact PE.wk (pe_callTy B h1 hm (by decide +kernel) ha h3 h2 hst hpl) key
  | repr => exact PE.wk (pe_callB B h1 hm (by decide +kernel) ha h3 h2 hst hpl) key
/-- a class by its name: as a value, the name as it stands -/
def tyC (nt : NT) : Ty → Str
  | .own c => nt.cn c
  | t => tyN t
def tyW (x : SX) : Ty → V
  | .own c => .ref (x.ca c)
  | t => .ty (tyB t)
theorem tyW_cls (x : SX) (k : Ty) : ClsV (tyW x k) (tyV x k) := by
  cases k <;> first | exact .ty _ | exact .own _
theorem s_ty (o : XOk T cc X W) (t : TOk T) {k : Ty} {p : Pos} (hk : tyC T.nt k ≠ "") (hg : glo cc (tyC T.nt k) = true) : lvT T.x k = true ∧ PE X (.Name (tyC T.nt k) p) (tC (tyW T.x k)) := by
  obtain ⟨h1, h2, h3⟩ := o.glo hg
  cases k with
  | own c =>
    obtain ⟨e1, e2⟩ := t.cn c hk
    exact ⟨by show T.x.live c = true; rw [t.lv]; exact e2, pe_glob h1 (by rw [o.mg]; exact e1) rfl h2⟩
  | int => exact ⟨rfl, pe_bltn h1 (o.blt t (show ("int" : Str) ∈ bltNames by decide +kernel)) (show bootBuiltins ("int" : Str) = some (.type "int") by decide +kernel) rfl h3 h2⟩
  | bool => exact ⟨rfl, pe_bltn h1 (o.blt t (show ("bool" : Str) ∈ bltNames by decide +kernel)) (show bootBuiltins ("bool" : Str) = some (.type "bool") by decide +kernel) rfl h3 h2⟩
  | str => exact ⟨rfl, pe_bltn h1 (o.blt t (show ("str" : Str) ∈ bltNames by decide +kernel)) (show bootBuiltins ("str" : Str) = some (.type "str") by decide +kernel) rfl h3 h2⟩
  | list => exact ⟨rfl, pe_bltn h1 (o.blt t (show ("list" : Str) ∈ bltNames by decide +kernel)) (show bootBuiltins ("list" : Str) = some (.type "list") by decide +kernel) rfl h3 h2⟩
  | tuple => exact ⟨rfl, pe_bltn h1 (o.blt t (show ("tuple" : Str) ∈ bltNames by decide +kernel)) (show bootBuiltins ("tuple" : Str) = some (.type "tuple") by decide +kernel) rfl h3 h2⟩
  | dict => exact ⟨rfl, pe_bltn h1 (o.blt t (show ("dict" : Str) ∈ bltNames by decide +kernel)) (show bootBuiltins ("dict" : Str) = some (.type "dict") by decide +kernel) rfl h3 h2⟩
theorem s_isi (o : XOk T cc X W) (t : TOk T) {k : Ty} {p p2 : Pos} (hs : isStar e = false) (hi : glo cc "isinstance" = true) (hk : tyC T.nt k ≠ "") (hg : glo cc (tyC T.nt k) = true) (ha : PE X e (rd T F W a)) :
    PE X (.Call (.Name "isinstance" p) [e, .Name (tyC T.nt k) p2] [] pos) (rd T F W (.isi a [k])) := by
  obtain ⟨h1, h2, h3⟩ := o.glo hi
  obtain ⟨e1, hn⟩ := s_ty (p := p2) o t hk hg
  have hm : X.mg "isinstance" = none := o.blt t (by decide +kernel)
  refine PE.wk (pe_callB call_isi h1 hm (by decide +kernel) (pa_cons ha (pa_cons hn pa_nil) (star_no hs)) h3 h2 (star_no hs)) fun σ H Q ⟨s, G, io, st, hp⟩ => ⟨s, G, io, st, ?_⟩
  refine Post.bnd hp fun d s v H1 G1 io1 sg si t1 r1 hp1 => ?_
  cases hc : tyAny (s.v d) [k] with
  | none => rw [hc] at hp1; exact hp1.elim
  | some q =>
    rw [hc] at hp1
    obtain ⟨c, hcl⟩ := tyAny_cl (x := T.x) hc
    obtain ⟨ty, hd⟩ := tyx_of t.ko t1 r1 hcl
    have hone : PySem.W.kitOne T.x.K c (tyV T.x k) = some q := by
      simp only [tyAny] at hc
      split at hc
      · rename_i b1 b2 z1 z2
        cases hc
        cases z2
        obtain ⟨c', z3, z4⟩ := tyIs_kit t.ko hd e1 z1
        rw [hcl] at z3; cases z3
        rw [Bool.or_false]
        exact z4
      · cases hc
    rw [← o.K] at ty hone
    exact ⟨v, tyW T.x k, c, tyV T.x k, q, rfl, tyW_cls _ _, ty, hone, hp1.v t1 rfl⟩
end
end En

namespace En
open PySem PySem.Spec L2
section
variable {T : Tb} {cc : CC} {X : Cx} {W : WX} {F : Fr} {e l r c : Expr} {es : List Expr} {a b : E} {pos : Pos}
/-! ### isinstance with a tuple of classes -/
def tysAre (nt : NT) : List Ty → List Expr → Bool
  | [], [] => true
  | t :: ts, .Name y _ :: es => decide (tyC nt t = y) && decide (y ≠ "") && tysAre nt ts es
  | _, _ => false
theorem s_tys (o : XOk T cc X W) (t : TOk T) : ∀ {ts : List Ty} {es : List Expr}, tysAre T.nt ts es = true → (ts.all fun k => glo cc (tyC T.nt k)) = true → ∃ cs, PA X es (fun σ H Q => Q cs H) ∧ Paired ClsV cs (ts.map (tyV T.x)) ∧ ts.all (lvT T.x) = true
  | [], [], _, _ => ⟨[], pa_nil, .nil, rfl⟩
  | k :: ts, e :: es, h, g => by
    cases e with
    | Name y p =>
      simp only [tysAre, Bool.and_eq_true, decide_eq_true_eq] at h
      obtain ⟨⟨h1, h2⟩, h3⟩ := h
      rw [List.all_cons, Bool.and_eq_true] at g
      subst h1
      obtain ⟨cs, q1, q2, q3⟩ := s_tys o t h3 g.2
      obtain ⟨e1, hn⟩ := s_ty (p := p) o t h2 g.1
      refine ⟨tyW T.x k :: cs, PA.wk (pa_cons hn q1 (star_no rfl)) fun σ H Q hq => hq, .cons (tyW_cls _ _) q2, ?_⟩
      rw [List.all_cons, e1, q3]
      rfl
    | _ => cases h
  | [], _ :: _, h, _ => by cases h
  | _ :: _, [], h, _ => by cases h
theorem s_isis (o : XOk T cc X W) (t : TOk T) {k : Ty} {ts : List Ty} {p p2 : Pos} {es : List Expr} {j : Nat} (hs : isStar e = false) (hi : glo cc "isinstance" = true) (hk : tysAre T.nt (k :: ts) es = true) (hg : ((k :: ts).all fun k => glo cc (tyC T.nt k)) = true)
    (hl : (k :: ts).length ≤ 1000) (ha : PE X e (rd T F W a)) : PE X (.Call (.Name "isinstance" p) [e, .Tuple es j p2] [] pos) (rd T F W (.isi a (k :: ts))) := by
  obtain ⟨h1, h2, h3⟩ := o.glo hi
  obtain ⟨cs, q1, q2, q3⟩ := s_tys o t hk hg
  have hm : X.mg "isinstance" = none := o.blt t (by decide +kernel)
  refine PE.wk (pe_callB call_isiT h1 hm (by decide +kernel) (pa_cons ha (pa_cons (pe_tup q1) pa_nil) (star_no hs)) h3 h2 (star_no hs)) fun σ H Q ⟨s, G, io, st, hp⟩ => ⟨s, G, io, st, ?_⟩
  refine Post.bnd hp fun d s v H1 G1 io1 sg si t1 r1 hp1 => ?_
  cases hc : tyAny (s.v d) (k :: ts) with
  | none => rw [hc] at hp1; exact hp1.elim
  | some q =>
    rw [hc] at hp1
    have lc : cs.length ≤ sizeLine := by
      have := Paired.length q2
      rw [this, List.length_map]
      exact Nat.le_of_lt (small1000 hl)
    refine ⟨lc, fun tp hn => ?_⟩
    obtain ⟨c, hcl⟩ := tyAny_cl (x := T.x) hc
    obtain ⟨t2, sg2⟩ := t1.newfast (o := .tup cs) hn
    obtain ⟨ty, hd⟩ := tyx_of t.ko t2 (r1.mono sg2 (Pre.refl _)) hcl
    have hk2 := tyAny_kit t.ko hd hcl q3 hc
    rw [← o.K] at ty hk2
    exact ⟨v, tp, cs, c, _, q, rfl, upd_same, q2, ty, hk2, (hp1.anti sg2 (Pre.refl _)).v t2 rfl⟩
/-! ### calls of defs -/
theorem pe_callSD0 {CX : CXT} {k : Nat} {f : Addr} {fd : FuncData} {ps : List Str} {sp : Sp} {dvs : List V} {ds : List Value} {E : L2.St → XK} {x : Str} {p : Pos} (Fn : FnOk X.prog X.w X.K X.mg X.base CX k f fd ps sp) (hr : Room k X.A) (hg : Gl X x) (hm : X.mg x = some (.ref f))
    (hk : PySem.W.keepIn X.K (.ref f) = true) (hb : Binds X.K fd ps ds) (hd : Vals dvs ds) (hx : ∀ σ, PassesAt CX X σ (E σ)) (hdb : (x == ("__debug__" : Str)) = false) : PE X (.Call (.Name x p) [] [] pos) (tCallSD sp dvs E tNil) := by
  refine ⟨fun pins s σ H Q I h => ?_⟩
  refine wpAny_Call_Name_kw (ld_glob I hg hm ?_ hdb)
  exact PySem.W.callWith_K0 I.kIn hk (run_fnSD (us := []) Fn hr hb hd (hx σ) I .nil h)
/-- behind a call: what the callee promises gives what is wanted here -/
theorem post_call {f n : Nat} {σ : L2.St} {s : S} {G H : Hp} {io : List Addr} {ds : List D} {vs : List V} {Q : VK} (t : StR T.x F s G io σ H) (r : RpL T.x G io ds vs) (hn : ∀ ds m r, T.P f ds m = some r → ds.length = n) (hp : Post T.x F W G io (callF T.P f ds s) σ Q) :
    spOf T f n vs H Q (WE W σ) := by
  have hl : vs.length = n := by
    rw [r.length]
    cases hc : T.P f ds s.m with
    | none => unfold callF at hp; rw [hc] at hp; exact hp.elim
    | some q => exact hn _ _ _ hc
  refine ⟨hl, ds, s.m, G, io, t.gh, t.mem, r, ?_⟩
  unfold callF at hp
  unfold PostF
  split at hp
  · rename_i d m he
    try rw [he]
    intro v H' G' io' ff rv
    obtain ⟨t', sg⟩ := t.call ff
    exact hp v H' G' io' sg ff.2.2.2.2.1 t' rv
  · rename_i d m he
    try rw [he]
    intro p H' G' io' ff ni hn ⟨ws, h, e1, e2, e3⟩
    obtain ⟨t', sg⟩ := t.call ff
    obtain ⟨_, _, hf, _, ho⟩ := t.new (a := p) (o := .lst []) hn
    exact hp p H' G' io' sg ff.2.2.2.2.1 t' ni ⟨ws, h, e1, e2, hf, e3⟩ ho
  · rename_i k ns es m he
    try rw [he]
    intro cls dd H' G' io' ff ex
    obtain ⟨t', sg⟩ := t.call ff
    exact hp cls dd H' G' io' sg ff.2.2.2.2.1 t' ex
  · exact hp.elim
theorem s_cal (o : XOk T cc X W) (t : TOk T) {f : Nat} {p : Pos} {es : List Expr} (hg : glo cc (T.nt.fnm f) = true) (hlv : T.nt.isF f = true) (hne : es.isEmpty = false) (hs : es.all (fun e => !isStar e) = true) (ha : PA X es (rdA T F W a)) :
    PE X (.Call (.Name (T.nt.fnm f) p) es [] pos) (rd T F W (.cal f a)) := by
  obtain ⟨h1, h2, h3⟩ := o.glo hg
  obtain ⟨g, fd, ps, hm, hk, hF, hb, har⟩ := t.fn f hlv
  have hm' : X.mg (T.nt.fnm f) = some (.ref g) := by rw [o.mg]; exact hm
  have hF' : FnOk X.prog X.w X.K X.mg X.base (L2.CX X.prog X.w) T.lv g fd ps (spOf T f ps.length) := by
    rw [o.prog, o.w, o.K, o.mg, o.base]
    exact hF
  have hk' : PySem.W.keepIn X.K (.ref g) = true := by rw [o.K]; exact hk
  have hb' : Binds X.K fd ps [] := by rw [o.K]; exact hb
  have hr := o.room
  have key : ∀ σ H Q, rd T F W (.cal f a) σ H Q → tCallSD (spOf T f ps.length) [] (WE W) (rdA T F W a) σ H Q := fun σ H Q ⟨s, G, io, t, hp⟩ => ⟨s, G, io, t, by
    refine Post.bndA hp fun ds s vs H1 G1 io1 sg si t1 r1 hp1 => ?_
    have q := post_call (n := ps.length) t1 r1 har hp1
    rw [List.append_nil]
    exact q⟩
  cases es with
  | nil => cases hne
  | cons e es =>
    rw [List.all_cons, Bool.and_eq_true] at hs
    have hs1 : isStar e = false := by simpa using hs.1
    exact PE.wk (pe_callSD hF' hr h1 hm' hk' hb' .nil (fun σ => passAt o.tk σ) ha h2 (star_no hs1) (star_any hs.2)) key
theorem s_cal0 (o : XOk T cc X W) (t : TOk T) {f : Nat} {p : Pos} (hg : glo cc (T.nt.fnm f) = true) (hlv : T.nt.isF f = true) : PE X (.Call (.Name (T.nt.fnm f) p) [] [] pos) (rd T F W (.cal f .nil)) := by
  obtain ⟨h1, h2, h3⟩ := o.glo hg
  obtain ⟨g, fd, ps, hm, hk, hF, hb, har⟩ := t.fn f hlv
  have hm' : X.mg (T.nt.fnm f) = some (.ref g) := by rw [o.mg]; exact hm
  have hF' : FnOk X.prog X.w X.K X.mg X.base (L2.CX X.prog X.w) T.lv g fd ps (spOf T f ps.length) := by
    rw [o.prog, o.w, o.K, o.mg, o.base]
    exact hF
  have hk' : PySem.W.keepIn X.K (.ref g) = true := by rw [o.K]; exact hk
  have hb' : Binds X.K fd ps [] := by rw [o.K]; exact hb
  refine PE.wk (pe_callSD0 hF' (o.room) h1 hm' hk' hb' .nil (fun σ => passAt o.tk σ) h2) fun σ H Q ⟨s, G, io, t, hp⟩ => ?_
  exact post_call (n := ps.length) t .nil har hp
end
end En

/-! enumerate(v): v a list or a tuple -/
namespace En
open PySem PySem.Spec PyProof.Rows L2
set_option maxHeartbeats 1000000 in
theorem enu_new {v : Value} {o : Obj} {J : Heap → Prop} (B : Begins v o J) :
    Meets (Builtin.«enumerate.__new__» ⟨[.type "enumerate", v], []⟩) (fun _ R s => J s.heap ∧
      R (.ok (.ret (.ref (s.heap.push o).objs.size))) { s with heap := (s.heap.push o).push { cls := .type "enumerate", data := .fields #[.none, .bool false, .ref s.heap.objs.size, rawInt 0, .none, .none] } }) :=
  .of_wp fun pr wd Ar Rs st hyp => by
    obtain ⟨hp, gn, dr, tk, os⟩ := st
    obtain ⟨hj, hyp⟩ := hyp
    have hsub := sub_enumerate
    have q1 : ∀ {A' : Around} {E : Value → Shared → Prop} {Q : Value → Shared → Prop}, Q (.ref hp.objs.size) ⟨hp.push o, gn, dr, tk, os⟩ → wpAny (model pr wd) A' (pyIter v) Q E ⟨hp, gn, dr, tk, os⟩ :=
      fun q => B.iter pr wd _ _ ⟨hp, gn, dr, tk, os⟩ _ hj q
    wp_walk using q1
    refine wpAny_stack_any fun st => wpAny_pure ?_
    split
    · rename_i c _ _ _ _ _
      by_cases hc : (c == Value.type "enumerate") = true <;> simp only [hc] <;> (wp_walk using q1) <;> exact ⟨_, rfl, hyp⟩
    · (wp_walk using q1) <;> exact ⟨_, rfl, hyp⟩
section
variable {prog : Program} {w : World} {A : Around} {E : Value → Shared → Prop} {s : Shared}
theorem enu_call {v : Value} {o : Obj} {J : Heap → Prop} {Q : Value → Shared → Prop} (B : Begins v o J) (hj : J s.heap)
    (h : ∀ h', IsEnum h' (s.heap.objs.size + 1) s.heap.objs.size 0 .none → h'.get? s.heap.objs.size = some o → h'.objs.size = s.heap.objs.size + 2 →
      (∀ b u, s.heap.get? b = some u → h'.get? b = some u) → Q (.ref (s.heap.objs.size + 1)) { s with heap := h' }) :
    wpAny (model prog w) A (call (.type "enumerate") [v]) Q E s := by
  refine callType_new F.called_enumerate (by decide) (F.typeCall_enumerate_1 _) (F.newCall_enumerate_1 _) (fun obj => F.args_object_init_2 obj _) F.entry_enumerate_new (enu_new B) ⟨hj, ?_⟩
  have hz : (s.heap.push o).objs.size = s.heap.objs.size + 1 := Heap.size_push ..
  show _ ∧ _
  rw [hz]
  have he : IsEnum ((s.heap.push o).push { cls := .type "enumerate", data := .fields #[.none, .bool false, .ref s.heap.objs.size, rawInt 0, .none, .none] }) (s.heap.objs.size + 1) s.heap.objs.size 0 .none := by
    have z := Heap.get?_push_size (s.heap.push o) (o := { cls := .type "enumerate", data := .fields #[.none, .bool false, .ref s.heap.objs.size, rawInt 0, .none, .none] }) rfl
    rw [hz] at z
    exact z
  exact ⟨⟨_, he, rfl⟩, h _ he (Heap.get?_push_of_some _ (Heap.get?_push_size _ B.free)) (by rw [Heap.size_push, hz]) fun b u z => Heap.get?_push_of_some _ (Heap.get?_push_of_some _ z)⟩
end
/-- the tuple at a as it stands at each turn, each item in a new pair -/
def IteT (K : PySem.W.Frag) (a : Addr) : It :=
  ⟨fun i H => ∃ (xs : List V) (x : V), SqT K H a xs ∧ xs[i]? = some x, fun i H v H' => ∃ T x, v = .ref T ∧ H T = none ∧ H' = upd H T (.tup [.int (i : Nat), x]) ∧ ∀ xs, SqT K H a xs → xs[i]? = some x, fun i H => ∃ xs : List V, SqT K H a xs ∧ xs.length ≤ i⟩
theorem turn_enuT {P : Program} {w : World} {K : PySem.W.Frag} {elts : List Expr} {kk : Nat} {tpos : Pos} (a e it : Addr) :
    Turn P w K (.Tuple elts kk tpos) (IteT K a) [e, it] e (fun i h => (∃ old, IsEnum h e it ((i : Nat) : Int) old) ∧ h.IsTupleIter it a i ∧ e ≠ it ∧ a ≠ it ∧ e ≠ a) where
  mem := by simp
  obj := fun i h st b hb => by
    obtain ⟨⟨old, he⟩, ⟨o, ho, hc, hd⟩, _⟩ := st
    rcases (show b = e ∨ b = it by simpa using hb) with z | z
    · rw [z]; exact ⟨_, he, fun v q => nomatch q⟩
    · rw [z]; exact ⟨o, ho, fun v q => by rw [hd] at q; cases q⟩
  keep := fun i h h' st k => by
    obtain ⟨⟨old, he⟩, hi, n1⟩ := st
    exact ⟨⟨old, k e (by simp) _ he⟩, hi.at fun o q => k it (by simp) o q, n1⟩
  item := by
    intro X hP hw hK hc i pins s σ H E I hf st hg
    subst hP hw hK
    obtain ⟨⟨old, he⟩, hit, n1, n2, n3⟩ := st
    obtain ⟨xs, x, hq, hx⟩ := hg
    obtain ⟨its, rv, p, hz⟩ := I.tuple hq
    obtain ⟨u, hu, ru⟩ := rv.get hx
    have hel : e < s.heap.objs.size := Heap.lt_size he
    have hil : it < s.heap.objs.size := by obtain ⟨_, q, _⟩ := hit; exact Heap.lt_size q
    have hh : X.A.in1.handled = none := I.ok.hd hc
    have hlt : i < its.toArray.size := by
      obtain ⟨z, _⟩ := List.getElem?_eq_some_iff.mp hu
      simpa using z
    refine wpAny_pyNext_enum_itemD (Draws.tuple hh it a n2 its.toArray) he ⟨hit, p⟩ hlt n1 (by simp [n1, n3]) fun y h' tk hy ho hst hT hsz hk => ?_
    have ey : y = u := by
      have z : its.toArray[i]? = some u := by simpa using hu
      rw [show its.toArray[i]? = some y from hy] at z
      exact Option.some.inj z
    subst ey
    refine ⟨_, rfl, wpAny_letOwnedTupleGo_enum (s := { s with heap := h', toks := tk + 1 }) ho fun h'' he' sb => ?_⟩
    have hT2 : h''.get? s.heap.objs.size = some { cls := .type "tuple", data := .seq #[.int i tk, y] } := (sb.2 _ (Nat.ne_of_gt hel)).trans hT
    have new : ObjOk X.prog X.w (upd H s.heap.objs.size (.tup [.int (i : Nat), x])) h'' s.heap.objs.size (.tup [.int (i : Nat), x]) :=
      ⟨by show 2 ≤ sizeLine; decide, [.int i tk, y], .cons ⟨_, rfl⟩ (.cons ru .nil), ⟨_, hT2, rfl, _, rfl⟩⟩
    have I1 : Inv X pins σ (upd H s.heap.objs.size (.tup [.int (i : Nat), x])) { s with heap := h'', toks := tk + 1 } :=
      I.turnedNew (ch := [e, it]) (fun b o hb q => (sb.2 b (fun z => hb (by simp [z]))).trans (hk b o (fun z => hb (by simp [z])) (fun z => hb (by simp [z])) q)) hf (Nat.le_refl _) new
    refine ⟨.ref s.heap.objs.size, _, I1, rfl, ⟨_, x, rfl, I.hok.fresh (Nat.le_refl _), rfl, fun ys hy => by rw [I.tuple_inj hy hq]; exact hx⟩, ⟨⟨y, ?_⟩, hst.1.at fun o q => (sb.2 it (Ne.symm n1)).trans q, n1, n2, n3⟩, fun b hb => ?_⟩
    · have e1 : ((i + 1 : Nat) : Int) = (i : Int) + 1 := by omega
      rw [e1]
      exact he'
    · have hb' : b < s.heap.objs.size := by
        rcases (show b = e ∨ b = it by simpa using hb) with z | z
        · rw [z]; exact hel
        · rw [z]; exact hil
      rw [upd_ne (Nat.ne_of_lt hb')]
      exact (hf b hb).1
  done := by
    intro X hP hw hK hc i pins s σ H E I hf st hg
    subst hP hw hK
    obtain ⟨⟨old, he⟩, hit, n1, n2, n3⟩ := st
    obtain ⟨xs, hq, hx⟩ := hg
    obtain ⟨its, rv, p, hz⟩ := I.tuple hq
    obtain ⟨f0, f1, f2, f3, f4, f5⟩ := hf it (by simp)
    have hl := rv.length
    have hh : X.A.in1.handled = none := I.ok.hd hc
    have hT : s.TypeIs (.ref e) "enumerate" := ⟨_, he, rfl⟩
    unfold pyNext
    refine wpAny_bind (wpAny_attempt (wpAny_callSpecial?_slot (name := Str.ofString "__next__") hT F.slot_enumerate_next (wpAny_call_entry F.slot_enumerate_next hT F.entry_enumerate_next ?_ (F.args_enumerate_next_1 _))))
    show wpAny _ _ (field (.ref e) 2 >>= _) _ _ _
    refine wpAny_bind (wpAny_field he rfl (x := .ref it) rfl ?_)
    refine wpAny_bind (wpAny_nextOf_tuple_end hh hit p (by simp; omega) fun h' x he' hx' => ?_)
    obtain ⟨o, ho, hcl⟩ := hx'
    refine wpAny_bind (wpAny_isInstance (T := "StopIteration") (b := true) ⟨o, ho, hcl⟩ isSubtype_stop ?_)
    exact wpAny_pure ⟨rfl, I.turned (t' := s.toks) (fun b ob hb q => he' b ob hb q) f0 f1 f3 f4 f5⟩
  self := fun A i s Q E st h => let ⟨⟨_, he⟩, _⟩ := st; wpAny_pyIter_enum he h
def iEnuA (K : PySem.W.Frag) (ta : TA) : TI := fun σ H R => ta σ H fun vs H1 => ∃ a xs, vs = [.ref a] ∧ ((SqL K H1 a xs ∧ R (Ite K a) H1) ∨ (SqT K H1 a xs ∧ R (IteT K a) H1))
theorem pi_enuA {X : Cx} {e : Expr} {ta : TA} {p pos tpos : Pos} {elts : List Expr} {kk : Nat} (hg : Gl X "enumerate") (hm : X.mg "enumerate" = none) (ha : PA X [e] ta) (hs : starEach [e] X.env = [(false, eval e X.env)] := by rfl) :
    PI X (.Tuple elts kk tpos) (.Call (.Name "enumerate" p) [e] [] pos) (iEnuA X.K ta) := by
  refine ⟨fun pins s σ H R I h => ?_⟩
  refine Call_ (ld_blt I hg hm boot_enumerate (PyProof.Rows.callWith_type1 (thn (ha.run pos pins s σ H _ I h) fun us s1 ⟨vs, H1, I1, r1, q1⟩ => ?_) hs rfl))
  obtain ⟨a, xs, ex, q1⟩ := q1
  subst ex
  cases r1 with
  | cons r rr =>
    cases rr
    cases r
    have fp : ∀ b, b ∈ [s1.heap.objs.size + 1, s1.heap.objs.size] → FpOk X pins H1 b := fun b hb => by
      have hle : s1.heap.objs.size ≤ b := by
        rcases (show b = s1.heap.objs.size + 1 ∨ b = s1.heap.objs.size by simpa using hb) with z | z
        · rw [z]; exact Nat.le_succ _
        · rw [z]; exact Nat.le_refl _
      exact I1.fpOk hle (I1.hok.fresh hle)
    rcases q1 with ⟨hq, q⟩ | ⟨hq, q⟩
    · obtain ⟨its, rv, p', hz⟩ := I1.list hq
      refine enu_call (begins_list a its.toArray) p'.isList fun h' he hit hsz hk => wpAny_pyIter_enum he ?_
      have I2 : Inv X pins σ H1 { s1 with heap := h' } := I1.kept (t' := s1.toks) hk
      exact ⟨s1.heap.objs.size + 1, [s1.heap.objs.size + 1, s1.heap.objs.size], _, _, H1, rfl, I2, turn_enum a (s1.heap.objs.size + 1) s1.heap.objs.size, ⟨⟨.none, he⟩, ⟨_, hit, rfl, rfl⟩, Nat.succ_ne_self _⟩, fp, q⟩
    · obtain ⟨its, rv, p', hz⟩ := I1.tuple hq
      obtain ⟨ob, hob, _⟩ := id p'
      have hlt : a < s1.heap.objs.size := Heap.lt_size hob
      refine enu_call (begins_tuple a its.toArray) p' fun h' he hit hsz hk => wpAny_pyIter_enum he ?_
      have I2 : Inv X pins σ H1 { s1 with heap := h' } := I1.kept (t' := s1.toks) hk
      exact ⟨s1.heap.objs.size + 1, [s1.heap.objs.size + 1, s1.heap.objs.size], _, _, H1, rfl, I2, turn_enuT a (s1.heap.objs.size + 1) s1.heap.objs.size,
        ⟨⟨.none, he⟩, ⟨_, hit, rfl, rfl⟩, Nat.succ_ne_self _, Nat.ne_of_lt hlt, Nat.ne_of_gt (Nat.lt_succ_of_lt hlt)⟩, fp, q⟩
end En

namespace En
open PySem PySem.Spec L2
section
variable {x : SX} {Z G0 : Hp} {io0 : List Addr}
theorem RpL.at {ds : List D} {vs : List V} {G : Hp} {io : List Addr} {i : Nat} {v : V} {d : D} (r : RpL x G io ds vs) (e : vs[i]? = some v) (h : ds[i]? = some d) : Rp x G io d v := by
  obtain ⟨w, e1, q⟩ := r.get h
  rw [e] at e1
  cases e1
  exact q
theorem walk_lst {a : Addr} {ds : List D} {vs : List V} (h : G0 a = some (.lst vs)) (r : RpL x G0 io0 ds vs) : WalkD x Z G0 io0 (Itl x.K a) ds where
  go := fun i H hi sg _ => ⟨vs, vs[i]'(by rw [r.length]; exact hi), .of (sg _ _ h), List.getElem?_eq_getElem _⟩
  stop := fun H sg _ => ⟨vs, .of (sg _ _ h), by rw [r.length]; exact Nat.le_refl _⟩
  yld := fun i H v H' d sg zh hd hy => by
    obtain ⟨rfl, hy⟩ := hy
    have e := hy vs (.of (sg _ _ h))
    exact .inl ⟨rfl, fun G io s p => (r.at e hd).mono s p⟩
theorem walk_ll {a : Addr} {ds : List D} {vs : List V} (h : ∀ H, Same G0 H → (∀ b u, Z b = some u → H b = some u) → Rd H a (.lst vs)) (r : RpL x G0 io0 ds vs) : WalkD x Z G0 io0 (Itl x.K a) ds where
  go := fun i H hi sg zh => ⟨vs, vs[i]'(by rw [r.length]; exact hi), .inl (h H sg zh), List.getElem?_eq_getElem _⟩
  stop := fun H sg zh => ⟨vs, .inl (h H sg zh), by rw [r.length]; exact Nat.le_refl _⟩
  yld := fun i H v H' d sg zh hd hy => by
    obtain ⟨rfl, hy⟩ := hy
    have e := hy vs (.inl (h _ sg zh))
    exact .inl ⟨rfl, fun G io s p => (r.at e hd).mono s p⟩
theorem walk_tup {a : Addr} {ds : List D} {vs : List V} (h : SqT x.K G0 a vs) (r : RpL x G0 io0 ds vs) : WalkD x Z G0 io0 (Itt x.K a) ds where
  go := fun i H hi sg _ => ⟨vs, vs[i]'(by rw [r.length]; exact hi), Same.tup sg h, List.getElem?_eq_getElem _⟩
  stop := fun H sg _ => ⟨vs, Same.tup sg h, by rw [r.length]; exact Nat.le_refl _⟩
  yld := fun i H v H' d sg zh hd hy => by
    obtain ⟨rfl, hy⟩ := hy
    have e := hy vs (Same.tup sg h)
    exact .inl ⟨rfl, fun G io s p => (r.at e hd).mono s p⟩
theorem walk_str {z : Str} : WalkD x Z G0 io0 (Its z) (z.cps.toList.map fun c => .str ⟨#[c]⟩) where
  go := fun i H hi sg _ => by show i < z.cps.size; simpa using hi
  stop := fun H sg _ => by show z.cps.size ≤ _; simp
  yld := fun i H v H' d sg zh hd hy => by
    obtain ⟨rfl, c, e, rfl⟩ := hy
    refine .inl ⟨rfl, fun G io s p => ?_⟩
    rw [List.getElem?_map] at hd
    have e' : z.cps.toList[i]? = some c := by simpa using e
    rw [e'] at hd
    cases hd
    rfl
theorem walk_rng {lo : Int} {n : Nat} : WalkD x Z G0 io0 (Itr lo n) ((List.range n).map fun (k : Nat) => .int (lo + k)) where
  go := fun i H hi sg _ => by show i < n; simpa using hi
  stop := fun H sg _ => by show n ≤ _; simp
  yld := fun i H v H' d sg zh hd hy => by
    obtain ⟨rfl, rfl⟩ := hy
    refine .inl ⟨rfl, fun G io s p => ?_⟩
    rw [List.getElem?_map] at hd
    by_cases hi : i < n
    · rw [List.getElem?_range hi] at hd
      cases hd
      rfl
    · rw [List.getElem?_eq_none (by simpa using hi)] at hd
      cases hd
theorem enumF_len : ∀ (n : Nat) (ds : List D), (enumF n ds).length = ds.length
  | _, [] => rfl
  | n, d :: ds => by simp [enumF, enumF_len (n + 1) ds]
theorem enumF_get : ∀ (n i : Nat) (ds : List D), (enumF n ds)[i]? = ds[i]?.map fun d => .tup [.int ((n + i : Nat) : Int), d]
  | _, _, [] => by simp [enumF]
  | n, 0, d :: ds => by simp [enumF]
  | n, i + 1, d :: ds => by
    rw [enumF, List.getElem?_cons_succ, List.getElem?_cons_succ, enumF_get (n + 1) i ds]
    have : n + 1 + i = n + (i + 1) := by omega
    rw [this]
theorem walk_enm {a : Addr} {ds : List D} {vs : List V} (h : G0 a = some (.lst vs)) (r : RpL x G0 io0 ds vs) : WalkD x Z G0 io0 (Ite x.K a) (enumF 0 ds) where
  go := fun i H hi sg _ => ⟨vs, vs[i]'(by rw [r.length]; rw [enumF_len] at hi; exact hi), .of (sg _ _ h), List.getElem?_eq_getElem _⟩
  stop := fun H sg _ => ⟨vs, .of (sg _ _ h), by rw [r.length, enumF_len]; exact Nat.le_refl _⟩
  yld := fun i H v H' d sg zh hd hy => by
    obtain ⟨p, w, rfl, hn, rfl, hy⟩ := hy
    have e := hy vs (.of (sg _ _ h))
    rw [enumF_get, Nat.zero_add] at hd
    obtain ⟨d', hd', rfl⟩ := Option.map_eq_some_iff.mp hd
    exact .inr ⟨p, _, _, hn, rfl, rfl, rfl, fun G io s q => .cons rfl (.cons ((r.at e hd').mono s q) .nil)⟩
theorem walk_enmT {a : Addr} {ds : List D} {vs : List V} (h : SqT x.K G0 a vs) (r : RpL x G0 io0 ds vs) : WalkD x Z G0 io0 (IteT x.K a) (enumF 0 ds) where
  go := fun i H hi sg _ => ⟨vs, vs[i]'(by rw [r.length]; rw [enumF_len] at hi; exact hi), Same.tup sg h, List.getElem?_eq_getElem _⟩
  stop := fun H sg _ => ⟨vs, Same.tup sg h, by rw [r.length, enumF_len]; exact Nat.le_refl _⟩
  yld := fun i H v H' d sg zh hd hy => by
    obtain ⟨p, w, rfl, hn, rfl, hy⟩ := hy
    have e := hy vs (Same.tup sg h)
    rw [enumF_get, Nat.zero_add] at hd
    obtain ⟨d', hd', rfl⟩ := Option.map_eq_some_iff.mp hd
    exact .inr ⟨p, _, _, hn, rfl, rfl, rfl, fun G io s q => .cons rfl (.cons ((r.at e hd').mono s q) .nil)⟩
theorem walk_zp {a b : Addr} {ds es : List D} {vs ws : List V} (h : G0 a = some (.lst vs)) (r : RpL x G0 io0 ds vs) (h2 : G0 b = some (.lst ws)) (r2 : RpL x G0 io0 es ws) :
    WalkD x Z G0 io0 (Itz x.K a b) (List.zipWith (fun p q => .tup [p, q]) ds es) where
  go := fun i H hi sg _ => by
    rw [List.length_zipWith] at hi
    exact ⟨vs, ws, vs[i]'(by rw [r.length]; omega), ws[i]'(by rw [r2.length]; omega), .of (sg _ _ h), .of (sg _ _ h2), List.getElem?_eq_getElem _, List.getElem?_eq_getElem _⟩
  stop := fun H sg _ => ⟨vs, ws, .of (sg _ _ h), .of (sg _ _ h2), by rw [r.length, r2.length, List.length_zipWith]; omega⟩
  yld := fun i H v H' d sg zh hd hy => by
    obtain ⟨p, w, w2, rfl, hn, rfl, hy1, hy2⟩ := hy
    have e := hy1 vs (.of (sg _ _ h))
    have e2 := hy2 ws (.of (sg _ _ h2))
    rw [List.getElem?_zipWith] at hd
    cases q1 : ds[i]? with
    | none => rw [q1] at hd; cases hd
    | some d1 =>
      cases q2 : es[i]? with
      | none => rw [q1, q2] at hd; cases hd
      | some d2 =>
        rw [q1, q2] at hd
        cases hd
        exact .inr ⟨p, _, _, hn, rfl, rfl, rfl, fun G io s q => .cons ((r.at e q1).mono s q) (.cons ((r2.at e2 q2).mono s q) .nil)⟩
theorem walk_zpT {H0 : Hp} {a b : Addr} {ds es : List D} {vs ws : List V} (gh : Same G0 H0) (h : SqT x.K G0 a vs) (r : RpL x G0 io0 ds vs) (h2 : SqT x.K G0 b ws) (r2 : RpL x G0 io0 es ws) :
    WalkD x Z G0 io0 (RZ.ItzT x.K a b) (List.zipWith (fun p q => .tup [p, q]) ds es) where
  go := fun i H hi sg _ => by
    rw [List.length_zipWith] at hi
    exact ⟨vs, ws, vs[i]'(by rw [r.length]; omega), ws[i]'(by rw [r2.length]; omega), Same.tup sg h, Same.tup sg h2, List.getElem?_eq_getElem _, List.getElem?_eq_getElem _⟩
  stop := fun H sg _ => ⟨vs, ws, Same.tup sg h, Same.tup sg h2, by rw [r.length, r2.length, List.length_zipWith]; omega⟩
  yld := fun i H v H' d sg zh hd hy => by
    obtain ⟨p, w, w2, rfl, hn, rfl, hy1, hy2⟩ := hy
    have e := hy1 vs (Same.tup sg h)
    have e2 := hy2 ws (Same.tup sg h2)
    rw [List.getElem?_zipWith] at hd
    cases q1 : ds[i]? with
    | none => rw [q1] at hd; cases hd
    | some d1 =>
      cases q2 : es[i]? with
      | none => rw [q1, q2] at hd; cases hd
      | some d2 =>
        rw [q1, q2] at hd
        cases hd
        exact .inr ⟨p, _, _, hn, rfl, rfl, rfl, fun G io s q => .cons ((r.at e q1).mono s q) (.cons ((r2.at e2 q2).mono s q) .nil)⟩
theorem keys_at {ks : List Key} {vs : List V} (hl : vs.length = ks.length) {i : Nat} {k : Key} {v : V} (e : (ks.zip vs)[i]? = some (k, v)) : ks[i]? = some k := by
  obtain ⟨h1, h2⟩ := List.getElem?_eq_some_iff.mp e
  rw [List.getElem_zip] at h2
  have hi : i < ks.length := by rw [List.length_zip, hl, Nat.min_self] at h1; exact h1
  rw [List.getElem?_eq_getElem hi]
  exact congrArg some (congrArg Prod.fst h2)
theorem walk_keys {d : Addr} {o : Obj} {ks : List Key} {vs : List V} (hl : vs.length = ks.length) (h : ∀ H, Same G0 H → (∀ b u, Z b = some u → H b = some u) → H d = some (.frz o (.dK (ks.zip vs)))) : WalkD x Z G0 io0 (Itk d o (ks.zip vs)) (ks.map keyV) where
  go := fun i H hi sg zh => ⟨h H sg zh, by rw [List.length_zip, hl, Nat.min_self]; simpa using hi⟩
  stop := fun H sg zh => ⟨h H sg zh, by rw [List.length_zip, hl, Nat.min_self, List.length_map]; exact Nat.le_refl _⟩
  yld := fun i H v H' d sg zh hd hy => by
    obtain ⟨rfl, k, w, e, rfl⟩ := hy
    rw [List.getElem?_map, keys_at hl e] at hd
    cases hd
    refine .inl ⟨rfl, fun G io s p => ?_⟩
    cases k <;> exact rfl
end
section
variable {T : Tb} {cc : CC} {X : Cx} {W : WX} {F : Fr} {e l r c tg : Expr} {es : List Expr} {a b : E} {pos : Pos}
theorem PostI.vals {x : SX} {G H : Hp} {io : List Addr} {σ : L2.St} {s : S} {ds : List D} {R : It → Hp → Prop} {J : It} (h : PostI x F W G io (some (.vals ds, s)) σ R) (t : StR x F s G io σ H) (w : WalkD x (zOf H) G io J ds) : R J H :=
  h J H G io (Same.refl _) (Pre.refl _) t w
theorem i_it (o : XOk T cc X W) (ha : PE X e (rd T F W a)) : PI X tg e (rdI T F W (.it a)) := by
  refine PI.wk (PI.or (pi_list ha) (PI.or (pi_tup ha) (PI.or (pi_str ha) (pi_keys ha)))) fun σ H R ⟨s, G, io, t, hp⟩ => ?_
  -- the value, told by what a comes to
  have step : ∀ (Q1 : VK), (∀ d s1 v H1 G1 io1, bnd (ev T.P T.Gm a s) (fun d s => some (.val d, s)) = some (.val d, s1) → StR T.x F s1 G1 io1 σ H1 → Rp T.x G1 io1 d v → PostI T.x F W G1 io1 (match itF d s1 with | some ds => some (.vals ds, s1) | none => none) σ R → Q1 v H1) → rd T F W a σ H Q1 := by
    intro Q1 hk
    refine ⟨s, G, io, t, ?_⟩
    have hp' : PostI T.x F W G io (bnd (ev T.P T.Gm a s) fun x s => match itF x s with | some ds => some (.vals ds, s) | none => none) σ R := hp
    unfold Post
    unfold bnd at hp' hk
    split
    · rename_i d s1 he
      rw [he] at hp' hk
      exact fun v H' G' io' sg si t' r' => hk d s1 v H' G' io' rfl t' r' (hp'.anti sg si)
    · rename_i ds s1 he
      rw [he] at hp' hk
      intro p H' G' io' sg si t' ni ow no
      obtain ⟨G2, io2, a1, a2, a3, a4⟩ := fr_rp t' ni ow no
      exact hk _ _ (.ref p) H' G2 io2 rfl a3 a4 (hp'.anti (sg.trans a1) (si.trans a2))
    · rename_i k ns ds s1 he
      rw [he] at hp'
      exact hp'
    · rename_i h1 h2 h3
      split at hp'
      · exact h1 _ _ (by assumption)
      · exact h2 _ _ (by assumption)
      · exact h3 _ _ _ _ (by assumption)
      · exact hp'
  generalize hB : bnd (ev T.P T.Gm a s) (fun d s => some (.val d, s)) = B at step
  have kind : (∃ ds s1, B = some (.val (.lst ds), s1)) ∨ (∃ ds s1, B = some (.val (.tup ds), s1)) ∨ (∃ ks ds s1, B = some (.val (.dct ks ds), s1)) ∨ (∃ n ds s1, B = some (.val (.adr n), s1) ∧ s1.m[n]? = some (.ll ds)) ∨ (∃ n s1, B = some (.val (.adr n), s1) ∧ ∀ ds, s1.m[n]? ≠ some (.ll ds)) ∨
      ∀ d s1, B = some (.val d, s1) → (∀ ds, d ≠ .lst ds) ∧ (∀ ds, d ≠ .tup ds) ∧ (∀ ks ds, d ≠ .dct ks ds) ∧ ∀ n, d ≠ .adr n := by
    by_cases h : ∃ d s1, B = some (.val d, s1)
    · obtain ⟨d, s1, rfl⟩ := h
      cases d with
      | lst ds => exact .inl ⟨_, _, rfl⟩
      | tup ds => exact .inr (.inl ⟨_, _, rfl⟩)
      | dct ks ds => exact .inr (.inr (.inl ⟨_, _, _, rfl⟩))
      | adr n =>
        by_cases hl : ∃ ds, s1.m[n]? = some (.ll ds)
        · obtain ⟨ds, hl⟩ := hl
          exact .inr (.inr (.inr (.inl ⟨_, _, _, rfl, hl⟩)))
        · exact .inr (.inr (.inr (.inr (.inl ⟨_, _, rfl, fun ds e => hl ⟨ds, e⟩⟩))))
      | _ => exact .inr (.inr (.inr (.inr (.inr fun d' s' e => by cases e; exact ⟨fun _ z => (by cases z), fun _ z => (by cases z), fun _ _ z => (by cases z), fun _ z => (by cases z)⟩))))
    · exact .inr (.inr (.inr (.inr (.inr fun d s1 e => absurd ⟨d, s1, e⟩ h))))
  rcases kind with ⟨ds, s1, rfl⟩ | ⟨ds, s1, rfl⟩ | ⟨ks, ds, s1, rfl⟩ | ⟨n, es, s1, rfl, hll⟩ | ⟨n, s1, rfl, nll⟩ | no
  · refine .inl (step _ fun d s2 v H1 G1 io1 he2 t1 r1 hp1 => ?_)
    cases he2
    obtain ⟨p, vs, rfl, e1, rr⟩ := r1
    refine ⟨p, rfl, ⟨vs, .of (t1.gh _ _ e1)⟩, ?_⟩
    rw [o.K]
    exact hp1.vals t1 (walk_lst e1 rr)
  · refine .inr (.inl (step _ fun d s2 v H1 G1 io1 he2 t1 r1 hp1 => ?_))
    cases he2
    obtain ⟨p, vs, rfl, e1, rr⟩ := r1
    refine ⟨p, rfl, ⟨vs, by rw [o.K]; exact Same.tup t1.gh e1⟩, ?_⟩
    rw [o.K]
    exact hp1.vals t1 (walk_tup e1 rr)
  · refine .inr (.inr (.inr (step _ fun d s2 v H1 G1 io1 he2 t1 r1 hp1 => ?_)))
    cases he2
    obtain ⟨p, vs, ob, rfl, e1, hl, rr⟩ := r1
    exact ⟨p, ob, rfl, .inl ⟨_, t1.gh _ _ e1, hp1.vals t1 (walk_keys hl fun H sg _ => sg _ _ e1)⟩⟩
  · refine .inl (step _ fun d s2 v H1 G1 io1 he2 t1 r1 hp1 => ?_)
    cases he2
    obtain ⟨p, rfl, hpo⟩ := r1
    have e : itF (.adr n) s1 = some es := by
      unfold itF
      dsimp only
      rw [hll]
    rw [e] at hp1
    obtain ⟨vs, ho, q1, _, q3, ⟨ob, rfl⟩, q5⟩ := t1.mem.2.2 n _ p hll hpo
    refine ⟨p, rfl, ⟨vs, .inl (.inr ⟨ob, q1⟩)⟩, ?_⟩
    rw [o.K]
    exact hp1.vals t1 (walk_ll (fun H sg zh => .inr ⟨ob, zh _ _ (zOf_of q1)⟩) q3)
  · refine .inr (.inr (.inr (step _ fun d s2 v H1 G1 io1 he2 t1 r1 hp1 => ?_)))
    cases he2
    obtain ⟨p, rfl, hpo⟩ := r1
    unfold itF at hp1
    dsimp only at hp1
    cases hm : s1.m[n]? with
    | none => rw [hm] at hp1; exact hp1.elim
    | some mo =>
      rw [hm] at hp1
      cases mo with
      | dl ks ds =>
        obtain ⟨vs, ho, q1, _, q3, ⟨ob, rfl⟩, q5⟩ := t1.mem.2.2 n _ p hm hpo
        have hl : vs.length = ks.length := by rw [q3.length]; exact q5
        exact ⟨p, ob, rfl, .inl ⟨_, q1, hp1.vals t1 (walk_keys hl fun H sg zh => zh _ _ (zOf_of q1))⟩⟩
      | ll ds => exact absurd hm (nll _)
      | _ => exact hp1.elim
  · refine .inr (.inr (.inl (step _ fun d s2 v H1 G1 io1 he2 t1 r1 hp1 => ?_)))
    obtain ⟨n1, n2, n3, n4⟩ := no _ _ he2
    cases d with
    | lst ds => exact absurd rfl (n1 _)
    | tup ds => exact absurd rfl (n2 _)
    | dct ks ds => exact absurd rfl (n3 _ _)
    | adr n => exact absurd rfl (n4 _)
    | str z =>
      cases (show v = .str z from r1)
      exact ⟨z, rfl, hp1.vals t1 walk_str⟩
    | _ => exact hp1.elim
theorem i_rng (o : XOk T cc X W) (t : TOk T) {p : Pos} (hs : isStar e = false) (hi : glo cc "range" = true) (ha : PE X e (rd T F W a)) : PI X tg (.Call (.Name "range" p) [e] [] pos) (rdI T F W (.rng a)) := by
  obtain ⟨h1, h2, h3⟩ := o.glo hi
  refine PI.wk (pi_range1 h1 (o.blt t (by decide +kernel)) (pa_cons ha pa_nil (star_no hs)) (star_no hs)) fun σ H R ⟨s, G, io, t, hp⟩ => ⟨s, G, io, t, ?_⟩
  refine PostI.bnd hp fun d s v H1 G1 io1 sg si t1 r1 hp1 => ?_
  split at hp1
  · rename_i j
    cases (show v = .int j from r1)
    split at hp1
    · rename_i hj
      refine ⟨j, rfl, hj.1, hj.2, ?_⟩
      have w := walk_rng (x := T.x) (Z := zOf H1) (G0 := G1) (io0 := io1) (lo := 0) (n := j.toNat)
      simp only [Int.zero_add] at w
      exact hp1.vals t1 w
    · exact hp1.elim
  · exact hp1.elim
theorem i_rng2 (o : XOk T cc X W) (t : TOk T) {p : Pos} (hs : isStar l = false) (hs2 : isStar r = false) (hi : glo cc "range" = true) (ha : PE X l (rd T F W a)) (hb : PE X r (rd T F W b)) : PI X tg (.Call (.Name "range" p) [l, r] [] pos) (rdI T F W (.rng2 a b)) := by
  obtain ⟨h1, h2, h3⟩ := o.glo hi
  refine PI.wk (pi_range2 h1 (o.blt t (by decide +kernel)) (pa_cons ha (pa_cons hb pa_nil (star_no hs2)) (star_no hs)) ((star_no hs).trans (by rw [star_no hs2]; rfl)) (star_no hs2)) fun σ H R ⟨s, G, io, t, hp⟩ => ⟨s, G, io, t, ?_⟩
  refine PostI.bnd hp fun d s v H1 G1 io1 sg si t1 r1 hp1 => ⟨s, G1, io1, t1, ?_⟩
  refine PostI.bnd hp1 fun d2 s2 v2 H2 G2 io2 sg2 si2 t2 r2 hp2 => ?_
  split at hp2
  · rename_i i j
    cases (show v = .int i from r1)
    cases (show v2 = .int j from r2)
    split at hp2
    · rename_i hj
      refine ⟨i, j, rfl, hj, ?_⟩
      exact hp2.vals t2 walk_rng
    · exact hp2.elim
  · exact hp2.elim
theorem i_enm (o : XOk T cc X W) (t : TOk T) {p tp : Pos} {elts : List Expr} {kk : Nat} (hs : isStar e = false) (hi : glo cc "enumerate" = true) (ha : PE X e (rd T F W a)) : PI X (.Tuple elts kk tp) (.Call (.Name "enumerate" p) [e] [] pos) (rdI T F W (.enm a)) := by
  obtain ⟨h1, h2, h3⟩ := o.glo hi
  refine PI.wk (pi_enuA h1 (o.blt t (by decide +kernel)) (pa_cons ha pa_nil (star_no hs)) (star_no hs)) fun σ H R ⟨s, G, io, t, hp⟩ => ⟨s, G, io, t, ?_⟩
  refine PostI.bnd hp fun d s v H1 G1 io1 sg si t1 r1 hp1 => ?_
  split at hp1
  · rename_i ds hv
    cases d with
    | lst es =>
      cases hv
      obtain ⟨q, vs, rfl, e1, rr⟩ := r1
      refine ⟨q, vs, rfl, .inl ⟨.of (t1.gh _ _ e1), ?_⟩⟩
      rw [o.K]
      exact hp1.vals t1 (walk_enm e1 rr)
    | tup es =>
      cases hv
      obtain ⟨q, vs, rfl, e1, rr⟩ := r1
      refine ⟨q, vs, rfl, .inr ⟨by rw [o.K]; exact Same.tup t1.gh e1, ?_⟩⟩
      rw [o.K]
      exact hp1.vals t1 (walk_enmT e1 rr)
    | _ => cases hv
  · exact hp1.elim
theorem i_zp (o : XOk T cc X W) (t : TOk T) {p tp : Pos} {elts : List Expr} {kk : Nat} (hs : isStar l = false) (hs2 : isStar r = false) (hi : glo cc "zip" = true) (ha : PE X l (rd T F W a)) (hb : PE X r (rd T F W b)) :
    PI X (.Tuple elts kk tp) (.Call (.Name "zip" p) [l, r] [] pos) (rdI T F W (.zp a b)) := by
  obtain ⟨h1, h2, h3⟩ := o.glo hi
  refine PI.wk (RZ.pi_zipA h1 (o.blt t (by decide +kernel)) (pa_cons ha (pa_cons hb pa_nil (star_no hs2)) (star_no hs)) (star_no hs) (star_any (es := [r]) (by simp [hs2]))) fun σ H R ⟨s, G, io, t, hp⟩ => ⟨s, G, io, t, ?_⟩
  refine PostI.bnd hp fun d s v H1 G1 io1 sg si t1 r1 hp1 => ⟨s, G1, io1, t1, ?_⟩
  refine PostI.bnd hp1 fun d2 s2 v2 H2 G2 io2 sg2 si2 t2 r2 hp2 => ?_
  cases d with
  | lst ds =>
    cases d2 with
    | lst es =>
      obtain ⟨q, vs, rfl, e1, rr⟩ := r1.mono sg2 si2
      obtain ⟨q2, ws, rfl, e2, rr2⟩ := r2
      refine ⟨q, q2, vs, ws, rfl, .inl ⟨.of (t2.gh _ _ e1), .of (t2.gh _ _ e2), ?_⟩⟩
      rw [o.K]
      exact (show PostI T.x F W G2 io2 (some (.vals (List.zipWith (fun p q => .tup [p, q]) ds es), s2)) σ R from hp2).vals t2 (walk_zp e1 rr e2 rr2)
    | _ => exact (show False from hp2).elim
  | tup ds =>
    cases d2 with
    | tup es =>
      obtain ⟨q, vs, rfl, e1, rr⟩ := r1.mono sg2 si2
      obtain ⟨q2, ws, rfl, e2, rr2⟩ := r2
      refine ⟨q, q2, vs, ws, rfl, .inr ⟨by rw [o.K]; exact Same.tup t2.gh e1, by rw [o.K]; exact Same.tup t2.gh e2, ?_⟩⟩
      rw [o.K]
      exact (show PostI T.x F W G2 io2 (some (.vals (List.zipWith (fun p q => .tup [p, q]) ds es), s2)) σ R from hp2).vals t2 (walk_zpT t2.gh e1 rr e2 rr2)
    | _ => exact (show False from hp2).elim
  | _ => exact (show False from hp2).elim
end
end En

namespace En
open PySem PySem.Spec L2
/-! ### a frame within a frame -/
section
variable {x : SX} {F : Fr} {G H G1 H1 : Hp} {io io1 : List Addr} {σ σ1 : L2.St} {s s1 : S} {m : List MO}
theorem FF.refl (gh : Same G H) (hm : MemA x G io H m) : FF x H G io m H G io :=
  ⟨gh, hm, fun _ _ e _ => e, fun _ _ => rfl, Pre.refl _, (fun n a hn e => by
    rw [List.getElem?_eq_none (by omega)] at e; cases e), fun _ _ _ e => e⟩
/-- a state over the frame that begins at H is behind H as a call is -/
theorem StR.ff (t : StR x ⟨H, G, io, zOf H⟩ s1 G1 io1 σ1 H1) : FF x H G io s1.m H1 G1 io1 := ⟨t.gh, t.mem, t.kh, t.kg, t.ki, t.ni, fun b o u e => (t.zl b _ (zOf_of e)).1⟩
theorem FF.trans {H2 G2 : Hp} {io2 : List Addr} {m2 : List MO} (hm : MemA x G io H m) (a : FF x H G io s1.m H1 G1 io1) (b : FF x H1 G1 io1 m2 H2 G2 io2) : FF x H G io m2 H2 G2 io2 := by
  obtain ⟨a1, a2, a3, a4, a5, a6, a7⟩ := a
  obtain ⟨b1, b2, b3, b4, b5, b6, b7⟩ := b
  have mem : ∀ {b : Addr}, b ∈ io → ∃ o, H b = some o := fun {b} hb => by
    obtain ⟨n, hn, e⟩ := List.getElem_of_mem hb
    have hl : n < m.length := by rw [hm.1]; exact hn
    have q := hm.2.2 n _ b (List.getElem?_eq_getElem hl) (by rw [List.getElem?_eq_getElem hn, e])
    obtain ⟨vs, h, q1, _⟩ := q
    exact ⟨_, q1⟩
  have n1 : ∀ {b : Addr}, b ∉ io → H b ≠ none → b ∉ io1 := fun {b} h1 h2 hm => by
    obtain ⟨n, hn, e⟩ := List.getElem_of_mem hm
    by_cases hl : n < io.length
    · obtain ⟨k, hk⟩ := a5
      apply h1
      have : io1[n] = io[n] := by simp [hk, List.getElem_append_left hl]
      rw [← e, this]
      exact List.getElem_mem _
    · exact h2 (a6 n b (by omega) (by rw [List.getElem?_eq_getElem hn, e]))
  have up : ∀ {b : Addr}, H1 b = none → H b = none := fun {b} e => by
    cases z : H b with
    | none => rfl
    | some o =>
      by_cases hb : b ∈ io
      · obtain ⟨n, hn, e2⟩ := List.getElem_of_mem hb
        obtain ⟨k, hk⟩ := a5
        have hn1 : n < io1.length := by rw [hk, List.length_append]; omega
        have hl : n < s1.m.length := by rw [a2.1]; exact hn1
        have q := a2.2.2 n _ b (List.getElem?_eq_getElem hl) (by rw [List.getElem?_eq_getElem hn1]; simp [hk, List.getElem_append_left hn, e2])
        obtain ⟨vs, h, q1, _⟩ := q
        rw [e] at q1; cases q1
      · rw [a3 b o z hb] at e; cases e
  refine ⟨b1, b2, fun b o e n => b3 b o (a3 b o e n) (n1 n (by rw [e]; simp)), fun b hb => ?_, a5.trans b5, fun n a hn e => ?_, fun b o u e => b7 _ _ _ (a7 _ _ _ e)⟩
  · rw [b4 b (fun z => hb (up z)), a4 b hb]
  · by_cases hl : n < io1.length
    · obtain ⟨k, hk⟩ := b5
      rw [hk, List.getElem?_append_left hl] at e
      exact a6 n a hn e
    · exact up (b6 n a (by omega) e)
theorem valR_get : ∀ {r : List (Option Cell)} {i : Nat} {c : Cell}, (valR r)[i]? = some (some c) → r[i]? = some (some c) ∧ isOwn c = false
  | [], i, c, h => by simp [valR] at h
  | o :: r, 0, c, h => by
    cases o with
    | none => simp [valR] at h
    | some c' => cases c' <;> simp [valR] at h <;> (subst h; exact ⟨rfl, rfl⟩)
  | o :: r, i + 1, c, h => by
    have h' : (valR r)[i]? = some (some c) := by
      cases o with
      | none => simpa [valR] using h
      | some c' => cases c' <;> simpa [valR] using h
    simpa using valR_get h'
theorem valR_len : ∀ (r : List (Option Cell)), (valR r).length = r.length
  | [] => rfl
  | none :: r => by simp [valR, valR_len r]
  | some (.val _) :: r => by simp [valR, valR_len r]
  | some (.ol _) :: r => by simp [valR, valR_len r]
  | some (.od _ _) :: r => by simp [valR, valR_len r]
theorem wipeR_len (r : List (Option Cell)) : ∀ (vs : List Nat), (wipeR r vs).length = r.length
  | [] => rfl
  | v :: vs => by unfold wipeR; rw [List.length_set, wipeR_len r vs]
theorem wipeR_get {r : List (Option Cell)} {i : Nat} {c : Cell} : ∀ {vs : List Nat}, (wipeR r vs)[i]? = some (some c) → r[i]? = some (some c) ∧ i ∉ vs
  | [], h => ⟨h, by simp⟩
  | v :: vs, h => by
    unfold wipeR at h
    by_cases hi : v = i
    · subst hi
      by_cases hv : v < (wipeR r vs).length
      · rw [List.getElem?_set_self hv] at h; cases h
      · rw [List.getElem?_eq_none (by simpa using hv)] at h; cases h
    · rw [List.getElem?_set_ne hi] at h
      obtain ⟨a, b⟩ := wipeR_get h
      exact ⟨a, by simp [b, Ne.symm hi]⟩
theorem wipe_get {σ : L2.St} {i : Nat} {v : V} : ∀ {vs : List Nat}, i ∉ vs → σ[i]? = some (some v) → (wipe σ vs)[i]? = some (some v)
  | [], _, h => h
  | w :: vs, hn, h => by
    unfold wipe
    rw [List.getElem?_set_ne (fun z => hn (by simp [z]))]
    exact wipe_get (fun z => hn (List.mem_cons_of_mem _ z)) h
/-- the data of a frame, for a block that begins now -/
theorem StR.inner {own : List Nat} (t : StR x F s G io σ H) (ff : FF x H G io m H1 G1 io1) (sg : Same G G1) : StR x ⟨H1, G1, io1, zOf H1⟩ ⟨wipeR (valR s.r) own, m⟩ G1 io1 (wipe σ own) H1 where
  gh := ff.1
  len := by rw [wipeR_len, valR_len, wipe_length]; exact t.len
  slot := fun i c e => by
    obtain ⟨e1, hn⟩ := wipeR_get e
    obtain ⟨e2, ho⟩ := valR_get e1
    obtain ⟨v, q1, q2⟩ := t.slot i c e2
    refine ⟨v, wipe_get hn q1, ?_⟩
    cases c with
    | val d => exact Rp.mono sg ff.2.2.2.2.1 q2
    | _ => cases ho
  own := fun i j c c' v _ e1 _ o1 => by
    obtain ⟨e2, _⟩ := wipeR_get e1
    obtain ⟨_, ho⟩ := valR_get e2
    rw [o1] at ho; cases ho
  mem := ff.2.1
  kh := fun _ _ e _ => e
  kg := fun _ _ => rfl
  ki := Pre.refl _
  ni := fun n a hn e => by
    have hn : io1.length ≤ n := hn
    rw [List.getElem?_eq_none (by omega)] at e; cases e
  zl := fun _ _ e => zOf_at e
end
/-! ### the block of a comprehension -/
theorem relS_lookup {scope sc : Scope} {y : Str} {k : NameKind} (h : scope.names.lookup y = some k) (hk : k ≠ .free) : (relS scope sc).names.lookup y = some k := by
  unfold relS
  have key : ∀ (l : List (Str × NameKind)), l.lookup y = some k → (l.map fun (p : Str × NameKind) => if (p.2 == .free && sc.kind == .function && sc.names.lookup p.1 == some .cell) then (p.1, NameKind.cell) else (p.1, p.2)).lookup y = some k := by
    intro l
    induction l with
    | nil => intro h; cases h
    | cons p l ih =>
      intro h
      obtain ⟨n, q⟩ := p
      rw [List.lookup_cons] at h
      rw [List.map_cons]
      cases hn : (y == n) with
      | true =>
        rw [hn] at h
        have h : some q = some k := h
        injection h with h
        subst h
        have hq : (q == NameKind.free) = false := by
          cases q <;> first | rfl | exact absurd rfl hk
        show List.lookup y ((if (q == .free && sc.kind == .function && sc.names.lookup n == some .cell) = true then (n, NameKind.cell) else (n, q)) :: _) = _
        rw [hq, Bool.false_and, Bool.false_and, if_neg Bool.false_ne_true, List.lookup_cons, hn]
      | false =>
        rw [hn] at h
        have ih' := ih h
        show List.lookup y ((if (q == .free && sc.kind == .function && sc.names.lookup n == some .cell) = true then (n, NameKind.cell) else (n, q)) :: _) = _
        split
        · rw [List.lookup_cons, hn]
          exact ih'
        · rw [List.lookup_cons, hn]
          exact ih'
  exact key _ h
section
variable {T : Tb} {cc : CC} {X : Cx} {W : WX} {F : Fr}
abbrev W0 : WX := fun _ _ _ _ => False
theorem takesW0 {X : Cx} : Takes X W0 := fun _ _ x => by
  obtain ⟨_, _, _, _, _, _, _, _, _, _, _, _, _, _, _, _, z⟩ := x
  exact z.elim
theorem XOk.blk (o : XOk T cc X W) {scope : Scope} {own : List (Str × Nat)} (hb : BlkOk X.N X.env.scope scope own) (s : Shared) (H : Hp) (C : Addr) (cl : List (Str × Addr)) (fp : List Addr) :
    XOk T (cc.blk scope) (X.blk s H scope (compEnvC scope cl C X.env) fp) W0 where
  prog := o.prog
  w := o.w
  K := o.K
  mg := o.mg
  base := o.base
  N := o.N
  nd := o.nd
  sc := by show relS scope X.env.scope = relS scope cc.sc; rw [o.sc]
  calm := o.calm
  tk := takesW0
  po := PassesOwn.never
  room := o.room
  loc := fun y hy => by
    obtain ⟨⟨n, k⟩, hp, rfl⟩ := List.mem_map.mp hy
    obtain ⟨hp1, hp2⟩ := List.mem_filter.mp hp
    have hu := hb.uniq _ hp1
    simp only [Bool.or_eq_true, decide_eq_true_eq] at hp2
    show Loc (relS scope X.env.scope) n ∧ ((scope.names.lookup n == some .cell) = true ∨ (relS scope X.env.scope).names.lookup n = some .local)
    rcases hp2 with z | z
    · subst z
      exact ⟨.inl (relS_lookup hu (by decide)), .inr (relS_lookup hu (by decide))⟩
    · subst z
      refine ⟨.inr (relS_lookup hu (by decide)), .inl ?_⟩
      rw [show scope.names.lookup n = some NameKind.cell from hu]
      rfl
/-- a reading whatever the frame is -/
def rdF (T : Tb) (W : WX) (c : E) : TE := fun σ H Q => ∃ F, rd T F W c σ H Q
def rdTF (T : Tb) (W : WX) (c : E) : TT := fun σ H Q => ∃ F, rdT T F W c σ H Q
def rdGF (T : Tb) (c : E) : TG := fun v σ H Q => ∃ F, rdG T F c v σ H Q
theorem PE.exF {e : Expr} {c : E} (h : ∀ F, PE X e (rd T F W c)) : PE X e (rdF T W c) := ⟨fun pins s σ H Q I ⟨F, q⟩ => (h F).run pins s σ H Q I q⟩
theorem PT.exF {e : Expr} {c : E} (h : ∀ F, PT X e (rdT T F W c)) : PT X e (rdTF T W c) := ⟨fun pins s σ H Q I ⟨F, q⟩ => (h F).run pins s σ H Q I q⟩
theorem PG.exF {e : Expr} {c : E} (h : ∀ F, PG X e (rdG T F c)) : PG X e (rdGF T c) := ⟨fun pins s σ H v u Q I r ⟨F, q⟩ => (h F).run pins s σ H v u Q I r q⟩
theorem PTs.yes {c : E} (hc : c = .cst (.bl true)) : PTs X [] (rdTF T W c) := ⟨fun pins s σ H Q I ⟨F, s', G, io, t, hp⟩ => pts_nil.run pins s σ H Q I (by
  subst hc
  obtain ⟨b, e, q⟩ := Post.v hp t (v := .bl true) rfl
  cases e
  exact q)⟩
end
/-- the heap's list at D grows beside the frame -/
theorem FF.side {x : SX} {H1 G1 H G : Hp} {io1 io : List Addr} {m : List MO} {D : Addr} {o : HO} (hD : H1 D = none) (gD : G D = none) (iD : D ∉ io) (f : FF x H1 G1 io1 m H G io) : FF x H1 G1 io1 m (upd H D o) G io := by
  obtain ⟨f1, f2, f3, f4, f5, f6, f7⟩ := f
  refine ⟨fun b u e => ?_, ⟨f2.1, f2.2.1, fun n mo a e1 e2 => ?_⟩, fun b u e n => ?_, f4, f5, f6, fun b q u e => by rw [upd_ne (fun z => by rw [z, hD] at e; cases e)]; exact f7 _ _ _ e⟩
  · rw [upd_ne (fun z => by rw [z, gD] at e; cases e)]
    exact f1 _ _ e
  · have q := f2.2.2 n mo a e1 e2
    have ne : a ≠ D := fun z => iD (by rw [← z]; exact List.mem_of_getElem? e2)
    obtain ⟨vs, h, q1, q2⟩ := q
    exact ⟨vs, h, by rw [upd_ne ne]; exact q1, q2⟩
  · rw [upd_ne (fun z => by rw [z, hD] at e; cases e)]
    exact f3 _ _ e n
end En

namespace En
open PySem PySem.Spec L2
/-- what a walk yields, as data of the state -/
theorem yield_rp {x : SX} {F : Fr} {Z G0 G H H' : Hp} {io0 io : List Addr} {J : It} {ds : List D} {i : Nat} {v : V} {d : D} {s : S} {σ : L2.St} (w : WalkD x Z G0 io0 J ds) (t : StR x F s G io σ H) (s0 : Same G0 G) (p0 : Pre io0 io)
    (zh : ∀ b u, Z b = some u → H b = some u) (hd : ds[i]? = some d) (hy : J.yld i H v H') : ∃ G', Same G G' ∧ StR x F s G' io σ H' ∧ Rp x G' io d v ∧ Same H H' := by
  rcases w.yld i H v H' d (s0.trans t.gh) zh hd hy with ⟨rfl, r⟩ | ⟨p, vs, es, hn, rfl, rfl, rfl, r⟩
  · exact ⟨G, Same.refl _, t, r G io s0 p0, Same.refl _⟩
  · obtain ⟨t', sg⟩ := t.newfast (o := .tup vs) hn
    exact ⟨_, sg, t', ⟨p, vs, rfl, .of upd_same, r _ io (s0.trans sg) p0⟩, same_upd hn⟩
theorem wipe_wipe {σ : L2.St} {ks : List Nat} : ∀ {js : List Nat}, (∀ j ∈ js, j ∈ ks) → wipe (wipe σ js) ks = wipe σ ks
  | [], _ => rfl
  | j :: js, h => by
    show wipe ((wipe σ js).set j none) ks = _
    rw [wipe_set (h j List.mem_cons_self)]
    exact wipe_wipe fun k hk => h k (List.mem_cons_of_mem _ hk)
/-- a run that comes to a list: each part of it comes to a value -/
theorem Post.run {x : SX} {F : Fr} {W : WX} {G : Hp} {io : List Addr} {σ : L2.St} {o : Res} {k : D → S → Res} {Q1 : VK} {a : List D} {s' : S} (h : En.bnd o k = some (.fr (.bx a), s'))
    (hk : ∀ d s v H' G' io', Same G G' → Pre io io' → StR x F s G' io' σ H' → Rp x G' io' d v → k d s = some (.fr (.bx a), s') → Q1 v H') : Post x F W G io o σ Q1 := by
  unfold Post
  unfold En.bnd at h
  split
  · exact fun v H' G' io' sg si t r => hk _ _ v H' G' io' sg si t r h
  · rename_i o1 s
    refine fun a H' G' io' sg sp t ni ow no => ?_
    obtain ⟨G2, io2, a1, a2, a3, a4⟩ := fr_rp t ni ow no
    exact hk _ _ (.ref a) H' G2 io2 (sg.trans a1) (sp.trans a2) a3 a4 h
  · cases h
  · rename_i h1 h2 h3
    split at h
    · exact h1 _ _ rfl
    · exact h2 _ _ rfl
    · exact h3 _ _ _ _ rfl
    · cases h
section
variable {T : Tb} {cc : CC} {X : Cx} {W : WX} {F : Fr} {pos : Pos}
theorem lc_key {own : List (Str × Nat)} {tgc it cd el : E} (hsub : ∀ j ∈ tgIx tgc, j ∈ own.map (·.2)) {σ : L2.St} {H : Hp} {Q : VK} (hq : rd T F W (.lc (own.map (·.2)) tgc it cd el) σ H Q) :
    tLc (rdI T F W it) (rdGF T tgc) (rdTF T W0 cd) (rdF T W0 el) (own.map (·.2)) σ H Q := by
  obtain ⟨s, G, io, t, hp⟩ := hq
  refine ⟨s, G, io, t, ?_⟩
  refine Post.bndI hp fun ds s1 J H1 G1 io1 sg1 si1 t1 wk hp1 => fun D hD => ?_
  split at hp1
  · rename_i accF sF hfin
    have zh : ∀ {m2 : List MO} {Hc G2 : Hp} {io2 : List Addr}, FF T.x H1 G1 io1 m2 Hc G2 io2 → ∀ b u, zOf H1 b = some u → Hc b = some u := fun {m2 Hc G2 io2} ff b u e => by
      obtain ⟨e1, o, w, rfl⟩ := zOf_at e
      exact ff.2.2.2.2.2.2 _ _ _ e1
    have hG1 : G1 D = none := by
      cases e : G1 D with
      | none => rfl
      | some u => rw [t1.gh _ _ e] at hD; cases hD
    obtain ⟨tD, _, fD, nD, oD⟩ := t1.new (o := .lst []) hD
    refine ⟨fun i mm H => mm = ds.length - i ∧ i ≤ ds.length ∧ ∃ m2 G2 io2 acc avs, FF T.x H1 G1 io1 m2 H G2 io2 ∧ H D = some (.lst avs) ∧ G2 D = none ∧ D ∉ io2 ∧ RpL T.x G2 io2 acc avs ∧
        compL (store tgc) (ev T.P T.Gm cd) (ev T.P T.Gm el) (wipeR (valR s1.r) (own.map (·.2))) (ds.drop i) acc m2 = some (.fr (.bx accF), sF), ⟨ds.length, by simp, Nat.zero_le _, s1.m, G1, io1, [], [], ?_, upd_same, hG1, nD, .nil, ?_⟩, ?_⟩
    · exact (FF.refl t1.gh t1.mem).side hD hG1 nD
    · rw [List.drop_zero]
      exact hfin
    · rintro i mm Hc ⟨rfl, hi, m2, G2, io2, acc, avs, ff, eD, gD, iD, racc, hrun⟩
      have s12 : Same G1 G2 := (t1.call ff).2
      by_cases hlt : i < ds.length
      · have hd : ds[i]? = some ds[i] := List.getElem?_eq_getElem hlt
        refine .inr ⟨wk.go i Hc hlt (s12.trans ff.1) (zh ff), fun H' => ∃ m2 G2 io2 acc avs, FF T.x H1 G1 io1 m2 H' G2 io2 ∧ H' D = some (.lst avs) ∧ G2 D = none ∧ D ∉ io2 ∧ RpL T.x G2 io2 acc avs ∧
          compL (store tgc) (ev T.P T.Gm cd) (ev T.P T.Gm el) (wipeR (valR s1.r) (own.map (·.2))) (ds.drop (i + 1)) acc m2 = some (.fr (.bx accF), sF), fun H' hN => ⟨ds.length - (i + 1), by omega, rfl, hlt, hN⟩, fun v H' hy => ?_⟩
        -- the turn
        have tin := t1.inner (own := own.map (·.2)) ff s12
        obtain ⟨G3, sg3, t3, r3, sh3⟩ := yield_rp wk tin s12 ff.2.2.2.2.1 (zh ff) hd hy
        rw [List.drop_eq_getElem_cons hlt] at hrun
        simp only [compL] at hrun
        -- the frame of the turn begins at H'
        have ffi : FF T.x Hc G2 io2 m2 H' G3 io2 := t3.ff
        have eD' : H' D = some (.lst avs) := sh3 _ _ eD
        have gD' : G3 D = none := by rw [ffi.2.2.2.1 D (by rw [eD]; simp)]; exact gD
        have tt : StR T.x ⟨H', G3, io2, zOf H'⟩ ⟨wipeR (valR s1.r) (own.map (·.2)), m2⟩ G3 io2 (wipe σ (own.map (·.2))) H' := t1.inner (FF.trans t1.mem (s1 := ⟨[], m2⟩) ff ffi) (s12.trans sg3)
        cases hst : store tgc ds[i] ⟨wipeR (valR s1.r) (own.map (·.2)), m2⟩ with
        | none => rw [hst] at hrun; cases hrun
        | some s4 =>
          rw [hst] at hrun
          refine ⟨⟨H', G3, io2, zOf H'⟩, _, G3, io2, ds[i], s4, tt, r3, hst, fun σ2 t4 hw => ⟨(hw _ hsub).trans (wipe_wipe fun _ h => h), ?_⟩⟩
          -- what remains of the run
          have fin : ∀ {H5 G5 : Hp} {io5 : List Addr} {s5 : S} {σ5 : L2.St}, StR T.x ⟨H', G3, io2, zOf H'⟩ s5 G5 io5 σ5 H5 → FF T.x H1 G1 io1 s5.m H5 G5 io5 ∧ H5 D = some (.lst avs) ∧ G5 D = none ∧ D ∉ io5 ∧ RpL T.x G5 io5 acc avs := by
            intro H5 G5 io5 s5 σ5 t5
            have f5 := t5.ff
            have ne : H' D ≠ none := by rw [eD']; simp
            have i5 : D ∉ io5 := fun hm => by
              obtain ⟨n, hn, e⟩ := List.getElem_of_mem hm
              by_cases hl : n < io2.length
              · obtain ⟨k, hk⟩ := f5.2.2.2.2.1
                apply iD
                have : io5[n] = io2[n] := by simp [hk, List.getElem_append_left hl]
                rw [← e, this]
                exact List.getElem_mem _
              · exact ne (f5.2.2.2.2.2.1 n D (by omega) (by rw [List.getElem?_eq_getElem hn, e]))
            refine ⟨FF.trans t1.mem (s1 := ⟨[], m2⟩) (FF.trans t1.mem (s1 := ⟨[], m2⟩) ff ffi) f5, f5.2.2.1 D _ eD' iD, by rw [f5.2.2.2.1 D ne]; exact gD', i5, racc.mono ?_ f5.2.2.2.2.1⟩
            exact sg3.trans fun b u e => by rw [f5.2.2.2.1 b (by rw [t3.gh _ _ e]; simp)]; exact e
          refine ⟨⟨H', G3, io2, zOf H'⟩, s4, G3, io2, t4, ?_⟩
          refine Post.run hrun fun c s5 vc H5 G5 io5 sg5 si5 t5 r5 hrun5 => ?_
          cases c with
          | bl b =>
            cases (show vc = .bl b from r5)
            refine ⟨b, rfl, ?_⟩
            cases b with
            | false =>
              refine iteF ?_
              obtain ⟨f1, f2, f3, f4, f5⟩ := fin t5
              exact ⟨s5.m, G5, io5, acc, avs, f1, f2, f3, f4, f5, hrun5⟩
            | true =>
              refine iteT ⟨⟨H', G3, io2, zOf H'⟩, s5, G5, io5, t5, ?_⟩
              refine Post.run hrun5 fun y s6 vy H6 G6 io6 sg6 si6 t6 r6 hrun6 => ?_
              split at hrun6
              · rename_i hl
                obtain ⟨f1, f2, f3, f4, f5⟩ := fin t6
                refine ⟨avs, f2, by rw [f5.length]; exact big_lt hl, s6.m, G6, io6, acc ++ [y], avs ++ [vy], f1.side hD f3 f4, upd_same, f3, f4, f5.append (.cons r6 .nil), hrun6⟩
              · cases hrun6
          | _ => cases hrun5
      · have e : i = ds.length := by omega
        subst e
        rw [List.drop_length] at hrun
        simp only [compL] at hrun
        cases hrun
        refine .inl ⟨wk.stop Hc (s12.trans ff.1) (zh ff), ?_⟩
        obtain ⟨t2, _⟩ := t1.call ff
        exact hp1 D Hc G2 io2 s12 ff.2.2.2.2.1 t2 iD ⟨avs, _, eD, gD, fD, racc, rfl, trivial⟩ oD
  · exact hp1.elim
theorem s_lc (o : XOk T cc X W) {elt tg iter : Expr} {ifs : List Expr} {scope : Scope} {own : List (Str × Nat)} {tgc it cd el : E} (hb : BlkOk X.N X.env.scope scope own) (hsub : ∀ j ∈ tgIx tgc, j ∈ own.map (·.2)) (hi : PI X tg iter (rdI T F W it)) (hset : isSet iter = false)
    (hg : ∀ (X' : Cx), XOk T (cc.blk scope) X' W0 → ∀ F, PG X' tg (rdG T F tgc))
    (ht : ∀ (X' : Cx), XOk T (cc.blk scope) X' W0 → PTs X' ifs (rdTF T W0 cd))
    (he : ∀ (X' : Cx), XOk T (cc.blk scope) X' W0 → ∀ F, PE X' elt (rd T F W0 el)) :
    PE X (.ListComp elt [⟨tg, iter, ifs, 0⟩] scope pos) (rd T F W (.lc (own.map (·.2)) tgc it cd el)) :=
  PE.wk (pe_lc (own := own) o.calm o.nd hi hb (fun s H C cl fp => PG.exF (hg _ (o.blk hb s H C cl fp))) (fun s H C cl fp => ht _ (o.blk hb s H C cl fp)) (fun s H C cl fp => PE.exF (he _ (o.blk hb s H C cl fp))) (folded_no hset)) fun σ H Q hq => lc_key hsub hq
/-- a comprehension that is laid straight into a name -/
theorem s_asnLc (o : XOk T cc X W) {i : Nat} {y : Str} {py spos : Pos} {S : E} {elt tg iter : Expr} {ifs : List Expr} {scope : Scope} {own : List (Str × Nat)} {tgc it cd el : E} (hb : BlkOk X.N X.env.scope scope own) (hsub : ∀ j ∈ tgIx tgc, j ∈ own.map (·.2)) (hi : PI X tg iter (rdI T F W it)) (hset : isSet iter = false)
    (hg : ∀ (X' : Cx), XOk T (cc.blk scope) X' W0 → ∀ F, PG X' tg (rdG T F tgc))
    (ht : ∀ (X' : Cx), XOk T (cc.blk scope) X' W0 → PTs X' ifs (rdTF T W0 cd))
    (he : ∀ (X' : Cx), XOk T (cc.blk scope) X' W0 → ∀ F, PE X' elt (rd T F W0 el))
    (hS : ∀ D σ H, rdS T F W S D σ H → rd T F W (.lc (own.map (·.2)) tgc it cd el) σ H (fun v H1 => D.nx (σ.set i (some v)) H1)) (h : tgt cc i y = true) (hk : cc.sc.kind = .function) (hy : cc.sc.names.lookup y = some .local) (hl : (py.line == pos.line) = true)
    (ha : (scope.names.any fun (n, k) => n == y && (k == .local || k == .cell)) = false) :
    PS X (.Assign [.Name y py] (.ListComp elt [⟨tg, iter, ifs, 0⟩] scope pos) spos) (rdS T F W S) :=
  PS.wk (ps_setLc (own := own) o.calm o.nd (o.tgt h).1 (by rw [o.sc]; exact hy) (sw_true (by rw [o.sc]; exact hk) (by rw [o.sc]; exact hy) hl ha) hi hb (fun s H C cl fp => PG.exF (hg _ (o.blk hb s H C cl fp))) (fun s H C cl fp => ht _ (o.blk hb s H C cl fp)) (fun s H C cl fp => PE.exF (he _ (o.blk hb s H C cl fp))) (folded_no hset))
    fun D σ H hq => lc_key hsub (hS D σ H hq)
end
end En

namespace En
open PySem PySem.Spec L2
section
variable {T : Tb} {cc : CC} {X : Cx} {W : WX} {F : Fr} {pos : Pos} {e l r c tg : Expr} {es : List Expr} {a b : E} {st : Stmt} {sts : List Stmt}
/-! ### statements -/
theorem s_skp : PS X (.Pass pos) (rdS T F W .skp) := PS.wk ps_pass fun D σ H ⟨s, G, io, t, hp⟩ => hp σ H G io (Same.refl _) (Pre.refl _) t
theorem b_nil : PSs X [] (rdS T F W .skp) := PSs.wk pss_nil fun D σ H ⟨s, G, io, t, hp⟩ => hp σ H G io (Same.refl _) (Pre.refl _) t
theorem PostS.seq {x : SX} {G : Hp} {io : List Addr} {o : Res} {k : S → Res} {D : Ends} {Nx : L2.St → Hp → Prop} (h : PostS x F W G io (match o with | some (.nx, s) => k s | r => r) D)
    (hk : ∀ s σ' H' G' io', Same G G' → Pre io io' → StR x F s G' io' σ' H' → PostS x F W G' io' (k s) D → Nx σ' H') : PostS x F W G io o { D with nx := Nx } := by
  unfold PostS
  split
  · rename_i s
    exact fun σ' H' G' io' sg si t => hk s σ' H' G' io' sg si t (PostS.anti (show PostS x F W G io (k s) D from h) sg si)
  all_goals first
    | exact h
    | skip
  rename_i h1 h2 h3 h4 h5 h6
  split at h
  · rename_i s
    exact absurd rfl (h1 s)
  · unfold PostS at h
    split at h
    · exact h1 _ rfl
    · exact h2 _ rfl
    · exact h3 _ rfl
    · exact h4 _ _ rfl
    · exact h5 _ _ rfl
    · exact h6 _ _ _ _ rfl
    · exact h
theorem b_seq (h1 : PS X st (rdS T F W a)) (h2 : PSs X sts (rdS T F W b)) : PSs X (st :: sts) (rdS T F W (.seq a b)) := by
  refine PSs.wk (pss_cons h1 h2) fun D σ H ⟨s, G, io, t, hp⟩ => ⟨s, G, io, t, ?_⟩
  exact PostS.seq (k := ev T.P T.Gm b) hp fun s σ' H' G' io' sg si t' hp' => ⟨s, G', io', t', hp'⟩
theorem s_ret (ha : PE X e (rd T F W a)) : PS X (.Return (some e) pos) (rdS T F W (.ret a)) := by
  refine PS.wk (ps_ret ha) fun D σ H ⟨s, G, io, t, hp⟩ => ⟨s, G, io, t, ?_⟩
  simp only [ev] at hp
  unfold Post
  split
  · rename_i d s1 he
    rw [he] at hp
    exact fun v H' G' io' sg si t' r => hp v σ H' G' io' sg si t' r
  · rename_i d s1 he
    rw [he] at hp
    exact fun v H' G' io' sg si t' ni ow no => hp v σ H' G' io' sg si t' ni ow
  · rename_i k ns d s1 he
    rw [he] at hp
    exact fun cls dd H' G' io' sg si t' ex => hp cls dd σ H' G' io' sg si t' ex
  · rename_i h1 h2 h3
    split at hp
    · exact h1 _ _ (by assumption)
    · exact h2 _ _ (by assumption)
    · exact h3 _ _ _ _ (by assumption)
    · exact hp
theorem s_rtn : PS X (.Return none pos) (rdS T F W .rtn) := PS.wk ps_retN fun D σ H ⟨s, G, io, t, hp⟩ => hp .non σ H G io (Same.refl _) (Pre.refl _) t rfl
theorem s_iff {k : E} {xs ys : List Stmt} (hc : PT X c (rdT T F W k)) (ha : PSs X xs (rdS T F W a)) (hb : PSs X ys (rdS T F W b)) : PS X (.If c xs ys pos) (rdS T F W (.iff k a b)) := by
  refine PS.wk (ps_if hc ha hb) fun D σ H ⟨s, G, io, t, hp⟩ => ⟨s, G, io, t, ?_⟩
  refine PostS.bnd hp fun d s v H1 G1 io1 sg si t1 r1 hp1 => ?_
  split at hp1
  · rename_i k
    refine ⟨k, r1, ?_⟩
    cases k with
    | true => exact iteT ⟨s, G1, io1, t1, hp1⟩
    | false => exact iteF ⟨s, G1, io1, t1, hp1⟩
  · exact hp1.elim
theorem s_exp (hs : isComp e = false) (ha : PE X e (rd T F W a)) : PS X (.Expr e pos) (rdS T F W (.exp a)) := by
  refine PS.wk (ps_expr ha (swaps_no hs)) fun D σ H ⟨s, G, io, t, hp⟩ => ⟨s, G, io, t, ?_⟩
  refine PostS.bnd hp fun d s v H1 G1 io1 sg si t1 r1 hp1 => ?_
  exact hp1 σ H1 G1 io1 (Same.refl _) (Pre.refl _) t1
theorem asg_rd {i : Nat} {D : Ends} {σ : L2.St} {H : Hp} (h : rdS T F W (.asg i a) D σ H) : rd T F W a σ H (fun v H1 => D.nx (σ.set i (some v)) H1) := by
  obtain ⟨s, G, io, t, hp⟩ := h
  refine ⟨s, G, io, t, ?_⟩
  refine PostS.bnd hp fun d s v H1 G1 io1 sg si t1 r1 hp1 => ?_
  exact hp1 _ H1 G1 io1 (Same.refl _) (Pre.refl _) (t1.setv r1)
/-- a slot is given a list of its own -/
theorem StR.seto {x : SX} {F : Fr} {G H : Hp} {io : List Addr} {σ : L2.St} {s : S} {i : Nat} {ds : List D} {p : Addr} (t : StR x F s G io σ H) (ni : p ∉ io) (ow : OwnL x F G io H ds p)
    (no : ∀ (j : Nat) (c : Cell), s.r[j]? = some (some c) → isOwn c = true → σ[j]? ≠ some (some (.ref p))) : StR x F (s.set i (some (.ol ds))) G io (σ.set i (some (.ref p))) H where
  gh := t.gh
  len := by simp [S.set, t.len]
  slot := fun j c e => by
    have e : (s.r.set i (some (.ol ds)))[j]? = some (some c) := e
    by_cases hj : i = j
    · subst hj
      by_cases hi : i < s.r.length
      · rw [List.getElem?_set_self hi] at e
        cases e
        exact ⟨.ref p, by rw [List.getElem?_set_self (by rw [← t.len]; exact hi)], p, rfl, ni, ow⟩
      · rw [List.getElem?_eq_none (by simpa using hi)] at e; cases e
    · rw [List.getElem?_set_ne hj] at e
      obtain ⟨w, e1, q⟩ := t.slot j c e
      exact ⟨w, by rw [List.getElem?_set_ne hj]; exact e1, q⟩
  own := fun j k c c' w hjk e1 e2 o1 o2 z1 z2 => by
    have e1 : (s.r.set i (some (.ol ds)))[j]? = some (some c) := e1
    have e2 : (s.r.set i (some (.ol ds)))[k]? = some (some c') := e2
    by_cases h1 : i = j
    · subst h1
      have h2 : i ≠ k := hjk
      rw [List.getElem?_set_ne h2] at e2 z2
      have hi : i < σ.length := by
        by_cases hi : i < σ.length
        · exact hi
        · rw [List.getElem?_eq_none (by simpa using hi)] at z1; cases z1
      rw [List.getElem?_set_self hi] at z1
      cases z1
      exact no k c' e2 o2 z2
    · by_cases h2 : i = k
      · subst h2
        rw [List.getElem?_set_ne h1] at e1 z1
        have hi : i < σ.length := by
          by_cases hi : i < σ.length
          · exact hi
          · rw [List.getElem?_eq_none (by simpa using hi)] at z2; cases z2
        rw [List.getElem?_set_self hi] at z2
        cases z2
        exact no j c e1 o1 z1
      · rw [List.getElem?_set_ne h1] at e1 z1
        rw [List.getElem?_set_ne h2] at e2 z2
        exact t.own j k c c' w hjk e1 e2 o1 o2 z1 z2
  mem := t.mem
  kh := t.kh
  kg := t.kg
  ki := t.ki
  ni := t.ni
  zl := t.zl
/-- a new thing is wanted of the expression -/
theorem PostS.fr {x : SX} {G : Hp} {io : List Addr} {σ : L2.St} {o : Res} {k : MO → S → Res} {D : Ends} {Q : VK} (h : PostS x F W G io (match o with | some (.fr o, s) => k o s | some (.exc c ns ds, s) => some (.exc c ns ds, s) | _ => none) D)
    (hk : ∀ o s p H' G' io', Same G G' → Pre io io' → StR x F s G' io' σ H' → p ∉ io' → Own x F G' io' H' o p → (∀ (j : Nat) (c : Cell), s.r[j]? = some (some c) → isOwn c = true → σ[j]? ≠ some (some (.ref p))) → PostS x F W G' io' (k o s) D → Q (.ref p) H') : Post x F W G io o σ Q := by
  unfold Post
  split
  · exact h.elim
  · rename_i o1 s
    exact fun p H' G' io' sg si t ni ow no => hk o1 s p H' G' io' sg si t ni ow no (PostS.anti (show PostS x F W G io (k o1 s) D from h) sg si)
  · exact fun cls dd H' G' io' sg si t ex => h cls dd σ H' G' io' sg si t ex
  · rename_i h1 h2 h3
    split at h
    · exact h2 _ _ rfl
    · exact h3 _ _ _ _ rfl
    · exact h
theorem aso_rd {i : Nat} {D : Ends} {σ : L2.St} {H : Hp} (h : rdS T F W (.aso i a) D σ H) : rd T F W a σ H (fun v H1 => D.nx (σ.set i (some v)) H1) := by
  obtain ⟨s, G, io, t, hp⟩ := h
  refine ⟨s, G, io, t, ?_⟩
  have hp : PostS T.x F W G io (match ev T.P T.Gm a s with | some (.fr o, s) => asoK i o s | some (.exc c ns ds, s) => some (.exc c ns ds, s) | _ => none) D := hp
  refine PostS.fr (k := asoK i) hp fun o s q H1 G1 io1 sg si t1 ni ow no hp1 => ?_
  cases o with
  | bx ds => exact hp1 _ H1 G1 io1 (Same.refl _) (Pre.refl _) (t1.seto ni ow.l no)
  | _ => exact (show False from hp1).elim
theorem asb_rd {i : Nat} {D : Ends} {σ : L2.St} {H : Hp} (h : rdS T F W (.asb i a) D σ H) : rd T F W a σ H (fun v H1 => D.nx (σ.set i (some v)) H1) := by
  obtain ⟨s, G, io, t, hp⟩ := h
  refine ⟨s, G, io, t, ?_⟩
  refine PostS.fr (k := fun o s => some (.nx, { r := s.r.set i (some (.val (.adr s.m.length))), m := s.m ++ [o] })) hp fun o s q H1 G1 io1 sg si t1 ni ow no hp1 => ?_
  have t2 := (t1.push ni ow no).setv (i := i) (d := .adr s.m.length) (v := .ref q) ⟨q, rfl, by rw [t1.mem.1]; simp⟩
  exact hp1 _ H1 G1 _ (Same.refl _) ⟨[q], rfl⟩ t2
theorem swaps_cell {e : Expr} {y : Str} {p : Pos} {l : Nat} {env : Env} (h : env.scope.names.lookup y ≠ some .local) : swapsWith e (some (.Name y p)) l env = pure false := by
  have hk : (env.kindOf y == some NameKind.local) = false := by
    cases q : env.kindOf y with
    | none => rfl
    | some k => cases k <;> first | rfl | exact absurd q h
  cases e <;> first
    | rfl
    | (unfold swapsWith; simp only [hk, Bool.and_false, Bool.false_and]; try rfl)
/-- an assignment to a name, of anything but a comprehension that is laid straight into it -/
theorem s_asn (o : XOk T cc X W) {i : Nat} {y : Str} {p : Pos} {S : E} (hS : ∀ D σ H, rdS T F W S D σ H → rd T F W a σ H (fun v H1 => D.nx (σ.set i (some v)) H1)) (h : tgt cc i y = true) (hs : isComp e = false ∨ cc.sc.names.lookup y ≠ some .local) (ha : PE X e (rd T F W a)) :
    PS X (.Assign [.Name y p] e pos) (rdS T F W S) := by
  obtain ⟨h1, h2, h3⟩ := o.tgt h
  have hsw : swapsWith e (some (.Name y p)) pos.line X.env = pure false := hs.elim swaps_no fun z => swaps_cell (by rw [o.sc]; exact z)
  exact PS.wk (ps_set (i := i) o.nd h1 h2 ha hsw h3) fun D σ H hq => hS D σ H hq
/-- a target of names, of anything but a tuple that is written -/
def isTup : Expr → Bool
  | .Tuple _ _ _ => true
  | _ => false
theorem swapped_no {ts : List Expr} {k : Nat} {p : Pos} {e : Expr} {env : Env} (h : isTup e = false) : swappedStores [.Tuple ts k p] e env = pure none := by
  cases e <;> first | (cases h; done) | rfl
def isFast (sc : Scope) : Expr → Bool
  | .Name id _ => decide (sc.names.lookup id = some .local)
  | _ => false
def swNo (sc : Scope) (ts : List Expr) (e : Expr) : Bool := !isTup e || ts.any fun t => !isFast sc t
theorem fm_short {α β : Type} {f : α → Option β} : ∀ {l : List α}, (l.filterMap f).length ≤ l.length ∧ ((∃ x ∈ l, f x = none) → (l.filterMap f).length < l.length)
  | [] => ⟨Nat.le_refl _, fun ⟨_, h, _⟩ => by cases h⟩
  | a :: l => by
    obtain ⟨h1, h2⟩ := fm_short (f := f) (l := l)
    rw [List.filterMap_cons]
    cases ha : f a with
    | none => exact ⟨Nat.le_succ_of_le h1, fun _ => Nat.lt_succ_of_le h1⟩
    | some b =>
      refine ⟨Nat.succ_le_succ h1, fun ⟨x, hx, e⟩ => ?_⟩
      rcases List.mem_cons.mp hx with rfl | hx
      · rw [ha] at e; cases e
      · exact Nat.succ_lt_succ (h2 ⟨x, hx, e⟩)
theorem swapped_none {ts vs : List Expr} {k k2 : Nat} {p p2 : Pos} {env : Env} (h : (ts.any fun t => !isFast env.scope t) = true) : swappedStores [.Tuple ts k p] (.Tuple vs k2 p2) env = pure none := by
  obtain ⟨t, ht, hf⟩ := List.any_eq_true.mp h
  unfold swappedStores
  simp only []
  split
  · rfl
  · split
    · rfl
    · rw [if_pos]
      rw [Bool.or_eq_true]
      left
      rw [bne_iff_ne]
      refine Nat.ne_of_lt (fm_short.2 ⟨t, ht, ?_⟩)
      cases t with
      | Name id pos =>
        have hf : (!decide (env.scope.names.lookup id = some .local)) = true := hf
        rw [Bool.not_eq_true', decide_eq_false_iff_not] at hf
        have hk : (env.kindOf id == some .local) = false := by
          cases hb : (env.kindOf id == some .local) with
          | false => rfl
          | true => exact absurd (beq_iff_eq.mp hb) hf
        simp [hk]
      | _ => rfl
theorem swNo_ok {env : Env} {ts : List Expr} {k : Nat} {p : Pos} {e : Expr} (h : swNo env.scope ts e = true) : swappedStores [.Tuple ts k p] e env = pure none := by
  unfold swNo at h
  rw [Bool.or_eq_true] at h
  rcases h with h | h
  · exact swapped_no (by simpa using h)
  · cases e with
    | Tuple vs k2 p2 => exact swapped_none h
    | _ => exact swapped_no rfl
theorem s_ast (o : XOk T cc X W) {tgc : E} {ts : List Expr} {k : Nat} {p : Pos} (hs : isComp e = false) (hw : swNo cc.sc ts e = true) (hg : PG X (.Tuple ts k p) (rdG T F tgc)) (ha : PE X e (rd T F W a)) :
    PS X (.Assign [.Tuple ts k p] e pos) (rdS T F W (.ast tgc a)) := by
  refine PS.wk (ps_asg ha hg (swapsSole_no hs) (swNo_ok (by rw [o.sc]; exact hw))) fun D σ H ⟨s, G, io, t, hp⟩ => ⟨s, G, io, t, ?_⟩
  refine PostS.bnd hp fun d s v H1 G1 io1 sg si t1 r1 hp1 => ?_
  cases hst : store tgc d s with
  | none => rw [hst] at hp1; exact hp1.elim
  | some s2 =>
    rw [hst] at hp1
    exact ⟨s, G1, io1, d, s2, t1, r1, hst, fun σ' t' _ => hp1 _ H1 G1 io1 (Same.refl _) (Pre.refl _) t'⟩
end
end En

namespace En
open PySem PySem.Spec L2
theorem starM {e : Expr} (h : isStar e = false) : (match e with | .Starred _ _ => true | _ => false) = false := by
  cases e <;> first | rfl | exact Bool.noConfusion h
theorem swapped_two {x y : Str} {px py pt pt2 : Pos} {kt k2 : Nat} {a b : Expr} {env : Env} (hk : env.scope.kind = .function) (hx : env.scope.names.lookup x = some .local) (hy : env.scope.names.lookup y = some .local) (hxy : x ≠ y) (hl : (py.line == px.line) = true)
    (sa : isStar a = false) (sb : isStar b = false) (hf : [a, b].all (foldedForSure 8) = false) (hc : [a, b].all (constantsAlone 8) = false) :
    swappedStores [.Tuple [.Name x px, .Name y py] kt pt] (.Tuple [a, b] k2 pt2) env = pure (some [x, y]) := by
  have hb : env.blockKind = .function := by unfold Env.blockKind; rw [hk]; rfl
  have kx : (env.kindOf x == some NameKind.local) = true := by
    have : env.kindOf x = some .local := hx
    rw [this]; rfl
  have ky : (env.kindOf y == some NameKind.local) = true := by
    have : env.kindOf y = some .local := hy
    rw [this]; rfl
  have hd : [x, y].eraseDups = [x, y] := by
    have z : (x == y) = false := by simpa using hxy
    have z2 : (y == x) = false := by simpa using Ne.symm hxy
    simp [List.eraseDups_cons, z, z2]
  have hd2 : ([x, y].eraseDups.length != [x, y].length) = false := by rw [hd]; rfl
  unfold swappedStores
  simp only [hb]
  simp only [List.filterMap, List.head?, Option.map, Option.getD, Expr.pos, kx, ky, hl, beq_self_eq_true, Bool.and_self, if_true, List.length_cons, List.length_nil]
  rw [hf, hc]
  have h1 : ∀ {u v : Bool}, u = false → v = false → (u || v) = false := fun {u v} e f => by rw [e, f]; rfl
  simp only [List.any_cons, List.any_nil, Bool.or_false]
  rw [if_neg (by decide), if_neg (show ¬ _ by rw [h1 (by cases a <;> first | rfl | exact Bool.noConfusion sa) (by cases b <;> first | rfl | exact Bool.noConfusion sb)]; exact Bool.false_ne_true)]
  simp [hxy, List.eraseDups_cons, Ne.symm hxy]
section
variable {T : Tb} {cc : CC} {X : Cx} {W : WX} {F : Fr} {pos : Pos} {e l r c tg : Expr} {es : List Expr} {a b : E} {st : Stmt} {sts : List Stmt}
theorem s_par (o : XOk T cc X W) {i j : Nat} {x y : Str} {px py pt pt2 : Pos} {kt k2 : Nat} (hi : cc.N[i]? = some x) (hj : cc.N[j]? = some y) (hk : cc.sc.kind = .function) (hx : cc.sc.names.lookup x = some .local) (hy : cc.sc.names.lookup y = some .local) (hxy : x ≠ y) (hl : (py.line == px.line) = true)
    (sa : isStar l = false) (sb : isStar r = false) (hf : [l, r].all (foldedForSure 8) = false) (hc : [l, r].all (constantsAlone 8) = false) (ha : PE X l (rd T F W a)) (hb : PE X r (rd T F W b)) :
    PS X (.Assign [.Tuple [.Name x px, .Name y py] kt pt] (.Tuple [l, r] k2 pt2) pos) (rdS T F W (.par i j a b)) := by
  have hi' : X.N[i]? = some x := by rw [o.N]; exact hi
  have hj' : X.N[j]? = some y := by rw [o.N]; exact hj
  have hij : i ≠ j := fun z => by subst z; rw [hi] at hj; cases hj; exact hxy rfl
  refine PS.wk (ps_par o.calm o.nd hi' hj' hij (by rw [o.sc]; exact hx) (by rw [o.sc]; exact hy) (pa_cons ha (pa_cons hb pa_nil (star_no sb)) (star_no sa))
    (swapped_two (by rw [o.sc]; exact hk) (by rw [o.sc]; exact hx) (by rw [o.sc]; exact hy) hxy hl sa sb hf hc)) fun D σ H ⟨s, G, io, t, hp⟩ => ⟨s, G, io, t, ?_⟩
  refine PostS.bnd hp fun d s v H1 G1 io1 sg si t1 r1 hp1 => ⟨s, G1, io1, t1, ?_⟩
  refine PostS.bnd hp1 fun d2 s2 v2 H2 G2 io2 sg2 si2 t2 r2 hp2 => ?_
  exact ⟨v, v2, rfl, hp2 _ H2 G2 io2 (Same.refl _) (Pre.refl _) ((t2.setv (r1.mono sg2 si2)).setv r2)⟩
/-! ### loops -/
def rdSF (T : Tb) (W : WX) (c : E) : TS := fun D σ H => ∃ F, rdS T F W c D σ H
theorem PSs.exF {ss : List Stmt} {c : E} (h : ∀ F, PSs X ss (rdS T F W c)) : PSs X ss (rdSF T W c) := ⟨fun pins s σ H D I ⟨F, q⟩ => (h F).run pins s σ H D I q⟩
theorem StR.toZ {x : SX} {F : Fr} {G H : Hp} {io : List Addr} {σ : L2.St} {s : S} (t : StR x F s G io σ H) : StR x { F with z := zOf H } s G io σ H :=
  ⟨t.gh, t.len, t.slot, t.own, t.mem, t.kh, t.kg, t.ki, t.ni, fun _ _ e => zOf_at e⟩
theorem StR.ofZ {x : SX} {F : Fr} {Z G H : Hp} {io : List Addr} {σ : L2.St} {s : S} (t : StR x { F with z := Z } s G io σ H) (h : ∀ b u, F.z b = some u → Z b = some u) : StR x F s G io σ H :=
  ⟨t.gh, t.len, t.slot, t.own, t.mem, t.kh, t.kg, t.ki, t.ni, fun b u e => t.zl b u (h b u e)⟩
theorem StR.zz {x : SX} {F : Fr} {G H : Hp} {io : List Addr} {σ : L2.St} {s : S} (t : StR x F s G io σ H) : ∀ b u, F.z b = some u → zOf H b = some u := fun b u e => by
  obtain ⟨e1, o, w, rfl⟩ := t.zl b u e
  exact zOf_of e1
theorem PostS.toZ {x : SX} {F : Fr} {Z G : Hp} {io : List Addr} {W : WX} {o : Res} {D : Ends} (h : ∀ b u, F.z b = some u → Z b = some u) (hp : PostS x F W G io o D) : PostS x { F with z := Z } W G io o D := by
  unfold PostS at hp ⊢
  split at hp
  · exact fun σ' H' G' io' a b t => hp σ' H' G' io' a b (t.ofZ h)
  · exact fun σ' H' G' io' a b t => hp σ' H' G' io' a b (t.ofZ h)
  · exact fun σ' H' G' io' a b t => hp σ' H' G' io' a b (t.ofZ h)
  · exact fun v σ' H' G' io' a b t r => hp v σ' H' G' io' a b (t.ofZ h) r
  · exact fun v σ' H' G' io' a b t n r => hp v σ' H' G' io' a b (t.ofZ h) n r
  · exact fun v d σ' H' G' io' a b t r => hp v d σ' H' G' io' a b (t.ofZ h) r
  · exact hp.elim
theorem Post.toZ {x : SX} {F : Fr} {Z G : Hp} {io : List Addr} {W : WX} {o : Res} {σ : L2.St} {Q : VK} (h : ∀ b u, F.z b = some u → Z b = some u) (hp : Post x F W G io o σ Q) : Post x { F with z := Z } W G io o σ Q := by
  unfold Post at hp ⊢
  split at hp
  · exact fun v H' G' io' a b t r => hp v H' G' io' a b (t.ofZ h) r
  · exact fun v H' G' io' a b t n r q => hp v H' G' io' a b (t.ofZ h) n r q
  · exact fun v d H' G' io' a b t r => hp v d H' G' io' a b (t.ofZ h) r
  · exact hp.elim
theorem s_for (o : XOk T cc X W) {tgc it bd : E} {body : List Stmt} {iter : Expr} (hset : isSet iter = false) (hi : PI X tg iter (rdI T F W it)) (hg : ∀ F, PG X tg (rdG T F tgc)) (hb : ∀ F, PSs X body (rdS T F W bd)) : PS X (.For tg iter body [] pos) (rdS T F W (.frr tgc it bd)) := by
  refine PS.wk (ps_for o.po o.calm hi (PG.exF hg) (PSs.exF hb) (hs := folded_no hset)) fun D σ H ⟨s, G, io, t, hp⟩ => ⟨s, G, io, t, ?_⟩
  refine PostS.bndI hp fun ds s1 J H1 G1 io1 sg1 si1 t0 wk hp1 => ?_
  replace hp1 := PostS.toZ t0.zz hp1
  have t1 := t0.toZ
  generalize hF : ({ F with z := zOf H1 } : Fr) = F1 at t1 hp1
  have hZ : ∀ b u, zOf H1 b = some u → F1.z b = some u := fun b u e => by rw [← hF]; exact e
  refine ⟨fun i mm σ H => mm = ds.length - i ∧ i ≤ ds.length ∧ ∃ s2 G2 io2, Same G1 G2 ∧ Pre io1 io2 ∧ StR T.x F1 s2 G2 io2 σ H ∧ PostS T.x F1 W G2 io2 (forL (store tgc) (ev T.P T.Gm bd) (ds.drop i) s2) D,
    ⟨ds.length, by simp, Nat.zero_le _, s1, G1, io1, Same.refl _, Pre.refl _, t1, by rw [List.drop_zero]; exact hp1⟩, ?_⟩
  rintro i mm σc Hc ⟨rfl, hi, s2, G2, io2, s12, p12, t2, hp2⟩
  by_cases hlt : i < ds.length
  · have hd : ds[i]? = some ds[i] := List.getElem?_eq_getElem hlt
    refine .inr ⟨wk.go i Hc hlt (s12.trans t2.gh) (fun b u e => (t2.zl b u (hZ b u e)).1), fun σ' H' => ∃ s2 G2 io2, Same G1 G2 ∧ Pre io1 io2 ∧ StR T.x F1 s2 G2 io2 σ' H' ∧ PostS T.x F1 W G2 io2 (forL (store tgc) (ev T.P T.Gm bd) (ds.drop (i + 1)) s2) D,
      fun σ' H' hN => ⟨ds.length - (i + 1), by omega, rfl, hlt, hN⟩, fun v H' hy => ?_⟩
    obtain ⟨G3, sg3, t3, r3, _⟩ := yield_rp wk t2 s12 p12 (fun b u e => (t2.zl b u (hZ b u e)).1) hd hy
    rw [List.drop_eq_getElem_cons hlt] at hp2
    simp only [forL] at hp2
    cases hst : store tgc ds[i] s2 with
    | none => rw [hst] at hp2; exact hp2.elim
    | some s4 =>
      rw [hst] at hp2
      have hp3 := hp2.anti sg3 (Pre.refl _)
      have s13 := s12.trans sg3
      refine ⟨F1, s2, G3, io2, ds[i], s4, t3, r3, hst, fun σ2 t4 _ => ⟨F1, s4, G3, io2, t4, ?_⟩⟩
      dsimp only at hp3
      unfold PostS
      split
      · rename_i s5 he
        rw [he] at hp3
        exact fun σ' H' G' io' sg si t' => ⟨s5, G', io', s13.trans sg, p12.trans si, t', PostS.anti (show PostS T.x F1 W G3 io2 (forL _ _ _ s5) D from hp3) sg si⟩
      · rename_i s5 he
        rw [he] at hp3
        exact hp3
      · rename_i s5 he
        rw [he] at hp3
        exact fun σ' H' G' io' sg si t' => ⟨s5, G', io', s13.trans sg, p12.trans si, t', PostS.anti (show PostS T.x F1 W G3 io2 (forL _ _ _ s5) D from hp3) sg si⟩
      · rename_i d s5 he
        rw [he] at hp3
        exact hp3
      · rename_i d s5 he
        rw [he] at hp3
        exact hp3
      · rename_i k ns d s5 he
        rw [he] at hp3
        exact hp3
      · rename_i h1 h2 h3 h4 h5 h6
        split at hp3
        · exact h1 _ (by assumption)
        · exact h3 _ (by assumption)
        · exact h2 _ (by assumption)
        · unfold PostS at hp3
          split at hp3
          · exact h1 _ (by assumption)
          · exact h2 _ (by assumption)
          · exact h3 _ (by assumption)
          · exact h4 _ _ (by assumption)
          · exact h5 _ _ (by assumption)
          · exact h6 _ _ _ _ (by assumption)
          · exact hp3
  · have e : i = ds.length := by omega
    subst e
    rw [List.drop_length] at hp2
    simp only [forL] at hp2
    exact .inl ⟨wk.stop Hc (s12.trans t2.gh) (fun b u e => (t2.zl b u (hZ b u e)).1), hp2 σc Hc G2 io2 (Same.refl _) (Pre.refl _) t2⟩
/-! ### stores into lists -/
/-- a box of the store is written -/
theorem StR.wmem {x : SX} {F : Fr} {G H : Hp} {io : List Addr} {σ : L2.St} {s : S} {n : Nat} {o o' : MO} {h' : HO} {p : Addr} {vs : List V} (t : StR x F s G io σ H) (hm : s.m[n]? = some o) (hp : io[n]? = some p) (r : RpL x G io o'.ds vs) (hM : MoH x o' vs h') (hL : MoL o') (hF : p ∈ F.i ∨ F.h p = none) (hnf : o.isL = false := by rfl) :
    StR x F { s with m := s.m.set n o' } G io σ (upd H p h') where
  gh := fun b u e => by
    obtain ⟨_, _, _, q2, _⟩ := t.mem.2.2 n _ p hm hp
    rw [upd_ne (fun z => by rw [z, q2] at e; cases e)]
    exact t.gh _ _ e
  len := t.len
  slot := fun j c e => by
    obtain ⟨v, e1, q⟩ := t.slot j c e
    have pm : p ∈ io := List.mem_of_getElem? hp
    refine ⟨v, e1, ?_⟩
    cases c with
    | val d => exact q
    | ol es =>
      obtain ⟨a, rfl, q1, vs, q2, q3⟩ := q
      exact ⟨a, rfl, q1, vs, by rw [upd_ne (fun z => q1 (by rw [z]; exact pm))]; exact q2, q3⟩
    | od ks es =>
      obtain ⟨a, rfl, q1, vs, q2, q3⟩ := q
      exact ⟨a, rfl, q1, vs, by rw [upd_ne (fun z => q1 (by rw [z]; exact pm))]; exact q2, q3⟩
  own := t.own
  mem := by
    refine ⟨by simp [t.mem.1], t.mem.2.1, fun k mo a e1 e2 => ?_⟩
    by_cases hk : n = k
    · subst hk
      rw [hp] at e2
      cases e2
      obtain ⟨hn, _⟩ := List.getElem?_eq_some_iff.mp hm
      rw [List.getElem?_set_self hn] at e1
      cases e1
      obtain ⟨_, _, _, q2, _⟩ := t.mem.2.2 n _ p hm hp
      exact ⟨vs, _, upd_same, q2, r, hM, hL⟩
    · rw [List.getElem?_set_ne hk] at e1
      have q := t.mem.2.2 k mo a e1 e2
      have ne : a ≠ p := fun z => by
        subst z
        obtain ⟨h1, g1⟩ := List.getElem?_eq_some_iff.mp hp
        obtain ⟨h2, g2⟩ := List.getElem?_eq_some_iff.mp e2
        exact hk ((List.getElem_inj t.mem.2.1).mp (g1.trans g2.symm))
      obtain ⟨ws, h, q1, q2⟩ := q
      exact ⟨ws, h, by rw [upd_ne ne]; exact q1, q2⟩
  kh := fun b o e n => by
    have ne : b ≠ p := fun z => by
      subst z
      rcases hF with h | h
      · exact n h
      · rw [h] at e; cases e
    rw [upd_ne ne]
    exact t.kh b o e n
  kg := t.kg
  ki := t.ki
  ni := t.ni
  zl := fun b u e => by
    obtain ⟨e1, e2⟩ := t.zl b u e
    obtain ⟨vs0, h0, q1, _, _, q4, _⟩ := t.mem.2.2 n _ p hm hp
    rw [upd_ne (fun z => by rw [z, q1] at e1; cases e1; exact MoH.nfz hnf q4 e2)]
    exact ⟨e1, e2⟩
theorem StR.inF {x : SX} {F : Fr} {G H : Hp} {io : List Addr} {σ : L2.St} {s : S} {n : Nat} {p : Addr} (t : StR x F s G io σ H) (hp : io[n]? = some p) : p ∈ F.i ∨ F.h p = none := by
  by_cases hl : n < F.i.length
  · obtain ⟨k, hk⟩ := t.ki
    rw [hk, List.getElem?_append_left hl] at hp
    exact .inl (List.mem_of_getElem? hp)
  · exact .inr (t.ni n p (by omega) hp)
theorem sub_no {l r : Expr} {q : Pos} {env : Env} (h : isSl r = false) (v : Value) : assign (l.Subscript r q) env v = (do
    let ov ← holding [v] (eval l env)
    let iv ← holding [v, ov] (eval r env)
    standAt q
    holding [v, ov, iv] (setItem ov iv v)
    release [v, ov, iv] []) := by
  cases r <;> first | rfl | exact Bool.noConfusion h
theorem swapped_sub {o k e : Expr} {p : Pos} {env : Env} : swappedStores [.Subscript o k p] e env = pure none := by
  cases e <;> rfl
theorem PSet.or {t t' : TSet} (h : PSet X t) (h' : PSet X t') : PSet X (fun o i v H Q => t o i v H Q ∨ t' o i v H Q) := by
  intro pins s σ H o i v ov iv u Q I ro ri rv q
  rcases q with q | q
  · exact h pins s σ H o i v ov iv u Q I ro ri rv q
  · exact h' pins s σ H o i v ov iv u Q I ro ri rv q
theorem any_zip {k : Key} : ∀ {ks : List Key} {vs : List V}, vs.length = ks.length → ((ks.zip vs).any fun kv => decide (kv.1 = k)) = ks.any fun a => decide (a = k)
  | [], _, _ => by simp
  | a :: ks, [], h => by cases h
  | a :: ks, v :: vs, h => by
    rw [List.zip_cons_cons, List.any_cons, List.any_cons, any_zip (Nat.succ.inj h)]
theorem putL_rp {x : SX} {G : Hp} {io : List Addr} {k : Key} {d : D} {v : V} (r : Rp x G io d v) {ks : List Key} {ds : List D} {vs : List V} (hl : vs.length = ks.length) (rr : RpL x G io ds vs) :
    ∃ us, RpL x G io (putL k d ks ds).2 us ∧ putK (ks.zip vs) k v = (putL k d ks ds).1.zip us ∧ (putL k d ks ds).2.length = (putL k d ks ds).1.length := by
  unfold putL putK
  rw [any_zip hl]
  split
  · rename_i h
    refine ⟨List.zipWith (fun a w => if a = k then v else w) ks vs, ?_, ?_, ?_⟩
    · clear h
      induction ks generalizing ds vs with
      | nil => exact .nil
      | cons a ks ih =>
        cases vs with
        | nil => cases hl
        | cons w vs =>
          cases ds with
          | nil => cases (show _ = _ from rr)
          | cons e ds =>
            obtain ⟨w', vs', e1, q, t⟩ := rr
            cases e1
            refine .cons ?_ (ih (Nat.succ.inj hl) t)
            show Rp x G io (if a = k then d else e) (if a = k then v else w)
            by_cases z : a = k
            · rw [if_pos z, if_pos z]; exact r
            · rw [if_neg z, if_neg z]; exact q
    · clear h rr
      induction ks generalizing vs with
      | nil => simp
      | cons a ks ih =>
        cases vs with
        | nil => cases hl
        | cons w vs =>
          rw [List.zip_cons_cons, List.map_cons, List.zipWith_cons_cons, List.zip_cons_cons, ih (Nat.succ.inj hl)]
          refine congrArg (· :: _) ?_
          by_cases z : a = k
          · simp [z]
          · simp [z]
    · have := rr.length
      simp
      omega
  · exact ⟨vs ++ [v], rr.append (.cons r .nil), by rw [List.zip_append hl.symm]; rfl, by have := rr.length; simp; omega⟩
theorem s_sit (o : XOk T cc X W) {k : E} {q : Pos} (hq : isSl r = false) (ho : PE X l (rd T F W a)) (hi : PE X r (rd T F W k)) (ha : PE X e (rd T F W b)) : PS X (.Assign [.Subscript l r q] e pos) (rdS T F W (.sit a k b)) := by
  have hu : X.A.units + 1 < cLine := by have := o.hu; omega
  refine PS.wk (ps_asg ha (pg_sub ho hi (PSet.or set_list (set_dict hu)) (ha := sub_no hq)) swaps_sub swapped_sub) fun D σ H ⟨s, G, io, t, hp⟩ => ⟨s, G, io, t, ?_⟩
  refine PostS.bnd hp fun d s v H1 G1 io1 sg si t1 r1 hp1 => ⟨s, G1, io1, t1, ?_⟩
  refine PostS.bnd hp1 fun d2 s2 v2 H2 G2 io2 sg2 si2 t2 r2 hp2 => ⟨s2, G2, io2, t2, ?_⟩
  refine PostS.bnd hp2 fun d3 s3 v3 H3 G3 io3 sg3 si3 t3 r3 hp3 => ?_
  have r2' := r2.mono sg3 si3
  have r1' := (r1.mono sg2 si2).mono sg3 si3
  split at hp3
  · rename_i n
    obtain ⟨p, rfl, hpo⟩ := r2'
    split at hp3
    · rename_i ds hm
      split at hp3
      · rename_i i
        cases (show v3 = .int i from r3)
        obtain ⟨vs, _, q1, q2, q3, rfl, _⟩ := t3.mem.2.2 n _ p hm hpo
        split at hp3
        · rename_i j hj
          refine .inl ⟨p, vs, i, j, rfl, rfl, q1, by rw [q3.length]; exact hj, ?_⟩
          exact hp3 σ _ G3 io3 (Same.refl _) (Pre.refl _) (t3.wmem hm hpo (o' := .bx (ds.set j d)) (q3.set j r1') rfl trivial (t3.inF hpo))
        · exact hp3.elim
      · exact hp3.elim
    · rename_i ks ds hm
      split at hp3
      · rename_i ky hk
        obtain ⟨vs, _, q1, q2, q3, rfl, qL⟩ := t3.mem.2.2 n _ p hm hpo
        split at hp3
        · rename_i hlen
          have hl : vs.length = ks.length := by rw [q3.length]; exact qL
          obtain ⟨us, k3, k4, k5⟩ := putL_rp (k := ky) r1' hl q3
          refine .inr ⟨p, _, rfl, .inl ⟨_, ky, q1, keyD_rp r3 hk, ?_, rfl⟩, ?_⟩
          · rw [List.length_zip, hl, Nat.min_self]
            exact big_lt hlen
          · rw [k4]
            exact hp3 σ _ G3 io3 (Same.refl _) (Pre.refl _) (t3.wmem hm hpo (o' := .dx (putL ky d ks ds).1 (putL ky d ks ds).2) k3 rfl k5 (t3.inF hpo))
        · exact hp3.elim
      · exact hp3.elim
    · exact hp3.elim
  · exact hp3.elim
/-- an own list is written -/
theorem StR.wown {x : SX} {F : Fr} {G H : Hp} {io : List Addr} {σ : L2.St} {s : S} {i : Nat} {ds es : List D} {vs : List V} {p : Addr} (t : StR x F s G io σ H) (hm : s.r[i]? = some (some (.ol ds))) (hp : σ[i]? = some (some (.ref p))) (r : RpL x G io es vs) :
    StR x F (s.set i (some (.ol es))) G io σ (upd H p (.lst vs)) := by
  obtain ⟨v, e1, q, rfl, q1, ws, q2, q3, q4, q5⟩ := t.slot i _ hm
  rw [hp] at e1
  cases e1
  have hi : i < s.r.length := (List.getElem?_eq_some_iff.mp hm).1
  refine ⟨fun b u e => ?_, by simp [S.set, t.len], fun j c e => ?_, fun j k c c' w hjk e1 e2 o1 o2 z1 z2 => ?_, ⟨t.mem.1, t.mem.2.1, fun n mo a e1 e2 => ?_⟩, fun b o e n => ?_, t.kg, t.ki, t.ni, fun b u e => ?_⟩
  · rw [upd_ne (fun z => by rw [z, q3] at e; cases e)]
    exact t.gh _ _ e
  · have e : (s.r.set i (some (.ol es)))[j]? = some (some c) := e
    by_cases hj : i = j
    · subst hj
      rw [List.getElem?_set_self hi] at e
      cases e
      exact ⟨_, hp, p, rfl, q1, vs, upd_same, q3, q4, r⟩
    · rw [List.getElem?_set_ne hj] at e
      obtain ⟨w, f1, f2⟩ := t.slot j c e
      refine ⟨w, f1, ?_⟩
      cases c with
      | val d => exact f2
      | ol zs =>
        obtain ⟨a, rfl, g1, us, g2, g3⟩ := f2
        have ne : a ≠ p := fun z => t.own i j _ _ _ hj hm e rfl rfl hp (by rw [← z]; exact f1)
        exact ⟨a, rfl, g1, us, by rw [upd_ne ne]; exact g2, g3⟩
      | od ks zs =>
        obtain ⟨a, rfl, g1, us, g2, g3⟩ := f2
        have ne : a ≠ p := fun z => t.own i j _ _ _ hj hm e rfl rfl hp (by rw [← z]; exact f1)
        exact ⟨a, rfl, g1, us, by rw [upd_ne ne]; exact g2, g3⟩
  · have e1 : (s.r.set i (some (.ol es)))[j]? = some (some c) := e1
    have e2 : (s.r.set i (some (.ol es)))[k]? = some (some c') := e2
    by_cases h1 : i = j
    · subst h1
      rw [List.getElem?_set_ne hjk] at e2
      exact t.own i k _ _ w hjk hm e2 rfl o2 z1 z2
    · rw [List.getElem?_set_ne h1] at e1
      by_cases h2 : i = k
      · subst h2
        exact t.own j i _ _ w hjk e1 hm o1 rfl z1 z2
      · rw [List.getElem?_set_ne h2] at e2
        exact t.own j k _ _ w hjk e1 e2 o1 o2 z1 z2
  · have g := t.mem.2.2 n mo a e1 e2
    have ne : a ≠ p := fun z => q1 (by rw [← z]; exact List.mem_of_getElem? e2)
    obtain ⟨us, h, g1, g2⟩ := g
    exact ⟨us, h, by rw [upd_ne ne]; exact g1, g2⟩
  · rw [upd_ne (fun z => by rw [z, q4] at e; cases e)]
    exact t.kh b o e n
  · obtain ⟨e1, e2⟩ := t.zl b u e
    rw [upd_ne (fun z => by rw [z, q2] at e1; cases e1; obtain ⟨_, _, e3⟩ := e2; cases e3)]
    exact ⟨e1, e2⟩
theorem s_apo (o : XOk T cc X W) {i : Nat} {y : Str} {p ap cp : Pos} (hv : vis cc i y = true) (hl : (ap.endLine == cp.line) = true) (hs : isStar e = false) (ha : PE X e (rd T F W a)) :
    PS X (.Expr (.Call (.Attribute (.Name y p) "append" ap) [e] [] cp) pos) (rdS T F W (.apo i a)) := by
  obtain ⟨h1, h2, h3, h4⟩ := o.vis hv
  refine PS.wk (ps_expr (pe_bm PySem.F.plainAttrs_list PySem.F.slot_list_append PySem.F.type_list_append mt_append (pe_var h1 h2 h3 h4) (pa_cons ha pa_nil (star_no hs)) (base_no rfl) (by rw [star_no hs]; rfl) hl (star_no hs) rfl) (swaps_no rfl)) fun D σ H ⟨s, G, io, t, hp⟩ => ?_
  simp only [ev] at hp
  split at hp
  · rename_i ds0 hm0
    obtain ⟨v, e1, q, rfl, q1, ws, q2, q3⟩ := t.slot i _ hm0
    refine ⟨.ref q, e1, .inl ⟨rfl, ws, .of q2⟩, s, G, io, t, ?_⟩
    refine PostS.bnd hp fun d s1 w H1 G1 io1 sg si t1 r1 hp1 => ?_
    split at hp1
    · rename_i ds hm
      obtain ⟨v', e1', q', rfl, q1', ws', q2', q3', q4', q5'⟩ := t1.slot i _ hm
      rw [e1] at e1'
      cases e1'
      split at hp1
      · rename_i hlen
        refine ⟨q, ws', w, rfl, rfl, q2', by rw [q5'.length]; exact big_lt hlen, ?_⟩
        exact hp1 σ _ G1 io1 (Same.refl _) (Pre.refl _) (t1.wown hm e1 (q5'.append (.cons r1 .nil)))
      · exact hp1.elim
    · exact hp1.elim
  · exact hp.elim
end
end En

namespace En
open PySem PySem.Spec L2
/-- calls with keywords -/
theorem run_fnND {X : Cx} {CX : CXT} {k n : Nat} {f : Addr} {fd : FuncData} {ps ks : List Str} {sp : Sp} {E : XK} {g : List Value → List Value → List Value} {gV : List V → List V → List V} {pins : List (Addr × Obj)} {σ : L2.St} {H : Hp} {s : Shared} {Q : VK} {us ws : List Value} {vs zs : List V} (F : FnOk X.prog X.w X.K X.mg X.base CX k f fd ps sp) (hr : Room k X.A) (hb : KBn X.K fd ps n ks g gV) (hx : PassesAt CX X σ E)
    (I : Inv X pins σ H s) (r : Vals vs us) (rz : Vals zs ws) (l1 : vs.length = n) (l2 : zs.length = ks.length) (h : sp (gV vs zs) H Q E) : wpAny (model X.prog X.w) X.A (call (.ref f) us (ks.zip ws)) (EP X pins σ Q) X.xe s := by
  have r2 := hb.rel r rz
  refine wpAny_call (codeAny_mono (F.run X.A X.stack s H ⟨us, ks.zip ws⟩ (g us ws) (gV vs zs) Q E hr I.env0 (hb.to s us ws I.kIn (r.length.symm.trans l1) (rz.length.symm.trans l2)) r2 h) fun r s' hq => ?_)
  cases r with
  | error e => exact hx pins H s e s' I hq
  | ok fl =>
    cases fl with
    | ret u => exact I.after hq
    | next => exact False.elim hq
    | brk => exact False.elim hq
    | cont => exact False.elim hq
def kwAre : List Str → List Keyword → Bool
  | [], [] => true
  | n :: ns, ⟨some m, _, _⟩ :: ks => decide (n = m) && kwAre ns ks
  | _, _ => false
theorem kwAre_len : ∀ {ns : List Str} {ks : List Keyword}, kwAre ns ks = true → ks.length = ns.length
  | [], [], _ => rfl
  | _ :: ns, ⟨some m, _, _⟩ :: ks, h => by
    simp only [kwAre, Bool.and_eq_true] at h
    rw [List.length_cons, List.length_cons, kwAre_len h.2]
  | _ :: _, ⟨none, _, _⟩ :: _, h => by cases h
  | [], _ :: _, h => by cases h
  | _ :: _, [], h => by cases h
theorem kw_all {env : Env} {pos : Pos} : ∀ {ns : List Str} {ks : List Keyword}, kwAre ns ks = true → (backToKw pos (keywordEach ks env)).all (·.1.isSome) = true ∧ (backToKw pos (keywordEach ks env)).filterMap (·.1) = ns ∧ (backToKw pos (keywordEach ks env)).any (·.1.isNone) = false
  | [], [], _ => ⟨rfl, rfl, rfl⟩
  | n :: ns, ⟨some m, _, _⟩ :: ks, h => by
    simp only [kwAre, Bool.and_eq_true, decide_eq_true_eq] at h
    obtain ⟨rfl, h⟩ := h
    obtain ⟨a, b, c⟩ := kw_all (env := env) (pos := pos) h
    unfold backToKw at a b c ⊢
    simp only [keywordEach, List.map_cons, List.all_cons, List.filterMap_cons, List.any_cons]
    exact ⟨by simpa using a, by simpa using b, by simpa using c⟩
  | _ :: _, ⟨none, _, _⟩ :: _, h => by cases h
  | [], _ :: _, h => by cases h
  | _ :: _, [], h => by cases h
section
variable {T : Tb} {cc : CC} {X : Cx} {W : WX} {F : Fr} {e l r c : Expr} {es : List Expr} {a b : E} {pos : Pos} {kws : List Keyword}
theorem post_F {f : Nat} {σ : L2.St} {s : S} {G H : Hp} {io : List Addr} {ds : List D} {Q : VK} (t : StR T.x F s G io σ H) (hp : Post T.x F W G io (callF T.P f ds s) σ Q) : PostF T.x H G io (T.P f ds s.m) Q (WE W σ) := by
  unfold callF at hp
  unfold PostF
  split at hp
  · rename_i d m he
    try rw [he]
    intro v H' G' io' ff rv
    obtain ⟨t', sg⟩ := t.call ff
    exact hp v H' G' io' sg ff.2.2.2.2.1 t' rv
  · rename_i d m he
    try rw [he]
    intro p H' G' io' ff ni hn ⟨ws, h, e1, e2, e3⟩
    obtain ⟨t', sg⟩ := t.call ff
    obtain ⟨_, _, hf, _, ho⟩ := t.new (a := p) (o := .lst []) hn
    exact hp p H' G' io' sg ff.2.2.2.2.1 t' ni ⟨ws, h, e1, e2, hf, e3⟩ ho
  · rename_i k ns es m he
    try rw [he]
    intro cls dd H' G' io' ff ex
    obtain ⟨t', sg⟩ := t.call ff
    exact hp cls dd H' G' io' sg ff.2.2.2.2.1 t' ex
  · exact hp.elim
/-- f(e, .., k = v, ..) -/
theorem s_calk (o : XOk T cc X W) (t : TOk T) {f n m : Nat} {p : Pos} {es : List Expr} {ka : E} (hg : glo cc (T.nt.fnm f) = true) (hlv : T.nt.isK f = true) (hs : es.all (fun e => !isStar e) = true) (hn : n = T.nt.kn f) (hz : m = (T.nt.kk f).length) (hkw : kwAre (T.nt.kk f) kws = true) (hnil : es = [] → a = .nil)
    (ha : PA X es (rdA T F W a)) (hk : PK X kws (rdA T F W ka)) : PE X (.Call (.Name (T.nt.fnm f) p) es kws pos) (rd T F W (.calk f n a m ka)) := by
  subst hn hz
  obtain ⟨h1, h2, h3⟩ := o.glo hg
  obtain ⟨g, hm, hkp, kl, fd, ps, gg, gV, sp, hkl, hF, hb, hsp⟩ := t.fk f hlv
  have hm' : X.mg (T.nt.fnm f) = some (.ref g) := by rw [o.mg]; exact hm
  have hF' : FnOk X.prog X.w X.K X.mg X.base (L2.CX X.prog X.w) kl g fd ps sp := by
    rw [o.prog, o.w, o.K, o.mg, o.base]
    exact hF
  have hk' : PySem.W.keepIn X.K (.ref g) = true := by rw [o.K]; exact hkp
  have hb' : KBn X.K fd ps (T.nt.kn f) (T.nt.kk f) gg gV := by rw [o.K]; exact hb
  have hr := o.room.mono (Nat.le_trans (Nat.le_add_right _ _) hkl)
  obtain ⟨k1, k2, k3⟩ := kw_all (env := X.env) (pos := pos) hkw
  have hpl := star_any (env := X.env) (pos := pos) hs
  refine ⟨fun pins s σ H Q I h => ?_⟩
  refine wpAny_Call_Name_kw (ld_glob I h1 hm' ?_ h2)
  obtain ⟨s0, G, io, t0, hp⟩ := h
  -- the values, then the keywords' values
  have hA : rdA T F W a σ H fun vs H1 => rdA T F W ka σ H1 fun zs H2 => vs.length = T.nt.kn f ∧ zs.length = (T.nt.kk f).length ∧ sp (gV vs zs) H2 Q (WE W σ) := ⟨s0, G, io, t0, by
    refine Post.bndA hp fun ds s vs H1 G1 io1 sg si t1 r1 hp1 => ⟨s, G1, io1, t1, ?_⟩
    refine Post.bndA hp1 fun dz s2 zs H2 G2 io2 sg2 si2 t2 r2 hp2 => ?_
    split at hp2
    · rename_i hl
      have l1 : vs.length = T.nt.kn f := by rw [r1.length]; exact hl.1
      have l2 : zs.length = (T.nt.kk f).length := by rw [r2.length]; exact hl.2
      exact ⟨l1, l2, hsp vs zs H2 Q _ l1 l2 ⟨ds, dz, s2.m, G2, io2, t2.gh, t2.mem, r1.mono sg2 si2, r2, post_F t2 hp2⟩⟩
    · exact hp2.elim⟩
  cases es with
  | nil =>
    refine PySem.W.callWith_KW0 (h₀ := X.base) I.ok.mod.kin hk' k1 ?_ (by show (false || _) = false; rw [k3]; rfl)
    rw [hnil rfl] at hA
    obtain ⟨s1, G1, io1, t1, hA⟩ := hA
    have q := hA [] H G1 io1 (Same.refl _) (Pre.refl _) t1 rfl
    refine thn (hk.run pos pins s σ H _ I q) fun ws s2 ⟨zs, H2, I2, rz, l1, l2, q2⟩ => ⟨I2.kIn, ?_⟩
    rw [k2]
    exact run_fnND (us := []) hF' hr hb' (passAt o.tk σ) I2 .nil rz l1 l2 q2
  | cons e es =>
    rw [List.all_cons, Bool.and_eq_true] at hs
    have hs1 : isStar e = false := by simpa using hs.1
    refine PySem.W.callWith_KW (h₀ := X.base) I.ok.mod.kin hk' k1 (thn (ha.run pos pins s σ H _ I hA) fun us s1 ⟨vs, H1, I1, r, q⟩ => ?_) (by rw [hpl, k3]; rfl) (star_no hs1)
    refine thn (hk.run pos pins s1 σ H1 _ I1 q) fun ws s2 ⟨zs, H2, I2, rz, l1, l2, q2⟩ => ⟨I2.kIn, ?_⟩
    rw [k2]
    exact run_fnND hF' hr hb' (passAt o.tk σ) I2 r rz l1 l2 q2
theorem k_nil : PK X [] (rdA T F W .nil) := ⟨fun pos pins s σ H Q I ⟨s0, G, io, t, h⟩ => pk_nil.run pos pins s σ H Q I (h [] H G io (Same.refl _) (Pre.refl _) t rfl)⟩
theorem k_cns {nm : Option Str} {kp : Pos} {es : List Keyword} (ha : PE X e (rd T F W a)) (hb : PK X es (rdA T F W b)) : PK X (⟨nm, e, kp⟩ :: es) (rdA T F W (.cns a b)) := by
  refine ⟨fun pos pins s σ H Q I h => (pk_cons ha hb).run pos pins s σ H Q I ?_⟩
  obtain ⟨s0, G, io, t, hp⟩ := h
  refine ⟨s0, G, io, t, ?_⟩
  refine PostA.bnd hp fun d s1 v H1 G1 io1 sg si t1 r1 hp1 => ⟨s1, G1, io1, t1, ?_⟩
  refine PostA.bndA hp1 fun ds s2 vs H2 G2 io2 sg2 si2 t2 r2 hp2 => ?_
  exact hp2 (v :: vs) H2 G2 io2 (Same.refl _) (Pre.refl _) t2 ⟨v, vs, rfl, r1.mono sg2 si2, r2⟩
/-! ### join -/
theorem s_join (o : XOk T cc X W) {apos : Pos} (hsup : isSup l = false) (hln : (apos.endLine == pos.line) = true) (hs1 : isStar e = false) (ha : PE X l (rd T F W a)) (hb : PA X [e] (rdA T F W b)) :
    PE X (.Call (.Attribute l "join" apos) [e] [] pos) (rd T F W (.bm .join a b)) := by
  have hst := star_no (es := []) (env := X.env) hs1
  refine PE.wk (pe_bm (T := "str") PySem.F.plainAttrs_str PySem.F.slot_str_join PySem.F.type_str_join mt_join ha hb (base_no hsup) ?_ hln hst rfl) fun σ H Q ⟨s, G, io, t, hp⟩ => ⟨s, G, io, t, ?_⟩
  · rw [hst]; rfl
  · refine Post.bnd hp fun d s v H1 G1 io1 sg si t1 r1 hp1 => ?_
    cases d with
    | str z =>
      cases (show v = .str z from r1)
      refine ⟨rfl, s, G1, io1, t1, ?_⟩
      refine Post.bndA (show Post T.x F W G1 io1 (bndA (ev T.P T.Gm b s) fun ds s => bmF .join (.str z) ds s) σ Q from hp1) fun ds s2 vs H2 G2 io2 sg2 si2 t2 r2 hp2 => ?_
      unfold bmF at hp2
      split at hp2
      · rename_i a2 x2 heq
        cases heq
        obtain ⟨v2, rfl, q2⟩ := r2.one
        split at hp2
        · rename_i es hv
          obtain ⟨p, ws, rfl, hq, hr⟩ := view_seq t2 hv q2
          split at hp2
          · rename_i ys hy
            have e := strs_rp hy hr
            subst e
            split at hp2
            · rename_i hl
              refine ⟨z, p, ys, rfl, rfl, ?_, hl, hp2.v t2 rfl⟩
              rcases hq with hq | hq
              · exact .inl (.inl hq)
              · exact .inr (by rw [o.K]; exact hq)
            · exact hp2.elim
          · exact hp2.elim
        · exact hp2.elim
      all_goals first | contradiction | exact (show False from hp2).elim
    | _ => exact (show False from hp1).elim
end
end En

namespace En
open PySem PySem.Spec L2
/-! ### classes called -/
theorem run_makeND {X : Cx} {CX : CXT} {k n : Nat} {f C : Addr} {fd : FuncData} {ps ks : List Str} {sp : Sp} {E : XK} {g : List Value → List Value → List Value} {gV : List V → List V → List V} {pins : List (Addr × Obj)} {σ : L2.St} {H : Hp} {s : Shared} {Q : VK} {us ws : List Value} {vs zs : List V} (M : Mk X.K C f) (F : FnOk X.prog X.w X.K X.mg X.base CX k f fd ps sp) (hr : Room (k + 1) X.A) (hb : KBn X.K fd ps (n + 1) ks g gV)
    (hx : PassesAt CX X σ E) (I : Inv X pins σ H s) (r : Vals vs us) (rz : Vals zs ws) (l1 : vs.length = n) (l2 : zs.length = ks.length)
    (h : ∀ x dx, H x = none → H dx = none → dx ≠ x → sp (gV (.ref x :: vs) zs) (upd (upd H dx (.own x)) x (.ins C dx [])) (fun v H2 => v = .non ∧ Q (.ref x) H2) E) :
    wpAny (model X.prog X.w) X.A (call (.ref C) us (ks.zip ws)) (EP X pins σ Q) X.xe s := by
  have hq := h (s.heap.objs.size + 1) s.heap.objs.size (I.hok.fresh (Nat.le_succ _)) (I.hok.fresh (Nat.le_refl _)) (Nat.ne_of_lt (Nat.lt_succ_self _))
  have I2 := Inv.made (C := C) I
  have ra : Vals (V.ref (s.heap.objs.size + 1) :: vs) (Value.ref (s.heap.objs.size + 1) :: us) := .cons rfl r
  have rb := hb.rel ra rz
  have ea : (Value.ref (s.heap.objs.size + 1) :: us).length = n + 1 := ra.length.symm.trans (congrArg Nat.succ l1)
  have eb : ws.length = ks.length := rz.length.symm.trans l2
  refine wpAny_call (make_map (f := f) I.kIn M.makes M.init (beq_iff_eq.mp M.fn) (codeAny_mono (F.run _ X.stack _ _ ⟨Value.ref (s.heap.objs.size + 1) :: us, ks.zip ws⟩ (g (Value.ref (s.heap.objs.size + 1) :: us) ws) _ _ E (hr.make C us (ks.zip ws))
    (I2.env0.make C us (ks.zip ws)) (hb.to _ (Value.ref (s.heap.objs.size + 1) :: us) ws I2.kIn ea eb) rb hq) fun r s' hq' => ?_))
  cases r with
  | error e => exact hx pins _ _ e s' I2 hq'
  | ok fl =>
    cases fl with
    | ret u =>
      obtain ⟨v, H', I3, rv, ev, q3⟩ := I2.after hq'
      subst ev
      exact ⟨rv, ⟨V.ref (s.heap.objs.size + 1), H', I3, rfl, q3⟩⟩
    | next => exact hq'.elim
    | brk => exact hq'.elim
    | cont => exact hq'.elim
section
variable {T : Tb} {cc : CC} {X : Cx} {W : WX} {F : Fr} {e l r c : Expr} {es : List Expr} {a b : E} {pos : Pos} {kws : List Keyword}
/-- C(e, .., k = v, ..) -/
theorem s_mk (o : XOk T cc X W) (t : TOk T) {f n m : Nat} {p : Pos} {es : List Expr} {ka : E} (hg : glo cc (T.nt.fnm f) = true) (hlv : T.nt.isM f = true) (hs : es.all (fun e => !isStar e) = true) (hn : n = T.nt.kn f) (hz : m = (T.nt.kk f).length) (hkw : kwAre (T.nt.kk f) kws = true) (hnil : es = [] → a = .nil)
    (ha : PA X es (rdA T F W a)) (hk : PK X kws (rdA T F W ka)) : PE X (.Call (.Name (T.nt.fnm f) p) es kws pos) (rd T F W (.calk f n a m ka)) := by
  subst hn hz
  obtain ⟨h1, h2, h3⟩ := o.glo hg
  obtain ⟨C, g, kl, fd, ps, gg, gV, sp, hm, hM, hkl, hF, hb, hsp⟩ := t.fm f hlv
  have hm' : X.mg (T.nt.fnm f) = some (.ref C) := by rw [o.mg]; exact hm
  have hF' : FnOk X.prog X.w X.K X.mg X.base (L2.CX X.prog X.w) kl g fd ps sp := by
    rw [o.prog, o.w, o.K, o.mg, o.base]
    exact hF
  have hM' : Mk X.K C g := by rw [o.K]; exact hM
  have hk' := hM'.kp
  have hb' : KBn X.K fd ps (T.nt.kn f + 1) (T.nt.kk f) gg gV := by rw [o.K]; exact hb
  have hr := o.room.mono (show kl + 1 ≤ T.lv by omega)
  obtain ⟨k1, k2, k3⟩ := kw_all (env := X.env) (pos := pos) hkw
  have hpl := star_any (env := X.env) (pos := pos) hs
  refine ⟨fun pins s σ H Q I h => ?_⟩
  refine wpAny_Call_Name_kw (ld_glob I h1 hm' ?_ h2)
  obtain ⟨s0, G, io, t0, hp⟩ := h
  -- the values, then the keywords' values
  have hA : rdA T F W a σ H fun vs H1 => rdA T F W ka σ H1 fun zs H2 => vs.length = T.nt.kn f ∧ zs.length = (T.nt.kk f).length ∧ ∀ x dx, H2 x = none → H2 dx = none → dx ≠ x → sp (gV (.ref x :: vs) zs) (upd (upd H2 dx (.own x)) x (.ins C dx [])) (fun v H3 => v = .non ∧ Q (.ref x) H3) (WE W σ) := ⟨s0, G, io, t0, by
    refine Post.bndA hp fun ds s vs H1 G1 io1 sg si t1 r1 hp1 => ⟨s, G1, io1, t1, ?_⟩
    refine Post.bndA hp1 fun dz s2 zs H2 G2 io2 sg2 si2 t2 r2 hp2 => ?_
    split at hp2
    · rename_i hl
      have l1 : vs.length = T.nt.kn f := by rw [r1.length]; exact hl.1
      have l2 : zs.length = (T.nt.kk f).length := by rw [r2.length]; exact hl.2
      exact ⟨l1, l2, hsp vs zs H2 Q _ l1 l2 ⟨ds, dz, s2.m, G2, io2, t2.gh, t2.mem, r1.mono sg2 si2, r2, post_F t2 hp2⟩⟩
    · exact hp2.elim⟩
  cases es with
  | nil =>
    refine PySem.W.callWith_KW0 (h₀ := X.base) I.ok.mod.kin hk' k1 ?_ (by show (false || _) = false; rw [k3]; rfl)
    rw [hnil rfl] at hA
    obtain ⟨s1, G1, io1, t1, hA⟩ := hA
    have q := hA [] H G1 io1 (Same.refl _) (Pre.refl _) t1 rfl
    refine thn (hk.run pos pins s σ H _ I q) fun ws s2 ⟨zs, H2, I2, rz, l1, l2, q2⟩ => ⟨I2.kIn, ?_⟩
    rw [k2]
    exact run_makeND (us := []) hM' hF' hr hb' (passAt o.tk σ) I2 .nil rz l1 l2 q2
  | cons e es =>
    rw [List.all_cons, Bool.and_eq_true] at hs
    have hs1 : isStar e = false := by simpa using hs.1
    refine PySem.W.callWith_KW (h₀ := X.base) I.ok.mod.kin hk' k1 (thn (ha.run pos pins s σ H _ I hA) fun us s1 ⟨vs, H1, I1, r, q⟩ => ?_) (by rw [hpl, k3]; rfl) (star_no hs1)
    refine thn (hk.run pos pins s1 σ H1 _ I1 q) fun ws s2 ⟨zs, H2, I2, rz, l1, l2, q2⟩ => ⟨I2.kIn, ?_⟩
    rw [k2]
    exact run_makeND hM' hF' hr hb' (passAt o.tk σ) I2 r rz l1 l2 q2
end
end En

namespace En
open PySem PySem.Spec L2
/-! ### fields -/
theorem lookN_rp {x : SX} {G : Hp} {io : List Addr} {f : Nat} (hi : ∀ i, x.nm i = x.nm f → i = f) : ∀ {ns : List Nat} {ds : List D} {vs : List V} {d : D}, lookF f ns ds = some d → RpL x G io ds vs → ∃ v, ((ns.map x.nm).zip vs).lookup (x.nm f) = some v ∧ Rp x G io d v
  | n :: ns, e :: ds, _, d, h, r => by
    obtain ⟨v, w, rfl, q, t⟩ := r
    by_cases hn : n = f
    · subst hn
      simp only [lookF, if_true] at h
      cases h
      exact ⟨v, by simp, q⟩
    · simp only [lookF, if_neg hn] at h
      obtain ⟨u, e1, e2⟩ := lookN_rp hi h t
      refine ⟨u, ?_, e2⟩
      have hne : (x.nm f == x.nm n) = false := by
        cases hb : (x.nm f == x.nm n) with
        | false => rfl
        | true => exact absurd (hi n (beq_iff_eq.mp hb).symm) hn
      rw [List.map_cons, List.zip_cons_cons, List.lookup_cons, hne]
      exact e1
  | [], _, _, _, h, _ => by cases h
  | _ :: _, [], _, _, h, _ => by cases h
theorem cls_rp {x : SX} {F : Fr} {s : S} {G H : Hp} {io : List Addr} {σ : L2.St} {d : D} {v : V} {c : Nat} {ns : List Nat} {ds : List D} (t : StR x F s G io σ H) (r : Rp x G io d v) (h : clsF s d = some (c, ns, ds)) :
    x.live c = true ∧ ∃ a dx vs, v = .ref a ∧ H a = some (.ins (x.ca c) dx ((ns.map x.nm).zip vs)) ∧ vs.length = ns.length ∧ RpL x G io ds vs := by
  cases d with
  | obj c' ns' ds' =>
    cases h
    obtain ⟨hl, a, dx, vs, rfl, q, l, rr⟩ := r
    exact ⟨hl, a, dx, vs, rfl, t.gh _ _ q, l, rr⟩
  | adr n =>
    obtain ⟨a, rfl, q⟩ := r
    simp only [clsF] at h
    split at h
    · rename_i c' ns' ds' hm
      cases h
      obtain ⟨vs, ho, q1, _, q3, ⟨hl, dx, rfl⟩, q5⟩ := t.mem.2.2 n _ a hm q
      exact ⟨hl, a, dx, vs, rfl, q1, by rw [q3.length]; exact q5, q3⟩
    · cases h
  | _ => cases h
theorem clsN_some {s : S} {d : D} {c : Nat} (h : clsN s d = some c) : ∃ ns ds, clsF s d = some (c, ns, ds) := by
  unfold clsN at h
  split at h
  · rename_i c' ns ds e
    cases h
    exact ⟨ns, ds, e⟩
  · cases h
def csOk (nt : NT) (f : Nat) (cs : List Nat) : Bool := cs.all fun c => !nt.live c || nt.fa c f
section
variable {T : Tb} {cc : CC} {X : Cx} {W : WX} {F : Fr} {e l r c : Expr} {es : List Expr} {a b : E} {pos : Pos} {kws : List Keyword}
theorem csOk_at (t : TOk T) {f : Nat} {cs : List Nat} {c : Nat} (h : csOk T.nt f cs = true) (hin : c ∈ cs) (hl : T.x.live c = true) : T.nt.fa c f = true := by
  have q := List.all_eq_true.mp h c hin
  rw [t.lv] at hl
  rw [hl] at q
  simpa using q
theorem s_fld (o : XOk T cc X W) (t : TOk T) {f : Nat} {cs : List Nat} (hsup : isSup e = false) (hne : T.nt.nm f ≠ "") (hcs : csOk T.nt f cs = true) (ha : PE X e (rd T F W a)) : PE X (.Attribute e (T.nt.nm f) pos) (rd T F W (.fld a f cs)) := by
  refine PE.wk (pe_fld ha (base_no hsup)) fun σ H Q ⟨s, G, io, st, hp⟩ => ⟨s, G, io, st, ?_⟩
  refine Post.bnd hp fun d s1 v H1 G1 io1 sg si t1 r1 hp1 => ?_
  cases hf : fldF cs f d s1 with
  | none => rw [hf] at hp1; exact hp1.elim
  | some y =>
    rw [hf] at hp1
    unfold fldF at hf
    split at hf
    · rename_i c ns ds hc
      split at hf
      · rename_i hin
        obtain ⟨hl, p, dx, vs, rfl, q1, q2, q3⟩ := cls_rp t1 r1 hc
        have k2 := t.fa c f (csOk_at t hcs hin hl)
        have hi : ∀ i, T.x.nm i = T.x.nm f → i = f := t.nmI hne
        obtain ⟨w, e1, e2⟩ := lookN_rp hi hf q3
        refine ⟨p, T.x.ca c, dx, _, w, rfl, q1, by rw [o.K]; exact (t.ko.cl c hl).cl, by rw [o.K]; exact k2, by rw [← t.nm]; exact e1, hp1.v t1 e2⟩
      · cases hf
    · cases hf
theorem put_rp {x : SX} {G : Hp} {io : List Addr} {f : Nat} {d : D} {v : V} (hi : ∀ i, x.nm i = x.nm f → i = f) (r : Rp x G io d v) : ∀ {ns : List Nat} {ds : List D} {vs : List V}, ds.length = ns.length → RpL x G io ds vs →
    ∃ us, RpL x G io (putN f d ns ds).2 us ∧ putF (x.nm f) v ((ns.map x.nm).zip vs) = ((putN f d ns ds).1.map x.nm).zip us ∧ (putN f d ns ds).2.length = (putN f d ns ds).1.length
  | [], [], _, _, h => by
    have e : _ = [] := h
    subst e
    exact ⟨[v], .cons r .nil, rfl, rfl⟩
  | n :: ns, e :: ds, _, hl, h => by
    obtain ⟨u, w, rfl, q, t⟩ := h
    by_cases hn : n = f
    · subst hn
      refine ⟨v :: w, ?_, ?_, ?_⟩
      · simp only [putN, if_true]; exact ⟨v, w, rfl, r, t⟩
      · simp [putN, putF]
      · simp only [putN, if_true]; exact hl
    · obtain ⟨us, k1, k2, k3⟩ := put_rp hi r (by simpa using hl) t
      have hne : x.nm n ≠ x.nm f := fun z => hn (hi n z)
      refine ⟨u :: us, ?_, ?_, ?_⟩
      · simp only [putN, if_neg hn]; exact ⟨u, us, rfl, q, k1⟩
      · simp only [putN, if_neg hn, List.map_cons, List.zip_cons_cons, putF, if_neg hne, k2]
      · simp only [putN, if_neg hn, List.length_cons, k3]
  | [], _ :: _, _, h, _ => by cases h
  | _ :: _, [], _, h, _ => by cases h
theorem s_fls (o : XOk T cc X W) (t : TOk T) {f : Nat} {cs : List Nat} {q : Pos} (hne : T.nt.nm f ≠ "") (hcs : csOk T.nt f cs = true) (hl : PE X l (rd T F W a)) (ha : PE X e (rd T F W b)) :
    PS X (.Assign [.Attribute l (T.nt.nm f) q] e pos) (rdS T F W (.fls a f cs b)) := by
  refine PS.wk (ps_fld hl ha swaps_att) fun D σ H ⟨s, G, io, st, hp⟩ => ⟨s, G, io, st, ?_⟩
  refine PostS.bnd hp fun d s1 v H1 G1 io1 sg si t1 r1 hp1 => ⟨s1, G1, io1, t1, ?_⟩
  refine PostS.bnd hp1 fun x s2 u H2 G2 io2 sg2 si2 t2 r2 hp2 => ?_
  split at hp2
  · rename_i n
    split at hp2
    · rename_i c ns ds hm
      split at hp2
      · rename_i hin
        obtain ⟨p, rfl, hpo⟩ := r2
        obtain ⟨vs, ho, q1, q2, q3, ⟨hl, dx, rfl⟩, q5⟩ := t2.mem.2.2 n _ p hm hpo
        have k2 := t.fa c f (csOk_at t hcs hin.1 hl)
        obtain ⟨us, k3, k4, k5⟩ := put_rp (t.nmI hne) (r1.mono sg2 si2) q5 q3
        refine ⟨p, T.x.ca c, dx, _, rfl, q1, by rw [o.K]; exact (t.ko.cl c hl).cl, by rw [o.K]; exact k2, ?_, ?_⟩
        · rw [List.length_zip, List.length_map]
          exact Nat.lt_of_le_of_lt (Nat.min_le_left _ _) hin.2
        · rw [← t.nm, k4]
          exact hp2 σ _ G2 io2 (Same.refl _) (Pre.refl _) (t2.wmem hm hpo (o' := .ob c (putN f d ns ds).1 (putN f d ns ds).2) k3 ⟨hl, dx, rfl⟩ k5 (t2.inF hpo))
      · exact hp2.elim
    · exact hp2.elim
  · exact hp2.elim
/-! ### methods -/
theorem meth_no {o : Expr} {m : Str} {apos pos : Pos} {args : List Expr} {kws : List Keyword} {env : Env} (h : isSup o = false) (hl : (apos.endLine == pos.line) = true) (hf : methodCallForm (args.length + kws.length) (backTo pos (starEach args env)) (backToKw pos (keywordEach kws env)) = true) :
    eval (.Call (.Attribute o m apos) args kws pos) env = (do
    let ov ← eval o env
    standAt apos.atName
    let (f, first) ← holding [ov] (getMethod ov m (do return (← importBound o env).getD true))
    callWith pos f first (backTo pos (starEach args env)) (backToKw pos (keywordEach kws env))) := by
  refine mcall_of (base_no h) fun ov => ?_
  unfold methodCall
  rw [hf]
  have e : methodCallPos true o env apos pos = pure pos := by
    unfold methodCallPos
    rw [if_pos (by rw [hl]; rfl)]
  rw [e]
  rfl
theorem form_ok {args : List Expr} {kws : List Keyword} {ns : List Str} {env : Env} {pos : Pos} (hs : args.all (fun e => !isStar e) = true) (hk : kwAre ns kws = true) (hn : args.length + kws.length < 29) :
    methodCallForm (args.length + kws.length) (backTo pos (starEach args env)) (backToKw pos (keywordEach kws env)) = true := by
  unfold methodCallForm
  have h1 := star_any (env := env) (pos := pos) hs
  obtain ⟨h2, _, _⟩ := kw_all (env := env) (pos := pos) hk
  have h3 : (backTo pos (starEach args env)).all (fun p => !p.1) = true := by
    rw [List.all_eq_true]
    intro p hp
    cases hb : p.1 with
    | false => rfl
    | true => rw [List.any_eq_true.mpr ⟨p, hp, hb⟩] at h1; cases h1
  rw [h3, h2]
  simp only [Bool.true_and, decide_eq_true_eq]
  split <;> omega
def tblOk (nt : NT) (m : Str) (n : Nat) (kk : List Str) (tbl : List (Nat × Nat)) : Bool := tbl.all fun p => !nt.live p.1 || decide (nt.me p.1 p.2 = some (m, n, kk))
theorem mem_lookN {c i : Nat} : ∀ {tbl : List (Nat × Nat)}, tbl.lookup c = some i → (c, i) ∈ tbl
  | (a, b) :: tbl, h => by
    rw [List.lookup_cons] at h
    cases hb : (c == a) with
    | true =>
      rw [hb] at h
      cases h
      rw [beq_iff_eq.mp hb]
      exact List.mem_cons_self
    | false =>
      rw [hb] at h
      exact List.mem_cons_of_mem _ (mem_lookN h)
theorem tblOk_at (t : TOk T) {m : Str} {n : Nat} {kk : List Str} {tbl : List (Nat × Nat)} {c i : Nat} (h : tblOk T.nt m n kk tbl = true) (hl : T.x.live c = true) (hi : tbl.lookup c = some i) : FnAtE T c i m n kk := by
  have q := List.all_eq_true.mp h (c, i) (mem_lookN hi)
  dsimp only at q
  rw [t.lv] at hl
  rw [hl] at q
  exact t.me c i m n kk (by simpa using q)
/-- o.m(e, .., k = v, ..) -/
theorem s_met (o : XOk T cc X W) (t : TOk T) {tbl : List (Nat × Nat)} {n k : Nat} {m : Str} {kk : List Str} {apos : Pos} {ka : E} (hsup : isSup l = false) (hm0 : m ≠ "") (hmf : m ∉ T.nt.fl) (hln : (apos.endLine == pos.line) = true) (hfew : es.length + kws.length < 29) (hs : es.all (fun e => !isStar e) = true) (hz : k = kk.length) (htb : tblOk T.nt m n kk tbl = true)
    (hkw : kwAre kk kws = true) (hnil : es = [] → a = .nil) (hl : PE X l (rd T F W b)) (ha : PA X es (rdA T F W a)) (hk : PK X kws (rdA T F W ka)) : PE X (.Call (.Attribute l m apos) es kws pos) (rd T F W (.met tbl b n a k ka)) := by
  subst hz
  have hev := meth_no (o := l) (m := m) (apos := apos) (pos := pos) (args := es) (kws := kws) (env := X.env) hsup hln (form_ok hs hkw hfew)
  obtain ⟨k1, k2, k3⟩ := kw_all (env := X.env) (pos := pos) hkw
  have hpl := star_any (env := X.env) (pos := pos) hs
  refine ⟨fun pins s σ H Q I h => ?_⟩
  obtain ⟨s0, G, io, t0, hp⟩ := h
  have hO : rd T F W b σ H fun u H1 => ∃ d s1 G1 io1, StR T.x F s1 G1 io1 σ H1 ∧ Rp T.x G1 io1 d u ∧ Post T.x F W G1 io1 (match clsN s1 d with
    | some c => match tbl.lookup c with
      | some i => bndA (ev T.P T.Gm a s1) fun ds s => bndA (ev T.P T.Gm ka s) fun es s => if ds.length = n ∧ es.length = kk.length then callF T.P i ((d :: ds) ++ es) s else none
      | none => none
    | none => none) σ Q := ⟨s0, G, io, t0, Post.bnd hp fun d s1 v H1 G1 io1 sg si t1 r1 hp1 => ⟨d, s1, G1, io1, t1, r1, hp1⟩⟩
  refine PySem.W.methodCall_KW (thn (hl.run pins s σ H _ I hO) fun u s1 ⟨x, H1, I1, rx, d, S1, G1, io1, t1, r1, hp1⟩ => ?_) hev
  cases hc : clsN S1 d with
  | none => rw [hc] at hp1; exact hp1.elim
  | some c =>
    rw [hc] at hp1
    dsimp only at hp1
    cases hi : tbl.lookup c with
    | none => rw [hi] at hp1; exact hp1.elim
    | some i =>
      rw [hi] at hp1
      dsimp only at hp1
      obtain ⟨ns, ds, hcf⟩ := clsN_some hc
      obtain ⟨lv, p, dx, fv, rfl, q1, q2, q3⟩ := cls_rp t1 r1 hcf
      obtain ⟨g, hM, kl, fd, ps, gg, gV, sp, hkl, hF, hb, hsp⟩ := tblOk_at t htb lv hi
      have hr := o.room.mono (Nat.le_trans (Nat.le_add_right _ _) hkl)
      obtain rfl : u = Value.ref p := rx
      have hM' : Meth X.K (T.x.ca c) m g := by rw [o.K]; exact hM
      have hC' : Cls X.K (T.x.ca c) := by rw [o.K]; exact (t.ko.cl c lv).cl
      have hF' : FnOk X.prog X.w X.K X.mg X.base (L2.CX X.prog X.w) kl g fd ps sp := by
        rw [o.prog, o.w, o.K, o.mg, o.base]
        exact hF
      have hb' : KBn X.K fd ps (n + 1) kk gg gV := by rw [o.K]; exact hb
      refine getmeth_ok I1 q1 hC' hM' (t.noF hm0 hmf _ _) ?_
      have hA : rdA T F W a σ H1 fun vs H2 => rdA T F W ka σ H2 fun zs H3 => vs.length = n ∧ zs.length = kk.length ∧ sp (gV (.ref p :: vs) zs) H3 Q (WE W σ) := ⟨S1, G1, io1, t1, by
        refine Post.bndA hp1 fun ds s vs H2 G2 io2 sg2 si2 t2 r2 hp2 => ⟨s, G2, io2, t2, ?_⟩
        refine Post.bndA hp2 fun dz s2 zs H3 G3 io3 sg3 si3 t3 r3 hp3 => ?_
        split at hp3
        · rename_i hlen
          have l1 : vs.length = n := by rw [r2.length]; exact hlen.1
          have l2 : zs.length = kk.length := by rw [r3.length]; exact hlen.2
          refine ⟨l1, l2, hsp (.ref p :: vs) zs H3 Q _ (by rw [List.length_cons, l1]) l2 ⟨d :: ds, dz, s2.m, G3, io3, t3.gh, t3.mem, ?_, r3, post_F t3 hp3⟩⟩
          exact .cons ((r1.mono sg2 si2).mono sg3 si3) (r2.mono sg3 si3)
        · exact hp3.elim⟩
      cases es with
      | nil =>
        refine PySem.W.callWith_KW0 (first := [.ref p]) (h₀ := X.base) I.ok.mod.kin hM'.kp k1 ?_ (by show (false || _) = false; rw [k3]; rfl)
        rw [hnil rfl] at hA
        obtain ⟨s2, G2, io2, t2, hA⟩ := hA
        have q := hA [] H1 G2 io2 (Same.refl _) (Pre.refl _) t2 rfl
        refine thn (hk.run pos pins s1 σ H1 _ I1 q) fun ws s2 ⟨zs, H2, I2, rz, l1, l2, q2⟩ => ⟨I2.kIn, ?_⟩
        rw [k2]
        exact run_fnND (us := [.ref p]) (vs := [.ref p]) hF' hr hb' (passAt o.tk σ) I2 (.cons rfl .nil) rz (congrArg Nat.succ l1) l2 q2
      | cons e es =>
        rw [List.all_cons, Bool.and_eq_true] at hs
        have hs1 : isStar e = false := by simpa using hs.1
        refine PySem.W.callWith_KW (first := [.ref p]) (h₀ := X.base) I.ok.mod.kin hM'.kp k1 (thn (ha.run pos pins s1 σ H1 _ I1 hA) fun us s2 ⟨vs, H2, I2, r, q⟩ => ?_) (by rw [hpl, k3]; rfl) (star_no hs1)
        refine thn (hk.run pos pins s2 σ H2 _ I2 q) fun ws s3 ⟨zs, H3, I3, rz, l1, l2, q2⟩ => ⟨I3.kIn, ?_⟩
        rw [k2]
        exact run_fnND (us := .ref p :: us) (vs := .ref p :: vs) hF' hr hb' (passAt o.tk σ) I3 (.cons rfl r) rz (congrArg Nat.succ l1) l2 q2
end
end En

namespace PySem
namespace W
open PySem.Calls Builtin
section
variable {prog : Program} {w : World} {A : Around} {E : Value → Shared → Prop} {s : Shared} {K : Frag} {x C L f : Addr} {h₀ : Heap} {m : Str → Option Value} {ox : Obj} {od : Option Obj} {tb b : Value}
/-- != of an instance whose class has an own __eq__ alone -/
theorem En_ne {Q : Value → Shared → Prop} (hu : A.units + 8 < cLine) (X : K.In s.heap) (I : InstAt s.heap x ox C od) (hb : Looks (model prog w) s.heap (typeOf b) tb) (hn : notFirst K C tb = true) (hm : mroIn K C (.type "object") = some true)
    (hs : findIn K (.ref C) "__ne__" = some (some (.builtin "object.__ne__"))) (he : findIn K (.ref C) "__eq__" = some (some (.ref f))) (hf : isFn K (.ref f) = true)
    (h : wpAny (model prog w) A.in1 (call (.ref f) [.ref x, b]) (fun v s' => ∃ c, v = .bool c ∧ Q (.bool (!c)) s') E s) : wpAny (model prog w) A (richCompare .NotEq (.ref x) b) Q E s := by
  have hu1 : A.units < cLine := by omega
  have hu2 : A.in1.units < cLine := by show A.units + 1 < cLine; omega
  have two : wpAny (model prog w) A (call (.builtin "object.__ne__") [.ref x, b]) (fun v s' => ∃ c, v = .bool (!c) ∧ Q (.bool (!c)) s') E s := by
    refine wpAny_call (codeAny_call_builtin PySem.F.cmp_object.ne.plain PySem.F.cmpEntry_ne (check_slot PySem.F.cmpKind_ne PySem.F.cmpSplit_ne (I.type.andThen (looks_mroIn X hm)) (PySem.F.cmpArgs_ne _ _) ?_))
    unfold Builtin.«object.__ne__»
    repeat (first
      | with_reducible refine wpAny_cRoomFor hu2 ?_
      | (refine wpAny_bind (m := callSpecialIfBound? (.ref x) (Str.ofString "__eq__") [b]) (ifBound_K X I he hf (wpAny_mono h (fun r s' hr => by
          obtain ⟨c, rfl, hq⟩ := hr
          repeat (first | exact ⟨c, rfl, hq⟩ | exact wpAny_pure ⟨c, rfl, hq⟩ | (refine wpAny_bind (m := truthy (.bool _)) (wpAny_truthy_bool ?_)) | wp_step)) fun _ _ e => e)))
      | wp_step)
  have one : wpAny (model prog w) A (tryCompare (.ref x) (cmpInfo .NotEq).2.1 b) (fun r s' => ∃ v, r = some v ∧ Q v s') E s := by
    unfold tryCompare
    have fin : wpAny (model prog w) A (call (.builtin "object.__ne__") ([.ref x] ++ [b]) >>= fun v => pure (some v)) (fun r s' => ∃ c, r = some (.bool (!c)) ∧ Q (.bool (!c)) s') E s :=
      wpAny_bind (wpAny_mono two (fun v s' hv => by obtain ⟨c, rfl, q⟩ := hv; exact wpAny_pure ⟨c, rfl, q⟩) fun _ _ z => z)
    have mid : wpAny (model prog w) A (callSpecialIfBound? (.ref x) "__ne__" [b]) (fun r s' => ∃ c, r = some (.bool (!c)) ∧ Q (.bool (!c)) s') E s := by
      simp only [callSpecialIfBound?, bindSpecialIfBound?]
      refine wpAny_holding (wpAny_bind (wpAny_bind (wpAny_bind (I.type.here ((looks_findIn X hs).here ?_)))))
      simp only [PySem.F.cmp_object.ne.bind]
      refine wpAny_bind (wpAny_askSetting (wpAny_ite ?_))
      split
      · exact wpAny_bind (wpAny_pure (wpAny_pure fin))
      · exact wpAny_tryCatch (wpAny_bind (wpAny_pure (wpAny_pure fin)))
    refine wpAny_bind (wpAny_mono mid (fun r s' hr => ?_) fun _ _ z => z)
    obtain ⟨c, rfl, q⟩ := hr
    exact wpAny_pure ⟨_, rfl, q⟩
  unfold richCompare
  simp only [oneThing_ref]
  refine wpAny_holding (wpAny_bind (wpAny_cRoomFor hu1 ?_))
  refine wpAny_bind (I.type.here (wpAny_bind (hb.here ?_)))
  have tail : wpAny (model prog w) A (tryCompare (.ref x) (cmpInfo .NotEq).2.1 b) (fun r s' => ∃ v, r = some v ∧ Q v s') E s := one
  split
  · rename_i q
    have e : subIn K tb (.ref C) = some false := by
      rcases Bool.or_eq_true_iff.mp hn with e | e
      · rw [beq_iff_eq.mp e] at q; simp at q
      · exact beq_iff_eq.mp e
    refine wpAny_bind ((looks_subIn X e).here ?_)
    simp only [Bool.false_eq_true, if_false]
    refine wpAny_bind (wpAny_mono tail (fun r s' z => ?_) fun _ _ z => z)
    obtain ⟨v, rfl, hq⟩ := z
    exact wpAny_pure hq
  · refine wpAny_bind (wpAny_pure ?_)
    simp only [Bool.false_eq_true, if_false]
    refine wpAny_bind (wpAny_mono tail (fun r s' z => ?_) fun _ _ z => z)
    obtain ⟨v, rfl, hq⟩ := z
    exact wpAny_pure hq
end
end W
end PySem

namespace PySem
namespace W
section
variable {prog : Program} {w : World} {A : Around} {E : Value → Shared → Prop} {s : Shared} {x : Value}
theorem En_bool {Q : Value → Shared → Prop} (hx : ∀ t, x = .ref t → True) (h : wpAny (model prog w) A.in1.in1 (truthy x) (fun b s' => Q (.bool b) s') E s) : wpAny (model prog w) A (call (.type "bool") [x]) Q E s := by
  refine callType_newIn (S := fun A R s => wpAny (model prog w) A.in1 (truthy x) (fun b s' => R (.ok (.ret (.bool b))) s') (fun e s' => R (.error e) s') s) PySem.F.called_bool PySem.F.newNe_bool (PySem.F.typeCall_bool_1 x) (PySem.F.newCall_bool_1 x) (fun obj => PySem.F.args_object_init_2 obj x) PySem.F.entry_bool_new (fun A R s hq => ?_) (wpAny_mono h (fun b s' q => ⟨rfl, q⟩) fun _ _ z => z)
  have f1 := PySem.F.conv_sub_bool
  unfold Builtin.«bool.__new__»
  repeat (first
    | (refine wpAny_bind (m := truthy x) (wpAny_mono hq (fun b s' q => ?_) fun _ _ z => z))
    | wp_step)
  all_goals first | exact q | exact wpAny_pure q | exact ⟨_, rfl, q⟩
end
end W
end PySem
namespace En
open PySem PySem.Spec L2
theorem nf_kit {K : PySem.W.Frag} {t : Value} {C : Addr} (h : PySem.W.kitOne K t (.ref C) = some false) : PySem.W.notFirst K C t = true := by
  unfold PySem.W.kitOne at h
  split at h
  · cases h
  · unfold PySem.W.kitCls at h
    dsimp only at h
    split at h
    · unfold PySem.W.notFirst
      rw [h]
      simp
    · cases h
section
variable {T : Tb} {cc : CC} {X : Cx} {W : WX} {F : Fr} {e l r c : Expr} {es : List Expr} {a b : E} {pos : Pos}
/-- the callee runs below the running body; what it raises nobody wishes for -/
theorem run_cal {A : Around} {i n : Nat} {g : Addr} {pins : List (Addr × Obj)} {σ : L2.St} {H : Hp} {s : Shared} {Q : VK} {us : List Value} {vs : List V} (o : XOk T cc X W) (c : Cal T i n [] g) (hA : ∀ k, k + 3 ≤ T.lv → Room k A)
    (e0 : Env0 X.prog X.w X.K X.mg X.base A X.stack s H) (I : Inv X pins σ H s) (r : Vals vs us) (l : vs.length = n)
    (h : ∃ ds m G io, Same G H ∧ MemA T.x G io H m ∧ RpL T.x G io ds vs ∧ PostF T.x H G io (T.P i ds m) Q (fun _ _ _ => False)) : wpAny (model X.prog X.w) A (call (.ref g) us) (EP X pins σ Q) X.xe s := by
  obtain ⟨k, fd, ps, gg, gV, sp, hk, hF, hb, hsp⟩ := c
  obtain ⟨ds, m, G, io, gh, hm, rr, hp⟩ := h
  have q := hsp vs [] H Q (fun _ _ _ => False) l rfl ⟨ds, [], m, G, io, gh, hm, rr, .nil, by rw [List.append_nil]; exact hp⟩
  rw [← o.prog, ← o.w, ← o.K, ← o.mg, ← o.base] at hF
  rw [← o.K] at hb
  have rb := hb.rel r Paired.nil
  refine wpAny_call (codeAny_mono (hF.run A X.stack s H ⟨us, []⟩ (gg us []) (gV vs []) Q (fun _ _ _ => False) (hA k hk) e0 (hb.to s us [] I.kIn (r.length.symm.trans l) rfl) rb q) fun r s' hq => ?_)
  cases r with
  | error e =>
    obtain ⟨_, _, _, _, _, _, _, _, _, _, _, _, z⟩ := hq
    exact z.elim
  | ok fl =>
    cases fl with
    | ret u => exact I.after hq
    | next => exact False.elim hq
    | brk => exact False.elim hq
    | cont => exact False.elim hq
theorem postB {x : SX} {P : Nat → List D → List MO → Option (Out × List MO)} {neg : Bool} {f : Nat} {ds : List D} {s : S} {σ : L2.St} {G H : Hp} {io : List Addr} {Q : VK} (t : StR x F s G io σ H) (hp : Post x F W G io (callB P neg f ds s) σ Q) :
    PostF x H G io (P f ds s.m) (fun v H' => ∃ b, v = .bl b ∧ Q (.bl (neg != b)) H') (fun _ _ _ => False) := by
  unfold callB at hp
  cases hP : P f ds s.m with
  | none => rw [hP] at hp; exact hp.elim
  | some q =>
    obtain ⟨o, m⟩ := q
    rw [hP] at hp
    cases o with
    | val d =>
      cases d with
      | bl b =>
        intro v H' G' io' ff rv
        obtain ⟨t', sg⟩ := t.call ff
        exact ⟨b, rv, hp _ H' G' io' sg ff.2.2.2.2.1 t' rfl⟩
      | _ => exact hp.elim
    | _ => exact hp.elim
theorem postV {x : SX} {P : Nat → List D → List MO → Option (Out × List MO)} {b : Bi} {f : Nat} {d : D} {s : S} {σ : L2.St} {G H : Hp} {io : List Addr} {Q : VK} (t : StR x F s G io σ H) (hp : Post x F W G io (callV P b f d s) σ Q) :
    PostF x H G io (P f [d] s.m) (fun v H' => ∃ d', bioOk b d' = true ∧ (∀ G io, Rp x G io d' v) ∧ Q v H') (fun _ _ _ => False) := by
  unfold callV at hp
  cases hP : P f [d] s.m with
  | none => rw [hP] at hp; exact hp.elim
  | some q =>
    obtain ⟨o, m⟩ := q
    rw [hP] at hp
    cases o with
    | val d' =>
      dsimp only at hp
      split at hp
      · rename_i hb
        intro v H' G' io' ff rv
        obtain ⟨t', sg⟩ := t.call ff
        refine ⟨d', hb, ?_, hp _ H' G' io' sg ff.2.2.2.2.1 t' rv⟩
        cases b <;> cases d' <;> first | (cases hb; done) | exact fun _ _ => rv
      · exact hp.elim
    | _ => exact hp.elim
def rCo (T : Tb) (F : Fr) (W : WX) (o : Cop) (tbl : List (Nat × Nat)) : R2 := fun v w H Q => ∃ σ s G io d e, StR T.x F s G io σ H ∧ Rp T.x G io d v ∧ Rp T.x G io e w ∧ Post T.x F W G io (cmoF T.P o tbl d e s) σ Q
theorem cmo_ok (ok : XOk T cc X W) (t : TOk T) {tbl : List (Nat × Nat)} (htb : tblOk T.nt "__eq__" 1 [] tbl = true) (o : Cop) : OpR X (compareOp (copOf o)) (rCo T F W o tbl) := by
  intro pins s' σ' H v w u z Q I r1 r2 h
  obtain ⟨σ, s, G, io, d, e, st, q1, q2, hp⟩ := h
  unfold cmoF at hp
  cases hc : clsN s d with
  | none =>
    rw [hc] at hp
    dsimp only at hp
    split at hp
    · exact hp.elim
    · cases hq : cmpF o d e s with
      | none => rw [hq] at hp; exact hp.elim
      | some q =>
        rw [hq] at hp
        exact cmp_ok (F := F) ok.K ok.hu o pins s' σ' H v w u z Q I r1 r2 ⟨σ, s, G, io, d, e, q, st, q1, q2, hq, hp.v st rfl⟩
  | some c =>
    rw [hc] at hp
    dsimp only at hp
    cases hi : tbl.lookup c with
    | none => rw [hi] at hp; exact hp.elim
    | some i =>
      rw [hi] at hp
      dsimp only at hp
      split at hp
      · rename_i hnf
        obtain ⟨ns, ds, hcf⟩ := clsN_some hc
        obtain ⟨lv, p, dx, fv, rfl, e1, e2, e3⟩ := cls_rp st q1 hcf
        obtain ⟨g, hM, cal⟩ := tblOk_at t htb lv hi
        have k := t.ko.cl c lv
        obtain rfl : u = Value.ref p := r1
        obtain ⟨mA, O, _⟩ := ins_get I.hok e1
        obtain ⟨od, J, _⟩ := O.look
        obtain ⟨m, hF⟩ := I.fr
        have hcl : ∃ cl, clD T.x (s.v e) = some cl := by
          cases hv : s.v e <;> rw [hv] at hnf <;> first | exact ⟨_, rfl⟩ | cases hnf
        obtain ⟨cl, hcl⟩ := hcl
        obtain ⟨ty, lve⟩ := tyx_of t.ko st q2 hcl
        have hn : PySem.W.notFirst X.K (T.x.ca c) cl = true := by
          rw [ok.K]
          cases hv : s.v e with
          | obj k2 ns2 ds2 =>
            rw [hv] at hnf hcl lve
            cases hcl
            have hnf : (k2 == c || !subC k2 c) = true := hnf
            rw [Bool.or_eq_true] at hnf
            rcases hnf with hnf | hnf
            · rw [beq_iff_eq.mp hnf]
              unfold PySem.W.notFirst
              simp
            · have hs : subC k2 c = false := by simpa using hnf
              exact nf_kit (hs ▸ t.ko.cc k2 c lve lv)
          | _ =>
            rw [hv] at hcl hnf
            first
              | (cases hnf; done)
              | (cases hcl; exact nf_kit ((k.kb _ (by decide)).1))
        rw [← ok.K] at ty
        obtain ⟨PP, Z, pz, _⟩ := kit_of I r2 ty
        have hb := Z.ty (model X.prog X.w) _ I.kIn pz
        have hfn : PySem.W.isFn X.K (.ref g) = true := by rw [ok.K]; exact hM.fn
        have hat : PySem.W.findIn X.K (.ref (T.x.ca c)) "__eq__" = some (some (.ref g)) := by rw [ok.K]; exact hM.at_
        have hr := ok.room
        cases o with
        | eq =>
          show wpAny _ _ (richCompare .Eq (.ref p) z) _ _ _
          refine PySem.W.cmp_K (op := .Eq) hr.units0 hF I.ok.mod.kin J hb hn hat hfn ?_
          refine wpAny_mono (run_cal (us := [.ref p, z]) (vs := [.ref p, w]) ok cal (fun k hk => hr.mono (by omega)) I.env0 I (.cons rfl (.cons r2 .nil)) rfl ⟨[d, e], s.m, G, io, st.gh, st.mem, .cons q1 (.cons q2 .nil), postB st hp⟩) (fun y s2 hy => ?_) fun _ _ x => x
          obtain ⟨v', H', I', rv, b, rfl, q⟩ := hy
          refine SlX.cmpback rv ⟨_, H', I', rv, ?_⟩
          simpa using q
        | ne =>
          show wpAny _ _ (richCompare .NotEq (.ref p) z) _ _ _
          refine PySem.W.En_ne (by have := hr.units; omega) I.kIn J hb hn (by rw [ok.K]; exact k.hm) (by rw [ok.K]; exact k.ne) hat hfn ?_
          refine wpAny_mono (run_cal (A := X.A.in1) (us := [.ref p, z]) (vs := [.ref p, w]) ok cal (fun k hk => (hr.mono (show k + 1 ≤ T.lv by omega)).in1) I.env0.in1 I (.cons rfl (.cons r2 .nil)) rfl ⟨[d, e], s.m, G, io, st.gh, st.mem, .cons q1 (.cons q2 .nil), postB st hp⟩) (fun y s2 hy => ?_) fun _ _ x => x
          obtain ⟨v', H', I', rv, b, rfl, q⟩ := hy
          cases (show y = Value.bool b from rv)
          exact ⟨b, rfl, .bl (!b), H', I', rfl, by simpa using q⟩
        | _ => exact hp.elim
      · exact hp.elim
end
end En

namespace En
open PySem PySem.Spec L2
def bioN : Bi → Str
  | .len => "__len__"
  | .bool => "__bool__"
  | .repr => "__repr__"
  | _ => ""
theorem bndA_bnd {o : Res} {k : D → S → Res} {K : List D → S → Res} : bndA (bnd o k) K = bnd o (fun d s => bndA (k d s) K) := by
  unfold bnd
  split
  · rfl
  · rfl
  · rfl
  · unfold bndA
    rfl
theorem bndA_bndA {o : Res} {k : List D → S → Res} {K : List D → S → Res} : bndA (bndA o k) K = bndA o (fun d s => bndA (k d s) K) := by
  conv => rhs; unfold bndA
  conv => lhs; arg 1; unfold bndA
  split
  · rfl
  · rfl
  · unfold bndA
    rfl
section
variable {T : Tb} {cc : CC} {X : Cx} {W : WX} {F : Fr} {e l r c : Expr} {es : List Expr} {a b : E} {pos : Pos}
def rBio (T : Tb) (F : Fr) (W : WX) (b : Bi) (tbl : List (Nat × Nat)) : List V → Hp → VK → Prop := fun vs H Q => ∃ v σ s G io d, vs = [v] ∧ StR T.x F s G io σ H ∧ Rp T.x G io d v ∧ Post T.x F W G io (bioF T.P b tbl d s) σ Q
theorem bio_ok (ok : XOk T cc X W) (t : TOk T) {b : Bi} {tbl : List (Nat × Nat)} (htb : tblOk T.nt (bioN b) 0 [] tbl = true) : CallR X (biV b) (rBio T F W b tbl) := by
  intro pins s' σ' H vs us Q I r h
  obtain ⟨v, σ, s, G, io, d, rfl, st, q1, hp⟩ := h
  unfold bioF at hp
  cases hc : clsN s d with
  | none =>
    rw [hc] at hp
    exact bi_ok (F := F) (W := W) ok.K ok.calm b pins s' σ' H _ us Q I r ⟨σ, s, G, io, [d], st, .cons q1 .nil, hp⟩
  | some c =>
    rw [hc] at hp
    dsimp only at hp
    cases hi : tbl.lookup c with
    | none => rw [hi] at hp; exact hp.elim
    | some i =>
      rw [hi] at hp
      dsimp only at hp
      split at hp
      · rename_i hbb
        obtain ⟨ns, ds, hcf⟩ := clsN_some hc
        obtain ⟨lv, p, dx, fv, rfl, e1, e2, e3⟩ := cls_rp st q1 hcf
        obtain ⟨g, hM, cal⟩ := tblOk_at t htb lv hi
        obtain ⟨u, rfl, ru⟩ := vals1 r
        obtain rfl : u = Value.ref p := ru
        obtain ⟨mA, O, _⟩ := ins_get I.hok e1
        obtain ⟨od, J, _⟩ := O.look
        obtain ⟨m, hF⟩ := I.fr
        have hfn : PySem.W.isFn X.K (.ref g) = true := by rw [ok.K]; exact hM.fn
        have hat : PySem.W.findIn X.K (.ref (T.x.ca c)) (bioN b) = some (some (.ref g)) := by rw [ok.K]; exact hM.at_
        have hr := ok.room
        have hP : ∃ ds m G io, Same G H ∧ MemA T.x G io H m ∧ RpL T.x G io ds [V.ref p] ∧ PostF T.x H G io (T.P i ds m) (fun v H' => ∃ d', bioOk b d' = true ∧ (∀ G io, Rp T.x G io d' v) ∧ Q v H') (fun _ _ _ => False) :=
          ⟨[d], s.m, G, io, st.gh, st.mem, .cons q1 .nil, postV st hp⟩
        cases b with
        | len =>
          refine PySem.W.len_K hF I.ok.mod.kin J hat hfn ?_
          refine wpAny_mono (run_cal (A := X.A.in1) (us := [.ref p]) (vs := [.ref p]) ok cal (fun k hk => (hr.mono (show k + 1 ≤ T.lv by omega)).in1) I.env0.in1 I (.cons rfl .nil) rfl hP) (fun y s2 hy => ?_) fun _ _ x => x
          obtain ⟨v', H', I', rv, d', hb, hr', q⟩ := hy
          cases d' with
          | int j =>
            cases (show v' = .int j from hr' G io)
            obtain ⟨tk, rfl⟩ := rv
            have hb : (decide (0 ≤ j) && decide (j < 9223372036854775808)) = true := hb
            rw [Bool.and_eq_true, decide_eq_true_eq, decide_eq_true_eq] at hb
            exact ⟨⟨hb.1, by have := hb.2; omega⟩, .int j, H', I'.tok _, ⟨_, rfl⟩, q⟩
          | _ => cases hb
        | repr =>
          refine PySem.W.repr_K (by show X.A.units + 1 < cLine; have := hr.units; omega) hF I.ok.mod.kin J hat hfn ?_
          refine wpAny_mono (run_cal (A := X.A.in1) (us := [.ref p]) (vs := [.ref p]) ok cal (fun k hk => (hr.mono (show k + 1 ≤ T.lv by omega)).in1) I.env0.in1 I (.cons rfl .nil) rfl hP) (fun y s2 hy => ?_) fun _ _ x => x
          obtain ⟨v', H', I', rv, d', hb, hr', q⟩ := hy
          cases d' with
          | str j =>
            cases (show v' = .str j from hr' G io)
            obtain ⟨tk, rfl⟩ := rv
            exact ⟨.str j, H', I', ⟨_, rfl⟩, q⟩
          | _ => cases hb
        | bool =>
          refine PySem.W.En_bool (fun _ _ => trivial) ?_
          refine PySem.W.truthy_K hF I.ok.mod.kin J hat hfn ?_
          refine wpAny_mono (run_cal (A := X.A.in1.in1) (us := [.ref p]) (vs := [.ref p]) ok cal (fun k hk => (hr.mono (show k + 1 + 1 ≤ T.lv by omega)).in1.in1) I.env0.in1.in1 I (.cons rfl .nil) rfl hP) (fun y s2 hy => ?_) fun _ _ x => x
          obtain ⟨v', H', I', rv, d', hb, hr', q⟩ := hy
          cases d' with
          | bl j =>
            cases (show v' = .bl j from hr' G io)
            cases (show y = Value.bool j from rv)
            exact ⟨.bl j, H', I', rfl, q⟩
          | _ => cases hb
        | _ => cases hbb
      · exact hp.elim
theorem s_cmo (o : XOk T cc X W) (t : TOk T) {op : Cop} {tbl : List (Nat × Nat)} (htb : tblOk T.nt "__eq__" 1 [] tbl = true) (hm : isSet r = false) (ha : PE X l (rd T F W a)) (hb : PE X r (rd T F W b)) :
    PE X (.Compare l [copOf op] [r] pos) (rd T F W (.cmo op tbl a b)) ∧ PT X (.Compare l [copOf op] [r] pos) (rdT T F W (.cmo op tbl a b)) := by
  have key : ∀ σ H Q, rd T F W (.cmo op tbl a b) σ H Q → tOp (rCo T F W op tbl) (rd T F W a) (rd T F W b) σ H Q := fun σ H Q ⟨s, G, io, st, hp⟩ => ⟨s, G, io, st, by
    refine Post.bnd hp fun d s v H1 G1 io1 sg si t1 r1 hp1 => ⟨s, G1, io1, t1, ?_⟩
    refine Post.bnd hp1 fun d2 s2 v2 H2 G2 io2 sg2 si2 t2 r2 hp2 => ?_
    exact ⟨σ, s2, G2, io2, d, d2, t2, r1.mono sg2 si2, r2, hp2⟩⟩
  exact ⟨PE.wk (pe_cmpR (cmo_ok o t htb op) ha hb (marks_no hm)) key, PT.wk (pt_cmpR (cmo_ok o t htb op) ha hb (marks_no hm)) fun σ H Q hq => key σ H _ hq⟩
theorem s_bio (o : XOk T cc X W) (t : TOk T) {k : Bi} {p : Pos} {tbl : List (Nat × Nat)} (htb : tblOk T.nt (bioN k) 0 [] tbl = true) (hg : glo cc (biN k) = true) (hs : isStar e = false) (ha : PE X e (rd T F W a)) :
    PE X (.Call (.Name (biN k) p) [e] [] pos) (rd T F W (.bio k tbl a)) := by
  obtain ⟨h1, h2, h3⟩ := o.glo hg
  have hm : X.mg (biN k) = none := o.blt t (by cases k <;> decide +kernel)
  have key : ∀ σ H Q, rd T F W (.bio k tbl a) σ H Q → tCB (rBio T F W k tbl) (tCons (rd T F W a) tNil) σ H Q := fun σ H Q ⟨s, G, io, st, hp⟩ => ⟨s, G, io, st, by
    refine Post.bnd hp fun d s v H1 G1 io1 sg si t1 r1 hp1 => ?_
    exact ⟨v, σ, s, G1, io1, d, rfl, t1, r1, hp1⟩⟩
  have B := bio_ok (F := F) o t htb
  have hst := star_no (es := []) (env := X.env) hs
  have ha' := pa_cons ha pa_nil hst
  cases k with
  | len => exact PE.wk (pe_callB B h1 hm PySem.boot_len ha' h3 h2 hst rfl) key
  | all => exact PE.wk (pe_callB B h1 hm (by decide +kernel) ha' h3 h2 hst rfl) key
  | any => exact PE.wk (pe_callB B h1 hm (by decide +kernel) ha' h3 h2 hst rfl) key
  | int => exact PE.wk (pe_callTy B h1 hm (by decide +kernel) ha' h3 h2 hst rfl) key
  | list => exact PE.wk (pe_callTy B h1 hm (by decide +kernel) ha' h3 h2 hst rfl) key
  | dict => exact PE.wk (pe_callTy B h1 hm (by decide +kernel) ha' h3 h2 hst rfl) key
  | tuple => exact PE.wk (pe_callTy B h1 hm (by decide +kernel) ha' h3 h2 hst rfl) key
  | str => exact PE.wk (pe_callTy B h1 hm (by decide +kernel) ha' h3 h2 hst rfl) key
  | bool => exact PE.wk (pe_callTy B h1 hm (by decide +kernel) ha' h3 h2 hst rfl) key
  | repr => exact PE.wk (pe_callB B h1 hm (by decide +kernel) ha' h3 h2 hst rfl) key
  | sorted => exact PE.wk (pe_callB B h1 hm (by decide +kernel) ha' h3 h2 hst rfl) key
/-! ### f-strings -/
theorem s_fmt (ha : PE X e (rd T F W a)) : PE X (.FormattedValue e (-1) none pos) (rd T F W (.fmt a)) := by
  refine PE.wk (pe_fmt ha) fun σ H Q ⟨s, G, io, t, hp⟩ => ⟨s, G, io, t, ?_⟩
  refine Post.bnd hp fun d s v H1 G1 io1 sg si t1 r1 hp1 => ?_
  have lim : (100000 : Nat) ≤ sizeLine := by rw [sizeLine_eq]; decide
  cases d with
  | str z =>
    cases (show v = .str z from r1)
    dsimp only [txD] at hp1
    split at hp1
    · rename_i hz
      exact .inl ⟨z, rfl, Nat.le_trans hz lim, hp1.v t1 rfl⟩
    · exact hp1.elim
  | int i =>
    cases (show v = .int i from r1)
    dsimp only [txD] at hp1
    split at hp1
    · rename_i y hy
      split at hy
      · rename_i hl
        cases hy
        split at hp1
        · exact .inr ⟨i, rfl, hl, hp1.v t1 rfl⟩
        · exact hp1.elim
      · cases hy
    · exact hp1.elim
  | _ => exact (show False from hp1).elim
theorem s_fmtc {z : Str} (ha : PE X e (rd T F W (.cst (.str z)))) : PE X e (rd T F W (.fmt (.cst (.str z)))) := by
  refine PE.wk ha fun σ H Q ⟨s, G, io, t, hp⟩ => ⟨s, G, io, t, ?_⟩
  have hp : Post T.x F W G io (if z.length ≤ 100000 then some (.val (.str z), s) else none) σ Q := hp
  split at hp
  · exact hp
  · exact hp.elim
theorem str_assoc (a b c : Str) : (a ++ b) ++ c = a ++ (b ++ c) := by
  have e : ((a ++ b) ++ c).cps = (a ++ (b ++ c)).cps := Array.append_assoc
  cases h1 : (a ++ b) ++ c
  cases h2 : a ++ (b ++ c)
  rw [h1, h2] at e
  cases e
  rfl
theorem str_empty (a : Str) : a ++ Str.empty = a := by
  have e : (a ++ Str.empty).cps = a.cps := Array.append_empty
  cases h1 : a ++ Str.empty
  cases h2 : a
  rw [h1, h2] at e
  cases e
  rfl
theorem str_len (a b : Str) : (a ++ b).length = a.length + b.length := Array.size_append
def tsOf (T : Tb) (F : Fr) (W : WX) : E → List TE
  | .cns a b => rd T F W a :: tsOf T F W b
  | _ => []
def jnN : E → Nat
  | .cns _ b => jnN b + 1
  | _ => 0
def isFmt : E → Bool
  | .fmt _ => true
  | _ => false
def isJn : E → Bool
  | .nil => true
  | .cns a b => isFmt a && isJn b
  | _ => false
theorem jn_cases {c : E} (h : isJn c = true) : c = .nil ∨ ∃ a b, c = .cns (.fmt a) b ∧ isJn b = true := by
  cases c with
  | nil => exact .inl rfl
  | cns a b =>
    have h : (isFmt a && isJn b) = true := h
    rw [Bool.and_eq_true] at h
    cases a with
    | fmt a => exact .inr ⟨a, b, rfl, h.2⟩
    | _ => cases h.1
  | _ => cases h
theorem js_key : ∀ (n : Nat) (c : E) (acc : Str) (s : S) (G : Hp) (io : List Addr) (σ : L2.St) (H : Hp) (Q : VK), jnN c = n → isJn c = true → acc.length + n * 100000 ≤ big → StR T.x F s G io σ H →
    Post T.x F W G io (bndA (ev T.P T.Gm c s) fun ds s => match fstF ds with | some z => some (.val (.str (acc ++ z)), s) | none => none) σ Q → tJs (tsOf T F W c) acc σ H (fun out H1 => Q (.str out) H1) := by
  intro n
  induction n with
  | zero =>
    intro c acc s G io σ H Q hn hj _ t hp
    rcases jn_cases hj with rfl | ⟨a, b, rfl, hj⟩
    · have hp : Post T.x F W G io (some (.val (.str (acc ++ Str.empty)), s)) σ Q := hp
      rw [str_empty] at hp
      exact hp.v t rfl
    · cases hn
  | succ n ih =>
    intro c acc s G io σ H Q hn hj hl t hp
    rcases jn_cases hj with rfl | ⟨a', b, rfl, hj⟩
    · cases hn
    have hn : jnN b = n := Nat.succ.inj hn
    have hp : Post T.x F W G io (bndA (bnd (ev T.P T.Gm (.fmt a') s) fun d s => bndA (ev T.P T.Gm b s) fun ds s => some (.vals (d :: ds), s)) fun ds s => match fstF ds with | some z => some (.val (.str (acc ++ z)), s) | none => none) σ Q := hp
    rw [bndA_bnd] at hp
    refine ⟨s, G, io, t, ?_⟩
    -- what the part comes to is a text
    have hp : Post T.x F W G io (bnd (bnd (ev T.P T.Gm a' s) fun x s => match txD x with
      | some y => if y.length ≤ 100000 then some (.val (.str y), s) else none
      | none => none) fun d s => bndA (bndA (ev T.P T.Gm b s) fun ds s => some (.vals (d :: ds), s)) fun ds s => match fstF ds with | some z => some (.val (.str (acc ++ z)), s) | none => none) σ Q := hp
    have fm : ∀ d s2, (bnd (ev T.P T.Gm a' s) fun x s => match txD x with
      | some y => if y.length ≤ 100000 then some (.val (.str y), s) else none
      | none => none) = some (.val d, s2) → ∃ y, d = .str y ∧ y.length ≤ 100000 := by
      intro d s2 he
      unfold bnd at he
      have one : ∀ x s3, (match txD x with
        | some y => if y.length ≤ 100000 then some (Out.val (.str y), s3) else none
        | none => none) = some (.val d, s2) → ∃ y, d = .str y ∧ y.length ≤ 100000 := by
        intro x s3 he
        split at he
        · split at he
          · rename_i hz
            cases he
            exact ⟨_, rfl, hz⟩
          · cases he
        · cases he
      split at he
      · exact one _ _ he
      · exact one _ _ he
      · cases he
      · cases he
    show Post T.x F W G io (bnd (ev T.P T.Gm a' s) fun x s => match txD x with
      | some y => if y.length ≤ 100000 then some (.val (.str y), s) else none
      | none => none) σ _
    generalize hR : (bnd (ev T.P T.Gm a' s) fun x s => match txD x with
      | some y => if y.length ≤ 100000 then some (.val (.str y), s) else none
      | none => none) = R at hp fm
    unfold Post
    split
    · rename_i d s2
      obtain ⟨y, rfl, hy⟩ := fm d s2 rfl
      intro v H' G' io' sg si t' rv
      cases (show v = .str y from rv)
      have hp := hp.anti sg si
      have hp : Post T.x F W G' io' (bndA (bndA (ev T.P T.Gm b s2) fun ds s => some (.vals (.str y :: ds), s)) fun ds s => match fstF ds with | some z => some (.val (.str (acc ++ z)), s) | none => none) σ Q := hp
      rw [bndA_bndA] at hp
      refine ⟨y, rfl, ?_, ih b (acc ++ y) s2 G' io' σ H' Q hn hj ?_ t' ?_⟩
      · rw [str_len, sizeLine_eq]
        show _ ≤ big
        omega
      · rw [str_len]
        omega
      · have e : (fun (ds : List D) (s : S) => (match fstF ds with | some z => some (Out.val (.str (acc ++ y ++ z)), s) | none => none)) = (fun (ds : List D) (s : S) => bndA (some (.vals (.str y :: ds), s)) fun ds s => match fstF ds with | some z => some (.val (.str (acc ++ z)), s) | none => none) := by
          funext ds s
          show _ = (match fstF (.str y :: ds) with | some z => some (Out.val (.str (acc ++ z)), s) | none => none)
          have e2 : fstF (.str y :: ds) = match fstF ds with | some z => some (y ++ z) | none => none := rfl
          rw [e2]
          cases fstF ds with
          | none => rfl
          | some z => show some (Out.val (.str (acc ++ y ++ z)), s) = some (Out.val (.str (acc ++ (y ++ z))), s); rw [str_assoc]
        rw [e]
        exact hp
    · rename_i o s2
      exfalso
      revert hR
      unfold bnd
      have no : ∀ x s3, (match txD x with
        | some y => if y.length ≤ 100000 then some (Out.val (.str y), s3) else none
        | none => none) = some (.fr o, s2) → False := by
        intro x s3 he
        split at he
        · split at he
          · cases he
          · cases he
        · cases he
      split
      · exact no _ _
      · exact no _ _
      · intro z; cases z
      · intro z; cases z
    · exact hp
    · rename_i h1 h2 h3
      unfold bnd at hp
      split at hp
      · exact h1 _ _ rfl
      · exact h2 _ _ rfl
      · exact h3 _ _ _ _ rfl
      · exact hp
theorem s_fst {v1 v2 : Expr} {rest : List Expr} (hj : isJn a = true) (hn : jnN a ≤ 100) (h : PJ X (v1 :: v2 :: rest) (tsOf T F W a)) : PE X (.JoinedStr (v1 :: v2 :: rest) pos) (rd T F W (.fst a)) := by
  refine PE.wk (pe_joined h) fun σ H Q ⟨s, G, io, t, hp⟩ => ?_
  refine js_key (jnN a) a Str.empty s G io σ H Q rfl hj (by show 0 + _ ≤ 16777216; omega) t ?_
  have e : (fun (ds : List D) (s : S) => (match fstF ds with | some z => some (Out.val (.str (Str.empty ++ z)), s) | none => none)) = (fun (ds : List D) (s : S) => match fstF ds with | some z => some (Out.val (.str z), s) | none => none) := by
    funext ds s
    cases fstF ds with
    | none => rfl
    | some z =>
      have e2 : Str.empty ++ z = z := by
        have e : (Str.empty ++ z).cps = z.cps := Array.empty_append
        cases h1 : Str.empty ++ z
        cases h2 : z
        rw [h1, h2] at e
        cases e
        rfl
      show some (Out.val (.str (Str.empty ++ z)), s) = _
      rw [e2]
  rw [e]
  exact hp
/-! ### x is True, x is False; what is never reached -/
theorem s_isb {k : Bool} {j : Nat} {p : Pos} (ha : PE X l (rd T F W a)) : PE X (.Compare l [.Is] [.Constant (.bool k) j p] pos) (rd T F W (.isb k a)) ∧ PT X (.Compare l [.Is] [.Constant (.bool k) j p] pos) (rdT T F W (.isb k a)) := by
  have key : ∀ σ H Q, rd T F W (.isb k a) σ H Q → tOp rIsB (rd T F W a) (fun _ H Q => Q (.bl k) H) σ H Q := fun σ H Q ⟨s, G, io, st, hp⟩ => ⟨s, G, io, st, by
    refine Post.bnd hp fun d s v H1 G1 io1 sg si t1 r1 hp1 => ?_
    cases d with
    | bl b =>
      refine ⟨b, k, r1, rfl, ?_⟩
      have e : decide (b = k) = (b == k) := by cases b <;> cases k <;> rfl
      rw [e]
      exact hp1.v t1 rfl
    | _ => exact (show False from hp1).elim⟩
  exact ⟨PE.wk (pe_cmpR op_isBl ha pe_bl (nomark _)) key, PT.wk (pt_cmpR op_isBl ha pe_bl (nomark _)) fun σ H Q hq => key σ H _ hq⟩
theorem wal_no {σ : L2.St} {H : Hp} {Q : VK} (h : rd T F W .wal σ H Q) : False := by
  obtain ⟨s, G, io, t, hp⟩ := h
  exact hp
theorem s_wal : PE X e (rd T F W .wal) ∧ PT X e (rdT T F W .wal) := ⟨⟨fun pins s σ H Q I q => (wal_no q).elim⟩, ⟨fun pins s σ H Q I q => (wal_no q).elim⟩⟩
theorem s_wals {st : Stmt} : PS X st (rdS T F W .wal) := ⟨fun pins s σ H D I q => by
  obtain ⟨_, _, _, _, hp⟩ := q
  exact (show False from hp).elim⟩
theorem s_walb {st : List Stmt} : PSs X st (rdS T F W .wal) := ⟨fun pins s σ H D I q => by
  obtain ⟨_, _, _, _, hp⟩ := q
  exact (show False from hp).elim⟩
end
end En

namespace En
open PySem PySem.Spec L2
section
variable {T : Tb} {cc : CC} {X : Cx} {W : WX} {F : Fr} {e l r c : Expr} {es : List Expr} {a b : E} {pos : Pos}
theorem view_any {s : S} {G H : Hp} {io : List Addr} {σ : L2.St} {d : D} {ds : List D} {v : V} (o : XOk T cc X W) (t : StR T.x F s G io σ H) (h : viewQ s d = some ds) (r : Rp T.x G io d v) :
    ∃ p xs, v = V.ref p ∧ (SqT X.K H p xs ∨ SqL X.K H p xs) ∧ RpL T.x G io ds xs := by
  obtain ⟨p, ws, rfl, hq, hr⟩ := view_seq t h r
  refine ⟨p, ws, rfl, ?_, hr⟩
  rcases hq with hq | hq
  · exact .inr (.inl hq)
  · exact .inl (by rw [o.K]; exact hq)
theorem RpL.reverse {x : SX} {G : Hp} {io : List Addr} : ∀ {ds : List D} {vs : List V}, RpL x G io ds vs → RpL x G io ds.reverse vs.reverse
  | [], _, h => by
    cases (show _ = [] from h)
    exact .nil
  | d :: ds, _, h => by
    obtain ⟨v, r, rfl, q, t⟩ := h
    rw [List.reverse_cons, List.reverse_cons]
    exact t.reverse.append (.cons q .nil)
theorem append_inv {d : D} {l : List D} {s : S} : (∃ n y, d = .adr n ∧ l = [y]) ∨ bmF .append d l s = none := by
  cases d with
  | adr n => match l with
    | [] => exact .inr rfl
    | [y] => exact .inl ⟨n, y, rfl, rfl⟩
    | _ :: _ :: _ => exact .inr rfl
  | _ => exact .inr rfl
theorem insert_inv {d : D} {l : List D} {s : S} : (∃ n i y, d = .adr n ∧ l = [.int i, y]) ∨ bmF .insert d l s = none := by
  cases d with
  | adr n => match l with
    | [] => exact .inr rfl
    | [y] => exact .inr (by cases y <;> rfl)
    | [x, y] => cases x with
      | int i => exact .inl ⟨n, i, y, rfl, rfl⟩
      | _ => exact .inr rfl
    | x :: _ :: _ :: _ => exact .inr (by cases x <;> rfl)
  | _ => exact .inr rfl
theorem index_inv {d : D} {l : List D} {s : S} : (∃ y, l = [y]) ∨ bmF .index d l s = none := by
  match l with
  | [] => exact .inr (by cases d <;> rfl)
  | [y] => exact .inl ⟨y, rfl⟩
  | _ :: _ :: _ => exact .inr (by cases d <;> rfl)
/-- *e in a display -/
theorem a_spl (o : XOk T cc X W) {sp : Pos} (ha : PE X e (rd T F W a)) (hb : PA X es (rdA T F W b)) : PA X (.Starred e sp :: es) (rdA T F W (.spl a b)) := by
  refine PA.wk (StX.pa_star ha hb) fun σ H Q ⟨s, G, io, t, hp⟩ => ⟨s, G, io, t, ?_⟩
  refine PostA.bnd hp fun d s1 v H1 G1 io1 sg si t1 r1 hp1 => ?_
  split at hp1
  · rename_i ds hv
    obtain ⟨p, xs, rfl, hq, hr⟩ := view_any o t1 hv r1
    refine ⟨p, xs, rfl, hq, s1, G1, io1, t1, ?_⟩
    refine PostA.bndA hp1 fun es s2 vs H2 G2 io2 sg2 si2 t2 r2 hp2 => ?_
    exact hp2 _ H2 G2 io2 (Same.refl _) (Pre.refl _) t2 ((hr.mono sg2 si2).append r2)
  · exact hp1.elim
/-- xs[::-1] -/
theorem s_rev {k : Nat} {p1 p2 p3 : Pos} (ha : PE X e (rd T F W a)) : PE X (.Subscript e (.Slice none none (some (.UnaryOp .USub (.Constant (.int 1) k p1) p2)) p3) pos) (rd T F W (.rev a)) := by
  refine PE.wk (pe_revL ha) fun σ H Q ⟨s, G, io, t, hp⟩ => ⟨s, G, io, t, ?_⟩
  refine Post.bnd hp fun d s1 v H1 G1 io1 sg si t1 r1 hp1 => ?_
  split at hp1
  · rename_i ds hv
    obtain ⟨p, ws, rfl, hq, hr⟩ := view_lst t1 hv r1
    exact ⟨p, ws, rfl, .inl hq, hp1.f t1 hr.reverse⟩
  · exact hp1.elim
/-! ### methods of lists -/
theorem s_append (o : XOk T cc X W) {apos : Pos} (hsup : isSup l = false) (hln : (apos.endLine == pos.line) = true) (hs1 : isStar e = false) (ha : PE X l (rd T F W a)) (hb : PA X [e] (rdA T F W b)) :
    PE X (.Call (.Attribute l "append" apos) [e] [] pos) (rd T F W (.bm .append a b)) := by
  have hst := star_no (es := []) (env := X.env) hs1
  refine PE.wk (pe_bm PySem.F.plainAttrs_list PySem.F.slot_list_append PySem.F.type_list_append mt_append ha hb (base_no hsup) (by rw [hst]; rfl) hln hst rfl) fun σ H Q ⟨s, G, io, t, hp⟩ => ⟨s, G, io, t, ?_⟩
  refine Post.bnd hp fun d s1 v H1 G1 io1 sg si t1 r1 hp1 => ?_
  split at hp1
  · rename_i hv
    obtain ⟨ds, hv⟩ := Option.isSome_iff_exists.mp (show (viewL s1 d).isSome = true from hv)
    obtain ⟨p, ws, rfl, hq, hr⟩ := view_lst t1 hv r1
    refine ⟨.inl ⟨rfl, ws, .inl hq⟩, s1, G1, io1, t1, ?_⟩
    refine Post.bndA hp1 fun ds2 s2 vs H2 G2 io2 sg2 si2 t2 r2 hp2 => ?_
    rcases append_inv (d := d) (l := ds2) (s := s2) with ⟨n, y, rfl, rfl⟩ | hn
    · simp only [bmF] at hp2
      obtain ⟨v2, rfl, q2⟩ := r2.one
      obtain ⟨p', e', hpo⟩ := r1.mono sg2 si2
      cases e'
      split at hp2
      · rename_i es hm
        obtain ⟨us, _, q1, q3, q4, rfl, _⟩ := t2.mem.2.2 n _ p hm hpo
        split at hp2
        · rename_i hlen
          refine ⟨p, us, v2, rfl, rfl, q1, by rw [q4.length]; exact big_lt hlen, ?_⟩
          exact hp2 .non _ G2 io2 (Same.refl _) (Pre.refl _) (t2.wmem hm hpo (o' := .bx (es ++ [y])) (q4.append (.cons q2 .nil)) rfl trivial (t2.inF hpo)) rfl
        · exact hp2.elim
      · exact hp2.elim
    · rw [hn] at hp2; exact hp2.elim
  · exact hp1.elim
theorem s_insert (o : XOk T cc X W) {e2 : Expr} {apos : Pos} (hsup : isSup l = false) (hln : (apos.endLine == pos.line) = true) (hs1 : isStar e = false) (hs2 : isStar e2 = false) (ha : PE X l (rd T F W a)) (hb : PA X [e, e2] (rdA T F W b)) :
    PE X (.Call (.Attribute l "insert" apos) [e, e2] [] pos) (rd T F W (.bm .insert a b)) := by
  have hst := star_no (es := [e2]) (env := X.env) hs1
  have hst2 := star_no (es := []) (env := X.env) hs2
  refine PE.wk (pe_bm PySem.F.plainAttrs_list PySem.F.slot_list_insert PySem.F.type_list_insert mt_insert ha hb (base_no hsup) (by rw [hst, hst2]; rfl) hln hst (by rw [hst2]; rfl)) fun σ H Q ⟨s, G, io, t, hp⟩ => ⟨s, G, io, t, ?_⟩
  refine Post.bnd hp fun d s1 v H1 G1 io1 sg si t1 r1 hp1 => ?_
  split at hp1
  · rename_i hv
    obtain ⟨ds, hv⟩ := Option.isSome_iff_exists.mp (show (viewL s1 d).isSome = true from hv)
    obtain ⟨p, ws, rfl, hq, hr⟩ := view_lst t1 hv r1
    refine ⟨.inl ⟨rfl, ws, .inl hq⟩, s1, G1, io1, t1, ?_⟩
    refine Post.bndA hp1 fun ds2 s2 vs H2 G2 io2 sg2 si2 t2 r2 hp2 => ?_
    rcases insert_inv (d := d) (l := ds2) (s := s2) with ⟨n, i, y, rfl, rfl⟩ | hn
    · simp only [bmF] at hp2
      obtain ⟨v1, r0, rfl, q0, r3⟩ := r2
      obtain ⟨v2, rfl, q2⟩ := r3.one
      cases (show v1 = .int i from q0)
      obtain ⟨p', e', hpo⟩ := r1.mono sg2 si2
      cases e'
      split at hp2
      · rename_i es hm
        obtain ⟨us, _, q1, q3, q4, rfl, _⟩ := t2.mem.2.2 n _ p hm hpo
        split at hp2
        · rename_i hlen
          refine ⟨p, us, i, v2, rfl, rfl, q1, by rw [q4.length]; exact big_lt hlen.1, hlen.2.1, by have := hlen.2.2; omega, ?_⟩
          exact hp2 .non _ G2 io2 (Same.refl _) (Pre.refl _) (t2.wmem hm hpo (o' := .bx (es.take i.toNat ++ [y] ++ es.drop i.toNat)) (((q4.take _).append (.cons q2 .nil)).append (q4.drop _)) rfl trivial (t2.inF hpo)) rfl
        · exact hp2.elim
      · exact hp2.elim
    · rw [hn] at hp2; exact hp2.elim
  · exact hp1.elim
theorem s_index (o : XOk T cc X W) {apos : Pos} (hsup : isSup l = false) (hln : (apos.endLine == pos.line) = true) (hs1 : isStar e = false) (ha : PE X l (rd T F W a)) (hb : PA X [e] (rdA T F W b)) :
    PE X (.Call (.Attribute l "index" apos) [e] [] pos) (rd T F W (.bm .index a b)) := by
  have hst := star_no (es := []) (env := X.env) hs1
  refine PE.wk (pe_bm PySem.F.plainAttrs_list PySem.F.slot_list_index PySem.F.type_list_index mt_index ha hb (base_no hsup) (by rw [hst]; rfl) hln hst rfl) fun σ H Q ⟨s, G, io, t, hp⟩ => ⟨s, G, io, t, ?_⟩
  refine Post.bnd hp fun d s1 v H1 G1 io1 sg si t1 r1 hp1 => ?_
  split at hp1
  · rename_i hv
    obtain ⟨ds, hv⟩ := Option.isSome_iff_exists.mp (show (viewL s1 d).isSome = true from hv)
    obtain ⟨p, ws, rfl, hq, hr⟩ := view_lst t1 hv r1
    refine ⟨.inl ⟨rfl, ws, .inl hq⟩, s1, G1, io1, t1, ?_⟩
    refine Post.bndA hp1 fun ds2 s2 vs H2 G2 io2 sg2 si2 t2 r2 hp2 => ?_
    rcases index_inv (d := d) (l := ds2) (s := s2) with ⟨y, rfl⟩ | hn
    · simp only [bmF] at hp2
      obtain ⟨v2, rfl, q2⟩ := r2.one
      split at hp2
      · rename_i es hv2
        obtain ⟨p', us, e', hq', hr'⟩ := view_lst t2 hv2 (r1.mono sg2 si2)
        cases e'
        split at hp2
        · rename_i hfl
          rw [Bool.and_eq_true] at hfl
          split at hp2
          · rename_i j hj
            obtain ⟨hj1, hj2, hj3⟩ := List.findIdx?_eq_some_iff_getElem.mp hj
            have hat := List.getElem?_eq_getElem hj1
            obtain ⟨z, e3, q3⟩ := hr'.get hat
            have ff := List.all_eq_true.mp hfl.2
            refine ⟨p, us, v2, j, z, rfl, rfl, .inl hq', flat_fv q2 hfl.1, (inV_eq q2 hfl.1 hr' hfl.2).1, e3, ?_, fun m z' hm hz => ?_, hp2.v t2 rfl⟩
            · rw [flat_eqV q2 q3 hfl.1 (ff _ (List.getElem_mem hj1))]
              exact hj2
            · obtain ⟨d', e4, q4⟩ := hr'.of_get hz
              have hml : m < es.length := by omega
              have e5 := List.getElem?_eq_getElem hml
              rw [e4] at e5
              cases e5
              rw [flat_eqV q2 q4 hfl.1 (ff _ (List.getElem_mem hml))]
              simpa using hj3 m hm
          · exact hp2.elim
        · exact hp2.elim
      · exact hp2.elim
    · rw [hn] at hp2; exact hp2.elim
  · exact hp1.elim
/-! ### while -/
theorem s_whl (o : XOk T cc X W) {body : List Stmt} (ha : PT X c (rdT T F W a)) (hb : PSs X body (rdS T F W b)) : PS X (.While c body [] pos) (rdS T F W (.whl a b)) := by
  refine PS.wk (ps_while o.po ha hb) fun D σ H ⟨s, G, io, t, hp⟩ => ?_
  refine ⟨fun n σ H => ∃ s1 G1 io1, Same G G1 ∧ Pre io io1 ∧ StR T.x F s1 G1 io1 σ H ∧ PostS T.x F W G1 io1 (whlL (ev T.P T.Gm a) (ev T.P T.Gm b) n s1) D, ⟨100000, s, G, io, Same.refl _, Pre.refl _, t, hp⟩, ?_⟩
  rintro n σ1 H1 ⟨s1, G1, io1, sg0, si0, t1, hp1⟩
  cases n with
  | zero => exact hp1.elim
  | succ n =>
    refine ⟨s1, G1, io1, t1, ?_⟩
    refine PostS.bnd hp1 fun d s2 v H2 G2 io2 sg si t2 r2 hp2 => ?_
    split at hp2
    · refine ⟨true, r2, iteT ?_⟩
      refine ⟨fun σ' H' => ∃ s1 G1 io1, Same G G1 ∧ Pre io io1 ∧ StR T.x F s1 G1 io1 σ' H' ∧ PostS T.x F W G1 io1 (whlL (ev T.P T.Gm a) (ev T.P T.Gm b) n s1) D, fun σ' H' hN => ⟨n, Nat.lt_succ_self _, hN⟩, s2, G2, io2, t2, ?_⟩
      have sg1 := sg0.trans sg
      have si1 := si0.trans si
      unfold PostS
      split
      · rename_i s5 he
        rw [he] at hp2
        exact fun σ' H' G' io' sg si t' => ⟨s5, G', io', sg1.trans sg, si1.trans si, t', PostS.anti (show PostS T.x F W G2 io2 (whlL _ _ n s5) D from hp2) sg si⟩
      · rename_i s5 he
        rw [he] at hp2
        exact hp2
      · rename_i s5 he
        rw [he] at hp2
        exact fun σ' H' G' io' sg si t' => ⟨s5, G', io', sg1.trans sg, si1.trans si, t', PostS.anti (show PostS T.x F W G2 io2 (whlL _ _ n s5) D from hp2) sg si⟩
      · rename_i d s5 he
        rw [he] at hp2
        exact hp2
      · rename_i d s5 he
        rw [he] at hp2
        exact hp2
      · rename_i k ns d s5 he
        rw [he] at hp2
        exact hp2
      · rename_i h1 h2 h3 h4 h5 h6
        split at hp2
        · exact h1 _ (by assumption)
        · exact h3 _ (by assumption)
        · exact h2 _ (by assumption)
        · unfold PostS at hp2
          split at hp2
          · exact h1 _ (by assumption)
          · exact h2 _ (by assumption)
          · exact h3 _ (by assumption)
          · exact h4 _ _ (by assumption)
          · exact h5 _ _ (by assumption)
          · exact h6 _ _ _ _ (by assumption)
          · exact hp2
    · refine ⟨false, r2, iteF ?_⟩
      exact hp2 σ1 H2 G2 io2 (Same.refl _) (Pre.refl _) t2
    · exact hp2.elim
end
end En

namespace En
open PySem PySem.Spec L2
section
variable {T : Tb} {cc : CC} {X : Cx} {W : WX} {F : Fr} {e l r c : Expr} {es : List Expr} {a b : E} {pos : Pos}
/-- a list of its own is read: from now on it is data -/
theorem StR.frz {G H : Hp} {io : List Addr} {σ : L2.St} {s : S} {x : SX} {i : Nat} {ds : List D} {p : Addr} (t : StR x F s G io σ H) (hm : s.r[i]? = some (some (.ol ds))) (hp : σ[i]? = some (some (.ref p))) :
    ∃ G', Same G G' ∧ StR x F (s.set i (some (.val (.lst ds)))) G' io σ H ∧ Rp x G' io (.lst ds) (.ref p) := by
  obtain ⟨v, e1, q, rfl, q1, ws, q2, q3, q4, q5⟩ := t.slot i _ hm
  rw [hp] at e1
  cases e1
  have hi : i < s.r.length := (List.getElem?_eq_some_iff.mp hm).1
  have t1 : StR x F { s with r := s.r.set i none } G io σ H := t.weak (by simp) fun j c e => by
    by_cases hj : i = j
    · subst hj
      rw [List.getElem?_set_self hi] at e; cases e
    · rw [List.getElem?_set_ne hj] at e; exact e
  have t2 := t1.fast q2 q3 q4 q1 fun j c e ho z => by
    have e : (s.r.set i none)[j]? = some (some c) := e
    by_cases hj : i = j
    · subst hj
      rw [List.getElem?_set_self hi] at e; cases e
    · rw [List.getElem?_set_ne hj] at e
      exact t.own i j _ _ _ hj hm e rfl ho hp z
  have sg : Same G (upd G p (.lst ws)) := same_upd q3
  have r : Rp x (upd G p (.lst ws)) io (.lst ds) (.ref p) := ⟨p, ws, rfl, upd_same, q5.mono sg (Pre.refl _)⟩
  have t3 := t2.setv (i := i) (d := .lst ds) (v := .ref p) r
  have e1 : σ.set i (some (.ref p)) = σ := by
    refine List.ext_getElem? fun j => ?_
    by_cases hj : i = j
    · subst hj
      have hl : i < σ.length := (List.getElem?_eq_some_iff.mp hp).1
      rw [List.getElem?_set_self hl, hp]
    · rw [List.getElem?_set_ne hj]
  have e2 : S.set { s with r := s.r.set i none } i (some (.val (.lst ds))) = s.set i (some (.val (.lst ds))) := by
    unfold S.set
    simp
  rw [e1, e2] at t3
  exact ⟨_, sg, t3, r⟩
theorem s_fz (o : XOk T cc X W) {i : Nat} {y : Str} (h : vis cc i y = true) : PE X (.Name y pos) (rd T F W (.fz i)) := by
  obtain ⟨h1, h2, h3, h4⟩ := o.vis h
  refine PE.wk (pe_var h1 h2 h3 h4) fun σ H Q hq => ?_
  obtain ⟨s, G, io, t, hp⟩ := hq
  simp only [ev] at hp
  split at hp
  · rename_i ds hd
    obtain ⟨v, e1, q, rfl, _⟩ := t.slot i _ hd
    obtain ⟨G', sg, t', r⟩ := t.frz hd e1
    exact ⟨_, e1, hp _ H G' io sg (Pre.refl _) t' r⟩
  · rename_i d hd
    obtain ⟨v, e1, q⟩ := t.slot i _ hd
    exact ⟨v, e1, hp.v t q⟩
  · exact hp.elim
/-- {} -/
theorem s_emp : PE X (.Dict [] [] pos) (rd T F W .emp) := by
  refine PE.wk pe_dnewK fun σ H Q ⟨s, G, io, t, hp⟩ => fun p hn => ?_
  exact Post.fD (ks := []) (ds := []) (vs := []) hp t rfl .nil p hn
/-- what is walked is locked meanwhile -/
def LkO : MO → MO → Prop
  | .dx ks ds, o => o = .dl ks ds
  | .bx ds, o => o = .ll ds
  | _, _ => False
section
variable {x : SX} {o o' : MO} {vs : List V} {u : HO} {od : Obj}
theorem LkO.ds (h : LkO o o') : o'.ds = o.ds := by
  cases o with
  | dx ks ds => cases h; rfl
  | bx ds => cases h; rfl
  | _ => exact h.elim
theorem LkO.nl (h : LkO o o') : o.isL = false := by
  cases o with
  | dx ks ds => rfl
  | bx ds => rfl
  | _ => exact h.elim
theorem LkO.ml (h : LkO o o') : MoL o ↔ MoL o' := by
  cases o with
  | dx ks ds => cases h; exact Iff.rfl
  | bx ds => cases h; exact Iff.rfl
  | _ => exact h.elim
theorem LkO.f (h : LkO o o') (m : MoH x o vs u) : MoH x o' vs (.frz od u) := by
  cases o with
  | dx ks ds => cases h; cases m; exact ⟨_, rfl⟩
  | bx ds => cases h; cases m; exact ⟨_, rfl⟩
  | _ => exact h.elim
theorem LkO.mu (h : LkO o o') (m : MoH x o' vs (.frz od u)) : MoH x o vs u := by
  cases o with
  | dx ks ds => cases h; obtain ⟨_, e⟩ := m; cases e; exact rfl
  | bx ds => cases h; obtain ⟨_, e⟩ := m; cases e; exact rfl
  | _ => exact h.elim
theorem LkO.mut (h : LkO o o') (m : MoH x o vs u) : Mut (some u) := by
  cases o with
  | dx ks ds => cases m; trivial
  | bx ds => cases m; trivial
  | _ => exact h.elim
theorem LkO.nz (h : LkO o o') (m : MoH x o vs u) : ¬ IsFz u := m.nfz h.nl
end
theorem StR.lkd {x : SX} {G H : Hp} {io : List Addr} {σ : L2.St} {s : S} {n : Nat} {o o' : MO} {vs : List V} {u : HO} {p : Addr} {od : Obj} (hk : LkO o o') (t : StR x F s G io σ H) (hm : s.m[n]? = some o) (hpo : io[n]? = some p) (q3 : RpL x G io o.ds vs) (q4 : MoH x o vs u) (q5 : MoL o) :
    StR x { F with z := upd F.z p (.frz od u) } { s with m := s.m.set n o' } G io σ (upd H p (.frz od u)) := by
  have t' := t.wmem hm hpo (o' := o') (h' := .frz od u) (by rw [hk.ds]; exact q3) (hk.f q4) (hk.ml.mp q5) (t.inF hpo) hk.nl
  refine ⟨t'.gh, t'.len, t'.slot, t'.own, t'.mem, t'.kh, t'.kg, t'.ki, t'.ni, fun b w e => ?_⟩
  have e : upd F.z p (.frz od u) b = some w := e
  by_cases hb : b = p
  · subst hb
    rw [upd_same] at e
    cases e
    exact ⟨upd_same, _, _, rfl⟩
  · rw [upd_ne hb] at e
    exact t'.zl b w e
/-- .. and free again -/
theorem StR.unlkd {x : SX} {G H : Hp} {io : List Addr} {σ : L2.St} {s : S} {n : Nat} {o o' : MO} {p : Addr} {od : Obj} {u : HO} (hk : LkO o o') (t : StR x { F with z := upd F.z p (.frz od u) } s G io σ H) (hF : F.z p = none) (hm : s.m[n]? = some o') (hpo : io[n]? = some p) (hi : p ∈ F.i ∨ F.h p = none) :
    H p = some (.frz od u) ∧ StR x F { s with m := s.m.set n o } G io σ (upd H p u) := by
  have hz : H p = some (.frz od u) := (t.zl p _ (show upd F.z p (.frz od u) p = _ from upd_same)).1
  obtain ⟨vs, ho, q1, q2, q3, q4, q5⟩ := t.mem.2.2 n _ p hm hpo
  rw [hz] at q1
  cases q1
  have pm : p ∈ io := List.mem_of_getElem? hpo
  refine ⟨hz, fun b w e => ?_, t.len, fun j c e => ?_, t.own, ⟨by simp [t.mem.1], t.mem.2.1, fun k mo a e1 e2 => ?_⟩, fun b o e nb => ?_, t.kg, t.ki, t.ni, fun b w e => ?_⟩
  · rw [upd_ne (fun z => by rw [z, q2] at e; cases e)]
    exact t.gh _ _ e
  · obtain ⟨v, e1, q⟩ := t.slot j c e
    refine ⟨v, e1, ?_⟩
    cases c with
    | val d => exact q
    | ol es =>
      obtain ⟨a, rfl, k1, vs, k2, k3⟩ := q
      exact ⟨a, rfl, k1, vs, by rw [upd_ne (fun z => k1 (by rw [z]; exact pm))]; exact k2, k3⟩
    | od ks es =>
      obtain ⟨a, rfl, k1, vs, k2, k3⟩ := q
      exact ⟨a, rfl, k1, vs, by rw [upd_ne (fun z => k1 (by rw [z]; exact pm))]; exact k2, k3⟩
  · by_cases hkn : n = k
    · subst hkn
      rw [hpo] at e2
      cases e2
      obtain ⟨hn, _⟩ := List.getElem?_eq_some_iff.mp hm
      rw [List.getElem?_set_self hn] at e1
      cases e1
      exact ⟨vs, _, upd_same, q2, by rw [hk.ds] at q3; exact q3, hk.mu q4, hk.ml.mpr q5⟩
    · rw [List.getElem?_set_ne hkn] at e1
      have q := t.mem.2.2 k mo a e1 e2
      have ne : a ≠ p := fun z => by
        subst z
        obtain ⟨h1, g1⟩ := List.getElem?_eq_some_iff.mp hpo
        obtain ⟨h2, g2⟩ := List.getElem?_eq_some_iff.mp e2
        exact hkn ((List.getElem_inj t.mem.2.1).mp (g1.trans g2.symm))
      obtain ⟨ws, h, q1, q2⟩ := q
      exact ⟨ws, h, by rw [upd_ne ne]; exact q1, q2⟩
  · have ne : b ≠ p := fun z => by
      subst z
      rcases hi with h | h
      · exact nb h
      · rw [h] at e; cases e
    rw [upd_ne ne]
    exact t.kh b o e nb
  · have ne : b ≠ p := fun z => by rw [z, hF] at e; cases e
    rw [upd_ne ne]
    exact t.zl b w (by show upd F.z p _ b = _; rw [upd_ne ne]; exact e)
theorem unlk_val' {n : Nat} {d : D} {s : S} {r : Res} (h : unlk n (some (.val d, s)) = r) : r = none ∨ ∃ o o', LkO o o' ∧ s.m[n]? = some o' ∧ r = some (.val d, { s with m := s.m.set n o }) := by
  unfold unlk at h
  dsimp only at h
  split at h
  · rename_i ks ds hm
    exact .inr ⟨.dx ks ds, _, rfl, hm, h.symm⟩
  · rename_i ds hm
    exact .inr ⟨.bx ds, _, rfl, hm, h.symm⟩
  · exact .inl h.symm
theorem unlk_fr' {n : Nat} {d : MO} {s : S} {r : Res} (h : unlk n (some (.fr d, s)) = r) : r = none ∨ ∃ o o', LkO o o' ∧ s.m[n]? = some o' ∧ r = some (.fr d, { s with m := s.m.set n o }) := by
  unfold unlk at h
  dsimp only at h
  split at h
  · rename_i ks ds hm
    exact .inr ⟨.dx ks ds, _, rfl, hm, h.symm⟩
  · rename_i ds hm
    exact .inr ⟨.bx ds, _, rfl, hm, h.symm⟩
  · exact .inl h.symm
theorem s_lkp {p : E} (ha : ∀ F, PE X e (rd T F W a)) : PE X e (rd T F W (.lkp p a)) := by
  have h1 := pe_lock (PE.exF ha)
  refine ⟨fun pins sh σ H Q I ⟨s, G, io, t, hp⟩ => ?_⟩
  have plain : Post T.x F W G io (ev T.P T.Gm a s) σ Q → wpAny (model X.prog X.w) X.A (eval e X.env) (EP X pins σ Q) X.xe sh := fun hp => (ha F).run pins sh σ H Q I ⟨s, G, io, t, hp⟩
  have locked : ∀ {n : Nat} {o o' : MO}, s.m[n]? = some o → LkO o o' → Post T.x F W G io (unlk n (ev T.P T.Gm a { s with m := s.m.set n o' })) σ Q → wpAny (model X.prog X.w) X.A (eval e X.env) (EP X pins σ Q) X.xe sh := by
    intro n o o' hm hk hp
    have hn2 : n < io.length := by rw [← t.mem.1]; exact (List.getElem?_eq_some_iff.mp hm).1
    have hpo : io[n]? = some io[n] := List.getElem?_eq_getElem hn2
    obtain ⟨vs, u, q1, q2, q3, q4, q5⟩ := t.mem.2.2 n _ _ hm hpo
    have hF : F.z io[n] = none := by
      cases z : F.z io[n] with
      | none => rfl
      | some w =>
        obtain ⟨e1, e2⟩ := t.zl _ _ z
        rw [q1] at e1; cases e1
        exact absurd e2 (hk.nz q4)
    refine h1.run pins sh σ H Q I ⟨io[n], _, q1, hk.mut q4, fun od => ⟨{ F with z := upd F.z io[n] (.frz od u) }, _, G, io, t.lkd hk hm hpo q3 q4 q5, ?_⟩⟩
    have back : ∀ {s2 : S} {H' G' : Hp} {io' : List Addr} {o2 o2' : MO}, LkO o2 o2' → Pre io io' → StR T.x { F with z := upd F.z io[n] (.frz od u) } s2 G' io' σ H' → s2.m[n]? = some o2' →
        H' io[n] = some (.frz od u) ∧ StR T.x F { s2 with m := s2.m.set n o2 } G' io' σ (upd H' io[n] u) := fun hk si t2 hm2 => t2.unlkd hk hF hm2 (si.get hpo) (t.inF hpo)
    unfold Post
    split
    · rename_i d s2 he
      rw [he] at hp
      intro v H' G' io' sg si t2 rv
      rcases unlk_val' (rfl : unlk n (some (.val d, s2)) = _) with z | ⟨o2, o2', k2, hm2, z⟩
      · rw [z] at hp; exact hp.elim
      · rw [z] at hp
        obtain ⟨k1, k2⟩ := back k2 si t2 hm2
        exact ⟨k1, hp v _ G' io' sg si k2 rv⟩
    · rename_i q s2 he
      rw [he] at hp
      intro p' H' G' io' sg si t2 ni ow no
      rcases unlk_fr' (rfl : unlk n (some (.fr q, s2)) = _) with z | ⟨o2, o2', k2, hm2, z⟩
      · rw [z] at hp; exact hp.elim
      · rw [z] at hp
        obtain ⟨k1, k2⟩ := back k2 si t2 hm2
        obtain ⟨ws, h, w1, w2, w3, w4, w5⟩ := ow
        have ne : p' ≠ io[n] := fun z => ni (by rw [z]; exact List.mem_of_getElem? (si.get hpo))
        exact ⟨k1, hp p' _ G' io' sg si k2 ni ⟨ws, h, by rw [upd_ne ne]; exact w1, w2, w3, w4, w5⟩ no⟩
    · rename_i k ns es s2 he
      rw [he] at hp
      exact hp.elim
    · rename_i z1 z2 z3
      unfold unlk at hp
      split at hp
      · exact z1 _ _ (by assumption)
      · exact z2 _ _ (by assumption)
      · exact hp.elim
  simp only [ev] at hp
  split at hp
  · split at hp
    · rename_i ks ds hm
      exact locked hm (o' := .dl ks ds) rfl hp
    · rename_i ds hm
      exact locked hm (o' := .ll ds) rfl hp
    · exact plain hp
  · exact plain hp
theorem bkO_lk {p : Option MO} {q : MO} (h : bkO p = some q) : ∃ o', p = some o' ∧ LkO q o' := by
  cases p with
  | none => cases h
  | some o =>
    cases o with
    | dl ks ds => cases h; exact ⟨_, rfl, rfl⟩
    | ll ds => cases h; exact ⟨_, rfl, rfl⟩
    | _ => cases h
theorem s_lks {st : Stmt} {p : E} (ha : ∀ F, PS X st (rdS T F W a)) : PS X st (rdS T F W (.lks p a)) := by
  have h1 : PS X st (tLock (rdSF T W a)) := ps_lock ⟨fun pins s σ H D I ⟨F, q⟩ => (ha F).run pins s σ H D I q⟩
  refine ⟨fun pins sh σ H D I ⟨s, G, io, t, hp⟩ => ?_⟩
  have locked : ∀ {n : Nat} {o o' : MO}, s.m[n]? = some o → LkO o o' → PostS T.x F W G io (unlkS n (ev T.P T.Gm a { s with m := s.m.set n o' })) D → tLock (rdSF T W a) D σ H := by
    intro n o o' hm hk hp
    have hn2 : n < io.length := by rw [← t.mem.1]; exact (List.getElem?_eq_some_iff.mp hm).1
    have hpo : io[n]? = some io[n] := List.getElem?_eq_getElem hn2
    obtain ⟨vs, u, q1, q2, q3, q4, q5⟩ := t.mem.2.2 n _ _ hm hpo
    have hF : F.z io[n] = none := by
      cases z : F.z io[n] with
      | none => rfl
      | some w =>
        obtain ⟨e1, e2⟩ := t.zl _ _ z
        rw [q1] at e1; cases e1
        exact absurd e2 (hk.nz q4)
    refine ⟨io[n], _, q1, hk.mut q4, fun od => ⟨{ F with z := upd F.z io[n] (.frz od u) }, _, G, io, t.lkd hk hm hpo q3 q4 q5, ?_⟩⟩
    have back : ∀ {s2 : S} {H' G' : Hp} {io' : List Addr} {σ' : L2.St} {o2 o2' : MO}, LkO o2 o2' → Pre io io' → StR T.x { F with z := upd F.z io[n] (.frz od u) } s2 G' io' σ' H' → s2.m[n]? = some o2' →
        H' io[n] = some (.frz od u) ∧ StR T.x F { s2 with m := s2.m.set n o2 } G' io' σ' (upd H' io[n] u) := fun hk si t2 hm2 => t2.unlkd hk hF hm2 (si.get hpo) (t.inF hpo)
    cases he : ev T.P T.Gm a { s with m := s.m.set n o' } with
    | none => rw [he] at hp; exact hp.elim
    | some os =>
      obtain ⟨o1, s2⟩ := os
      rw [he] at hp
      unfold unlkS at hp
      dsimp only at hp
      split at hp
      · rename_i hend
        cases hb : bkO s2.m[n]? with
        | none => rw [hb] at hp; exact hp.elim
        | some q =>
          rw [hb] at hp
          obtain ⟨o2', hm2, k2⟩ := bkO_lk hb
          replace hp : PostS T.x F W G io (some (o1, { s2 with m := s2.m.set n q })) D := hp
          cases o1 with
          | nx => exact fun σ' H' G' io' sg si t2 => have k := back k2 si t2 hm2; ⟨k.1, hp σ' _ G' io' sg si k.2⟩
          | bk => exact fun σ' H' G' io' sg si t2 => have k := back k2 si t2 hm2; ⟨k.1, hp σ' _ G' io' sg si k.2⟩
          | ct => exact fun σ' H' G' io' sg si t2 => have k := back k2 si t2 hm2; ⟨k.1, hp σ' _ G' io' sg si k.2⟩
          | rt d => exact fun v σ' H' G' io' sg si t2 rv => have k := back k2 si t2 hm2; ⟨k.1, hp v σ' _ G' io' sg si k.2 rv⟩
          | rtf o3 =>
            intro p' σ' H' G' io' sg si t2 ni ow
            have k := back k2 si t2 hm2
            obtain ⟨ws, h, w1, w2, w3, w4, w5⟩ := ow
            have ne : p' ≠ io[n] := fun z => ni (by rw [z]; exact List.mem_of_getElem? (si.get hpo))
            exact ⟨k.1, hp p' σ' _ G' io' sg si k.2 ni ⟨ws, h, by rw [upd_ne ne]; exact w1, w2, w3, w4, w5⟩⟩
          | _ => cases hend
      · exact hp.elim
  have plain : PostS T.x F W G io (ev T.P T.Gm a s) D → rdS T F W a D σ H := fun hp => ⟨s, G, io, t, hp⟩
  simp only [ev] at hp
  split at hp
  · split at hp
    · rename_i ks ds hm
      exact h1.run pins sh σ H D I (locked hm (o' := .dl ks ds) rfl hp)
    · rename_i ds hm
      exact h1.run pins sh σ H D I (locked hm (o' := .ll ds) rfl hp)
    · exact (ha F).run pins sh σ H D I (plain hp)
  · exact (ha F).run pins sh σ H D I (plain hp)
theorem s_bxe (ha : PE X e (rd T F W a)) : PE X e (rd T F W (.bxe a)) := by
  refine PE.wk ha fun σ H Q ⟨s, G, io, t, hp⟩ => ⟨s, G, io, t, ?_⟩
  simp only [ev] at hp
  cases he : ev T.P T.Gm a s with
  | none => rw [he] at hp; exact hp.elim
  | some os =>
    obtain ⟨o1, s2⟩ := os
    rw [he] at hp
    cases o1 with
    | fr o =>
      intro p H' G' io' sg si t2 ni ow no
      exact hp _ H' G' (io' ++ [p]) sg (si.trans ⟨[p], rfl⟩) (t2.push ni ow no) ⟨p, rfl, by rw [t2.mem.1]; simp⟩
    | _ => exact hp
/-! ### x in y, y's class has __contains__ -/
def rCon (T : Tb) (F : Fr) (W : WX) (neg : Bool) (tbl : List (Nat × Nat)) : R2 := fun v w H Q => ∃ σ s G io d e, StR T.x F s G io σ H ∧ Rp T.x G io d v ∧ Rp T.x G io e w ∧ Post T.x F W G io (conF T.P neg tbl d e s) σ Q
def conOp (neg : Bool) : CmpOp := if neg then .NotIn else .In
theorem con_ok (ok : XOk T cc X W) (t : TOk T) {tbl : List (Nat × Nat)} (htb : tblOk T.nt "__contains__" 1 [] tbl = true) (neg : Bool) : OpR X (compareOp (conOp neg)) (rCon T F W neg tbl) := by
  intro pins s' σ' H v w u z Q I r1 r2 h
  obtain ⟨σ, s, G, io, d, e, st, q1, q2, hp⟩ := h
  unfold conF at hp
  cases hc : clsN s e with
  | none =>
    rw [hc] at hp
    dsimp only at hp
    cases hq : cmpF (if neg then .notin else .isin) d e s with
    | none => rw [hq] at hp; exact hp.elim
    | some q =>
      rw [hq] at hp
      have k := cmp_ok (F := F) ok.K ok.hu (if neg then .notin else .isin) pins s' σ' H v w u z Q I r1 r2 ⟨σ, s, G, io, d, e, q, st, q1, q2, hq, hp.v st rfl⟩
      cases neg <;> exact k
  | some c =>
    rw [hc] at hp
    dsimp only at hp
    cases hi : tbl.lookup c with
    | none => rw [hi] at hp; exact hp.elim
    | some i =>
      rw [hi] at hp
      dsimp only at hp
      obtain ⟨ns, ds, hcf⟩ := clsN_some hc
      obtain ⟨lv, p, dx, fv, rfl, e1, e2, e3⟩ := cls_rp st q2 hcf
      obtain ⟨g, hM, cal⟩ := tblOk_at t htb lv hi
      obtain rfl : z = Value.ref p := r2
      obtain ⟨mA, O, _⟩ := ins_get I.hok e1
      obtain ⟨od, J, _⟩ := O.look
      obtain ⟨m, hF⟩ := I.fr
      have hfn : PySem.W.isFn X.K (.ref g) = true := by rw [ok.K]; exact hM.fn
      have hat : PySem.W.findIn X.K (.ref (T.x.ca c)) "__contains__" = some (some (.ref g)) := by rw [ok.K]; exact hM.at_
      have hr := ok.room
      have run := run_cal (A := X.A) (us := [.ref p, u]) (vs := [.ref p, v]) ok cal (fun k hk => hr.mono (by omega)) I.env0 I (.cons rfl (.cons r1 .nil)) rfl ⟨[e, d], s.m, G, io, st.gh, st.mem, .cons q2 (.cons q1 .nil), postB st hp⟩
      cases neg with
      | false =>
        refine PySem.W.in_K hF I.ok.mod.kin J hat hfn (wpAny_mono run (fun y s2 hy => ?_) fun _ _ x => x)
        obtain ⟨v', H', I', rv, b, rfl, q⟩ := hy
        cases (show y = Value.bool b from rv)
        exact wpAny_truthy_bool ⟨.bl b, H', I', rfl, by simpa using q⟩
      | true =>
        refine PySem.W.notIn_K hF I.ok.mod.kin J hat hfn (wpAny_mono run (fun y s2 hy => ?_) fun _ _ x => x)
        obtain ⟨v', H', I', rv, b, rfl, q⟩ := hy
        cases (show y = Value.bool b from rv)
        exact wpAny_truthy_bool ⟨.bl (!b), H', I', rfl, by simpa using q⟩
theorem s_con (o : XOk T cc X W) (t : TOk T) {neg : Bool} {tbl : List (Nat × Nat)} (htb : tblOk T.nt "__contains__" 1 [] tbl = true) (hm : isSet r = false) (ha : PE X l (rd T F W a)) (hb : PE X r (rd T F W b)) :
    PE X (.Compare l [conOp neg] [r] pos) (rd T F W (.con neg tbl a b)) ∧ PT X (.Compare l [conOp neg] [r] pos) (rdT T F W (.con neg tbl a b)) := by
  have key : ∀ σ H Q, rd T F W (.con neg tbl a b) σ H Q → tOp (rCon T F W neg tbl) (rd T F W a) (rd T F W b) σ H Q := fun σ H Q ⟨s, G, io, st, hp⟩ => ⟨s, G, io, st, by
    refine Post.bnd hp fun d s v H1 G1 io1 sg si t1 r1 hp1 => ⟨s, G1, io1, t1, ?_⟩
    refine Post.bnd hp1 fun d2 s2 v2 H2 G2 io2 sg2 si2 t2 r2 hp2 => ?_
    exact ⟨σ, s2, G2, io2, d, d2, t2, r1.mono sg2 si2, r2, hp2⟩⟩
  exact ⟨PE.wk (pe_cmpR (con_ok o t htb neg) ha hb (marks_no hm)) key, PT.wk (pt_cmpR (con_ok o t htb neg) ha hb (marks_no hm)) fun σ H Q hq => key σ H _ hq⟩
end
end En

namespace En
open PySem PySem.Spec L2
inductive Nd where
  | ex (e : Expr) | ands (es : List Expr) | ors (es : List Expr) | args (es : List Expr) | st (s : Stmt) | blk (ss : List Stmt) | itr (tg e : Expr) | part (o : Option Expr) | tg (e : Expr) | lcn (e : Expr) | kws (ks : List Keyword) | jn (es : List Expr)
def ownN (cc : CC) (own : List Nat) : List (Str × Nat) := own.map fun i => (cc.N.getD i "", i)
def isYes : E → Bool
  | .cst (.bl true) => true
  | _ => false
def cstOk : D → Const → Bool
  | .non, .none => true
  | .bl b, .bool c => b == c
  | .int i, .int m => i == m
  | .str x, .str y => decide (x = y)
  | _, _ => false
def copEq (o : Cop) (p : CmpOp) : Bool := decide (copOf o = p)
def isAp : Expr → Bool
  | .Call (.Attribute (.Name _ _) _ _) [_] [] _ => true
  | _ => false
def lcOk (cc : CC) (y : Str) (py : Pos) : Expr → Bool
  | .ListComp _ _ scope pos => decide (cc.sc.kind = .function) && decide (cc.sc.names.lookup y = some .local) && (py.line == pos.line) && !(scope.names.any fun (n, k) => n == y && (k == .local || k == .cell))
  | _ => false
def isNil : E → Bool
  | .nil => true
  | _ => false
def kwNames : List Keyword → Option (List Str)
  | [] => some []
  | ⟨some m, _, _⟩ :: ks => (kwNames ks).map (m :: ·)
  | _ => none
theorem kwNames_are : ∀ {ks : List Keyword} {ns : List Str}, kwNames ks = some ns → kwAre ns ks = true ∧ ns.length = ks.length
  | [], _, h => by cases h; exact ⟨rfl, rfl⟩
  | ⟨some m, _, _⟩ :: ks, _, h => by
    simp only [kwNames] at h
    obtain ⟨ns, h1, rfl⟩ := Option.map_eq_some_iff.mp h
    obtain ⟨a, b⟩ := kwNames_are h1
    exact ⟨by simp [kwAre, a], by simp [b]⟩
  | ⟨none, _, _⟩ :: _, _, h => by cases h
/-- code fits a piece of syntax -/
def chk (nt : NT) : E → CC → Nd → Bool
  | .var i => fun cc n => match n with
    | .ex (.Name y _) => vis cc i y
    | _ => false
  | .mv i => fun cc n => match n with
    | .ex (.Name y _) => vis cc i y
    | _ => false
  | .fz i => fun cc n => match n with
    | .ex (.Name y _) => vis cc i y
    | _ => false
  | .cst d => fun cc n => match n with
    | .ex (.Constant k _ _) => cstOk d k
    | _ => false
  | .gv g => fun cc n => match n with
    | .ex (.Name y _) => glo cc y && decide (nt.gvn g = y) && decide (y ≠ "")
    | _ => false
  | .bop o a b => fun cc n => match n with
    | .ex (.BinOp l p r _) => decide (opOf o = p) && chk nt a cc (.ex l) && chk nt b cc (.ex r)
    | _ => false
  | .neg a => fun cc n => match n with
    | .ex (.UnaryOp .USub l _) => chk nt a cc (.ex l)
    | _ => false
  | .nt a => fun cc n => match n with
    | .ex (.UnaryOp .Not l _) => chk nt a cc (.ex l)
    | _ => false
  | .band a b => fun cc n => match n with
    | .ex (.BoolOp .And (l :: r :: es) _) => chk nt a cc (.ex l) && chk nt b cc (.ands (r :: es))
    | .ands (l :: r :: es) => chk nt a cc (.ex l) && chk nt b cc (.ands (r :: es))
    | _ => false
  | .bor a b => fun cc n => match n with
    | .ex (.BoolOp .Or (l :: r :: es) _) => chk nt a cc (.ex l) && chk nt b cc (.ors (r :: es))
    | .ors (l :: r :: es) => chk nt a cc (.ex l) && chk nt b cc (.ors (r :: es))
    | _ => false
  | .one a => fun cc n => match n with
    | .ands [l] => chk nt a cc (.ex l)
    | .ors [l] => chk nt a cc (.ex l)
    | .part (some e) => !isAbs a && chk nt a cc (.ex e)
    | _ => false
  | .ite k a b => fun cc n => match n with
    | .ex (.IfExp c l r _) => chk nt k cc (.ex c) && chk nt a cc (.ex l) && chk nt b cc (.ex r)
    | _ => false
  | .cmp o a b => fun cc n => match n with
    | .ex (.Compare l [p] [r] _) => copEq o p && !isSet r && chk nt a cc (.ex l) && chk nt b cc (.ex r)
    | _ => false
  | .chn o p a b k => fun cc n => match n with
    | .ex (.Compare l [o', p'] [r, c] _) => copEq o o' && copEq p p' && !isSet c && chk nt a cc (.ex l) && chk nt b cc (.ex r) && chk nt k cc (.ex c)
    | _ => false
  | .cmo o tbl a b => fun cc n => match n with
    | .ex (.Compare l [p] [r] _) => copEq o p && !isSet r && tblOk nt "__eq__" 1 [] tbl && chk nt a cc (.ex l) && chk nt b cc (.ex r)
    | _ => false
  | .isb k a => fun cc n => match n with
    | .ex (.Compare l [.Is] [.Constant (.bool k') _ _] _) => (k == k') && chk nt a cc (.ex l)
    | _ => false
  | .bio k tbl a => fun cc n => match n with
    | .ex (.Call (.Name y _) [e] [] _) => decide (y = biN k) && glo cc y && tblOk nt (bioN k) 0 [] tbl && !isStar e && chk nt a cc (.ex e)
    | _ => false
  | .fmt a => fun cc n => match n with
    | .ex (.FormattedValue e c none _) => decide (c = -1) && chk nt a cc (.ex e)
    | .ex (.Constant (.str z) _ _) => (match a with | .cst (.str y) => decide (y = z) | _ => false)
    | _ => false
  | .fst a => fun cc n => match n with
    | .ex (.JoinedStr (v1 :: v2 :: rest) _) => isJn a && decide (jnN a ≤ 100) && chk nt a cc (.jn (v1 :: v2 :: rest))
    | _ => false
  | .fld a f cs => fun cc n => match n with
    | .ex (.Attribute e m _) => !isSup e && decide (nt.nm f = m) && decide (m ≠ "") && csOk nt f cs && chk nt a cc (.ex e)
    | _ => false
  | .fls a f cs b => fun cc n => match n with
    | .st (.Assign [.Attribute l m _] e _) => decide (nt.nm f = m) && decide (m ≠ "") && csOk nt f cs && chk nt a cc (.ex l) && chk nt b cc (.ex e)
    | _ => false
  | .met tbl b n' a m' ka => fun cc n => match n with
    | .ex (.Call (.Attribute l m apos) es kws pos) => !isSup l && decide (m ≠ "") && !decide (m ∈ nt.fl) && (apos.endLine == pos.line) && decide (es.length + kws.length < 29) && es.all (fun e => !isStar e) && decide (n' = es.length) && decide (m' = kws.length) && (!es.isEmpty || isNil a) &&
        (match kwNames kws with | some kk => tblOk nt m n' kk tbl | none => false) && chk nt b cc (.ex l) && chk nt a cc (.args es) && chk nt ka cc (.kws kws)
    | _ => false
  | .wal => fun cc n => match n with
    | .ex _ => true
    | .st _ => true
    | .blk _ => true
    | _ => false
  | .isn a => fun cc n => match n with
    | .ex (.Compare l [.Is] [.Constant .none _ _] _) => chk nt a cc (.ex l)
    | _ => false
  | .nin a => fun cc n => match n with
    | .ex (.Compare l [.IsNot] [.Constant .none _ _] _) => chk nt a cc (.ex l)
    | _ => false
  | .sl a lo hi => fun cc n => match n with
    | .ex (.Subscript l (.Slice ol oh none _) _) => chk nt a cc (.ex l) && chk nt lo cc (.part ol) && chk nt hi cc (.part oh)
    | _ => false
  | .ix a b => fun cc n => match n with
    | .ex (.Subscript l r _) => !isSl r && chk nt a cc (.ex l) && chk nt b cc (.ex r)
    | _ => false
  | .lst a => fun cc n => match n with
    | .ex (.List es _) => chk nt a cc (.args es)
    | _ => false
  | .tpl a => fun cc n => match n with
    | .ex (.Tuple es _ _) => chk nt a cc (.args es)
    | _ => false
  | .nil => fun cc n => match n with
    | .args [] => true
    | .kws [] => true
    | .jn [] => true
    | _ => false
  | .cns a b => fun cc n => match n with
    | .jn (e :: es) => isFmt a && chk nt a cc (.ex e) && chk nt b cc (.jn es)
    | .args (e :: es) => !isStar e && chk nt a cc (.ex e) && chk nt b cc (.args es)
    | .kws (⟨some _, e, _⟩ :: es) => chk nt a cc (.ex e) && chk nt b cc (.kws es)
    | _ => false
  | .spl a b => fun cc n => match n with
    | .args (.Starred e _ :: es) => chk nt a cc (.ex e) && chk nt b cc (.args es)
    | _ => false
  | .emp => fun cc n => match n with
    | .ex (.Dict [] [] _) => true
    | _ => false
  | .lks _ a => fun cc n => match n with
    | .st st => chk nt a cc (.st st)
    | _ => false
  | .bxe a => fun cc n => match n with
    | .ex e => plainT e && chk nt a cc (.ex e)
    | _ => false
  | .lkp _ a => fun cc n => match n with
    | .ex e => plainT e && chk nt a cc (.ex e)
    | _ => false
  | .con neg tbl a b => fun cc n => match n with
    | .ex (.Compare l [p] [r] _) => decide (conOp neg = p) && !isSet r && tblOk nt "__contains__" 1 [] tbl && chk nt a cc (.ex l) && chk nt b cc (.ex r)
    | _ => false
  | .rev a => fun cc n => match n with
    | .ex (.Subscript e (.Slice none none (some (.UnaryOp .USub (.Constant (.int 1) _ _) _)) _) _) => chk nt a cc (.ex e)
    | _ => false
  | .abs => fun cc n => match n with
    | .part none => true
    | _ => false
  | .bi k a => fun cc n => match n with
    | .ex (.Call (.Name y _) (e :: es) [] _) => decide (y = biN k) && glo cc y && (e :: es).all (fun e => !isStar e) && chk nt a cc (.args (e :: es))
    | _ => false
  | .isi a ts => fun cc n => match n with
    | .ex (.Call (.Name y _) [e, .Name z _] [] _) => decide (y = "isinstance") && glo cc y && !isStar e && (match ts with | [k] => decide (tyC nt k = z) && decide (z ≠ "") && glo cc z | _ => false) && chk nt a cc (.ex e)
    | .ex (.Call (.Name y _) [e, .Tuple es _ _] [] _) => decide (y = "isinstance") && glo cc y && !isStar e && !ts.isEmpty && tysAre nt ts es && (ts.all fun k => glo cc (tyC nt k)) && decide (ts.length ≤ 1000) && chk nt a cc (.ex e)
    | _ => false
  | .cal f a => fun cc n => match n with
    | .ex (.Call (.Name y _) (e :: es) [] _) => decide (nt.fnm f = y) && glo cc y && nt.isF f && (e :: es).all (fun e => !isStar e) && chk nt a cc (.args (e :: es))
    | .ex (.Call (.Name y _) [] [] _) => isNil a && decide (nt.fnm f = y) && glo cc y && nt.isF f
    | _ => false
  | .calk f n' a m' ka => fun cc n => match n with
    | .ex (.Call (.Name y _) es kws _) => decide (nt.fnm f = y) && glo cc y && (nt.isK f || nt.isM f) && es.all (fun e => !isStar e) && decide (es.length = nt.kn f) && decide (n' = nt.kn f) && decide (m' = (nt.kk f).length) && kwAre (nt.kk f) kws && (!es.isEmpty || isNil a) && chk nt a cc (.args es) && chk nt ka cc (.kws kws)
    | _ => false
  | .bm k a as => fun cc n => match n with
    | .ex (.Call (.Attribute oe m apos) [e] [] cpos) => ((decide (k = .join) && decide (m = "join")) || (decide (k = .append) && decide (m = "append")) || (decide (k = .index) && decide (m = "index"))) && !isSup oe && (apos.endLine == cpos.line) && !isStar e && chk nt a cc (.ex oe) && chk nt as cc (.args [e])
    | .ex (.Call (.Attribute oe m apos) [e, e2] [] cpos) => decide (k = .insert) && decide (m = "insert") && !isSup oe && (apos.endLine == cpos.line) && !isStar e && !isStar e2 && chk nt a cc (.ex oe) && chk nt as cc (.args [e, e2])
    | _ => false
  | .lc own tgc it cd el => fun cc n => match n with
    | .ex (.ListComp elt [⟨t, iter, ifs, na⟩] scope _) => decide (na = 0) && blkC cc.N cc.sc scope (ownN cc own) && (tgIx tgc).all (fun j => decide (j ∈ own)) && !isSet iter && chk nt it cc (.itr t iter) && chk nt tgc (cc.blk scope) (.tg t) && (match ifs with | [] => isYes cd | [c] => chk nt cd (cc.blk scope) (.ex c) | _ => false) && chk nt el (cc.blk scope) (.ex elt)
    | .lcn (.ListComp elt [⟨t, iter, ifs, na⟩] scope _) => decide (na = 0) && blkC cc.N cc.sc scope (ownN cc own) && (tgIx tgc).all (fun j => decide (j ∈ own)) && !isSet iter && chk nt it cc (.itr t iter) && chk nt tgc (cc.blk scope) (.tg t) && (match ifs with | [] => isYes cd | [c] => chk nt cd (cc.blk scope) (.ex c) | _ => false) && chk nt el (cc.blk scope) (.ex elt)
    | _ => false
  | .it a => fun cc n => match n with
    | .itr _ e => chk nt a cc (.ex e)
    | _ => false
  | .rng a => fun cc n => match n with
    | .itr _ (.Call (.Name y _) [e] [] _) => decide (y = "range") && glo cc y && !isStar e && chk nt a cc (.ex e)
    | _ => false
  | .rng2 a b => fun cc n => match n with
    | .itr _ (.Call (.Name y _) [l, r] [] _) => decide (y = "range") && glo cc y && !isStar l && !isStar r && chk nt a cc (.ex l) && chk nt b cc (.ex r)
    | _ => false
  | .enm a => fun cc n => match n with
    | .itr (.Tuple _ _ _) (.Call (.Name y _) [e] [] _) => decide (y = "enumerate") && glo cc y && !isStar e && chk nt a cc (.ex e)
    | _ => false
  | .zp a b => fun cc n => match n with
    | .itr (.Tuple _ _ _) (.Call (.Name y _) [l, r] [] _) => decide (y = "zip") && glo cc y && !isStar l && !isStar r && chk nt a cc (.ex l) && chk nt b cc (.ex r)
    | _ => false
  | .tn i => fun cc n => match n with
    | .tg (.Name y _) => tgt cc i y
    | _ => false
  | .tt is => fun cc n => match n with
    | .tg (.Tuple es _ _) => tgtAll cc is es
    | _ => false
  | .skp => fun cc n => match n with
    | .st (.Pass _) => true
    | .blk [] => true
    | _ => false
  | .seq a b => fun cc n => match n with
    | .blk (s :: ss) => chk nt a cc (.st s) && chk nt b cc (.blk ss)
    | _ => false
  | .ret a => fun cc n => match n with
    | .st (.Return (some e) _) => chk nt a cc (.ex e)
    | _ => false
  | .rtn => fun cc n => match n with
    | .st (.Return none _) => true
    | _ => false
  | .iff k a b => fun cc n => match n with
    | .st (.If c xs ys _) => chk nt k cc (.ex c) && chk nt a cc (.blk xs) && chk nt b cc (.blk ys)
    | _ => false
  | .frr tgc it b => fun cc n => match n with
    | .st (.For t iter body [] _) => !isSet iter && chk nt it cc (.itr t iter) && chk nt tgc cc (.tg t) && chk nt b cc (.blk body)
    | _ => false
  | .whl k b => fun cc n => match n with
    | .st (.While c body [] _) => chk nt k cc (.ex c) && chk nt b cc (.blk body)
    | _ => false
  | .exp a => fun cc n => match n with
    | .st (.Expr e _) => !isComp e && chk nt a cc (.ex e)
    | _ => false
  | .apo i a => fun cc n => match n with
    | .st (.Expr (.Call (.Attribute (.Name y _) m ap) [e] [] cp) _) => decide (m = "append") && vis cc i y && (ap.endLine == cp.line) && !isStar e && chk nt a cc (.ex e)
    | _ => false
  | .asg i a => fun cc n => match n with
    | .st (.Assign [.Name y py] e sp) => tgt cc i y && (((!isComp e || !decide (cc.sc.names.lookup y = some .local)) && chk nt a cc (.ex e)) || lcOk cc y py e && chk nt a cc (.lcn e))
    | _ => false
  | .aso i a => fun cc n => match n with
    | .st (.Assign [.Name y py] e sp) => tgt cc i y && (((!isComp e || !decide (cc.sc.names.lookup y = some .local)) && chk nt a cc (.ex e)) || lcOk cc y py e && chk nt a cc (.lcn e))
    | _ => false
  | .asb i a => fun cc n => match n with
    | .st (.Assign [.Name y py] e sp) => tgt cc i y && (((!isComp e || !decide (cc.sc.names.lookup y = some .local)) && chk nt a cc (.ex e)) || lcOk cc y py e && chk nt a cc (.lcn e))
    | _ => false
  | .ast tgc a => fun cc n => match n with
    | .st (.Assign [.Tuple ts k p] e _) => !isComp e && swNo cc.sc ts e && chk nt tgc cc (.tg (.Tuple ts k p)) && chk nt a cc (.ex e)
    | _ => false
  | .par i j a b => fun cc n => match n with
    | .st (.Assign [.Tuple [.Name x px, .Name y py] _ _] (.Tuple [l, r] _ _) _) => decide (cc.N[i]? = some x) && decide (cc.N[j]? = some y) && decide (cc.sc.kind = .function) && decide (cc.sc.names.lookup x = some .local) && decide (cc.sc.names.lookup y = some .local) && !decide (x = y) && (py.line == px.line) && !isStar l && !isStar r && ([l, r].all (foldedForSure 8) == false) && ([l, r].all (constantsAlone 8) == false) && chk nt a cc (.ex l) && chk nt b cc (.ex r)
    | _ => false
  | .sit a k b => fun cc n => match n with
    | .st (.Assign [.Subscript l r _] e _) => !isSl r && chk nt a cc (.ex l) && chk nt k cc (.ex r) && chk nt b cc (.ex e)
    | _ => false
  | _ => fun _ _ => false
end En

namespace En
open PySem PySem.Spec L2
theorem pt_ifExp {X : Cx} {c a b : Expr} {pos : Pos} {tA ta tb : TT} (hc : PT X c tA) (ha : PT X a ta) (hb : PT X b tb) : PT X (.IfExp c a b pos) (fun σ H Q => tA σ H fun k H1 => if k = true then ta σ H1 Q else tb σ H1 Q) := by
  refine ⟨fun pins s σ H Q I h => ?_⟩
  show wpAny _ _ (do if ← isTrue c X.env (eval c X.env) then isTrue a X.env (eval a X.env) else isTrue b X.env (eval b X.env)) _ _ s
  refine wpAny_bind (thn (hc.run pins s σ H _ I h) fun d s1 ⟨H1, I1, q1⟩ => ?_)
  cases d with
  | true => exact ha.run pins s1 σ H1 Q I1 q1
  | false => exact hb.run pins s1 σ H1 Q I1 q1
def LcD (T : Tb) (cc : CC) (X : Cx) (W : WX) (c : E) (e : Expr) : Prop :=
  ∃ elt tg iter ifs scope pos own tgc it cd el, e = .ListComp elt [⟨tg, iter, ifs, 0⟩] scope pos ∧ c = .lc ((ownN cc own).map (·.2)) tgc it cd el ∧ BlkOk X.N X.env.scope scope (ownN cc own) ∧ (∀ j ∈ tgIx tgc, j ∈ (ownN cc own).map (·.2)) ∧
    (∀ F, PI X tg iter (rdI T F W it)) ∧ isSet iter = false ∧ (∀ (X' : Cx), XOk T (cc.blk scope) X' W0 → ∀ F, PG X' tg (rdG T F tgc)) ∧ (∀ (X' : Cx), XOk T (cc.blk scope) X' W0 → PTs X' ifs (rdTF T W0 cd)) ∧
    (∀ (X' : Cx), XOk T (cc.blk scope) X' W0 → ∀ F, PE X' elt (rd T F W0 el))
def Den (T : Tb) (cc : CC) (X : Cx) (W : WX) (c : E) : Nd → Prop
  | .ex e => ∀ F, PE X e (rd T F W c) ∧ PT X e (rdT T F W c)
  | .ands es => ∀ F p, PE X (.BoolOp .And es p) (rd T F W c) ∧ PW X (.BoolOp .And es p) (rdT T F W c)
  | .ors es => ∀ F p, PE X (.BoolOp .Or es p) (rd T F W c) ∧ PW X (.BoolOp .Or es p) (rdT T F W c)
  | .args es => ∀ F, PA X es (rdA T F W c)
  | .st s => ∀ F, PS X s (rdS T F W c)
  | .blk ss => ∀ F, PSs X ss (rdS T F W c)
  | .itr tg e => ∀ F, PI X tg e (rdI T F W c)
  | .part o => ∀ F, PO X o (rdO T F W c)
  | .tg e => ∀ F, PG X e (rdG T F c)
  | .lcn e => LcD T cc X W c e
  | .kws ks => ∀ F, PK X ks (rdA T F W c)
  | .jn es => ∀ F, PJ X es (tsOf T F W c)
theorem plain_den {T : Tb} {cc : CC} {X : Cx} {W : WX} {c : E} {e : Expr} (h : ∀ F, PE X e (rd T F W c)) (hp : plainT e = true) : Den T cc X W c (.ex e) := fun F => ⟨h F, t_plain (h F) hp⟩
theorem rdT_ite {T : Tb} {W : WX} {F : Fr} {k a b : E} {σ : L2.St} {H : Hp} {Q : Bool → Hp → Prop} (hq : rdT T F W (.ite k a b) σ H Q) : rdT T F W k σ H fun q H1 => if q = true then rdT T F W a σ H1 Q else rdT T F W b σ H1 Q := by
  obtain ⟨s, G, io, t, hp⟩ := hq
  refine ⟨s, G, io, t, ?_⟩
  refine Post.bnd hp fun d s v H1 G1 io1 sg si t1 r1 hp1 => ?_
  split at hp1
  · rename_i k
    refine ⟨k, r1, ?_⟩
    cases k with
    | true => exact iteT ⟨s, G1, io1, t1, hp1⟩
    | false => exact iteF ⟨s, G1, io1, t1, hp1⟩
  · exact hp1.elim
theorem isYes_eq {c : E} (h : isYes c = true) : c = .cst (.bl true) := by
  unfold isYes at h
  split at h
  · rfl
  · cases h
theorem ownN_map (cc : CC) (own : List Nat) : (ownN cc own).map (·.2) = own := by
  unfold ownN
  rw [List.map_map]
  exact List.map_id' _
theorem LcD.pe {T : Tb} {cc : CC} {X : Cx} {W : WX} {c : E} {e : Expr} (o : XOk T cc X W) (h : LcD T cc X W c e) : ∀ F, PE X e (rd T F W c) := fun F => by
  obtain ⟨elt, tg, iter, ifs, scope, pos, own, tgc, it, cd, el, rfl, rfl, h1, h2, h3, h4, h5, h6, h7⟩ := h
  exact s_lc o h1 h2 (h3 F) h4 h5 h6 h7
theorem LcD.asn {T : Tb} {cc : CC} {X : Cx} {W : WX} {c S : E} {e : Expr} {i : Nat} {y : Str} {py spos : Pos} {F : Fr} (o : XOk T cc X W) (h : LcD T cc X W c e) (hS : ∀ D σ H, rdS T F W S D σ H → rd T F W c σ H (fun v H1 => D.nx (σ.set i (some v)) H1)) (ht : tgt cc i y = true) (hl : lcOk cc y py e = true) :
    PS X (.Assign [.Name y py] e spos) (rdS T F W S) := by
  obtain ⟨elt, tg, iter, ifs, scope, pos, own, tgc, it, cd, el, rfl, rfl, h1, h2, h3, h4, h5, h6, h7⟩ := h
  simp only [lcOk, Bool.and_eq_true, decide_eq_true_eq, Bool.not_eq_true'] at hl
  obtain ⟨⟨⟨l1, l2⟩, l3⟩, l4⟩ := hl
  exact s_asnLc o h1 h2 (h3 F) h4 h5 h6 h7 hS ht l1 l2 l3 l4
theorem asn_den {T : Tb} {cc : CC} {X : Cx} {W : WX} {a S : E} {e : Expr} {i : Nat} {y : Str} {py spos : Pos} (o : XOk T cc X W) (hS : ∀ F D σ H, rdS T F W S D σ H → rd T F W a σ H (fun v H1 => D.nx (σ.set i (some v)) H1))
    (h : (tgt cc i y && (((!isComp e || !decide (cc.sc.names.lookup y = some .local)) && chk T.nt a cc (.ex e)) || lcOk cc y py e && chk T.nt a cc (.lcn e))) = true) (ih : ∀ n, chk T.nt a cc n = true → Den T cc X W a n) :
    Den T cc X W S (.st (.Assign [.Name y py] e spos)) := fun F => by
  rw [Bool.and_eq_true, Bool.or_eq_true, Bool.and_eq_true, Bool.and_eq_true, Bool.or_eq_true] at h
  obtain ⟨ht, h | h⟩ := h
  · obtain ⟨h1, h2⟩ := h
    refine s_asn o (hS F) ht ?_ (ih _ h2 F).1
    rcases h1 with h1 | h1
    · exact .inl (by simpa using h1)
    · exact .inr (by simpa using h1)
  · exact LcD.asn o (ih _ h.2) (hS F) ht h.1
theorem lc_den {T : Tb} {cc : CC} {X : Cx} {W : WX} {own : List Nat} {tgc it cd el : E} {elt tg iter : Expr} {ifs : List Expr} {na : Int} {scope : Scope} {pos : Pos} (t : TOk T) (o : XOk T cc X W)
    (h : (decide (na = 0) && blkC cc.N cc.sc scope (ownN cc own) && (tgIx tgc).all (fun j => decide (j ∈ own)) && !isSet iter && chk T.nt it cc (.itr tg iter) && chk T.nt tgc (cc.blk scope) (.tg tg) &&
      (match ifs with | [] => isYes cd | [c] => chk T.nt cd (cc.blk scope) (.ex c) | _ => false) && chk T.nt el (cc.blk scope) (.ex elt)) = true)
    (ih1 : ∀ n, chk T.nt it cc n = true → Den T cc X W it n) (ih2 : ∀ X' n, XOk T (cc.blk scope) X' W0 → chk T.nt tgc (cc.blk scope) n = true → Den T (cc.blk scope) X' W0 tgc n)
    (ih3 : ∀ X' n, XOk T (cc.blk scope) X' W0 → chk T.nt cd (cc.blk scope) n = true → Den T (cc.blk scope) X' W0 cd n) (ih4 : ∀ X' n, XOk T (cc.blk scope) X' W0 → chk T.nt el (cc.blk scope) n = true → Den T (cc.blk scope) X' W0 el n) :
    LcD T cc X W (.lc own tgc it cd el) (.ListComp elt [⟨tg, iter, ifs, na⟩] scope pos) := by
  simp only [Bool.and_eq_true, decide_eq_true_eq, List.all_eq_true, Bool.not_eq_true'] at h
  obtain ⟨⟨⟨⟨⟨⟨⟨h1, h2⟩, h3⟩, h4⟩, h5⟩, h6⟩, h7⟩, h8⟩ := h
  subst h1
  refine ⟨elt, tg, iter, ifs, scope, pos, own, tgc, it, cd, el, rfl, by rw [ownN_map], ?_, by rw [ownN_map]; exact h3, ih1 _ h5, h4, fun X' o' => ih2 X' _ o' h6, fun X' o' => ?_, fun X' o' F => (ih4 X' _ o' h8 F).1⟩
  · rw [o.N, o.sc]
    exact blkOk_by h2
  · cases ifs with
    | nil => exact PTs.yes (isYes_eq h7)
    | cons c cs =>
      cases cs with
      | nil =>
        have d := ih3 X' _ o' h7
        exact pts_one (PT.exF fun F => (d F).2)
      | cons _ _ => cases h7
theorem snd {T : Tb} : ∀ (c : E) (cc : CC) (X : Cx) (W : WX) (n : Nd), TOk T → XOk T cc X W → chk T.nt c cc n = true → Den T cc X W c n
  | .var i, cc, X, W, n, t, o, h => by
    simp only [chk] at h
    split at h
    · exact plain_den (fun F => s_var o h) rfl
    · cases h
  | .mv i, cc, X, W, n, t, o, h => by
    simp only [chk] at h
    split at h
    · exact plain_den (fun F => s_mv o h) rfl
    · cases h
  | .fz i, cc, X, W, n, t, o, h => by
    simp only [chk] at h
    split at h
    · exact plain_den (fun F => s_fz o h) rfl
    · cases h
  | .cst d, cc, X, W, n, t, o, h => by
    simp only [chk] at h
    split at h
    · exact plain_den (fun F => s_cst h) rfl
    · cases h
  | .gv g, cc, X, W, n, t, o, h => by
    simp only [chk] at h
    split at h
    · simp only [Bool.and_eq_true, decide_eq_true_eq] at h
      exact plain_den (fun F => s_gv o t h.1.1 h.1.2 h.2) rfl
    · cases h
  | .one a, cc, X, W, n, t, o, h => by
    simp only [chk] at h
    split at h
    · have d := snd a cc X W _ t o h
      exact fun F p => ⟨s_one (d F).1, w_one_and (d F).2⟩
    · have d := snd a cc X W _ t o h
      exact fun F p => ⟨s_one (d F).1, w_one_or (d F).2⟩
    · simp only [Bool.and_eq_true, Bool.not_eq_true'] at h
      have d := snd a cc X W _ t o h.2
      intro F
      exact o_some (a := .one a) (d F).1 rfl
    · cases h
  | .bop op a b, cc, X, W, n, t, o, h => by
    simp only [chk] at h
    split at h
    · simp only [Bool.and_eq_true, decide_eq_true_eq] at h
      obtain ⟨⟨h1, h2⟩, h3⟩ := h
      subst h1
      have d1 := snd a cc X W _ t o h2
      have d2 := snd b cc X W _ t o h3
      exact plain_den (fun F => s_bop o (d1 F).1 (d2 F).1) rfl
    · cases h
  | .neg a, cc, X, W, n, t, o, h => by
    simp only [chk] at h
    split at h
    · have d := snd a cc X W _ t o h
      exact plain_den (fun F => s_neg o (d F).1) rfl
    · cases h
  | .nt a, cc, X, W, n, t, o, h => by
    simp only [chk] at h
    split at h
    · have d := snd a cc X W _ t o h
      exact fun F => ⟨s_nt (d F).1, t_nt (d F).2⟩
    · cases h
  | .band a b, cc, X, W, n, t, o, h => by
    simp only [chk] at h
    split at h
    · rw [Bool.and_eq_true] at h
      have d1 := snd a cc X W _ t o h.1
      have d2 := snd b cc X W _ t o h.2
      exact fun F => ⟨s_band (d1 F).1 (d2 F _).1, (w_band (d1 F).2 (d2 F _).2).pt⟩
    · rw [Bool.and_eq_true] at h
      have d1 := snd a cc X W _ t o h.1
      have d2 := snd b cc X W _ t o h.2
      exact fun F p => ⟨s_band (d1 F).1 (d2 F p).1, w_band (d1 F).2 (d2 F p).2⟩
    · cases h
  | .bor a b, cc, X, W, n, t, o, h => by
    simp only [chk] at h
    split at h
    · rw [Bool.and_eq_true] at h
      have d1 := snd a cc X W _ t o h.1
      have d2 := snd b cc X W _ t o h.2
      exact fun F => ⟨s_bor (d1 F).1 (d2 F _).1, (w_bor (d1 F).2 (d2 F _).2).pt⟩
    · rw [Bool.and_eq_true] at h
      have d1 := snd a cc X W _ t o h.1
      have d2 := snd b cc X W _ t o h.2
      exact fun F p => ⟨s_bor (d1 F).1 (d2 F p).1, w_bor (d1 F).2 (d2 F p).2⟩
    · cases h
  | .ite k a b, cc, X, W, n, t, o, h => by
    simp only [chk] at h
    split at h
    · simp only [Bool.and_eq_true] at h
      have d0 := snd k cc X W _ t o h.1.1
      have d1 := snd a cc X W _ t o h.1.2
      have d2 := snd b cc X W _ t o h.2
      exact fun F => ⟨s_ite (d0 F).2 (d1 F).1 (d2 F).1, PT.wk (pt_ifExp (d0 F).2 (d1 F).2 (d2 F).2) fun σ H Q hq => rdT_ite hq⟩
    · cases h
  | .cmp op a b, cc, X, W, n, t, o, h => by
    simp only [chk] at h
    split at h
    · simp only [Bool.and_eq_true, copEq, decide_eq_true_eq, Bool.not_eq_true'] at h
      obtain ⟨⟨⟨h1, h2⟩, h3⟩, h4⟩ := h
      subst h1
      have d1 := snd a cc X W _ t o h3
      have d2 := snd b cc X W _ t o h4
      exact fun F => ⟨s_cmp o h2 (d1 F).1 (d2 F).1, t_cmp o h2 (d1 F).1 (d2 F).1⟩
    · cases h
  | .chn p q a b k, cc, X, W, n, t, o, h => by
    simp only [chk] at h
    split at h
    · simp only [Bool.and_eq_true, copEq, decide_eq_true_eq, Bool.not_eq_true'] at h
      obtain ⟨⟨⟨⟨⟨h1, h2⟩, h3⟩, h4⟩, h5⟩, h6⟩ := h
      subst h1 h2
      have d1 := snd a cc X W _ t o h4
      have d2 := snd b cc X W _ t o h5
      have d3 := snd k cc X W _ t o h6
      exact fun F => s_chn o h3 (d1 F).1 (d2 F).1 (d3 F).1
    · cases h
  | .isn a, cc, X, W, n, t, o, h => by
    simp only [chk] at h
    split at h
    · have d := snd a cc X W _ t o h
      exact fun F => s_isn2 (d F).1
    · cases h
  | .nin a, cc, X, W, n, t, o, h => by
    simp only [chk] at h
    split at h
    · have d := snd a cc X W _ t o h
      exact fun F => s_nin2 (d F).1
    · cases h
  | .ix a b, cc, X, W, n, t, o, h => by
    simp only [chk] at h
    split at h
    · simp only [Bool.and_eq_true, Bool.not_eq_true'] at h
      have d1 := snd a cc X W _ t o h.1.2
      have d2 := snd b cc X W _ t o h.2
      exact plain_den (fun F => s_ix o (ix_plain h.1.1) (d1 F).1 (d2 F).1) rfl
    · cases h
  | .sl a lo hi, cc, X, W, n, t, o, h => by
    simp only [chk] at h
    split at h
    · simp only [Bool.and_eq_true] at h
      have d1 := snd a cc X W _ t o h.1.1
      have d2 := snd lo cc X W _ t o h.1.2
      have d3 := snd hi cc X W _ t o h.2
      exact plain_den (fun F => s_sl o (d1 F).1 (d2 F) (d3 F)) rfl
    · cases h
  | .fld a f cs, cc, X, W, n, t, o, h => by
    simp only [chk] at h
    split at h
    · simp only [Bool.and_eq_true, decide_eq_true_eq, Bool.not_eq_true'] at h
      obtain ⟨⟨⟨⟨h1, h2⟩, h3⟩, h4⟩, h5⟩ := h
      subst h2
      have d := snd a cc X W _ t o h5
      exact plain_den (fun F => s_fld o t h1 h3 h4 (d F).1) rfl
    · cases h
  | .fls a f cs b, cc, X, W, n, t, o, h => by
    simp only [chk] at h
    split at h
    · simp only [Bool.and_eq_true, decide_eq_true_eq, Bool.not_eq_true'] at h
      obtain ⟨⟨⟨⟨h1, h2⟩, h3⟩, h5⟩, h6⟩ := h
      subst h1
      have d1 := snd a cc X W _ t o h5
      have d2 := snd b cc X W _ t o h6
      exact fun F => s_fls o t h2 h3 (d1 F).1 (d2 F).1
    · cases h
  | .cmo op tbl a b, cc, X, W, n, t, o, h => by
    simp only [chk] at h
    split at h
    · simp only [Bool.and_eq_true, copEq, decide_eq_true_eq, Bool.not_eq_true'] at h
      obtain ⟨⟨⟨⟨h1, h2⟩, h3⟩, h4⟩, h5⟩ := h
      subst h1
      have d1 := snd a cc X W _ t o h4
      have d2 := snd b cc X W _ t o h5
      exact fun F => s_cmo o t h3 h2 (d1 F).1 (d2 F).1
    · cases h
  | .isb k a, cc, X, W, n, t, o, h => by
    simp only [chk] at h
    split at h
    · simp only [Bool.and_eq_true, beq_iff_eq] at h
      obtain ⟨h1, h2⟩ := h
      subst h1
      have d := snd a cc X W _ t o h2
      exact fun F => s_isb (d F).1
    · cases h
  | .bio k tbl a, cc, X, W, n, t, o, h => by
    simp only [chk] at h
    split at h
    · simp only [Bool.and_eq_true, decide_eq_true_eq, Bool.not_eq_true'] at h
      obtain ⟨⟨⟨⟨h1, h2⟩, h3⟩, h4⟩, h5⟩ := h
      subst h1
      have d := snd a cc X W _ t o h5
      exact plain_den (fun F => s_bio o t h3 h2 h4 (d F).1) rfl
    · cases h
  | .fmt a, cc, X, W, n, t, o, h => by
    simp only [chk] at h
    split at h
    · simp only [Bool.and_eq_true, decide_eq_true_eq] at h
      obtain ⟨h1, h2⟩ := h
      subst h1
      have d := snd a cc X W _ t o h2
      exact plain_den (fun F => s_fmt (d F).1) rfl
    · split at h
      · have e := of_decide_eq_true h
        subst e
        exact plain_den (fun F => s_fmtc (s_cst (by simp))) rfl
      · cases h
    · cases h
  | .fst a, cc, X, W, n, t, o, h => by
    simp only [chk] at h
    split at h
    · simp only [Bool.and_eq_true, decide_eq_true_eq] at h
      obtain ⟨⟨h1, h2⟩, h3⟩ := h
      have d := snd a cc X W _ t o h3
      exact plain_den (fun F => s_fst h1 h2 (d F)) rfl
    · cases h
  | .wal, cc, X, W, n, t, o, h => by
    simp only [chk] at h
    split at h
    · exact fun F => s_wal
    · exact fun F => s_wals
    · exact fun F => s_walb
    · cases h
  | .cal f a, cc, X, W, n, t, o, h => by
    simp only [chk] at h
    split at h
    · simp only [Bool.and_eq_true, decide_eq_true_eq] at h
      obtain ⟨⟨⟨⟨h1, h2⟩, h3⟩, h4⟩, h5⟩ := h
      subst h1
      have d := snd a cc X W _ t o h5
      exact plain_den (fun F => s_cal o t h2 h3 rfl h4 (d F)) rfl
    · simp only [Bool.and_eq_true, decide_eq_true_eq] at h
      obtain ⟨⟨⟨h0, h1⟩, h2⟩, h3⟩ := h
      subst h1
      have e : a = .nil := by
        cases a <;> first | rfl | cases h0
      subst e
      exact plain_den (fun F => s_cal0 o t h2 h3) rfl
    · cases h
  | .met tbl b n' a m' ka, cc, X, W, n, t, o, h => by
    simp only [chk] at h
    split at h
    · rename_i l m apos es kws pos
      simp only [Bool.and_eq_true, decide_eq_true_eq, Bool.not_eq_true', decide_eq_false_iff_not] at h
      obtain ⟨⟨⟨⟨⟨⟨⟨⟨⟨⟨⟨⟨h1, h2⟩, h3⟩, h4⟩, h5⟩, h6⟩, h7⟩, h8⟩, h9⟩, h10⟩, h11⟩, h12⟩, h13⟩ := h
      have d0 := snd b cc X W _ t o h11
      have d1 := snd a cc X W _ t o h12
      have d2 := snd ka cc X W _ t o h13
      have hz : es = [] → a = .nil := fun z => by
        subst z
        cases a <;> first | rfl | cases h9
      split at h10
      · rename_i kk hk
        obtain ⟨q1, q2⟩ := kwNames_are hk
        exact plain_den (fun F => s_met o t h1 h2 h3 h4 h5 h6 (h8.trans q2.symm) h10 q1 hz (d0 F).1 (d1 F) (d2 F)) rfl
      · cases h10
    · cases h
  | .bi k a, cc, X, W, n, t, o, h => by
    simp only [chk] at h
    split at h
    · simp only [Bool.and_eq_true, decide_eq_true_eq] at h
      obtain ⟨⟨⟨h1, h2⟩, h3⟩, h4⟩ := h
      subst h1
      have d := snd a cc X W _ t o h4
      exact plain_den (fun F => s_bi o t h2 h3 (d F)) rfl
    · cases h
  | .calk f n' a m' ka, cc, X, W, n, t, o, h => by
    simp only [chk] at h
    split at h
    · rename_i y p es kws pos
      simp only [Bool.and_eq_true, decide_eq_true_eq] at h
      obtain ⟨⟨⟨⟨⟨⟨⟨⟨⟨⟨h1, h2⟩, h3⟩, h4⟩, h5⟩, h6⟩, h7⟩, h8⟩, h9⟩, h10⟩, h11⟩ := h
      subst h1
      have d1 := snd a cc X W _ t o h10
      have d2 := snd ka cc X W _ t o h11
      have hz : es = [] → a = .nil := fun z => by
        subst z
        cases a <;> first | rfl | cases h9
      rw [Bool.or_eq_true] at h3
      rcases h3 with h3 | h3
      · exact plain_den (fun F => s_calk o t h2 h3 h4 h6 h7 h8 hz (d1 F) (d2 F)) rfl
      · exact plain_den (fun F => s_mk o t h2 h3 h4 h6 h7 h8 hz (d1 F) (d2 F)) rfl
    · cases h
  | .bm m x as, cc, X, W, n, t, o, h => by
    simp only [chk] at h
    split at h
    · simp only [Bool.and_eq_true, Bool.or_eq_true, decide_eq_true_eq, Bool.not_eq_true'] at h
      obtain ⟨⟨⟨⟨⟨h1, h3⟩, h4⟩, h5⟩, h6⟩, h7⟩ := h
      have d1 := snd x cc X W _ t o h6
      have d2 := snd as cc X W _ t o h7
      rcases h1 with (⟨h1, h2⟩ | ⟨h1, h2⟩) | ⟨h1, h2⟩
      · subst h1 h2
        exact plain_den (fun F => s_join o h3 h4 h5 (d1 F).1 (d2 F)) rfl
      · subst h1 h2
        exact plain_den (fun F => s_append o h3 h4 h5 (d1 F).1 (d2 F)) rfl
      · subst h1 h2
        exact plain_den (fun F => s_index o h3 h4 h5 (d1 F).1 (d2 F)) rfl
    · simp only [Bool.and_eq_true, decide_eq_true_eq, Bool.not_eq_true'] at h
      obtain ⟨⟨⟨⟨⟨⟨⟨h1, h2⟩, h3⟩, h4⟩, h5⟩, h5'⟩, h6⟩, h7⟩ := h
      subst h1 h2
      have d1 := snd x cc X W _ t o h6
      have d2 := snd as cc X W _ t o h7
      exact plain_den (fun F => s_insert o h3 h4 h5 h5' (d1 F).1 (d2 F)) rfl
    · cases h
  | .spl a b, cc, X, W, n, t, o, h => by
    simp only [chk] at h
    split at h
    · rw [Bool.and_eq_true] at h
      have d1 := snd a cc X W _ t o h.1
      have d2 := snd b cc X W _ t o h.2
      exact fun F => a_spl o (d1 F).1 (d2 F)
    · cases h
  | .emp, cc, X, W, n, t, o, h => by
    simp only [chk] at h
    split at h
    · exact plain_den (fun F => s_emp) rfl
    · cases h
  | .lks p a, cc, X, W, n, t, o, h => by
    simp only [chk] at h
    split at h
    · have d := snd a cc X W _ t o h
      exact fun F => s_lks d
    · cases h
  | .bxe a, cc, X, W, n, t, o, h => by
    simp only [chk] at h
    split at h
    · rw [Bool.and_eq_true] at h
      have d := snd a cc X W _ t o h.2
      exact plain_den (fun F => s_bxe (d F).1) h.1
    · cases h
  | .lkp p a, cc, X, W, n, t, o, h => by
    simp only [chk] at h
    split at h
    · rw [Bool.and_eq_true] at h
      have d := snd a cc X W _ t o h.2
      exact plain_den (fun F => s_lkp fun F => (d F).1) h.1
    · cases h
  | .con neg tbl a b, cc, X, W, n, t, o, h => by
    simp only [chk] at h
    split at h
    · simp only [Bool.and_eq_true, decide_eq_true_eq, Bool.not_eq_true'] at h
      obtain ⟨⟨⟨⟨h1, h2⟩, h3⟩, h4⟩, h5⟩ := h
      subst h1
      have d1 := snd a cc X W _ t o h4
      have d2 := snd b cc X W _ t o h5
      exact fun F => s_con o t h3 h2 (d1 F).1 (d2 F).1
    · cases h
  | .rev a, cc, X, W, n, t, o, h => by
    simp only [chk] at h
    split at h
    · have d := snd a cc X W _ t o h
      exact plain_den (fun F => s_rev (d F).1) rfl
    · cases h
  | .whl k b, cc, X, W, n, t, o, h => by
    simp only [chk] at h
    split at h
    · rw [Bool.and_eq_true] at h
      have d1 := snd k cc X W _ t o h.1
      have d2 := snd b cc X W _ t o h.2
      exact fun F => s_whl o (d1 F).2 (d2 F)
    · cases h
  | .lst a, cc, X, W, n, t, o, h => by
    simp only [chk] at h
    split at h
    · have d := snd a cc X W _ t o h
      exact plain_den (fun F => s_lst (d F)) rfl
    · cases h
  | .tpl a, cc, X, W, n, t, o, h => by
    simp only [chk] at h
    split at h
    · have d := snd a cc X W _ t o h
      exact plain_den (fun F => s_tpl (d F)) rfl
    · cases h
  | .isi a ts, cc, X, W, n, t, o, h => by
    simp only [chk] at h
    split at h
    · simp only [Bool.and_eq_true, decide_eq_true_eq, Bool.not_eq_true'] at h
      obtain ⟨⟨⟨⟨h1, h2⟩, h3⟩, h4⟩, h5⟩ := h
      subst h1
      have d := snd a cc X W _ t o h5
      split at h4
      · simp only [Bool.and_eq_true, decide_eq_true_eq] at h4
        obtain ⟨⟨z1, z2⟩, z3⟩ := h4
        subst z1
        exact plain_den (fun F => s_isi o t h3 h2 z2 z3 (d F).1) rfl
      · cases h4
    · simp only [Bool.and_eq_true, decide_eq_true_eq, Bool.not_eq_true'] at h
      obtain ⟨⟨⟨⟨⟨⟨⟨h1, h2⟩, h3⟩, h4⟩, h5⟩, h6⟩, h7⟩, h8⟩ := h
      subst h1
      have d := snd a cc X W _ t o h8
      cases ts with
      | nil => cases h4
      | cons k ts => exact plain_den (fun F => s_isis o t h3 h2 h5 h6 h7 (d F).1) rfl
    · cases h
  | .lc own tgc it cd el, cc, X, W, n, t, o, h => by
    simp only [chk] at h
    split at h
    · exact plain_den ((lc_den t o h (fun n hn => snd it cc X W n t o hn) (fun X' n o' hn => snd tgc _ X' W0 n t o' hn) (fun X' n o' hn => snd cd _ X' W0 n t o' hn) (fun X' n o' hn => snd el _ X' W0 n t o' hn)).pe o) rfl
    · exact lc_den (pos := _) t o h (fun n hn => snd it cc X W n t o hn) (fun X' n o' hn => snd tgc _ X' W0 n t o' hn) (fun X' n o' hn => snd cd _ X' W0 n t o' hn) (fun X' n o' hn => snd el _ X' W0 n t o' hn)
    · cases h
  | .nil, cc, X, W, n, t, o, h => by
    simp only [chk] at h
    split at h
    · exact fun F => a_nil
    · exact fun F => k_nil
    · exact fun F => .nil
    · cases h
  | .cns a b, cc, X, W, n, t, o, h => by
    simp only [chk] at h
    split at h
    · simp only [Bool.and_eq_true] at h
      have d1 := snd a cc X W _ t o h.1.2
      have d2 := snd b cc X W _ t o h.2
      exact fun F => .cons (d1 F).1 (d2 F)
    · simp only [Bool.and_eq_true, Bool.not_eq_true'] at h
      have d1 := snd a cc X W _ t o h.1.2
      have d2 := snd b cc X W _ t o h.2
      exact fun F => a_cns h.1.1 (d1 F).1 (d2 F)
    · simp only [Bool.and_eq_true] at h
      have d1 := snd a cc X W _ t o h.1
      have d2 := snd b cc X W _ t o h.2
      exact fun F => k_cns (d1 F).1 (d2 F)
    · cases h
  | .abs, cc, X, W, n, t, o, h => by
    simp only [chk] at h
    split at h
    · exact fun F => o_abs
    · cases h
  | .it a, cc, X, W, n, t, o, h => by
    simp only [chk] at h
    split at h
    · have d := snd a cc X W _ t o h
      exact fun F => i_it o (d F).1
    · cases h
  | .rng a, cc, X, W, n, t, o, h => by
    simp only [chk] at h
    split at h
    · simp only [Bool.and_eq_true, decide_eq_true_eq, Bool.not_eq_true'] at h
      obtain ⟨⟨⟨h1, h2⟩, h3⟩, h4⟩ := h
      subst h1
      have d := snd a cc X W _ t o h4
      exact fun F => i_rng o t h3 h2 (d F).1
    · cases h
  | .rng2 a b, cc, X, W, n, t, o, h => by
    simp only [chk] at h
    split at h
    · simp only [Bool.and_eq_true, decide_eq_true_eq, Bool.not_eq_true'] at h
      obtain ⟨⟨⟨⟨⟨h1, h2⟩, h3⟩, h4⟩, h5⟩, h6⟩ := h
      subst h1
      have d1 := snd a cc X W _ t o h5
      have d2 := snd b cc X W _ t o h6
      exact fun F => i_rng2 o t h3 h4 h2 (d1 F).1 (d2 F).1
    · cases h
  | .enm a, cc, X, W, n, t, o, h => by
    simp only [chk] at h
    split at h
    · simp only [Bool.and_eq_true, decide_eq_true_eq, Bool.not_eq_true'] at h
      obtain ⟨⟨⟨h1, h2⟩, h3⟩, h4⟩ := h
      subst h1
      have d := snd a cc X W _ t o h4
      exact fun F => i_enm o t h3 h2 (d F).1
    · cases h
  | .zp a b, cc, X, W, n, t, o, h => by
    simp only [chk] at h
    split at h
    · simp only [Bool.and_eq_true, decide_eq_true_eq, Bool.not_eq_true'] at h
      obtain ⟨⟨⟨⟨⟨h1, h2⟩, h3⟩, h4⟩, h5⟩, h6⟩ := h
      subst h1
      have d1 := snd a cc X W _ t o h5
      have d2 := snd b cc X W _ t o h6
      exact fun F => i_zp o t h3 h4 h2 (d1 F).1 (d2 F).1
    · cases h
  | .tn i, cc, X, W, n, t, o, h => by
    simp only [chk] at h
    split at h
    · exact fun F => g_name o h
    · cases h
  | .tt is, cc, X, W, n, t, o, h => by
    simp only [chk] at h
    split at h
    · exact fun F => g_tup o h
    · cases h
  | .skp, cc, X, W, n, t, o, h => by
    simp only [chk] at h
    split at h
    · exact fun F => s_skp
    · exact fun F => b_nil
    · cases h
  | .seq a b, cc, X, W, n, t, o, h => by
    simp only [chk] at h
    split at h
    · rw [Bool.and_eq_true] at h
      have d1 := snd a cc X W _ t o h.1
      have d2 := snd b cc X W _ t o h.2
      exact fun F => b_seq (d1 F) (d2 F)
    · cases h
  | .asg i a, cc, X, W, n, t, o, h => by
    simp only [chk] at h
    split at h
    · exact asn_den o (fun F D σ H hq => asg_rd hq) h fun n hn => snd a cc X W n t o hn
    · cases h
  | .ast tgc a, cc, X, W, n, t, o, h => by
    simp only [chk] at h
    split at h
    · simp only [Bool.and_eq_true, Bool.not_eq_true'] at h
      obtain ⟨⟨⟨h1, h2⟩, h3⟩, h4⟩ := h
      have d1 := snd tgc cc X W _ t o h3
      have d2 := snd a cc X W _ t o h4
      exact fun F => s_ast o h1 h2 (d1 F) (d2 F).1
    · cases h
  | .aso i a, cc, X, W, n, t, o, h => by
    simp only [chk] at h
    split at h
    · exact asn_den o (fun F D σ H hq => aso_rd hq) h fun n hn => snd a cc X W n t o hn
    · cases h
  | .asb i a, cc, X, W, n, t, o, h => by
    simp only [chk] at h
    split at h
    · exact asn_den o (fun F D σ H hq => asb_rd hq) h fun n hn => snd a cc X W n t o hn
    · cases h
  | .par i j a b, cc, X, W, n, t, o, h => by
    simp only [chk] at h
    split at h
    · simp only [Bool.and_eq_true, decide_eq_true_eq, Bool.not_eq_true', decide_eq_false_iff_not, beq_iff_eq] at h
      obtain ⟨⟨⟨⟨⟨⟨⟨⟨⟨⟨⟨⟨h1, h2⟩, h3⟩, h4⟩, h5⟩, h6⟩, h7⟩, h8⟩, h9⟩, h10⟩, h11⟩, h12⟩, h13⟩ := h
      have d1 := snd a cc X W _ t o h12
      have d2 := snd b cc X W _ t o h13
      exact fun F => s_par o h1 h2 h3 h4 h5 h6 (by simpa using h7) h8 h9 h10 h11 (d1 F).1 (d2 F).1
    · cases h
  | .sit a k b, cc, X, W, n, t, o, h => by
    simp only [chk] at h
    split at h
    · simp only [Bool.and_eq_true, Bool.not_eq_true'] at h
      obtain ⟨⟨⟨h1, h3⟩, h4⟩, h5⟩ := h
      have d1 := snd a cc X W _ t o h3
      have d2 := snd k cc X W _ t o h4
      have d3 := snd b cc X W _ t o h5
      exact fun F => s_sit o h1 (d1 F).1 (d2 F).1 (d3 F).1
    · cases h
  | .ret a, cc, X, W, n, t, o, h => by
    simp only [chk] at h
    split at h
    · have d := snd a cc X W _ t o h
      exact fun F => s_ret (d F).1
    · cases h
  | .rtn, cc, X, W, n, t, o, h => by
    simp only [chk] at h
    split at h
    · exact fun F => s_rtn
    · cases h
  | .iff k a b, cc, X, W, n, t, o, h => by
    simp only [chk] at h
    split at h
    · simp only [Bool.and_eq_true] at h
      have d0 := snd k cc X W _ t o h.1.1
      have d1 := snd a cc X W _ t o h.1.2
      have d2 := snd b cc X W _ t o h.2
      exact fun F => s_iff (d0 F).2 (d1 F) (d2 F)
    · cases h
  | .frr tgc it b, cc, X, W, n, t, o, h => by
    simp only [chk] at h
    split at h
    · simp only [Bool.and_eq_true, Bool.not_eq_true'] at h
      obtain ⟨⟨⟨h1, h2⟩, h3⟩, h4⟩ := h
      have d0 := snd it cc X W _ t o h2
      have d1 := snd tgc cc X W _ t o h3
      have d2 := snd b cc X W _ t o h4
      exact fun F => s_for o h1 (d0 F) d1 d2
    · cases h
  | .exp a, cc, X, W, n, t, o, h => by
    simp only [chk] at h
    split at h
    · simp only [Bool.and_eq_true, Bool.not_eq_true'] at h
      have d := snd a cc X W _ t o h.2
      exact fun F => s_exp h.1 (d F).1
    · cases h
  | .apo i a, cc, X, W, n, t, o, h => by
    simp only [chk] at h
    split at h
    · simp only [Bool.and_eq_true, decide_eq_true_eq, Bool.not_eq_true'] at h
      obtain ⟨⟨⟨⟨h1, h2⟩, h3⟩, h4⟩, h5⟩ := h
      subst h1
      have d := snd a cc X W _ t o h5
      exact fun F => s_apo o h2 h3 h4 (d F).1
    · cases h
  | .ino i k a, cc, X, W, n, t, o, h => by simp only [chk] at h; cases h
end En

namespace En
open PySem PySem.Spec L2
/-! ### stowing: what a call has added to the store becomes data -/
def mapO {α β : Type} (f : α → Option β) : List α → Option (List β)
  | [] => some []
  | a :: as => match f a with
    | none => none
    | some b => match mapO f as with
      | none => none
      | some bs => some (b :: bs)
mutual
/-- data with its places looked up -/
def mapD (f : Nat → Option D) : D → Option D
  | .lst ds => (mapDs f ds).map D.lst
  | .tup ds => (mapDs f ds).map D.tup
  | .fzl ds => (mapDs f ds).map D.fzl
  | .dct ks ds => (mapDs f ds).map (D.dct ks)
  | .obj c ns ds => (mapDs f ds).map (D.obj c ns)
  | .adr j => f j
  | .non => some .non
  | .bl b => some (.bl b)
  | .int i => some (.int i)
  | .str z => some (.str z)
def mapDs (f : Nat → Option D) : List D → Option (List D)
  | [] => some []
  | d :: ds => match mapD f d with
    | none => none
    | some e => match mapDs f ds with
      | none => none
      | some es => some (e :: es)
end
/-- a place's content: the kind, what is in it; lk: dicts may be locked -/
def MO.re (lk : Bool) : MO → Option ((List D → D) × List D)
  | .bx ds => some (D.lst, ds)
  | .ob c ns ds => some (D.obj c ns, ds)
  | .dx ks ds => if lk then some (D.dct ks, ds) else none
  | .dl ks ds => some (D.dct ks, ds)
  | .ll _ => none
/-- a place as data -/
def frz (lk : Bool) (m : List MO) (k : Nat) : Nat → Nat → Option D
  | 0, j => if j < k then some (.adr j) else none
  | n + 1, j => if j < k then some (.adr j) else match m[j]? with
    | some o => match o.re lk with
      | some (mk, ds) => (mapDs (frz lk m k n) ds).map mk
      | none => none
    | none => none
def frzM (lk : Bool) (m : List MO) (k : Nat) : MO → Option MO
  | .bx ds => (mapDs (frz lk m k 16) ds).map MO.bx
  | .ob c ns ds => (mapDs (frz lk m k 16) ds).map (MO.ob c ns)
  | .dx ks ds => (mapDs (frz lk m k 16) ds).map (MO.dx ks)
  | .dl ks ds => (mapDs (frz lk m k 16) ds).map (MO.dl ks)
  | .ll ds => (mapDs (frz lk m k 16) ds).map MO.ll
/-- what comes out of a call, in terms of the store as it was -/
def frzO (lk : Bool) (m : List MO) (k : Nat) : Out → Option Out
  | .val d => (mapD (frz lk m k 16) d).map Out.val
  | .fr o => (frzM lk m k o).map Out.fr
  | .exc c ns ds => (mapDs (frz lk m k 16) ds).map (Out.exc c ns)
  | _ => none
open Classical in
/-- the objects that stood before: as they were, or with what was added made data -/
noncomputable def keepM (lk : Bool) (m m0 : List MO) : Option (List MO) := if m.take m0.length = m0 then some m0 else mapO (frzM lk m m0.length) (m.take m0.length)
noncomputable def stow (lk : Bool) (m0 : List MO) : Option (Out × List MO) → Option (Out × List MO)
  | some (o, m) => if m.length = m0.length then some (o, m) else match keepM lk m m0, frzO lk m m0.length o with
    | some m', some o' => some (o', m')
    | _, _ => none
  | none => none
section
variable {x : SX} {G H : Hp} {io : List Addr} {m : List MO} {k : Nat} {lk : Bool}
open Classical in
/-- the data's heap, with what is stowed -/
noncomputable def stowG (G H : Hp) (io : List Addr) (k : Nat) : Hp := fun b => if b ∈ io.drop k then H b else G b
theorem stowG_in {b : Addr} (h : b ∈ io.drop k) : stowG G H io k b = H b := if_pos h
theorem stowG_out {b : Addr} (h : b ∉ io.drop k) : stowG G H io k b = G b := if_neg h
theorem MemA.free (hm : MemA x G io H m) {b : Addr} (h : b ∈ io) : G b = none := by
  obtain ⟨n, hn, e⟩ := List.getElem_of_mem h
  have hl : n < m.length := by rw [hm.1]; exact hn
  obtain ⟨vs, h, _, q, _⟩ := hm.2.2 n _ b (List.getElem?_eq_getElem hl) (by rw [List.getElem?_eq_getElem hn, e])
  exact q
theorem stow_same (hm : MemA x G io H m) : Same G (stowG G H io k) := fun b o e => by
  by_cases h : b ∈ io.drop k
  · rw [hm.free (List.mem_of_mem_drop h)] at e; cases e
  · rw [stowG_out h]; exact e
theorem stow_sub (gh : Same G H) : Same (stowG G H io k) H := fun b o e => by
  by_cases h : b ∈ io.drop k
  · rw [stowG_in h] at e; exact e
  · rw [stowG_out h] at e; exact gh _ _ e
section
variable {G' : Hp} {io' : List Addr} {f : Nat → Option D}
mutual
theorem mapD_rp (sg : Same G G') (hf : ∀ j d' v, f j = some d' → Rp x G io (.adr j) v → Rp x G' io' d' v) : ∀ {d d' : D} {v : V}, mapD f d = some d' → Rp x G io d v → Rp x G' io' d' v
  | .non, _, _, h, r => by cases h; exact r
  | .bl _, _, _, h, r => by cases h; exact r
  | .int _, _, _, h, r => by cases h; exact r
  | .str _, _, _, h, r => by cases h; exact r
  | .lst ds, _, _, h, r => by
    obtain ⟨es, e, rfl⟩ := Option.map_eq_some_iff.mp h
    obtain ⟨a, vs, rfl, q, t⟩ := r
    exact ⟨a, vs, rfl, sg _ _ q, mapDs_rp sg hf e t⟩
  | .tup ds, _, _, h, r => by
    obtain ⟨es, e, rfl⟩ := Option.map_eq_some_iff.mp h
    obtain ⟨a, vs, rfl, q, t⟩ := r
    exact ⟨a, vs, rfl, Same.tup sg q, mapDs_rp sg hf e t⟩
  | .fzl ds, _, _, h, r => by
    obtain ⟨es, e, rfl⟩ := Option.map_eq_some_iff.mp h
    obtain ⟨a, vs, rfl, q, t⟩ := r
    exact ⟨a, vs, rfl, sg.seq q, mapDs_rp sg hf e t⟩
  | .dct ks ds, _, _, h, r => by
    obtain ⟨es, e, rfl⟩ := Option.map_eq_some_iff.mp h
    obtain ⟨a, vs, o, rfl, q, l, t⟩ := r
    exact ⟨a, vs, o, rfl, sg _ _ q, l, mapDs_rp sg hf e t⟩
  | .obj c ns ds, _, _, h, r => by
    obtain ⟨es, e, rfl⟩ := Option.map_eq_some_iff.mp h
    obtain ⟨hl, a, dx, vs, rfl, q, l, t⟩ := r
    exact ⟨hl, a, dx, vs, rfl, sg _ _ q, l, mapDs_rp sg hf e t⟩
  | .adr j, _, _, h, r => hf _ _ _ h r
theorem mapDs_rp (sg : Same G G') (hf : ∀ j d' v, f j = some d' → Rp x G io (.adr j) v → Rp x G' io' d' v) : ∀ {ds ds' : List D} {vs : List V}, mapDs f ds = some ds' → RpL x G io ds vs → RpL x G' io' ds' vs
  | [], _, _, h, r => by cases h; exact r
  | d :: ds, _, _, h, r => by
    obtain ⟨v, w, rfl, q, t⟩ := r
    simp only [mapDs] at h
    split at h
    · cases h
    · rename_i d' e1
      split at h
      · cases h
      · rename_i ds' e2
        cases h
        exact ⟨v, w, rfl, mapD_rp sg hf e1 q, mapDs_rp sg hf e2 t⟩
end
end
section
variable {G' : Hp} {io' : List Addr}
mutual
/-- data that stood before -/
theorem old_rp {G2 : Hp} (sg : Same G' G2) (pr : Pre io io') : ∀ {d : D} {v v' : V}, Rp x G io d v → Rp x G' io' d v' → Rp x G2 io d v'
  | .non, _, _, _, r => r
  | .bl _, _, _, _, r => r
  | .int _, _, _, _, r => r
  | .str _, _, _, _, r => r
  | .lst ds, _, _, h, r => by
    obtain ⟨_, _, _, _, t0⟩ := h
    obtain ⟨a, vs, rfl, q, t⟩ := r
    exact ⟨a, vs, rfl, sg _ _ q, old_rps sg pr t0 t⟩
  | .tup ds, _, _, h, r => by
    obtain ⟨_, _, _, _, t0⟩ := h
    obtain ⟨a, vs, rfl, q, t⟩ := r
    exact ⟨a, vs, rfl, Same.tup sg q, old_rps sg pr t0 t⟩
  | .fzl ds, _, _, h, r => by
    obtain ⟨_, _, _, _, t0⟩ := h
    obtain ⟨a, vs, rfl, q, t⟩ := r
    exact ⟨a, vs, rfl, sg.seq q, old_rps sg pr t0 t⟩
  | .dct ks ds, _, _, h, r => by
    obtain ⟨_, _, _, _, _, _, t0⟩ := h
    obtain ⟨a, vs, o, rfl, q, l, t⟩ := r
    exact ⟨a, vs, o, rfl, sg _ _ q, l, old_rps sg pr t0 t⟩
  | .obj c ns ds, _, _, h, r => by
    obtain ⟨_, _, _, _, _, _, _, t0⟩ := h
    obtain ⟨hl, a, dx, vs, rfl, q, l, t⟩ := r
    exact ⟨hl, a, dx, vs, rfl, sg _ _ q, l, old_rps sg pr t0 t⟩
  | .adr j, _, _, h, r => by
    obtain ⟨a, rfl, q⟩ := h
    obtain ⟨a', rfl, q'⟩ := r
    rw [pr.get q] at q'
    cases q'
    exact ⟨a, rfl, q⟩
theorem old_rps {G2 : Hp} (sg : Same G' G2) (pr : Pre io io') : ∀ {ds : List D} {vs vs' : List V}, RpL x G io ds vs → RpL x G' io' ds vs' → RpL x G2 io ds vs'
  | [], _, _, _, r => r
  | d :: ds, _, _, h, r => by
    obtain ⟨_, _, _, q0, t0⟩ := h
    obtain ⟨v, w, rfl, q, t⟩ := r
    exact ⟨v, w, rfl, old_rp sg pr q0 q, old_rps sg pr t0 t⟩
end
end
theorem mapO_len {α β : Type} {f : α → Option β} : ∀ {as : List α} {bs : List β}, mapO f as = some bs → bs.length = as.length
  | [], _, h => by cases h; rfl
  | a :: as, _, h => by
    simp only [mapO] at h
    split at h
    · cases h
    · split at h
      · cases h
      · rename_i bs e2
        cases h
        rw [List.length_cons, List.length_cons, mapO_len e2]
theorem mapDs_len {f : Nat → Option D} : ∀ {as bs : List D}, mapDs f as = some bs → bs.length = as.length
  | [], _, h => by cases h; rfl
  | a :: as, _, h => by
    simp only [mapDs] at h
    split at h
    · cases h
    · split at h
      · cases h
      · rename_i bs e2
        cases h
        rw [List.length_cons, List.length_cons, mapDs_len e2]
theorem mapO_get {α β : Type} {f : α → Option β} : ∀ {as : List α} {bs : List β} {n : Nat} {b : β}, mapO f as = some bs → bs[n]? = some b → ∃ a, as[n]? = some a ∧ f a = some b
  | [], _, n, b, h, e => by cases h; cases e
  | a :: as, _, n, b, h, e => by
    simp only [mapO] at h
    split at h
    · cases h
    · rename_i b' e1
      split at h
      · cases h
      · rename_i bs e2
        cases h
        cases n with
        | zero => cases e; exact ⟨a, rfl, e1⟩
        | succ n =>
          have q := mapO_get (as := as) (n := n) e2 e
          exact q
/-- no dict that is not locked stands behind k -/
def Locked (m : List MO) (k : Nat) : Prop := ∀ j ks ds, k ≤ j → m[j]? ≠ some (.dx ks ds)
theorem frz_rp (gh : Same G H) (hm : MemA x G io H m) (hlk : lk = true → Locked m k) : ∀ (n j : Nat) (d' : D) (v : V), frz lk m k n j = some d' → Rp x G io (.adr j) v → Rp x (stowG G H io k) (io.take k) d' v := by
  intro n
  have sg := stow_same (k := k) hm
  have low : ∀ (j : Nat) (d' : D) (v : V), j < k → some (D.adr j) = some d' → Rp x G io (.adr j) v → Rp x (stowG G H io k) (io.take k) d' v := fun j d' v hj h r => by
    cases h
    obtain ⟨a, rfl, q⟩ := r
    exact ⟨a, rfl, by rw [List.getElem?_take_of_lt hj]; exact q⟩
  induction n with
  | zero =>
    intro j d' v h r
    unfold frz at h
    split at h
    · rename_i hj
      exact low j d' v hj h r
    · cases h
  | succ n ih =>
    intro j d' v h r
    unfold frz at h
    split at h
    · rename_i hj
      exact low j d' v hj h r
    · rename_i hj
      obtain ⟨a, rfl, q⟩ := r
      split at h
      · rename_i mo hmo
        obtain ⟨vs, ho, q1, q2, q3, q4, q5⟩ := hm.2.2 j mo a hmo q
        have din : a ∈ io.drop k := by
          have : (io.drop k)[j - k]? = some a := by
            rw [List.getElem?_drop]
            have e : k + (j - k) = j := by omega
            rw [e]; exact q
          exact List.mem_of_getElem? this
        have ga : stowG G H io k a = some ho := by rw [stowG_in din]; exact q1
        cases mo with
        | bx ds =>
          obtain ⟨es, e, rfl⟩ := Option.map_eq_some_iff.mp h
          cases q4
          exact ⟨a, vs, rfl, ga, mapDs_rp sg ih e q3⟩
        | ob c ns ds =>
          obtain ⟨es, e, rfl⟩ := Option.map_eq_some_iff.mp h
          obtain ⟨hl, dx, rfl⟩ := q4
          exact ⟨hl, a, dx, vs, rfl, ga, by rw [q3.length]; exact q5, mapDs_rp sg ih e q3⟩
        | dx ks ds =>
          cases lk with
          | true => exact absurd hmo (hlk rfl j ks ds (by omega))
          | false => cases h
        | dl ks ds =>
          obtain ⟨es, e, rfl⟩ := Option.map_eq_some_iff.mp h
          obtain ⟨o, rfl⟩ := q4
          exact ⟨a, vs, o, rfl, ga, by rw [q3.length]; exact q5, mapDs_rp sg ih e q3⟩
        | ll ds => cases h
      · cases h
theorem frzM_rp (gh : Same G H) (hm : MemA x G io H m) (hlk : lk = true → Locked m k) {o o' : MO} {vs : List V} {h : HO} (e : frzM lk m k o = some o') (r : RpL x G io o.ds vs) (hM : MoH x o vs h) (hL : MoL o) :
    RpL x (stowG G H io k) (io.take k) o'.ds vs ∧ MoH x o' vs h ∧ MoL o' := by
  have sg := stow_same (k := k) hm
  have fr : ∀ {ds ds' : List D}, mapDs (frz lk m k 16) ds = some ds' → RpL x G io ds vs → RpL x (stowG G H io k) (io.take k) ds' vs := fun e r => mapDs_rp sg (frz_rp gh hm hlk 16) e r
  cases o with
  | bx ds =>
    obtain ⟨es, e', rfl⟩ := Option.map_eq_some_iff.mp e
    exact ⟨fr e' r, hM, trivial⟩
  | ob c ns ds =>
    obtain ⟨es, e', rfl⟩ := Option.map_eq_some_iff.mp e
    exact ⟨fr e' r, hM, (mapDs_len e').trans hL⟩
  | dx ks ds =>
    obtain ⟨es, e', rfl⟩ := Option.map_eq_some_iff.mp e
    exact ⟨fr e' r, hM, (mapDs_len e').trans hL⟩
  | dl ks ds =>
    obtain ⟨es, e', rfl⟩ := Option.map_eq_some_iff.mp e
    exact ⟨fr e' r, hM, (mapDs_len e').trans hL⟩
  | ll ds =>
    obtain ⟨es, e', rfl⟩ := Option.map_eq_some_iff.mp e
    exact ⟨fr e' r, hM, trivial⟩
theorem stow_mem (gh : Same G H) (hm : MemA x G io H m) (hlk : lk = true → Locked m k) {m' : List MO} (h : mapO (frzM lk m k) (m.take k) = some m') : MemA x (stowG G H io k) (io.take k) H m' := by
  refine ⟨by rw [mapO_len h, List.length_take, List.length_take, hm.1], hm.2.1.sublist (List.take_sublist _ _), fun n o a e1 e2 => ?_⟩
  obtain ⟨o0, e3, e4⟩ := mapO_get h e1
  have hn : n < k := by
    by_cases hn : n < k
    · exact hn
    · rw [List.getElem?_eq_none (by rw [List.length_take]; omega)] at e2; cases e2
  rw [List.getElem?_take_of_lt hn] at e2 e3
  obtain ⟨vs, ho, q1, q2, q3, q4, q5⟩ := hm.2.2 n o0 a e3 e2
  have nd : a ∉ io.drop k := fun hd => by
    have hnd := hm.2.1
    rw [← List.take_append_drop k io, List.nodup_append] at hnd
    exact hnd.2.2 a (List.mem_of_getElem? (by rw [List.getElem?_take_of_lt hn]; exact e2)) a hd rfl
  obtain ⟨k1, k2, k3⟩ := frzM_rp gh hm hlk e4 q3 q4 q5
  exact ⟨vs, ho, q1, by rw [stowG_out nd]; exact q2, k1, k2, k3⟩
end
/-- behind a call: the store as long as before -/
theorem FF.stow {x : SX} {H G H' G' : Hp} {io io' : List Addr} {m0 m m' : List MO} {lk : Bool} (hm0 : MemA x G io H m0) (f : FF x H G io m H' G' io') (hlk : lk = true → Locked m io.length) (h : keepM lk m m0 = some m') : FF x H G io m' H' (stowG G' H' io' io.length) io := by
  obtain ⟨f1, f2, f3, f4, f5, f6, f7⟩ := f
  have tk : io'.take io.length = io := by
    obtain ⟨z, rfl⟩ := f5
    exact List.take_left' rfl
  have nin : ∀ {b : Addr}, H b ≠ none → b ∉ io'.drop io.length := fun {b} hb hd => by
    obtain ⟨n, hn, e⟩ := List.getElem_of_mem hd
    have e2 : (io'.drop io.length)[n]? = some b := by rw [List.getElem?_eq_getElem hn, e]
    rw [List.getElem?_drop] at e2
    exact hb (f6 _ _ (Nat.le_add_right _ _) e2)
  refine ⟨stow_sub f1, ?_, f3, fun b hb => ?_, Pre.refl _, fun n a hn e => ?_, f7⟩
  · unfold keepM at h
    rw [hm0.1] at h
    split at h
    · rename_i hsame
      cases h
      refine ⟨hm0.1, hm0.2.1, fun n o a e1 e2 => ?_⟩
      have hn : n < io.length := (List.getElem?_eq_some_iff.mp e2).1
      have e3 : m[n]? = some o := by rw [← List.getElem?_take_of_lt hn, hsame]; exact e1
      obtain ⟨vs, ho, q1, q2, q3, q4, q5⟩ := f2.2.2 n o a e3 (f5.get e2)
      obtain ⟨vs0, h0, p1, p2, p3, p4, p5⟩ := hm0.2.2 n o a e1 e2
      exact ⟨vs, ho, q1, by rw [stowG_out (nin (by rw [p1]; simp))]; exact q2, old_rps (stow_same f2) f5 p3 q3, q4, q5⟩
    · have q := stow_mem (k := io.length) f1 f2 hlk h
      rw [tk] at q
      exact q
  · rw [stowG_out (nin hb)]
    exact f4 b hb
  · rw [List.getElem?_eq_none hn] at e; cases e
theorem Pre.tk {io io' : List Addr} (h : Pre io io') : io'.take io.length = io := by
  obtain ⟨z, rfl⟩ := h
  exact List.take_left' rfl
theorem FF.pre {x : SX} {H G H' G' : Hp} {io io' : List Addr} {m' : List MO} (f : FF x H G io m' H' G' io') : Pre io io' := f.2.2.2.2.1
section
variable {x : SX} {H G H' G' : Hp} {io io' : List Addr} {m' : List MO} {Q : VK} {E : XK} {lk : Bool}
theorem stow_val {d : D} {v : V} {m0 : List MO} (hm0 : MemA x G io H m0) (hlk : lk = true → Locked m' io.length) (hp : PostF x H G io (stow lk m0 (some (.val d, m'))) Q E) (ff : FF x H G io m' H' G' io') (r : Rp x G' io' d v) : Q v H' := by
  unfold stow at hp
  dsimp only at hp
  rw [hm0.1] at hp
  split at hp
  · exact hp v H' G' io' ff r
  · split at hp
    · rename_i m2 o2 hm ho
      obtain ⟨d', hd, rfl⟩ := Option.map_eq_some_iff.mp ho
      have q := mapD_rp (stow_same (k := io.length) ff.2.1) (frz_rp (k := io.length) ff.1 ff.2.1 hlk 16) hd r
      rw [ff.pre.tk] at q
      exact hp v H' _ io (ff.stow hm0 hlk hm) q
    · exact hp.elim
theorem stow_fr {o : MO} {a : Addr} {m0 : List MO} (hm0 : MemA x G io H m0) (hlk : lk = true → Locked m' io.length) (hp : PostF x H G io (stow lk m0 (some (.fr o, m'))) Q E) (ff : FF x H G io m' H' G' io') (ni : a ∉ io') (hn : H a = none) (r : ∃ vs h, H' a = some h ∧ G' a = none ∧ RpL x G' io' o.ds vs ∧ MoH x o vs h ∧ MoL o) : Q (.ref a) H' := by
  unfold stow at hp
  dsimp only at hp
  rw [hm0.1] at hp
  split at hp
  · exact hp a H' G' io' ff ni hn r
  · split at hp
    · rename_i m2 o2 hm ho
      obtain ⟨o', hd, rfl⟩ := Option.map_eq_some_iff.mp ho
      obtain ⟨vs, h, e1, e2, e3, e4, e5⟩ := r
      obtain ⟨k1, k2, k3⟩ := frzM_rp (k := io.length) ff.1 ff.2.1 hlk hd e3 e4 e5
      rw [ff.pre.tk] at k1
      refine hp a H' _ io (ff.stow hm0 hlk hm) (fun z => ni ?_) hn ⟨vs, h, e1, by rw [stowG_out fun z => ni (List.mem_of_mem_drop z)]; exact e2, k1, k2, k3⟩
      obtain ⟨z2, e⟩ := ff.pre
      rw [e]
      exact List.mem_append_left _ z
    · exact hp.elim
theorem stow_exc {c : Nat} {ns : List Nat} {ds : List D} {cls : Value} {dd : Option Addr} {m0 : List MO} (hm0 : MemA x G io H m0) (hlk : lk = true → Locked m' io.length) (hp : PostF x H G io (stow lk m0 (some (.exc c ns ds, m'))) Q E) (ff : FF x H G io m' H' G' io') (r : ExcR x G' io' c ns ds cls dd H') : E cls dd H' := by
  unfold stow at hp
  dsimp only at hp
  rw [hm0.1] at hp
  split at hp
  · exact hp cls dd H' G' io' ff r
  · split at hp
    · rename_i m2 o2 hm ho
      obtain ⟨d', hd, rfl⟩ := Option.map_eq_some_iff.mp ho
      obtain ⟨e0, a, vs, e1, e2, e3, e4⟩ := r
      have q := mapDs_rp (stow_same (k := io.length) ff.2.1) (frz_rp (k := io.length) ff.1 ff.2.1 hlk 16) hd e4
      rw [ff.pre.tk] at q
      exact hp cls dd H' _ io (ff.stow hm0 hlk hm) ⟨e0, a, vs, e1, e2, e3, q⟩
    · exact hp.elim
end
/-! ### the dicts that a call leaves are locked -/
def lkAt (m : List MO) (j : Nat) : List MO := match m[j]? with
  | some (.dx ks ds) => m.set j (.dl ks ds)
  | _ => m
def lkN (k : Nat) (m : List MO) : Nat → List MO
  | 0 => m
  | n + 1 => lkAt (lkN k m n) (k + n)
theorem lkAt_len (m : List MO) (j : Nat) : (lkAt m j).length = m.length := by
  unfold lkAt
  split
  · rw [List.length_set]
  · rfl
theorem lkN_len (k : Nat) (m : List MO) : ∀ n, (lkN k m n).length = m.length
  | 0 => rfl
  | n + 1 => by rw [lkN, lkAt_len, lkN_len k m n]
theorem lkAt_get (m : List MO) (i j : Nat) : (lkAt m j)[i]? = m[i]? ∨ ∃ ks ds, i = j ∧ m[i]? = some (.dx ks ds) ∧ (lkAt m j)[i]? = some (.dl ks ds) := by
  unfold lkAt
  split
  · rename_i ks ds hm
    by_cases hij : j = i
    · subst hij
      exact .inr ⟨ks, ds, rfl, hm, List.getElem?_set_self (List.getElem?_eq_some_iff.mp hm).1⟩
    · exact .inl (List.getElem?_set_ne hij)
  · exact .inl rfl
theorem lkN_get (k : Nat) (m : List MO) (i : Nat) : ∀ n, (lkN k m n)[i]? = m[i]? ∨ ∃ ks ds, k ≤ i ∧ m[i]? = some (.dx ks ds) ∧ (lkN k m n)[i]? = some (.dl ks ds)
  | 0 => .inl rfl
  | n + 1 => by
    rcases lkAt_get (lkN k m n) i (k + n) with h | ⟨ks, ds, h1, h2, h3⟩
    · rw [lkN, h]; exact lkN_get k m i n
    · rcases lkN_get k m i n with q | ⟨ks', ds', q0, q1, q2⟩
      · exact .inr ⟨ks, ds, by omega, by rw [← q]; exact h2, h3⟩
      · rw [q2] at h2; cases h2
theorem lkN_done (k : Nat) (m : List MO) : ∀ n i, k ≤ i → i < k + n → ∀ ks ds, (lkN k m n)[i]? ≠ some (.dx ks ds)
  | 0, i, h1, h2, _, _, _ => by omega
  | n + 1, i, h1, h2, ks, ds, e => by
    by_cases hi : i = k + n
    · subst hi
      rw [lkN] at e
      unfold lkAt at e
      split at e
      · rename_i ks' ds' hm
        rw [List.getElem?_set_self (List.getElem?_eq_some_iff.mp hm).1] at e
        cases e
      · rename_i hno
        exact hno ks ds e
    · rw [lkN] at e
      rcases lkAt_get (lkN k m n) i (k + n) with h | ⟨_, _, h, _⟩
      · rw [h] at e
        exact lkN_done k m n i h1 (by omega) ks ds e
      · exact hi h
def lockM (k : Nat) (m : List MO) : List MO := lkN k m (m.length - k)
theorem lockM_locked (k : Nat) (m : List MO) : Locked (lockM k m) k := fun j ks ds hj e => by
  have hl : j < m.length := by
    have := (List.getElem?_eq_some_iff.mp e).1
    unfold lockM at this
    rw [lkN_len] at this
    exact this
  exact lkN_done k m (m.length - k) j hj (by omega) ks ds e
theorem lockM_len (k : Nat) (m : List MO) : (lockM k m).length = m.length := lkN_len _ _ _
theorem lockM_take (k : Nat) (m : List MO) : (lockM k m).take k = m.take k := by
  apply List.ext_getElem?
  intro i
  by_cases hi : i < k
  · rw [List.getElem?_take_of_lt hi, List.getElem?_take_of_lt hi]
    rcases lkN_get k m i (m.length - k) with h | ⟨_, _, h, _⟩
    · exact h
    · omega
  · rw [List.getElem?_eq_none (by rw [List.length_take]; omega), List.getElem?_eq_none (by rw [List.length_take]; omega)]
theorem frz_lock (m : List MO) (k : Nat) : ∀ n j, frz true (lockM k m) k n j = frz true m k n j := by
  intro n
  induction n with
  | zero => intro j; rfl
  | succ n ih =>
    intro j
    have hf : frz true (lockM k m) k n = frz true m k n := funext ih
    unfold frz
    rw [hf]
    rcases lkN_get k m j (m.length - k) with h | ⟨ks, ds, _, h1, h2⟩
    · unfold lockM; rw [h]
    · unfold lockM; rw [h1, h2]; rfl
theorem frzM_lock (m : List MO) (k : Nat) (o : MO) : frzM true (lockM k m) k o = frzM true m k o := by
  have hf : frz true (lockM k m) k 16 = frz true m k 16 := funext (frz_lock m k 16)
  cases o <;> simp only [frzM, hf]
theorem stow_lock (m0 : List MO) (o : Out) (m : List MO) : stow true m0 (some (o, lockM m0.length m)) = stow true m0 (some (o, m)) := by
  unfold stow
  dsimp only
  rw [lockM_len]
  split
  · rename_i hl
    have e : lockM m0.length m = m := by unfold lockM; rw [hl, Nat.sub_self]; rfl
    rw [e]
  · have e1 : frzM true (lockM m0.length m) m0.length = frzM true m m0.length := funext (frzM_lock m m0.length)
    have hf : frz true (lockM m0.length m) m0.length 16 = frz true m m0.length 16 := funext (frz_lock m m0.length 16)
    have e2 : frzO true (lockM m0.length m) m0.length o = frzO true m m0.length o := by
      cases o <;> simp only [frzO, hf, e1]
    have e3 : keepM true (lockM m0.length m) m0 = keepM true m m0 := by
      unfold keepM
      rw [lockM_take, e1]
    rw [e2, e3]
section
variable {x : SX} {X : Cx} {pins : List (Addr × Obj)} {σ : L2.St} {s : Shared} {G H : Hp} {io : List Addr} {m : List MO}
theorem lock_at (I : Inv X pins σ H s) (gh : Same G H) (hm : MemA x G io H m) (j : Nat) : ∃ H2, Inv X pins σ H2 s ∧ Same G H2 ∧ MemA x G io H2 (lkAt m j) ∧ ∀ b, (∀ i, j ≤ i → io[i]? ≠ some b) → H2 b = H b := by
  unfold lkAt
  split
  · rename_i ks ds hd
    have hj : j < m.length := (List.getElem?_eq_some_iff.mp hd).1
    have hj2 : j < io.length := by rw [← hm.1]; exact hj
    obtain ⟨vs, ho, q1, q2, q3, rfl, q5⟩ := hm.2.2 j _ _ hd (List.getElem?_eq_getElem hj2)
    obtain ⟨od, I2⟩ := I.lock q1 trivial
    refine ⟨_, I2, fun b u e => ?_, ⟨by rw [List.length_set]; exact hm.1, hm.2.1, fun n o a e1 e2 => ?_⟩, fun b hb => ?_⟩
    · rw [upd_ne (fun z => by rw [z, q2] at e; cases e)]
      exact gh _ _ e
    · by_cases hn : j = n
      · subst hn
        rw [List.getElem?_set_self hj] at e1
        cases e1
        rw [List.getElem?_eq_getElem hj2] at e2
        cases e2
        exact ⟨vs, _, upd_same, q2, q3, ⟨od, rfl⟩, q5⟩
      · rw [List.getElem?_set_ne hn] at e1
        obtain ⟨ws, h, w1, w2⟩ := hm.2.2 n o a e1 e2
        have ne : a ≠ io[j] := fun z => by
          obtain ⟨h1, g1⟩ := List.getElem?_eq_some_iff.mp e2
          exact hn ((List.getElem_inj hm.2.1).mp (by rw [g1, z]))
        exact ⟨ws, h, by rw [upd_ne ne]; exact w1, w2⟩
    · exact upd_ne fun z => hb j (Nat.le_refl _) (by rw [List.getElem?_eq_getElem hj2, z])
  · exact ⟨H, I, gh, hm, fun _ _ => rfl⟩
theorem lock_all (k : Nat) (I : Inv X pins σ H s) (gh : Same G H) (hm : MemA x G io H m) : ∀ n, ∃ H2, Inv X pins σ H2 s ∧ Same G H2 ∧ MemA x G io H2 (lkN k m n) ∧ ∀ b, (∀ i, k ≤ i → io[i]? ≠ some b) → H2 b = H b
  | 0 => ⟨H, I, gh, hm, fun _ _ => rfl⟩
  | n + 1 => by
    obtain ⟨H1, I1, g1, m1, k1⟩ := lock_all k I gh hm n
    obtain ⟨H2, I2, g2, m2, k2⟩ := lock_at I1 g1 m1 (k + n)
    exact ⟨H2, I2, g2, m2, fun b hb => (k2 b fun i hi => hb i (by omega)).trans (k1 b hb)⟩
end
/-- what holds when the dicts behind k have been locked -/
def LK (x : SX) (k : Nat) (R : Hp → Prop) (H : Hp) : Prop := ∃ G io m, Same G H ∧ MemA x G io H m ∧ ∀ H2, Same G H2 → MemA x G io H2 (lockM k m) → (∀ b, (∀ i, k ≤ i → io[i]? ≠ some b) → H2 b = H b) → R H2
theorem PSs.lk {X : Cx} {ss : List Stmt} {t : TS} (x : SX) (k : Nat) (h : PSs X ss t) : PSs X ss (fun D σ H => t { D with nx := fun σ' H' => LK x k (D.nx σ') H', rt := fun v H' => LK x k (D.rt v) H' } σ H) := by
  refine ⟨fun pins s σ H D I q => thn (h.run pins s σ H _ I q) fun f s1 z => ?_⟩
  cases f with
  | next =>
    obtain ⟨σ', H', I2, G, io, m, g1, g2, g3⟩ := z
    obtain ⟨H2, I3, a1, a2, a3⟩ := lock_all k I2 g1 g2 (m.length - k)
    exact ⟨σ', H2, I3, g3 H2 a1 a2 a3⟩
  | ret v =>
    obtain ⟨w, σ', H', I2, r, G, io, m, g1, g2, g3⟩ := z
    obtain ⟨H2, I3, a1, a2, a3⟩ := lock_all k I2 g1 g2 (m.length - k)
    exact ⟨w, σ', H2, I3, r, g3 H2 a1 a2 a3⟩
  | brk => exact z
  | cont => exact z
theorem FF.lock {x : SX} {H G H' G' H2 : Hp} {io io' : List Addr} {m' : List MO} (f : FF x H G io m' H' G' io') (g2 : Same G' H2) (hm : MemA x G' io' H2 (lockM io.length m')) (hk : ∀ b, (∀ i, io.length ≤ i → io'[i]? ≠ some b) → H2 b = H' b) : FF x H G io (lockM io.length m') H2 G' io' := by
  obtain ⟨f1, f2, f3, f4, f5, f6, f7⟩ := f
  refine ⟨g2, hm, fun b o e hb => ?_, f4, f5, f6, fun b o u e => ?_⟩
  · rw [hk b fun i hi e2 => by rw [f6 i b hi e2] at e; cases e]
    exact f3 b o e hb
  · rw [hk b fun i hi e2 => by rw [f6 i b hi e2] at e; cases e]
    exact f7 b o u e
end En

namespace En
open PySem PySem.Spec L2
/-- what a def hands back of a run of its body -/
def fin : Res → Option (Out × List MO)
  | some (.rt d, s) => some (.val d, s.m)
  | some (.rtf o, s) => some (.fr o, s.m)
  | some (.nx, s) => some (.val .non, s.m)
  | some (.exc c ns ds, s) => some (.exc c ns ds, s.m)
  | _ => none
def ini (n : Nat) (ds : List D) : List (Option Cell) := ds.map (fun d => some (.val d)) ++ List.replicate (n - ds.length) none
/-- behind a call -/
noncomputable def stowO (m0 : List MO) : Option (Out × List MO) → Option (Out × List MO)
  | some (.exc c ns ds, m) => stow false m0 (some (.exc c ns ds, m))
  | r => stow true m0 r
def runF (T : Tb) (n : Nat) (code : E) (ds : List D) (m : List MO) : Option (Out × List MO) := fin (ev T.P T.Gm code ⟨ini n ds, m⟩)
theorem ini_str {x : SX} {G H : Hp} {io : List Addr} {m : List MO} {ds : List D} {vs : List V} {N : List Str} (gh : Same G H) (hm : MemA x G io H m) (r : RpL x G io ds vs) (hl : vs.length ≤ N.length) :
    StR x ⟨H, G, io, zOf H⟩ ⟨ini N.length ds, m⟩ G io (L2.start N vs) H where
  gh := gh
  len := by unfold ini L2.start; simp [r.length]
  slot := fun i c e => by
    unfold ini at e
    by_cases hi : i < ds.length
    · rw [List.getElem?_append_left (by simpa using hi), List.getElem?_map] at e
      obtain ⟨d, hd, e2⟩ := Option.map_eq_some_iff.mp e
      cases e2
      obtain ⟨v, e1, q⟩ := r.get hd
      refine ⟨v, ?_, q⟩
      unfold L2.start
      rw [List.getElem?_append_left (by simp [r.length]; exact hi), List.getElem?_map, e1]
      rfl
    · rw [List.getElem?_append_right (by simpa using hi)] at e
      have := List.getElem?_replicate (a := (none : Option Cell)) (n := N.length - ds.length) (i := i - (ds.map (fun d => some (Cell.val d))).length)
      rw [this] at e
      split at e <;> cases e
  own := fun i j c c' v _ e1 _ o1 => by
    unfold ini at e1
    by_cases hi : i < ds.length
    · rw [List.getElem?_append_left (by simpa using hi), List.getElem?_map] at e1
      obtain ⟨d, hd, e2⟩ := Option.map_eq_some_iff.mp e1
      cases e2
      cases o1
    · rw [List.getElem?_append_right (by simpa using hi)] at e1
      have := List.getElem?_replicate (a := (none : Option Cell)) (n := N.length - ds.length) (i := i - (ds.map (fun d => some (Cell.val d))).length)
      rw [this] at e1
      split at e1 <;> cases e1
  mem := hm
  kh := fun _ _ e _ => e
  kg := fun _ _ => rfl
  ki := Pre.refl _
  ni := fun n a hn e => by
    have hn : io.length ≤ n := hn
    rw [List.getElem?_eq_none (by omega)] at e; cases e
  zl := fun _ _ e => zOf_at e
theorem fn_ok {T : Tb} {name qual : Str} {st : Stmt} {a : Addr} {fd : FuncData} {N ps : List Str} {code : E} {Pf : List D → List MO → Option (Out × List MO)} {dvs : List V} {kws : List (Str × V)} (Fn : FunD T.x.K name qual (defArgs st) (defBody st) (defScope st) dvs kws a fd) (S : FnScope N ps (defScope st)) (hc : chk T.nt code (CC.fn N (defScope st)) (.blk (defBody st)) = true)
    (t : TOk T) (hrun : ∀ ds m r, Pf ds m = some r → stowO m (runF T N.length code ds m) = some r) : FnOk T.prog T.w T.x.K T.mg T.base (L2.CX T.prog T.w) (T.lv + 1) a fd ps (spP T.x Pf ps.length) := by
  refine Fn.ok S (fun vs H Q E h => h.1) fun cdv A outer s H vs Q E hr h => ?_
  obtain ⟨hl, ds, m, G, io, gh, hmem, r, hp⟩ := h
  have o : XOk T (CC.fn N (defScope st)) (cxOf (L2.CX T.prog T.w) T.prog T.w T.x.K T.mg T.base N qual (defScope st) a cdv A outer s H E) (fun cls d _ H => E cls d H) :=
    { prog := rfl, w := rfl, K := rfl, mg := rfl, base := rfl, N := rfl, nd := S.nd, sc := rfl, calm := rfl, tk := takes_of rfl rfl rfl rfl, po := passes_of rfl, room := hr,
      loc := fun y hy => by
        obtain ⟨_, hy⟩ := List.mem_filter.mp hy
        simp only [Bool.or_eq_true, decide_eq_true_eq] at hy
        exact ⟨hy, .inl rfl⟩ }
  have d := snd code _ _ _ _ t o hc ⟨H, G, io, zOf H⟩
  refine ⟨_, PSs.lk T.x io.length d, ⟨ini N.length ds, m⟩, G, io, ini_str gh hmem r ?_, ?_⟩
  · rw [hl]
    have h1 := congrArg List.length S.pre
    rw [List.length_take] at h1
    omega
  · have hq := hp
    cases hP : Pf ds m with
    | none => rw [hP] at hp; exact hp.elim
    | some q =>
      have hR := hrun ds m q hP
      rw [hP, ← hR] at hp
      unfold runF at hp
      cases he : ev T.P T.Gm code ⟨ini N.length ds, m⟩ with
      | none => rw [he] at hp; exact hp.elim
      | some p =>
        obtain ⟨out, s1⟩ := p
        rw [he] at hp
        cases out with
        | rt d =>
          intro v σ' H' G' io' sg si t' rv
          refine ⟨G', io', s1.m, t'.gh, t'.mem, fun H2 g2 m2 k2 => ?_⟩
          have hp : PostF T.x H G io (stow true m (some (.val d, s1.m))) Q E := hp
          rw [← stow_lock, hmem.1] at hp
          exact stow_val hmem (fun _ => lockM_locked _ _) hp (t'.ff.lock g2 m2 k2) rv
        | rtf o1 =>
          intro p σ' H' G' io' sg si t' ni ow
          refine ⟨G', io', s1.m, t'.gh, t'.mem, fun H2 g2 m2 k2 => ?_⟩
          obtain ⟨ws, h1, e1, e2, e3, e4, e5, e6⟩ := ow
          have hp : PostF T.x H G io (stow true m (some (.fr o1, s1.m))) Q E := hp
          rw [← stow_lock, hmem.1] at hp
          exact stow_fr hmem (fun _ => lockM_locked _ _) hp (t'.ff.lock g2 m2 k2) ni e3 ⟨ws, h1, by rw [k2 p fun i hi e => ni (List.mem_of_getElem? e)]; exact e1, e2, e4, e5, e6⟩
        | nx =>
          intro σ' H' G' io' sg si t'
          refine ⟨G', io', s1.m, t'.gh, t'.mem, fun H2 g2 m2 k2 => ?_⟩
          have hp : PostF T.x H G io (stow true m (some (.val .non, s1.m))) Q E := hp
          rw [← stow_lock, hmem.1] at hp
          exact stow_val (d := .non) hmem (fun _ => lockM_locked _ _) hp (t'.ff.lock g2 m2 k2) rfl
        | exc c ns es => exact fun cls dd σ' H' G' io' sg si t' ex => stow_exc hmem (fun z => by cases z) hp t'.ff ex
        | _ => exact (show False from hp).elim
/-! ### the run by fuel -/
/-- a def's code: how many slots, parameters; how the values are laid; or a class (its number, its __init__) -/
structure Ent where
  N : Nat
  p : Nat
  c : E
  g : List D → List D
  mkc : Option (Nat × Nat)
/-- a class called: a new object is filled by __init__ -/
noncomputable def mkF (c : Nat) (run : List D → List MO → Option (Out × List MO)) (ds : List D) (m : List MO) : Option (Out × List MO) := match run (.adr m.length :: ds) (m ++ [.ob c [] []]) with
  | some (.val .non, m') => stow false m (some (.val (.adr m.length), m'))
  | some (.exc k ns es, m') => stow false m (some (.exc k ns es, m'))
  | _ => none
/-- a run of the code of so many values, by callees P -/
noncomputable def runC (P : Nat → List D → List MO → Option (Out × List MO)) (Gm : Nat → D) (N p : Nat) (code : E) (ds : List D) (m : List MO) : Option (Out × List MO) :=
  if ds.length = p then stowO m (fin (ev P Gm code ⟨ini N ds, m⟩)) else none
noncomputable def Pn (Cd : Nat → Option Ent) (Gm : Nat → D) : Nat → Nat → List D → List MO → Option (Out × List MO)
  | 0, _, _, _ => none
  | n + 1, f, ds, m => match Cd f with
    | none => none
    | some e => match e.mkc with
      | none => runC (Pn Cd Gm n) Gm e.N e.p e.c (e.g ds) m
      | some (c, i) => match Cd i with
        | none => none
        | some e2 => mkF c (runC (Pn Cd Gm n) Gm e2.N e2.p e2.c) (e.g ds) m
/-- what stays from level to level -/
structure Ld where
  x : SX
  nt : NT
  prog : Program
  w : World
  mg : Str → Option Value
  base : Heap
  Gm : Nat → D
  Cd : Nat → Option Ent
noncomputable def Ld.T (L : Ld) (n : Nat) : Tb := { x := L.x, lv := 4 * n + 4, nt := L.nt, prog := L.prog, w := L.w, mg := L.mg, base := L.base, P := Pn L.Cd L.Gm n, Gm := L.Gm }
/-- a def as it stands, its code fits -/
structure FnD (L : Ld) (name qual : Str) (st : Stmt) (a : Addr) (fd : FuncData) (N ps : List Str) (code : E) : Prop where
  fn : ∃ dvs kws, FunD L.x.K name qual (defArgs st) (defBody st) (defScope st) dvs kws a fd
  sc : FnScope N ps (defScope st)
  hc : chk L.nt code (CC.fn N (defScope st)) (.blk (defBody st)) = true
def FnF (L : Ld) (f : Nat) : Prop := ∃ name qual st a fd N ps code, FnD L name qual st a fd N ps code ∧ L.mg (L.nt.fnm f) = some (.ref a) ∧ Binds L.x.K fd ps [] ∧ L.Cd f = some ⟨N.length, ps.length, code, id, none⟩
/-- a def at a, called with n values and these keywords: its code is that of i -/
def FnC (L : Ld) (i n : Nat) (kk : List Str) (a : Addr) : Prop := ∃ name qual st fd N ps code gd g gV, FnD L name qual st a fd N ps code ∧ KBn L.x.K fd ps n kk g gV ∧ L.Cd i = some ⟨N.length, ps.length, code, gd, none⟩ ∧
  ∀ (G : Hp) (io : List Addr) ds es vs zs, vs.length = n → zs.length = kk.length → RpL L.x G io ds vs → RpL L.x G io es zs → (gV vs zs).length = ps.length ∧ RpL L.x G io (gd (ds ++ es)) (gV vs zs)
def FnK (L : Ld) (f : Nat) : Prop := ∃ a : Addr, L.mg (L.nt.fnm f) = some (.ref a) ∧ PySem.W.keepIn L.x.K (.ref a) = true ∧ FnC L f (L.nt.kn f) (L.nt.kk f) a
def FnE (L : Ld) (c i : Nat) (m : Str) (n : Nat) (kk : List Str) : Prop := ∃ a : Addr, Meth L.x.K (L.x.ca c) m a ∧ FnC L i (n + 1) kk a
/-- a class: its number, its __init__'s id -/
def FnM (L : Ld) (f : Nat) : Prop := ∃ name qual st a fd N ps code gd g gV c i, L.x.live c = true ∧ FnD L name qual st a fd N ps code ∧ L.mg (L.nt.fnm f) = some (.ref (L.x.ca c)) ∧ Mk L.x.K (L.x.ca c) a ∧ KBn L.x.K fd ps (L.nt.kn f + 1) (L.nt.kk f) g gV ∧
  (∃ N0 p0 c0, L.Cd f = some ⟨N0, p0, c0, gd, some (c, i)⟩) ∧ L.Cd i = some ⟨N.length, ps.length, code, id, none⟩ ∧
  ∀ (G : Hp) (io : List Addr) ds es (v : V) vs zs d, vs.length = L.nt.kn f → zs.length = (L.nt.kk f).length → Rp L.x G io d v → RpL L.x G io ds vs → RpL L.x G io es zs → (gV (v :: vs) zs).length = ps.length ∧ RpL L.x G io (d :: gd (ds ++ es)) (gV (v :: vs) zs)
structure LdOk (L : Ld) : Prop where
  fn : ∀ f, L.nt.isF f = true → FnF L f
  fk : ∀ f, L.nt.isK f = true → FnK L f
  fm : ∀ f, L.nt.isM f = true → FnM L f
  nm : L.x.nm = L.nt.nm
  nd : L.nt.fl.Nodup
  lv : L.x.live = L.nt.live
  ko : ClO L.x
  fa : ∀ c f, L.nt.fa c f = true → NoAttr L.x.K (L.x.ca c) (L.nt.nm f)
  me : ∀ c i m n kk, L.nt.me c i = some (m, n, kk) → FnE L c i m n kk
  cn : ∀ c, L.nt.cn c ≠ "" → L.mg (L.nt.cn c) = some (.ref (L.x.ca c)) ∧ L.nt.live c = true
  go : ∀ i, L.nt.gone i = true → L.Cd i = none
  gv : ∀ g, L.nt.gvn g ≠ "" → ∃ u v, L.mg (L.nt.gvn g) = some u ∧ RelV v u ∧ ∀ G io, Rp L.x G io (L.Gm g) v
  bl : ∀ n ∈ bltNames, L.mg n = none
theorem fn_zero {T : Tb} {a : Addr} {fd : FuncData} {ps : List Str} {k : Nat} : FnOk T.prog T.w T.x.K T.mg T.base (L2.CX T.prog T.w) k a fd ps (spP T.x (fun _ _ => none) ps.length) :=
  ⟨fun vs H Q E h => h.1, fun A outer s H args us vs Q E hr he hb hv hs => by
    obtain ⟨_, ds, m, G, io, _, _, _, hp⟩ := hs
    exact hp.elim⟩
/-- what a def of so many values with this code answers at a level -/
noncomputable def PfC (L : Ld) (n N p : Nat) (code : E) (ds : List D) (m : List MO) : Option (Out × List MO) := match n with
  | 0 => none
  | n + 1 => runC (Pn L.Cd L.Gm n) L.Gm N p code ds m
theorem Pn_eq {L : Ld} {n f : Nat} {N p : Nat} {code : E} {gd : List D → List D} (h : L.Cd f = some ⟨N, p, code, gd, none⟩) (ds : List D) (m : List MO) : Pn L.Cd L.Gm n f ds m = PfC L n N p code (gd ds) m := by
  cases n with
  | zero => rfl
  | succ n =>
    unfold Pn
    rw [h]
    rfl
theorem PfC_some {L : Ld} {n N p : Nat} {code : E} {ds : List D} {m : List MO} {r : Out × List MO} (e : PfC L (n + 1) N p code ds m = some r) : ds.length = p ∧ stowO m (fin (ev (Pn L.Cd L.Gm n) L.Gm code ⟨ini N ds, m⟩)) = some r := by
  have e : (if ds.length = p then stowO m (fin (ev (Pn L.Cd L.Gm n) L.Gm code ⟨ini N ds, m⟩)) else none) = some r := e
  by_cases hl : ds.length = p
  · rw [if_pos hl] at e
    exact ⟨hl, e⟩
  · rw [if_neg hl] at e; cases e
def LvOk (L : Ld) (n : Nat) : Prop := ∀ {name qual : Str} {st : Stmt} {a : Addr} {fd : FuncData} {N ps : List Str} {code : E}, FnD L name qual st a fd N ps code →
  FnOk L.prog L.w L.x.K L.mg L.base (L2.CX L.prog L.w) (4 * n + 1) a fd ps (spP L.x (PfC L n N.length ps.length code) ps.length)
theorem cal_of {L : Ld} {n i k : Nat} {kk : List Str} {a : Addr} (hF : LvOk L n) (h : FnC L i k kk a) : Cal (L.T n) i k kk a := by
  obtain ⟨name, qual, st, fd, N, ps, code, gd, g, gV, q1, q2, q3, q4⟩ := h
  refine Cal.mk (T := L.T n) (Pf := PfC L n N.length ps.length code) (k := 4 * n + 1) (Nat.le_refl _) (hF q1) q2 fun G io ds es vs zs l1 l2 r1 r2 => ?_
  obtain ⟨e1, e2⟩ := q4 G io ds es vs zs l1 l2 r1 r2
  exact ⟨e1, _, e2, fun m => Pn_eq q3 _ m⟩
theorem ld_step {L : Ld} (h : LdOk L) {n : Nat} (hF : LvOk L n) : TOk (L.T n) where
  fn := fun f hf => by
    obtain ⟨name, qual, st, a, fd, N, ps, code, q1, q0, q2, q3⟩ := h.fn f hf
    refine ⟨a, fd, ps, q0, (show PySem.W.keepIn L.x.K (.ref a) = true from let ⟨_, _, F⟩ := q1.fn; F.kp), ?_, q2, fun ds m r e => ?_⟩
    · refine ((hF q1).mono (show 4 * n + 1 ≤ 4 * n + 4 by omega)).imp fun vs H Q E hs => ?_
      obtain ⟨e1, ds, m, G, io, e2, e3, e4, e5⟩ := hs
      refine ⟨e1, ds, m, G, io, e2, e3, e4, ?_⟩
      have e := Pn_eq (n := n) q3 ds m
      rw [show (PfC L n N.length ps.length code ds m) = (L.T n).P f ds m from e.symm]
      exact e5
    · have e' := (Pn_eq (n := n) q3 ds m).symm.trans e
      cases n with
      | zero => cases e'
      | succ n =>
        exact (PfC_some e').1
  fk := fun f hf => by
    obtain ⟨a, q0, q1, q2⟩ := h.fk f hf
    exact ⟨a, q0, q1, cal_of hF q2⟩
  nm := h.nm
  nd := h.nd
  lv := h.lv
  ko := h.ko
  fa := h.fa
  me := fun c i m k kk e => by
    obtain ⟨a, q1, q2⟩ := h.me c i m k kk e
    exact ⟨a, q1, cal_of hF q2⟩
  cn := h.cn
  gone := fun i hi ds m => by
    show Pn L.Cd L.Gm n i ds m = none
    cases n with
    | zero => rfl
    | succ n => unfold Pn; rw [h.go i hi]
  fm := fun f hf => by
    obtain ⟨name, qual, st, a, fd, N, ps, code, gd, g, gV, c, i, hlv, q1, q0, qM, q2, ⟨N0, p0, c0, q3⟩, q4, q5⟩ := h.fm f hf
    refine ⟨L.x.ca c, a, 4 * n + 1, fd, ps, g, gV, _, q0, qM, Nat.le_refl _, hF q1, q2, ?_⟩
    rintro vs zs H Q E l1 l2 ⟨ds, es, m, G, io, gh, hm, r1, r2, hp⟩ x dx hx hdx hne
    have pr : Pre io (io ++ [x]) := ⟨[x], rfl⟩
    have hx2 : upd H dx (.own x) x = none := by rw [upd_ne hne.symm]; exact hx
    have sH : Same H (upd (upd H dx (.own x)) x (.ins (L.x.ca c) dx [])) := (same_upd hdx).trans (same_upd hx2)
    have nio : x ∉ io := fun hi => by
      obtain ⟨k, hk, e⟩ := List.getElem_of_mem hi
      have hl : k < m.length := by rw [hm.1]; exact hk
      obtain ⟨_, _, e2, _⟩ := hm.2.2 k _ x (List.getElem?_eq_getElem hl) (by rw [List.getElem?_eq_getElem hk, e])
      rw [hx] at e2; cases e2
    have gx : G x = none := by
      cases e : G x with
      | none => rfl
      | some u => rw [gh _ _ e] at hx; cases hx
    have gh2 : Same G (upd (upd H dx (.own x)) x (.ins (L.x.ca c) dx [])) := gh.trans sH
    have rx : Rp L.x G (io ++ [x]) (.adr m.length) (.ref x) := ⟨x, rfl, by rw [hm.1]; simp⟩
    obtain ⟨e1, e2⟩ := q5 G (io ++ [x]) ds es (.ref x) vs zs _ l1 l2 rx (r1.mono (Same.refl _) pr) (r2.mono (Same.refl _) pr)
    have hm2 : MemA L.x G (io ++ [x]) (upd (upd H dx (.own x)) x (.ins (L.x.ca c) dx [])) (m ++ [.ob c [] []]) := by
      refine ⟨by simp [hm.1], ?_, fun k o b h1 h2 => ?_⟩
      · rw [List.nodup_append]
        exact ⟨hm.2.1, by simp, fun a ha b hb => by simp at hb; rw [hb]; exact fun z => nio (by rw [← z]; exact ha)⟩
      · by_cases hk : k < io.length
        · rw [List.getElem?_append_left (by rw [hm.1]; exact hk)] at h1
          rw [List.getElem?_append_left hk] at h2
          obtain ⟨ws, ho, w1, w2, w3, w4⟩ := hm.2.2 k o b h1 h2
          exact ⟨ws, ho, sH _ _ w1, w2, w3.mono (Same.refl _) pr, w4⟩
        · rw [List.getElem?_append_right (by rw [hm.1]; omega)] at h1
          rw [List.getElem?_append_right (by omega)] at h2
          rw [hm.1] at h1
          cases hz : k - io.length with
          | zero =>
            rw [hz] at h1 h2
            cases h1
            cases h2
            exact ⟨[], _, upd_same, gx, rfl, ⟨hlv, dx, rfl⟩, rfl⟩
          | succ j => rw [hz] at h2; simp at h2
    refine ⟨e1, _, m ++ [.ob c [] []], G, io ++ [x], gh2, hm2, e2, ?_⟩
    have widen : ∀ {m' : List MO} {H' G' : Hp} {io' : List Addr}, FF L.x (upd (upd H dx (.own x)) x (.ins (L.x.ca c) dx [])) G (io ++ [x]) m' H' G' io' → FF L.x H G io m' H' G' io' := fun {m' H' G' io'} f => by
      obtain ⟨f1, f2, f3, f4, f5, f6, f7⟩ := f
      refine ⟨f1, f2, fun b o e hb => f3 b o (sH _ _ e) fun z => ?_, fun b hb => f4 b ?_, pr.trans f5, fun k b hk e => ?_, fun b q u e => f7 _ _ _ (sH _ _ e)⟩
      · rcases List.mem_append.mp z with z | z
        · exact hb z
        · simp at z
          rw [z, hx] at e; cases e
      · cases e : H b with
        | none => exact absurd e hb
        | some o => rw [sH _ _ e]; simp
      · by_cases hk2 : k = io.length
        · subst hk2
          obtain ⟨z, hz⟩ := f5
          rw [hz] at e
          simp at e
          rw [← e]
          exact hx
        · have q := f6 k b (by simp; omega) e
          cases e3 : H b with
          | none => rfl
          | some o => rw [sH _ _ e3] at q; cases q
    cases n with
    | zero => exact hp.elim
    | succ n =>
      have hP : (L.T (n + 1)).P f (ds ++ es) m = mkF c (PfC L (n + 1) N.length ps.length code) (gd (ds ++ es)) m := by
        show Pn L.Cd L.Gm (n + 1) f (ds ++ es) m = _
        unfold Pn
        rw [q3]
        dsimp only
        rw [q4]
        rfl
      rw [hP] at hp
      unfold mkF at hp
      cases hr : PfC L (n + 1) N.length ps.length code (.adr m.length :: gd (ds ++ es)) (m ++ [.ob c [] []]) with
      | none => rw [hr] at hp; exact hp.elim
      | some r =>
        obtain ⟨out, m'⟩ := r
        rw [hr] at hp
        cases out with
        | val d =>
          cases d with
          | non =>
            intro v H' G' io' ff rv
            refine ⟨rv, ?_⟩
            have ff2 := widen ff
            dsimp only at hp
            refine stow_val hm (fun z => by cases z) hp ff2 ?_
            exact ⟨x, rfl, ff.pre.get (by rw [hm.1]; simp)⟩
          | _ => exact hp.elim
        | exc k ns es =>
          intro cls dd H' G' io' ff ex
          dsimp only at hp
          exact stow_exc hm (fun z => by cases z) hp (widen ff) ex
        | _ => exact hp.elim
  gv := h.gv
  bl := h.bl
theorem ld_ok {L : Ld} (h : LdOk L) : ∀ n, LvOk L n
  | 0 => fun q => fn_zero (T := L.T 0)
  | n + 1 => fun q => by
    have t := ld_step h (ld_ok h n)
    obtain ⟨_, _, F⟩ := q.fn
    refine fn_ok (T := L.T n) F q.sc q.hc t fun ds m r e => ?_
    exact (PfC_some e).2
end En

namespace En
open PySem PySem.Spec L2
/-! ### what the law's end uses -/
/-- where a parameter's value comes from: the n-th written, the n-th by keyword, a default, a keyword-only default -/
inductive Src where
  | p (i : Nat)
  | k (i : Nat)
  | d (i : Nat)
  | w (i : Nat)
def Src.at {α : Type} (e : α) (us ws ds ms : List α) : Src → α
  | .p i => us.getD i e
  | .k i => ws.getD i e
  | .d i => ds.getD i e
  | .w i => ms.getD i e
def Src.ns : Src → Bool
  | .p 0 => false
  | _ => true
def lay {α : Type} (e : α) (L : List Src) (us ws ds ms : List α) : List α := L.map (Src.at e us ws ds ms)
def gdF (n : Nat) (L : List Src) (dD mD : List D) (l : List D) : List D := lay .non L (l.take n) (l.drop n) dD mD
def gdM (n : Nat) (L : List Src) (dD mD : List D) (l : List D) : List D := (lay .non L (.non :: l.take (n - 1)) (l.drop (n - 1)) dD mD).tail
theorem vals_getD : ∀ {vs : List V} {us : List Value}, Vals vs us → ∀ i, RelV (vs.getD i .non) (us.getD i .none)
  | [], [], _, _ => rfl
  | [], _ :: _, h, _ => by cases h
  | _ :: _, [], h, _ => by cases h
  | v :: vs, u :: us, h, 0 => by
    cases h with
    | cons a b => exact a
  | v :: vs, u :: us, h, i + 1 => by
    cases h with
    | cons a b => exact vals_getD b i
theorem lay_vals {vs zs ds ms : List V} {us ws its mv : List Value} (r1 : Vals vs us) (r2 : Vals zs ws) (r3 : Vals ds its) (r4 : Vals ms mv) : ∀ L : List Src, Vals (lay .non L vs zs ds ms) (lay .none L us ws its mv)
  | [] => .nil
  | s :: L => by
    refine .cons ?_ (lay_vals r1 r2 r3 r4 L)
    cases s with
    | p i => exact vals_getD r1 i
    | k i => exact vals_getD r2 i
    | d i => exact vals_getD r3 i
    | w i => exact vals_getD r4 i
section
variable {K : PySem.W.Frag} {x qual : Str} {params : Arguments} {body : List Stmt} {scope : Scope} {f : Addr} {fd : FuncData}
theorem fund_0 {oc : Value} {od an : Option Addr} {osl : Array (Option Value)} {kV doc pm cdv ct : Value} (l : K.lookup f = some ⟨oc, od, .func (PySem.W.fnOf x qual params body scope .none kV doc pm an cdv ct), osl⟩)
    (c : PySem.W.codeIn K cdv qual = true) (k : PySem.W.keepIn K (.ref f) = true) : FunD K x qual params body scope [] [] f (PySem.W.fnOf x qual params body scope .none kV doc pm an cdv ct) :=
  ⟨⟨oc, od, .none, kV, doc, pm, an, cdv, ct, osl, rfl, l, c, .inl ⟨rfl, rfl⟩, .inl rfl⟩, k⟩
/-- a value of the part is this data -/
def isD (K : PySem.W.Frag) : Nat → Value → D → Bool
  | _, .none, .non => true
  | _, .bool b, .bl c => decide (b = c)
  | _, .int i _, .int j => decide (i = j)
  | _, .str y _, .str z => decide (y = z)
  | n + 1, .ref a, .tup ds => match K.lookup a with
    | some ⟨.type t, _, .seq its _, _⟩ => decide (t = "tuple") && (decide (its.size ≤ 1000) && (decide (its.size = ds.length) && (its.toList.zip ds).all fun p => isD K n p.1 p.2))
    | _ => false
  | _, _, _ => false
theorem isD_list {K : PySem.W.Frag} {n : Nat} (ih : ∀ {u : Value} {d : D}, isD K n u d = true → ∃ v, RelV v u ∧ ∀ (x : SX) (G : Hp) (io : List Addr), x.K = K → Rp x G io d v) :
    ∀ {us : List Value} {ds : List D}, us.length = ds.length → ((us.zip ds).all fun p => isD K n p.1 p.2) = true → ∃ vs, Vals vs us ∧ ∀ (x : SX) (G : Hp) (io : List Addr), x.K = K → RpL x G io ds vs
  | [], [], _, _ => ⟨[], .nil, fun _ _ _ _ => rfl⟩
  | [], _ :: _, h, _ => by cases h
  | _ :: _, [], h, _ => by cases h
  | u :: us, d :: ds, h, q => by
    rw [List.zip_cons_cons, List.all_cons, Bool.and_eq_true] at q
    obtain ⟨v, e1, e2⟩ := ih q.1
    obtain ⟨vs, e3, e4⟩ := isD_list ih (Nat.succ.inj h) q.2
    exact ⟨v :: vs, .cons e1 e3, fun x G io hx => .cons (e2 x G io hx) (e4 x G io hx)⟩
theorem isD_ok {K : PySem.W.Frag} : ∀ (n : Nat) {u : Value} {d : D}, isD K n u d = true → ∃ v, RelV v u ∧ ∀ (x : SX) (G : Hp) (io : List Addr), x.K = K → Rp x G io d v := by
  intro n
  induction n with
  | zero =>
    intro u d h
    unfold isD at h
    split at h
    · exact ⟨.non, rfl, fun _ _ _ _ => rfl⟩
    · exact ⟨.bl _, rfl, fun _ _ _ _ => congrArg V.bl (of_decide_eq_true h)⟩
    · exact ⟨.int _, ⟨_, rfl⟩, fun _ _ _ _ => congrArg V.int (of_decide_eq_true h)⟩
    · exact ⟨.str _, ⟨_, rfl⟩, fun _ _ _ _ => congrArg V.str (of_decide_eq_true h)⟩
    · rename_i a0 b0 n0 ds0 h0; cases h0
    · cases h
  | succ n ih =>
    intro u d h
    unfold isD at h
    split at h
    · exact ⟨.non, rfl, fun _ _ _ _ => rfl⟩
    · exact ⟨.bl _, rfl, fun _ _ _ _ => congrArg V.bl (of_decide_eq_true h)⟩
    · exact ⟨.int _, ⟨_, rfl⟩, fun _ _ _ _ => congrArg V.int (of_decide_eq_true h)⟩
    · exact ⟨.str _, ⟨_, rfl⟩, fun _ _ _ _ => congrArg V.str (of_decide_eq_true h)⟩
    · rename_i a ds hn
      cases hn
      split at h
      · rename_i t od its k sl hl
        simp only [Bool.and_eq_true, decide_eq_true_eq] at h
        obtain ⟨rfl, h2, h3, h4⟩ := h
        obtain ⟨vs, e1, e2⟩ := isD_list ih (by rw [Array.length_toList]; exact h3) h4
        exact ⟨.ref a, rfl, fun x G io hx => ⟨a, vs, rfl, .inr ⟨_, its, k, by rw [hx]; exact hl, rfl, rfl, by unfold sizeLine; omega, e1⟩, e2 x G io hx⟩⟩
      · cases h
    · cases h
def dvChk (K : PySem.W.Frag) (dV : Value) (dD : List D) : Bool := match dD, dV with
  | [], .none => true
  | d :: ds, .ref T => match K.lookup T with
    | some ⟨_, _, .seq its _, _⟩ => decide (its.toList.length = (d :: ds).length) && (its.toList.zip (d :: ds)).all fun p => isD K 3 p.1 p.2
    | _ => false
  | _, _ => false
def kvOne (K : PySem.W.Frag) (D0 : Addr) (p : Str × D) : Bool := match PySem.W.nsIn K D0 p.1 with
  | some (some u) => isD K 3 u p.2
  | _ => false
def kvChk (K : PySem.W.Frag) (kV : Value) (names : List Str) (mD : List D) : Bool := match names, kV with
  | [], _ => true
  | m :: ms, .ref D0 => ((m :: ms).zip mD).all (kvOne K D0)
  | _, _ => false
theorem kv_list {K : PySem.W.Frag} {D0 : Addr} : ∀ {names : List Str} {mD : List D}, names.length = mD.length → ((names.zip mD).all (kvOne K D0)) = true →
    ∃ mvs : List V, mvs.length = names.length ∧ (∀ q ∈ names.zip mvs, ∃ u, PySem.W.nsIn K D0 q.1 = some (some u) ∧ RelV q.2 u) ∧ ∀ (x : SX) (G : Hp) (io : List Addr), x.K = K → RpL x G io mD mvs
  | [], [], _, _ => ⟨[], rfl, fun q h => (by cases h), fun _ _ _ _ => rfl⟩
  | [], _ :: _, h, _ => by cases h
  | _ :: _, [], h, _ => by cases h
  | m :: ms, d :: ds, h, q => by
    rw [List.zip_cons_cons, List.all_cons, Bool.and_eq_true] at q
    obtain ⟨mvs, e1, e2, e3⟩ := kv_list (Nat.succ.inj h) q.2
    have q1 := q.1
    unfold kvOne at q1
    split at q1
    · rename_i u hu
      obtain ⟨v, r1, r2⟩ := isD_ok 3 q1
      refine ⟨v :: mvs, congrArg Nat.succ e1, fun p hp => ?_, fun x G io hx => .cons (r2 x G io hx) (e3 x G io hx)⟩
      rcases List.mem_cons.mp (show p ∈ (m, v) :: ms.zip mvs from hp) with rfl | hp
      · exact ⟨u, hu, r1⟩
      · exact e2 p hp
    · cases q1
/-- a def with its defaults -/
theorem fund_g {oc : Value} {od an : Option Addr} {osl : Array (Option Value)} {dV kV doc pm cdv ct : Value} {dD mD : List D} {names : List Str} (l : K.lookup f = some ⟨oc, od, .func (PySem.W.fnOf x qual params body scope dV kV doc pm an cdv ct), osl⟩)
    (c : PySem.W.codeIn K cdv qual = true) (k : PySem.W.keepIn K (.ref f) = true) (q1 : dvChk K dV dD = true) (q2 : kvChk K kV names mD = true) (hl : names.length = mD.length := by rfl) :
    ∃ (dvs mvs : List V), FunD K x qual params body scope dvs (names.zip mvs) f (PySem.W.fnOf x qual params body scope dV kV doc pm an cdv ct) ∧ dvs.length = dD.length ∧ mvs.length = names.length ∧
      ∀ (x : SX) (G : Hp) (io : List Addr), x.K = K → RpL x G io dD dvs ∧ RpL x G io mD mvs := by
  obtain ⟨dvs, e1, e2, e3⟩ : ∃ dvs, DflV K dV dvs ∧ dvs.length = dD.length ∧ ∀ (x : SX) (G : Hp) (io : List Addr), x.K = K → RpL x G io dD dvs := by
    unfold dvChk at q1
    split at q1
    · exact ⟨[], .inl ⟨rfl, rfl⟩, rfl, fun _ _ _ _ => RpL.nil⟩
    · rename_i d ds T
      split at q1
      · rename_i c0 d0 its n0 s0 hT
        rw [Bool.and_eq_true] at q1
        have hl2 := of_decide_eq_true q1.1
        obtain ⟨vs, r1, r2⟩ := isD_list (fun h => isD_ok 3 h) hl2 q1.2
        have hlv : vs.length = (d :: ds).length := r1.length.trans hl2
        exact ⟨vs, .inr ⟨(fun z => by rw [z] at hlv; cases hlv), T, _, its.toList, n0, rfl, hT, rfl, r1⟩, hlv, r2⟩
      · cases q1
    · cases q1
  obtain ⟨mvs, e4, e5, e6⟩ : ∃ mvs, KwdV K kV (names.zip mvs) ∧ mvs.length = names.length ∧ ∀ (x : SX) (G : Hp) (io : List Addr), x.K = K → RpL x G io mD mvs := by
    unfold kvChk at q2
    split at q2
    · refine ⟨[], .inl rfl, rfl, fun _ _ _ _ => ?_⟩
      cases mD with
      | nil => rfl
      | cons _ _ => cases hl
    · rename_i m ms D0
      obtain ⟨mvs, r1, r2, r3⟩ := kv_list hl q2
      exact ⟨mvs, .inr ⟨D0, rfl, r2⟩, r1, r3⟩
    · cases q2
  exact ⟨dvs, mvs, ⟨⟨oc, od, dV, kV, doc, pm, an, cdv, ct, osl, rfl, l, c, e1, e4⟩, k⟩, e2, e5, fun x G io hx => ⟨e3 x G io hx, e6 x G io hx⟩⟩
theorem kbn_0 {n : Nat} {ks ps : List Str} {L : List Src} (F : FunD K x qual params body scope [] [] f fd)
    (h : ∀ (kV doc pm : Value) (an : Option Addr) (cdv ct : Value) (us ws : List Value), us.length = n → ws.length = ks.length →
      bindArgs (PySem.W.fnOf x qual params body scope .none kV doc pm an cdv ct) ⟨us, ks.zip ws⟩ = pure (ps.zip (lay .none L us ws [] []))) :
    KBn K fd ps n ks (fun us ws => lay .none L us ws [] []) (fun vs zs => lay .non L vs zs [] []) := by
  obtain ⟨oc, od, dV, kV, doc, pm, an, cdv, ct, osl, rfl, lk, hcd, hD, hK⟩ := F.ex
  rcases hD with ⟨_, rfl⟩ | ⟨e, _⟩
  · exact ⟨fun s us ws X l1 l2 => .of_eq (h kV doc pm an cdv ct us ws l1 l2), fun r1 r2 => lay_vals r1 r2 .nil .nil L⟩
  · exact absurd rfl e
theorem kbn_d {n : Nat} {ks ps : List Str} {L : List Src} {dvs : List V} (F : FunD K x qual params body scope dvs [] f fd) (hne : dvs ≠ [])
    (h : ∀ (T : Addr) (kV doc pm : Value) (an : Option Addr) (cdv ct : Value) (us its ws : List Value), us.length = n → its.length = dvs.length → ws.length = ks.length →
      ∃ k, bindArgs (PySem.W.fnOf x qual params body scope (.ref T) kV doc pm an cdv ct) ⟨us, ks.zip ws⟩ = seqItems? (.ref T) >>= k ∧ k (some its.toArray) = pure (ps.zip (lay .none L us ws its []))) :
    ∃ its : List Value, KBn K fd ps n ks (fun us ws => lay .none L us ws its []) (fun vs zs => lay .non L vs zs dvs []) := by
  obtain ⟨oc, od, dV, kV, doc, pm, an, cdv, ct, osl, rfl, lk, hcd, hD, hK⟩ := F.ex
  rcases hD with ⟨e, _⟩ | ⟨_, T, o, its, m, rfl, lT, oT, rT⟩
  · exact absurd e hne
  · refine ⟨its, ⟨fun s us ws X l1 l2 => ?_, fun r1 r2 => lay_vals r1 r2 rT .nil L⟩⟩
    obtain ⟨k, e1, e2⟩ := h T kV doc pm an cdv ct us its ws l1 rT.length.symm l2
    refine BindsTo.of_looks fun M => ?_
    rw [e1]
    exact looks_items X lT oT (.of_pure e2)
def selJ {α : Type} (e : α) (J : List Nat) (l : List α) : List α := J.map (l.getD · e)
theorem zip_sel {names : List Str} {mvs : List V} (hl : mvs.length = names.length) : ∀ {J : List Nat}, (∀ j ∈ J, j < names.length) → ∃ ms : List (Str × V), ms.map (·.1) = selJ (Str.empty) J names ∧ ms.map (·.2) = selJ .non J mvs ∧ (∀ q ∈ ms, q ∈ names.zip mvs) ∧ ms.length = J.length
  | [], _ => ⟨[], rfl, rfl, fun q h => (by cases h), rfl⟩
  | j :: J, h => by
    obtain ⟨ms, e1, e2, e3, e4⟩ := zip_sel hl (J := J) fun i hi => h i (List.mem_cons_of_mem _ hi)
    have hj := h j (List.mem_cons_self ..)
    refine ⟨(names[j], mvs[j]) :: ms, ?_, ?_, fun q hq => ?_, congrArg Nat.succ e4⟩
    · rw [List.map_cons, e1]
      unfold selJ
      rw [List.map_cons, List.getD_eq_getElem?_getD, List.getElem?_eq_getElem hj]
      rfl
    · rw [List.map_cons, e2]
      unfold selJ
      rw [List.map_cons, List.getD_eq_getElem?_getD, List.getElem?_eq_getElem (show j < mvs.length by omega)]
      rfl
    · rcases List.mem_cons.mp hq with rfl | hq
      · refine List.mem_iff_getElem.mpr ⟨j, by rw [List.length_zip]; omega, ?_⟩
        rw [List.getElem_zip]
      · exact e3 q hq
theorem kbn_w {n : Nat} {ks ps names : List Str} {mvs : List V} {L : List Src} (J : List Nat) (F : FunD K x qual params body scope [] (names.zip mvs) f fd) (hl : mvs.length = names.length) (hne : names ≠ []) (hJ : (J.all fun j => decide (j < names.length)) = true)
    (h : ∀ (D0 : Addr) (doc pm : Value) (an : Option Addr) (cdv ct : Value) (us mv ws : List Value), us.length = n → mv.length = J.length → ws.length = ks.length →
      KwChain D0 ((selJ (Str.empty) J names).zip mv) (bindArgs (PySem.W.fnOf x qual params body scope .none (.ref D0) doc pm an cdv ct) ⟨us, ks.zip ws⟩) (ps.zip (lay .none L us ws [] mv))) :
    ∃ mv : List Value, KBn K fd ps n ks (fun us ws => lay .none L us ws [] mv) (fun vs zs => lay .non L vs zs [] (selJ .non J mvs)) := by
  obtain ⟨ms, e1, e2, e3, e4⟩ := zip_sel hl fun j hj => of_decide_eq_true (List.all_eq_true.mp hJ j hj)
  obtain ⟨oc, od, dV, kV, doc, pm, an, cdv, ct, osl, rfl, lk, hcd, hD, hK⟩ := F.ex
  rcases hD with ⟨_, rfl⟩ | ⟨e, _⟩
  · rcases hK with e | ⟨D0, rfl, hq⟩
    · cases names with
      | nil => exact absurd rfl hne
      | cons m l => cases mvs with
        | nil => cases hl
        | cons _ _ => cases e
    · obtain ⟨mv, hlm, rk, hks⟩ := kwd_vals (ms := ms) fun q hm => hq q (e3 q hm)
      rw [e1] at hks
      rw [e2] at rk
      refine ⟨mv, ⟨fun s us ws X l1 l2 => BindsTo.of_looks fun M => KwChain.looks X hks (h D0 doc pm an cdv ct us mv ws l1 (hlm.trans e4) l2), fun r1 r2 => lay_vals r1 r2 .nil rk L⟩⟩
  · exact absurd rfl e
theorem kbn_b {n : Nat} {ks ps names : List Str} {dvs mvs : List V} {L : List Src} (J : List Nat) (F : FunD K x qual params body scope dvs (names.zip mvs) f fd) (hd : dvs ≠ []) (hl : mvs.length = names.length) (hne : names ≠ []) (hJ : (J.all fun j => decide (j < names.length)) = true)
    (h : ∀ (T D0 : Addr) (doc pm : Value) (an : Option Addr) (cdv ct : Value) (us its mv ws : List Value), us.length = n → its.length = dvs.length → mv.length = J.length → ws.length = ks.length →
      ∃ k, bindArgs (PySem.W.fnOf x qual params body scope (.ref T) (.ref D0) doc pm an cdv ct) ⟨us, ks.zip ws⟩ = seqItems? (.ref T) >>= k ∧ KwChain D0 ((selJ (Str.empty) J names).zip mv) (k (some its.toArray)) (ps.zip (lay .none L us ws its mv))) :
    ∃ its mv : List Value, KBn K fd ps n ks (fun us ws => lay .none L us ws its mv) (fun vs zs => lay .non L vs zs dvs (selJ .non J mvs)) := by
  obtain ⟨ms, e1, e2, e3, e4⟩ := zip_sel hl fun j hj => of_decide_eq_true (List.all_eq_true.mp hJ j hj)
  obtain ⟨oc, od, dV, kV, doc, pm, an, cdv, ct, osl, rfl, lk, hcd, hD, hK⟩ := F.ex
  rcases hD with ⟨e, _⟩ | ⟨_, T, o, its, m, rfl, lT, oT, rT⟩
  · exact absurd e hd
  · rcases hK with e | ⟨D0, rfl, hq⟩
    · cases names with
      | nil => exact absurd rfl hne
      | cons m l => cases mvs with
        | nil => cases hl
        | cons _ _ => cases e
    · obtain ⟨mv, hlm, rk, hks⟩ := kwd_vals (ms := ms) fun q hm => hq q (e3 q hm)
      rw [e1] at hks
      rw [e2] at rk
      refine ⟨its, mv, ⟨fun s us ws X l1 l2 => ?_, fun r1 r2 => lay_vals r1 r2 rT rk L⟩⟩
      obtain ⟨k, f1, f2⟩ := h T D0 doc pm an cdv ct us its mv ws l1 rT.length.symm (hlm.trans e4) l2
      refine BindsTo.of_looks fun M => ?_
      rw [f1]
      exact looks_items X lT oT (KwChain.looks X hks f2)
end
section
variable {x : SX} {G : Hp} {io : List Addr}
theorem rpl_getD {ds : List D} {vs : List V} (r : RpL x G io ds vs) (i : Nat) : Rp x G io (ds.getD i .non) (vs.getD i .non) := by
  by_cases hi : i < ds.length
  · obtain ⟨v, e, q⟩ := r.get (List.getElem?_eq_getElem hi)
    rw [List.getD_eq_getElem?_getD, List.getD_eq_getElem?_getD, e, List.getElem?_eq_getElem hi]
    exact q
  · rw [List.getD_eq_getElem?_getD, List.getD_eq_getElem?_getD, List.getElem?_eq_none (by omega), List.getElem?_eq_none (by rw [r.length]; omega)]
    exact rfl
theorem rpl_sel {ds : List D} {vs : List V} (r : RpL x G io ds vs) : ∀ J : List Nat, RpL x G io (selJ .non J ds) (selJ .non J vs)
  | [] => .nil
  | j :: J => .cons (rpl_getD r j) (rpl_sel r J)
theorem lay_rp0 {ds es dD mD : List D} {vs zs dV mV : List V} (r1 : RpL x G io ds vs) (r2 : RpL x G io es zs) (r3 : RpL x G io dD dV) (r4 : RpL x G io mD mV) : ∀ L : List Src, RpL x G io (lay .non L ds es dD mD) (lay .non L vs zs dV mV)
  | [] => .nil
  | s :: L => by
    refine .cons ?_ (lay_rp0 r1 r2 r3 r4 L)
    cases s with
    | p i => exact rpl_getD r1 i
    | k i => exact rpl_getD r2 i
    | d i => exact rpl_getD r3 i
    | w i => exact rpl_getD r4 i
theorem lay_ns {d d' : D} {ds es dD mD : List D} : ∀ {L : List Src}, L.all Src.ns = true → lay .non L (d :: ds) es dD mD = lay .non L (d' :: ds) es dD mD
  | [], _ => rfl
  | s :: L, h => by
    rw [List.all_cons, Bool.and_eq_true] at h
    show _ :: lay _ _ _ _ _ _ = _ :: lay _ _ _ _ _ _
    rw [lay_ns (d' := d') h.2]
    refine congrArg (· :: _) ?_
    cases s with
    | p i =>
      cases i with
      | zero => cases h.1
      | succ i => rfl
    | _ => rfl
theorem lay_rp {L : List Src} {n : Nat} {ds es dD mD : List D} {vs zs dV mV : List V} (l1 : vs.length = n) (r1 : RpL x G io ds vs) (r2 : RpL x G io es zs) (r3 : RpL x G io dD dV) (r4 : RpL x G io mD mV) :
    RpL x G io (gdF n L dD mD (ds ++ es)) (lay .non L vs zs dV mV) := by
  have e : ds.length = n := by rw [← r1.length]; exact l1
  unfold gdF
  rw [List.take_append_of_le_length (by omega), List.take_of_length_le (by omega), List.drop_append_of_le_length (by omega), List.drop_of_length_le (by omega), List.nil_append]
  exact lay_rp0 r1 r2 r3 r4 L
theorem layM_rp {L : List Src} {n : Nat} {d : D} {v : V} {ds es dD mD : List D} {vs zs dV mV : List V} (l1 : vs.length = n) (r0 : Rp x G io d v) (r1 : RpL x G io ds vs) (r2 : RpL x G io es zs) (r3 : RpL x G io dD dV) (r4 : RpL x G io mD mV) (hL : L.all Src.ns = true := by rfl) :
    RpL x G io (d :: gdM (n + 1) (.p 0 :: L) dD mD (ds ++ es)) (lay .non (.p 0 :: L) (v :: vs) zs dV mV) := by
  have e : ds.length = n := by rw [← r1.length]; exact l1
  have e2 : gdM (n + 1) (.p 0 :: L) dD mD (ds ++ es) = lay .non L (.non :: ds) es dD mD := by
    unfold gdM
    rw [Nat.add_sub_cancel, List.take_append_of_le_length (by omega), List.take_of_length_le (by omega), List.drop_append_of_le_length (by omega), List.drop_of_length_le (by omega), List.nil_append]
    rfl
  rw [e2, lay_ns (d' := d) hL]
  exact lay_rp0 (RpL.cons r0 r1) r2 r3 r4 (.p 0 :: L)
end
/-! ### questions to the part of the heap -/
section
variable {K : PySem.W.Frag}
def clChk (K : PySem.W.Frag) (C : Addr) : Bool := PySem.W.plainGet K C Str.empty && (PySem.W.hasDictIn K C && (PySem.W.plainOver K C && (He.eqO (PySem.W.findIn K (.ref C) "__setattr__") (some (some (.builtin "object.__setattr__"))) &&
  (He.eqO (PySem.W.findIn K (.ref C) "__class__") (some (some (.builtin "object.__class__"))) && (decide (PySem.W.mroIn K C (.type "object") = some true) && (He.eqO (PySem.W.findIn K (.ref C) "__ne__") (some (some (.builtin "object.__ne__"))) &&
    tyNames.all fun n => decide (PySem.W.kitOne K (.type n) (.ref C) = some false) && decide (PySem.W.kitOne K (.ref C) (.type n) = some false)))))))
theorem clChk_of {C : Addr} (h : clChk K C = true) : ClF K C := by
  unfold clChk at h
  simp only [Bool.and_eq_true] at h
  obtain ⟨h1, h2, h3, h4, h5, h6, h7, h8⟩ := h
  refine ⟨⟨h1, h2, h3, He.eqO_ok h4⟩, He.eqO_ok h5, of_decide_eq_true h6, He.eqO_ok h7, fun n hn => ?_⟩
  have := List.all_eq_true.mp h8 n hn
  rw [Bool.and_eq_true] at this
  exact ⟨of_decide_eq_true this.1, of_decide_eq_true this.2⟩
def ccChk (K : PySem.W.Frag) (C D : Addr) (b : Bool) : Bool := decide (PySem.W.kitOne K (.ref C) (.ref D) = some b)
theorem ccChk_of {C D : Addr} {b : Bool} (h : ccChk K C D b = true) : PySem.W.kitOne K (.ref C) (.ref D) = some b := of_decide_eq_true h
def obChk (K : PySem.W.Frag) : Bool := He.eqO (PySem.W.specialIn K (.builtin "object.__class__") "__get__") (some (some (.builtin "getset_descriptor.__get__"))) && decide (PySem.W.takesIn K (.builtin "object.__class__") = some true)
theorem obChk_of (h : obChk K = true) : PySem.W.specialIn K (.builtin "object.__class__") "__get__" = some (some (.builtin "getset_descriptor.__get__")) ∧ PySem.W.takesIn K (.builtin "object.__class__") = some true := by
  unfold obChk at h
  rw [Bool.and_eq_true] at h
  exact ⟨He.eqO_ok h.1, of_decide_eq_true h.2⟩
def naChk (K : PySem.W.Frag) (C : Addr) (f : Str) : Bool := He.eqO (PySem.W.findIn K (.ref C) f) (some none)
theorem naChk_of {C : Addr} {f : Str} (h : naChk K C f = true) : NoAttr K C f := He.eqO_ok h
def mkChk (K : PySem.W.Frag) (C f : Addr) : Bool := PySem.W.makesIn K C && (He.eqO (PySem.W.findIn K (.ref C) "__init__") (some (some (.ref f))) && (PySem.W.isFn K (.ref f) && PySem.W.keepIn K (.ref C)))
theorem mkChk_of {C f : Addr} (h : mkChk K C f = true) : Mk K C f := by
  unfold mkChk at h
  simp only [Bool.and_eq_true] at h
  exact ⟨h.1, He.eqO_ok h.2.1, h.2.2.1, h.2.2.2⟩
def meChk (K : PySem.W.Frag) (C : Addr) (m : Str) (f : Addr) : Bool := He.eqO (PySem.W.findIn K (.ref C) m) (some (some (.ref f))) && (PySem.W.isFn K (.ref f) && PySem.W.keepIn K (.ref f))
theorem meChk_of {C : Addr} {m : Str} {f : Addr} (h : meChk K C m f = true) : Meth K C m f := by
  unfold meChk at h
  simp only [Bool.and_eq_true] at h
  exact ⟨He.eqO_ok h.1, h.2.1, h.2.2⟩
end
/-- the table of a law: its own def, the given ones that stand -/
def CdOf (S : Nat → Option Ent) (live : List Nat) (lw : Ent) (f : Nat) : Option Ent := if f = 299 then some lw else if f ∈ live then S f else none
def goneOf (live : List Nat) (f : Nat) : Bool := decide (f ≠ 299 ∧ f ∉ live)
theorem gone_ok {S : Nat → Option Ent} {live : List Nat} {lw : Ent} {i : Nat} (h : goneOf live i = true) : CdOf S live lw i = none := by
  have h := of_decide_eq_true h
  unfold CdOf
  rw [if_neg h.1, if_neg h.2]
/-- the table has these defs -/
def TabS (S Cd : Nat → Option Ent) (l : List Nat) : Prop := ∀ f ∈ l, Cd f = S f
theorem TabS.sub {S Cd : Nat → Option Ent} {l l' : List Nat} (T : TabS S Cd l) (h : (l'.all fun f => decide (f ∈ l)) = true) : TabS S Cd l' := fun f hf => T f (of_decide_eq_true (List.all_eq_true.mp h f hf))
theorem TabS.of {S : Nat → Option Ent} {live l : List Nat} {lw : Ent} (h : (l.all fun f => decide (f ≠ 299 ∧ f ∈ live)) = true) : TabS S (CdOf S live lw) l := fun f hf => by
  have q := of_decide_eq_true (List.all_eq_true.mp h f hf)
  unfold CdOf
  rw [if_neg q.1, if_pos q.2]
theorem mem_lookP {α β : Type} [BEq α] [LawfulBEq α] {k : α} {z : β} : ∀ {l : List (α × β)}, l.lookup k = some z → (k, z) ∈ l
  | [], h => by cases h
  | (a, b) :: l, h => by
    rw [List.lookup_cons] at h
    split at h
    · rename_i hk
      cases h
      rw [beq_iff_eq.mp hk]
      exact List.mem_cons_self ..
    · exact List.mem_cons_of_mem _ (mem_lookP h)
end En

namespace En
open PySem PySem.Spec L2
/-! ### evaluation by rewriting: the way on has a name, it is opened when its value stands -/
section
variable (P : Nat → List D → List MO → Option (Out × List MO)) (Gm : Nat → D)
def varR (o : Option (Option Cell)) (s : S) : Res := match o with
  | some (some (.val d)) => some (.val d, s)
  | _ => none
def mvR (i : Nat) (o : Option (Option Cell)) (s : S) : Res := match o with
  | some (some (.ol ds)) => some (.fr (.bx ds), s.set i none)
  | _ => none
def fzR (i : Nat) (o : Option (Option Cell)) (s : S) : Res := match o with
  | some (some (.ol ds)) => some (.val (.lst ds), s.set i (some (.val (.lst ds))))
  | some (some (.val d)) => some (.val d, s)
  | _ => none
def iteO {α : Type} (c : Bool) (a b : α) : α := match c with
  | true => a
  | false => b
def kBop1 (o : Bop) (b : E) (x : D) (s : S) : Res := bnd (ev P Gm b s) fun y s => bopF o x y s
def kBop2 (o : Bop) (x y : D) (s : S) : Res := bopF o x y s
def kNeg (x : D) (s : S) : Res := match x with
  | .int i => some (.val (.int (-i)), s)
  | _ => none
def kNt (x : D) (s : S) : Res := match x with
  | .bl b => some (.val (.bl (!b)), s)
  | _ => none
def kBand (b : E) (x : D) (s : S) : Res := match x with
  | .bl c => if c then ev P Gm b s else some (.val (.bl false), s)
  | _ => none
def kBor (b : E) (x : D) (s : S) : Res := match x with
  | .bl c => if c then some (.val (.bl true), s) else ev P Gm b s
  | _ => none
def kIte (a b : E) (x : D) (s : S) : Res := match x with
  | .bl c => if c then ev P Gm a s else ev P Gm b s
  | _ => none
def kCmp2 (o : Cop) (x y : D) (s : S) : Res := resB s (cmpF o x y s)
def kCmp1 (o : Cop) (b : E) (x : D) (s : S) : Res := bnd (ev P Gm b s) (kCmp2 o x)
def kChn4 (p : Cop) (y z : D) (s : S) : Res := resB s (cmpF p y z s)
def chnR (p : Cop) (c : E) (y : D) (s : S) (q : Option Bool) : Res := match q with
  | some true => bnd (ev P Gm c s) (kChn4 p y)
  | some false => some (.val (.bl false), s)
  | none => none
def kChn2 (o p : Cop) (c : E) (x y : D) (s : S) : Res := chnR P Gm p c y s (cmpF o x y s)
def kChn1 (o p : Cop) (b c : E) (x : D) (s : S) : Res := bnd (ev P Gm b s) (kChn2 P Gm o p c x)
def kIsn (x : D) (s : S) : Res := match x with
  | .non => some (.val (.bl true), s)
  | _ => some (.val (.bl false), s)
def kNin (x : D) (s : S) : Res := match x with
  | .non => some (.val (.bl false), s)
  | _ => some (.val (.bl true), s)
def kIx2 (x y : D) (s : S) : Res := resD s (ixF x y s)
def kIx1 (b : E) (x : D) (s : S) : Res := bnd (ev P Gm b s) (kIx2 x)
def kPrt (k : Option Int → S → Res) (d : D) (s : S) : Res := match d with
  | .int i => k (some i) s
  | _ => none
def kSl3 (x : D) (l h : Option Int) (s : S) : Res := slF x l h s
def kSl2 (hi : E) (x : D) (l : Option Int) (s : S) : Res := prt (isAbs hi) (ev P Gm hi s) s (kSl3 x l)
def kSl1 (lo hi : E) (x : D) (s : S) : Res := prt (isAbs lo) (ev P Gm lo s) s (kSl2 P Gm hi x)
def callR (o : Option (Out × List MO)) (s : S) : Res := match o with
  | some (.val d, m) => some (.val d, { s with m := m })
  | some (.fr o, m) => some (.fr o, { s with m := m })
  | some (.exc c ns es, m) => some (.exc c ns es, { s with m := m })
  | _ => none
def kCal (f : Nat) (ds : List D) (s : S) : Res := callR (P f ds s.m) s
def kCalk2 (f n m : Nat) (ds es : List D) (s : S) : Res := if ds.length = n ∧ es.length = m then callR (P f (ds ++ es) s.m) s else none
def kCalk1 (f n m : Nat) (ks : E) (ds : List D) (s : S) : Res := bndA (ev P Gm ks s) (kCalk2 P f n m ds)
def kBi (b : Bi) (ds : List D) (s : S) : Res := biF b ds s
def kBm2 (m : Bm) (x : D) (ds : List D) (s : S) : Res := bmF m x ds s
def kBm1 (m : Bm) (as : E) (x : D) (s : S) : Res := if bmR m x s then bndA (ev P Gm as s) (kBm2 m x) else none
def kSpl2 (ds : List D) (es : List D) (s : S) : Res := some (.vals (ds ++ es), s)
def splR (b : E) (s : S) (o : Option (List D)) : Res := match o with
  | some ds => bndA (ev P Gm b s) (kSpl2 ds)
  | none => none
def kSpl1 (b : E) (x : D) (s : S) : Res := splR P Gm b s (viewQ s x)
def revR (s : S) (o : Option (List D)) : Res := match o with
  | some ds => some (.fr (.bx ds.reverse), s)
  | none => none
def kRev (x : D) (s : S) : Res := revR s (viewL s x)
def kLst (ds : List D) (s : S) : Res := if ds.length ≤ big then some (.fr (.bx ds), s) else none
def kTpl (ds : List D) (s : S) : Res := if ds.length ≤ big then some (.val (.tup ds), s) else none
def kIsi (ts : List Ty) (x : D) (s : S) : Res := resB s (tyAny (s.v x) ts)
def kCns2 (d : D) (ds : List D) (s : S) : Res := some (.vals (d :: ds), s)
def kCns1 (b : E) (d : D) (s : S) : Res := bndA (ev P Gm b s) (kCns2 d)
def itR (o : Option (List D)) (s : S) : Res := match o with
  | some ds => some (.vals ds, s)
  | none => none
def kIt (x : D) (s : S) : Res := itR (itF x s) s
def kRng (x : D) (s : S) : Res := match x with
  | .int j => if -(2 ^ 62) ≤ j ∧ j < 2 ^ 62 then some (.vals ((List.range j.toNat).map fun (k : Nat) => .int k), s) else none
  | _ => none
def kRng2b (x y : D) (s : S) : Res := match x, y with
  | .int i, .int j => if -(2 ^ 62) ≤ i ∧ i < 2 ^ 62 ∧ -(2 ^ 62) ≤ j ∧ j < 2 ^ 62 then some (.vals ((List.range (j - i).toNat).map fun (k : Nat) => .int (i + k)), s) else none
  | _, _ => none
def kRng2a (b : E) (x : D) (s : S) : Res := bnd (ev P Gm b s) (kRng2b x)
def enmR (o : Option (List D)) (s : S) : Res := match o with
  | some ds => some (.vals (enumF 0 ds), s)
  | none => none
def kEnm (x : D) (s : S) : Res := enmR (lstOf x) s
def kZp2 (x y : D) (s : S) : Res := itR (zipOf x y) s
def kZp1 (b : E) (x : D) (s : S) : Res := bnd (ev P Gm b s) (kZp2 x)
def lcR (s : S) (o : Res) : Res := match o with
  | some (.fr (.bx acc), s') => some (.fr (.bx acc), { s with m := s'.m })
  | _ => none
def kLc (own : List Nat) (tg cd el : E) (ds : List D) (s : S) : Res := lcR s (compL (store tg) (ev P Gm cd) (ev P Gm el) (wipeR (valR s.r) own) ds [] s.m)
def seqR (b : E) (o : Res) : Res := match o with
  | some (.nx, s) => ev P Gm b s
  | r => r
def kAsg (i : Nat) (d : D) (s : S) : Res := some (.nx, s.set i (some (.val d)))
def nxR (o : Option S) : Res := match o with
  | some s => some (.nx, s)
  | none => none
def kAst (tg : E) (d : D) (s : S) : Res := nxR (store tg d s)
def asoR (i : Nat) (o : Res) : Res := match o with
  | some (.fr o, s) => asoK i o s
  | some (.exc c ns ds, s) => some (.exc c ns ds, s)
  | _ => none
def asbR (i : Nat) (o : Res) : Res := match o with
  | some (.fr o, s) => some (.nx, { r := s.r.set i (some (.val (.adr s.m.length))), m := s.m ++ [o] })
  | some (.exc c ns ds, s) => some (.exc c ns ds, s)
  | _ => none
def kPar2 (i j : Nat) (x y : D) (s : S) : Res := some (.nx, (s.set i (some (.val x))).set j (some (.val y)))
def kPar1 (i j : Nat) (b : E) (x : D) (s : S) : Res := bnd (ev P Gm b s) (kPar2 i j x)
def sitR2 (d : D) (n : Nat) (ds : List D) (o : Option Nat) (s : S) : Res := match o with
  | some j => some (.nx, { s with m := s.m.set n (.bx (ds.set j d)) })
  | none => none
def sitD2 (d : D) (n : Nat) (ks : List Key) (ds : List D) (o : Option Key) (s : S) : Res := match o with
  | some k => if ks.length < big then some (.nx, { s with m := s.m.set n (.dx (putL k d ks ds).1 (putL k d ks ds).2) }) else none
  | none => none
def sitB (d : D) (n : Nat) (ds : List D) (y : D) (s : S) : Res := match y with
  | .int i => sitR2 d n ds (ixN ds.length i) s
  | _ => none
def sitR (d : D) (n : Nat) (y : D) (o : Option MO) (s : S) : Res := match o with
  | some (.bx ds) => sitB d n ds y s
  | some (.dx ks ds) => sitD2 d n ks ds (keyD y) s
  | _ => none
def kSit3 (d x y : D) (s : S) : Res := match x with
  | .adr n => sitR d n y s.m[n]? s
  | _ => none
def kSit2 (k : E) (d x : D) (s : S) : Res := bnd (ev P Gm k s) (kSit3 d x)
def kSit1 (o k : E) (d : D) (s : S) : Res := bnd (ev P Gm o s) (kSit2 P Gm k d)
def retR (o : Res) : Res := match o with
  | some (.val d, s) => some (.rt d, s)
  | some (.fr o, s) => some (.rtf o, s)
  | some (.exc c ns ds, s) => some (.exc c ns ds, s)
  | _ => none
def kIff (a b : E) (x : D) (s : S) : Res := match x with
  | .bl c => if c then ev P Gm a s else ev P Gm b s
  | _ => none
def kFrr (tg b : E) (ds : List D) (s : S) : Res := forL (store tg) (ev P Gm b) ds s
def kExp (d : D) (s : S) : Res := some (.nx, s)
def apoR2 (i : Nat) (d : D) (o : Option (Option Cell)) (s : S) : Res := match o with
  | some (some (.ol ds)) => if ds.length < big then some (.nx, s.set i (some (.ol (ds ++ [d])))) else none
  | _ => none
def kApo (i : Nat) (d : D) (s : S) : Res := apoR2 i d s.r[i]? s
def apoR1 (i : Nat) (e : E) (o : Option (Option Cell)) (s : S) : Res := match o with
  | some (some (.ol _)) => bnd (ev P Gm e s) (kApo i)
  | _ => none
variable {P} {Gm}
variable {s : S} {a b c lo hi : E} {x y : D}
@[simp] theorem le_big {n : Nat} (h : n ≤ 16777216) : (n ≤ big) = True := eq_true h
@[simp] theorem lt_big {n : Nat} (h : n < 16777216) : (n < big) = True := eq_true h
@[simp] theorem bnd_val {d : D} {k : D → S → Res} : bnd (some (.val d, s)) k = k d s := rfl
@[simp] theorem bnd_frs {ds : List D} {k : D → S → Res} : bnd (some (.fr (.bx ds), s)) k = k (.lst ds) s := rfl
@[simp] theorem bnd_exc {c : Nat} {ns : List Nat} {ds : List D} {k : D → S → Res} : bnd (some (.exc c ns ds, s)) k = some (.exc c ns ds, s) := rfl
@[simp] theorem bndA_vals {ds : List D} {k : List D → S → Res} : bndA (some (.vals ds, s)) k = k ds s := rfl
@[simp] theorem bndA_exc {c : Nat} {ns : List Nat} {ds : List D} {k : List D → S → Res} : bndA (some (.exc c ns ds, s)) k = some (.exc c ns ds, s) := rfl
@[simp] theorem ev_var {i : Nat} : ev P Gm (.var i) s = varR s.r[i]? s := rfl
@[simp] theorem ev_mv {i : Nat} : ev P Gm (.mv i) s = mvR i s.r[i]? s := rfl
@[simp] theorem ev_fz {i : Nat} : ev P Gm (.fz i) s = fzR i s.r[i]? s := rfl
@[simp] theorem ev_cN : ev P Gm (.cst .non) s = some (.val .non, s) := rfl
@[simp] theorem ev_cB {b : Bool} : ev P Gm (.cst (.bl b)) s = some (.val (.bl b), s) := rfl
@[simp] theorem ev_cI {i : Int} : ev P Gm (.cst (.int i)) s = some (.val (.int i), s) := rfl
@[simp] theorem ev_cS {z : Str} : ev P Gm (.cst (.str z)) s = some (.val (.str z), s) := rfl
@[simp] theorem ev_gv {g : Nat} : ev P Gm (.gv g) s = some (.val (Gm g), s) := rfl
@[simp] theorem ev_one : ev P Gm (.one a) s = ev P Gm a s := rfl
@[simp] theorem ev_bop {o : Bop} : ev P Gm (.bop o a b) s = bnd (ev P Gm a s) (kBop1 P Gm o b) := rfl
@[simp] theorem kBop1_eq {o : Bop} : kBop1 P Gm o b x s = bnd (ev P Gm b s) (kBop2 o x) := rfl
@[simp] theorem kBop2_eq {o : Bop} : kBop2 o x y s = bopF o x y s := rfl
@[simp] theorem ev_neg : ev P Gm (.neg a) s = bnd (ev P Gm a s) kNeg := rfl
@[simp] theorem kNeg_eq {i : Int} : kNeg (.int i) s = some (.val (.int (-i)), s) := rfl
@[simp] theorem ev_nt : ev P Gm (.nt a) s = bnd (ev P Gm a s) kNt := rfl
@[simp] theorem kNt_eq {b : Bool} : kNt (.bl b) s = some (.val (.bl (!b)), s) := rfl
@[simp] theorem ev_band : ev P Gm (.band a b) s = bnd (ev P Gm a s) (kBand P Gm b) := rfl
@[simp] theorem kBand_t : kBand P Gm b (.bl true) s = ev P Gm b s := rfl
@[simp] theorem kBand_f : kBand P Gm b (.bl false) s = some (.val (.bl false), s) := rfl
@[simp] theorem ev_bor : ev P Gm (.bor a b) s = bnd (ev P Gm a s) (kBor P Gm b) := rfl
@[simp] theorem kBor_t : kBor P Gm b (.bl true) s = some (.val (.bl true), s) := rfl
@[simp] theorem kBor_f : kBor P Gm b (.bl false) s = ev P Gm b s := rfl
@[simp] theorem ev_ite : ev P Gm (.ite c a b) s = bnd (ev P Gm c s) (kIte P Gm a b) := rfl
@[simp] theorem kIte_t : kIte P Gm a b (.bl true) s = ev P Gm a s := rfl
@[simp] theorem kIte_f : kIte P Gm a b (.bl false) s = ev P Gm b s := rfl
@[simp] theorem ev_cmp {o : Cop} : ev P Gm (.cmp o a b) s = bnd (ev P Gm a s) (kCmp1 P Gm o b) := rfl
@[simp] theorem kCmp1_eq {o : Cop} : kCmp1 P Gm o b x s = bnd (ev P Gm b s) (kCmp2 o x) := rfl
@[simp] theorem kCmp2_eq {o : Cop} : kCmp2 o x y s = resB s (cmpF o x y s) := rfl
@[simp] theorem ev_chn {o p : Cop} : ev P Gm (.chn o p a b c) s = bnd (ev P Gm a s) (kChn1 P Gm o p b c) := rfl
@[simp] theorem kChn1_eq {o p : Cop} : kChn1 P Gm o p b c x s = bnd (ev P Gm b s) (kChn2 P Gm o p c x) := rfl
@[simp] theorem kChn2_eq {o p : Cop} : kChn2 P Gm o p c x y s = chnR P Gm p c y s (cmpF o x y s) := rfl
@[simp] theorem chnR_t {p : Cop} : chnR P Gm p c y s (some true) = bnd (ev P Gm c s) (kChn4 p y) := rfl
@[simp] theorem chnR_f {p : Cop} : chnR P Gm p c y s (some false) = some (.val (.bl false), s) := rfl
@[simp] theorem kChn4_eq {p : Cop} {z : D} : kChn4 p y z s = resB s (cmpF p y z s) := rfl
@[simp] theorem resB_eq {b : Bool} : resB s (some b) = some (.val (.bl b), s) := rfl
@[simp] theorem resD_eq {d : D} : resD s (some d) = some (.val d, s) := rfl
@[simp] theorem ev_isn : ev P Gm (.isn a) s = bnd (ev P Gm a s) kIsn := rfl
@[simp] theorem ev_nin : ev P Gm (.nin a) s = bnd (ev P Gm a s) kNin := rfl
@[simp] theorem ev_ix : ev P Gm (.ix a b) s = bnd (ev P Gm a s) (kIx1 P Gm b) := rfl
@[simp] theorem kIx1_eq : kIx1 P Gm b x s = bnd (ev P Gm b s) (kIx2 x) := rfl
@[simp] theorem kIx2_eq : kIx2 x y s = resD s (ixF x y s) := rfl
@[simp] theorem ev_sl : ev P Gm (.sl a lo hi) s = bnd (ev P Gm a s) (kSl1 P Gm lo hi) := rfl
@[simp] theorem kSl1_eq : kSl1 P Gm lo hi x s = prt (isAbs lo) (ev P Gm lo s) s (kSl2 P Gm hi x) := rfl
@[simp] theorem kSl2_eq {l : Option Int} : kSl2 P Gm hi x l s = prt (isAbs hi) (ev P Gm hi s) s (kSl3 x l) := rfl
@[simp] theorem kSl3_eq {l h : Option Int} : kSl3 x l h s = slF x l h s := rfl
@[simp] theorem prt_t {o : Res} {k : Option Int → S → Res} : prt true o s k = k none s := rfl
@[simp] theorem prt_f {o : Res} {k : Option Int → S → Res} : prt false o s k = bnd o (kPrt k) := rfl
@[simp] theorem kPrt_eq {k : Option Int → S → Res} {i : Int} : kPrt k (.int i) s = k (some i) s := rfl
@[simp] theorem isAbs_abs : isAbs .abs = true := rfl
@[simp] theorem isAbs_one : isAbs (.one a) = false := rfl
@[simp] theorem ev_cal {f : Nat} : ev P Gm (.cal f a) s = bndA (ev P Gm a s) (kCal P f) := rfl
@[simp] theorem kCal_eq {f : Nat} {ds : List D} : kCal P f ds s = callR (P f ds s.m) s := rfl
@[simp] theorem callR_val {d : D} {m : List MO} : callR (some (.val d, m)) s = some (.val d, ⟨s.r, m⟩) := rfl
@[simp] theorem callR_fr {o : MO} {m : List MO} : callR (some (.fr o, m)) s = some (.fr o, ⟨s.r, m⟩) := rfl
@[simp] theorem callR_exc {c : Nat} {ns : List Nat} {es : List D} {m : List MO} : callR (some (.exc c ns es, m)) s = some (.exc c ns es, ⟨s.r, m⟩) := rfl
@[simp] theorem ev_calk {f n m : Nat} : ev P Gm (.calk f n a m b) s = bndA (ev P Gm a s) (kCalk1 P Gm f n m b) := rfl
@[simp] theorem kCalk1_eq {f n m : Nat} {ds : List D} : kCalk1 P Gm f n m b ds s = bndA (ev P Gm b s) (kCalk2 P f n m ds) := rfl
@[simp] theorem kCalk2_eq {f n m : Nat} {ds es : List D} (h1 : ds.length = n) (h2 : es.length = m) : kCalk2 P f n m ds es s = callR (P f (ds ++ es) s.m) s := if_pos ⟨h1, h2⟩
@[simp] theorem ev_bi {k : Bi} : ev P Gm (.bi k a) s = bndA (ev P Gm a s) (kBi k) := rfl
@[simp] theorem kBi_eq {k : Bi} {ds : List D} : kBi k ds s = biF k ds s := rfl
@[simp] theorem ev_bm {k : Bm} : ev P Gm (.bm k a b) s = bnd (ev P Gm a s) (kBm1 P Gm k b) := rfl
@[simp] theorem kBm1_l {k : Bm} {ds : List D} (h : k ≠ .join) : kBm1 P Gm k b (.lst ds) s = bndA (ev P Gm b s) (kBm2 k (.lst ds)) := by
  cases k with
  | join => exact absurd rfl h
  | _ => rfl
@[simp] theorem kBm1_a {k : Bm} {n : Nat} {ds : List D} (h : k ≠ .join) (hm : s.m[n]? = some (.bx ds)) : kBm1 P Gm k b (.adr n) s = bndA (ev P Gm b s) (kBm2 k (.adr n)) := by
  have e : bmR k (.adr n) s = true := by
    have v : viewL s (.adr n) = some ds := by
      unfold viewL; dsimp only; rw [hm]
    cases k with
    | join => exact absurd rfl h
    | _ =>
      show (viewL s (.adr n)).isSome = true
      rw [v]; rfl
  unfold kBm1
  rw [e]; rfl
@[simp] theorem ev_spl : ev P Gm (.spl a b) s = bnd (ev P Gm a s) (kSpl1 P Gm b) := by
  show bnd _ _ = bnd _ _
  congr 1
@[simp] theorem kSpl1_eq : kSpl1 P Gm b x s = splR P Gm b s (viewQ s x) := rfl
@[simp] theorem splR_eq {ds : List D} : splR P Gm b s (some ds) = bndA (ev P Gm b s) (kSpl2 ds) := rfl
@[simp] theorem kSpl2_eq {ds es : List D} : kSpl2 ds es s = some (.vals (ds ++ es), s) := rfl
@[simp] theorem ev_rev : ev P Gm (.rev a) s = bnd (ev P Gm a s) kRev := rfl
@[simp] theorem kRev_eq : kRev x s = revR s (viewL s x) := rfl
@[simp] theorem revR_eq {ds : List D} : revR s (some ds) = some (.fr (.bx ds.reverse), s) := rfl
theorem ev_whl : ev P Gm (.whl a b) s = whlL (ev P Gm a) (ev P Gm b) 100000 s := rfl
@[simp] theorem kBm1_j {z : Str} : kBm1 P Gm .join b (.str z) s = bndA (ev P Gm b s) (kBm2 .join (.str z)) := rfl
@[simp] theorem kBm2_eq {k : Bm} {ds : List D} : kBm2 k x ds s = bmF k x ds s := rfl
@[simp] theorem ev_lst : ev P Gm (.lst a) s = bndA (ev P Gm a s) kLst := rfl
@[simp] theorem kLst_eq {ds : List D} (h : ds.length ≤ 16777216) : kLst ds s = some (.fr (.bx ds), s) := if_pos h
@[simp] theorem ev_tpl : ev P Gm (.tpl a) s = bndA (ev P Gm a s) kTpl := rfl
@[simp] theorem kTpl_eq {ds : List D} (h : ds.length ≤ 16777216) : kTpl ds s = some (.val (.tup ds), s) := if_pos h
@[simp] theorem ev_isi {ts : List Ty} : ev P Gm (.isi a ts) s = bnd (ev P Gm a s) (kIsi ts) := rfl
@[simp] theorem kIsi_eq {ts : List Ty} : kIsi ts x s = resB s (tyAny (s.v x) ts) := rfl
@[simp] theorem ev_nil : ev P Gm .nil s = some (.vals [], s) := rfl
@[simp] theorem ev_cns : ev P Gm (.cns a b) s = bnd (ev P Gm a s) (kCns1 P Gm b) := rfl
@[simp] theorem kCns1_eq : kCns1 P Gm b x s = bndA (ev P Gm b s) (kCns2 x) := rfl
@[simp] theorem kCns2_eq {ds : List D} : kCns2 x ds s = some (.vals (x :: ds), s) := rfl
@[simp] theorem ev_it : ev P Gm (.it a) s = bnd (ev P Gm a s) kIt := rfl
@[simp] theorem kIt_eq : kIt x s = itR (itF x s) s := rfl
@[simp] theorem itF_l {ds : List D} : itF (.lst ds) s = some ds := rfl
@[simp] theorem itF_t {ds : List D} : itF (.tup ds) s = some ds := rfl
@[simp] theorem itF_s {z : Str} : itF (.str z) s = some (z.cps.toList.map fun c => .str ⟨#[c]⟩) := rfl
@[simp] theorem itF_d {ks : List Key} {ds : List D} : itF (.dct ks ds) s = some (ks.map keyV) := rfl
theorem itF_ll {n : Nat} {ds : List D} (h : s.m[n]? = some (.ll ds)) : itF (.adr n) s = some ds := by
  unfold itF; dsimp only; rw [h]
theorem itF_a {n : Nat} {ks : List Key} {ds : List D} (h : s.m[n]? = some (.dl ks ds)) : itF (.adr n) s = some (ks.map keyV) := by
  unfold itF; dsimp only; rw [h]
@[simp] theorem itR_eq {ds : List D} : itR (some ds) s = some (.vals ds, s) := rfl
@[simp] theorem ev_rng : ev P Gm (.rng a) s = bnd (ev P Gm a s) kRng := rfl
@[simp] theorem kRng_eq {j : Int} (h1 : -4611686018427387904 ≤ j) (h2 : j < 4611686018427387904) : kRng (.int j) s = some (.vals ((List.range j.toNat).map fun (k : Nat) => .int k), s) := if_pos ⟨h1, h2⟩
theorem kRng_nat {j : Nat} (h : (j : Int) < 4611686018427387904) : kRng (.int j) s = some (.vals ((List.range j).map fun (k : Nat) => .int k), s) := by
  have h1 : -4611686018427387904 ≤ (j : Int) := by omega
  have e := kRng_eq (s := s) h1 h
  rw [Int.toNat_natCast] at e
  exact e
@[simp] theorem ev_rng2 : ev P Gm (.rng2 a b) s = bnd (ev P Gm a s) (kRng2a P Gm b) := rfl
@[simp] theorem kRng2a_eq : kRng2a P Gm b x s = bnd (ev P Gm b s) (kRng2b x) := rfl
@[simp] theorem kRng2b_eq {i j : Int} (h1 : -4611686018427387904 ≤ i) (h2 : i < 4611686018427387904) (h3 : -4611686018427387904 ≤ j) (h4 : j < 4611686018427387904) : kRng2b (.int i) (.int j) s = some (.vals ((List.range (j - i).toNat).map fun (k : Nat) => .int (i + k)), s) := if_pos ⟨h1, h2, h3, h4⟩
@[simp] theorem ev_enm : ev P Gm (.enm a) s = bnd (ev P Gm a s) kEnm := rfl
@[simp] theorem kEnm_eq {ds : List D} : kEnm (.lst ds) s = some (.vals (enumF 0 ds), s) := rfl
@[simp] theorem kEnm_t {ds : List D} : kEnm (.tup ds) s = some (.vals (enumF 0 ds), s) := rfl
@[simp] theorem ev_zp : ev P Gm (.zp a b) s = bnd (ev P Gm a s) (kZp1 P Gm b) := rfl
@[simp] theorem kZp1_eq : kZp1 P Gm b x s = bnd (ev P Gm b s) (kZp2 x) := rfl
@[simp] theorem kZp2_l {ds es : List D} : kZp2 (.lst ds) (.lst es) s = some (.vals (List.zipWith (fun p q => .tup [p, q]) ds es), s) := rfl
@[simp] theorem kZp2_t {ds es : List D} : kZp2 (.tup ds) (.tup es) s = some (.vals (List.zipWith (fun p q => .tup [p, q]) ds es), s) := rfl
@[simp] theorem ev_lc {own : List Nat} {tg it cd el : E} : ev P Gm (.lc own tg it cd el) s = bndA (ev P Gm it s) (kLc P Gm own tg cd el) := rfl
@[simp] theorem kLc_eq {own : List Nat} {tg cd el : E} {ds : List D} : kLc P Gm own tg cd el ds s = lcR s (compL (store tg) (ev P Gm cd) (ev P Gm el) (wipeR (valR s.r) own) ds [] s.m) := rfl
@[simp] theorem lcR_eq {ds : List D} {s' : S} : lcR s (some (.fr (.bx ds), s')) = some (.fr (.bx ds), ⟨s.r, s'.m⟩) := rfl
@[simp] theorem ev_skp : ev P Gm .skp s = some (.nx, s) := rfl
@[simp] theorem ev_seq : ev P Gm (.seq a b) s = seqR P Gm b (ev P Gm a s) := rfl
@[simp] theorem seqR_nx : seqR P Gm b (some (.nx, s)) = ev P Gm b s := rfl
@[simp] theorem seqR_rt : seqR P Gm b (some (.rt x, s)) = some (.rt x, s) := rfl
@[simp] theorem seqR_rtf {o : MO} : seqR P Gm b (some (.rtf o, s)) = some (.rtf o, s) := rfl
@[simp] theorem seqR_bk : seqR P Gm b (some (.bk, s)) = some (.bk, s) := rfl
@[simp] theorem seqR_ct : seqR P Gm b (some (.ct, s)) = some (.ct, s) := rfl
@[simp] theorem seqR_exc {c : Nat} {ns : List Nat} {ds : List D} : seqR P Gm b (some (.exc c ns ds, s)) = some (.exc c ns ds, s) := rfl
@[simp] theorem ev_asg {i : Nat} : ev P Gm (.asg i a) s = bnd (ev P Gm a s) (kAsg i) := rfl
@[simp] theorem kAsg_eq {i : Nat} : kAsg i x s = some (.nx, s.set i (some (.val x))) := rfl
@[simp] theorem ev_ast {tg : E} : ev P Gm (.ast tg a) s = bnd (ev P Gm a s) (kAst tg) := by
  show bnd _ _ = bnd _ _
  congr 1
@[simp] theorem kAst_eq {tg : E} : kAst tg x s = nxR (store tg x s) := rfl
@[simp] theorem nxR_eq : nxR (some s) = some (.nx, s) := rfl
@[simp] theorem ev_aso {i : Nat} : ev P Gm (.aso i a) s = asoR i (ev P Gm a s) := rfl
@[simp] theorem asoR_eq {i : Nat} {ds : List D} : asoR i (some (.fr (.bx ds), s)) = some (.nx, s.set i (some (.ol ds))) := rfl
@[simp] theorem asoR_exc {i c : Nat} {ns : List Nat} {ds : List D} : asoR i (some (.exc c ns ds, s)) = some (.exc c ns ds, s) := rfl
@[simp] theorem ev_asb {i : Nat} : ev P Gm (.asb i a) s = asbR i (ev P Gm a s) := rfl
@[simp] theorem asbR_eq {i : Nat} {o : MO} : asbR i (some (.fr o, s)) = some (.nx, ⟨s.r.set i (some (.val (.adr s.m.length))), s.m ++ [o]⟩) := rfl
@[simp] theorem asbR_exc {i c : Nat} {ns : List Nat} {ds : List D} : asbR i (some (.exc c ns ds, s)) = some (.exc c ns ds, s) := rfl
@[simp] theorem ev_par {i j : Nat} : ev P Gm (.par i j a b) s = bnd (ev P Gm a s) (kPar1 P Gm i j b) := rfl
@[simp] theorem kPar1_eq {i j : Nat} : kPar1 P Gm i j b x s = bnd (ev P Gm b s) (kPar2 i j x) := rfl
@[simp] theorem kPar2_eq {i j : Nat} : kPar2 i j x y s = some (.nx, (s.set i (some (.val x))).set j (some (.val y))) := rfl
@[simp] theorem ev_sit {o k : E} : ev P Gm (.sit o k a) s = bnd (ev P Gm a s) (kSit1 P Gm o k) := rfl
@[simp] theorem kSit1_eq {o k : E} : kSit1 P Gm o k x s = bnd (ev P Gm o s) (kSit2 P Gm k x) := rfl
@[simp] theorem kSit2_eq {k : E} : kSit2 P Gm k x y s = bnd (ev P Gm k s) (kSit3 x y) := rfl
@[simp] theorem kSit3_eq {n : Nat} : kSit3 x (.adr n) y s = sitR x n y s.m[n]? s := rfl
@[simp] theorem sitR_eq {n : Nat} {i : Int} {ds : List D} : sitR x n (.int i) (some (.bx ds)) s = sitR2 x n ds (ixN ds.length i) s := rfl
@[simp] theorem sitR_d {n : Nat} {ks : List Key} {ds : List D} : sitR x n y (some (.dx ks ds)) s = sitD2 x n ks ds (keyD y) s := rfl
@[simp] theorem sitD2_eq {n : Nat} {ks : List Key} {ds : List D} {k : Key} (h : ks.length < 16777216) : sitD2 x n ks ds (some k) s = some (.nx, ⟨s.r, s.m.set n (.dx (putL k x ks ds).1 (putL k x ks ds).2)⟩) := if_pos h
@[simp] theorem keyD_i {i : Int} : keyD (.int i) = some (.inl i) := rfl
@[simp] theorem keyD_s {z : Str} : keyD (.str z) = some (.inr z) := rfl
@[simp] theorem ev_emp : ev P Gm .emp s = some (.fr (.dx [] []), s) := rfl
@[simp] theorem bnd_fdx {ks : List Key} {ds : List D} {k : D → S → Res} : bnd (some (.fr (.dx ks ds), s)) k = k (.adr s.m.length) ⟨s.r, s.m ++ [.dx ks ds]⟩ := rfl
@[simp] theorem sitR2_eq {n j : Nat} {ds : List D} : sitR2 x n ds (some j) s = some (.nx, ⟨s.r, s.m.set n (.bx (ds.set j x))⟩) := rfl
@[simp] theorem ev_ret : ev P Gm (.ret a) s = retR (ev P Gm a s) := rfl
@[simp] theorem retR_val : retR (some (.val x, s)) = some (.rt x, s) := rfl
@[simp] theorem retR_fr {o : MO} : retR (some (.fr o, s)) = some (.rtf o, s) := rfl
@[simp] theorem retR_exc {c : Nat} {ns : List Nat} {ds : List D} : retR (some (.exc c ns ds, s)) = some (.exc c ns ds, s) := rfl
@[simp] theorem ev_rtn : ev P Gm .rtn s = some (.rt .non, s) := rfl
@[simp] theorem ev_iff : ev P Gm (.iff c a b) s = bnd (ev P Gm c s) (kIff P Gm a b) := rfl
@[simp] theorem kIff_t : kIff P Gm a b (.bl true) s = ev P Gm a s := rfl
@[simp] theorem kIff_f : kIff P Gm a b (.bl false) s = ev P Gm b s := rfl
@[simp] theorem ev_frr {tg it : E} : ev P Gm (.frr tg it b) s = bndA (ev P Gm it s) (kFrr P Gm tg b) := rfl
@[simp] theorem kFrr_eq {tg : E} {ds : List D} : kFrr P Gm tg b ds s = forL (store tg) (ev P Gm b) ds s := rfl
@[simp] theorem ev_exp : ev P Gm (.exp a) s = bnd (ev P Gm a s) kExp := rfl
@[simp] theorem kExp_eq : kExp x s = some (.nx, s) := rfl
@[simp] theorem ev_apo {i : Nat} : ev P Gm (.apo i a) s = apoR1 P Gm i a s.r[i]? s := rfl
@[simp] theorem apoR1_eq {i : Nat} {ds : List D} : apoR1 P Gm i a (some (some (.ol ds))) s = bnd (ev P Gm a s) (kApo i) := rfl
@[simp] theorem kApo_eq {i : Nat} : kApo i x s = apoR2 i x s.r[i]? s := rfl
@[simp] theorem apoR2_eq {i : Nat} {ds : List D} (h : ds.length < 16777216) : apoR2 i x (some (some (.ol ds))) s = some (.nx, s.set i (some (.ol (ds ++ [x])))) := if_pos h
@[simp] theorem varR_eq : varR (some (some (.val x))) s = some (.val x, s) := rfl
@[simp] theorem mvR_eq {i : Nat} {ds : List D} : mvR i (some (some (.ol ds))) s = some (.fr (.bx ds), s.set i none) := rfl
@[simp] theorem fzR_ol {i : Nat} {ds : List D} : fzR i (some (some (.ol ds))) s = some (.val (.lst ds), s.set i (some (.val (.lst ds)))) := rfl
@[simp] theorem fzR_val {i : Nat} : fzR i (some (some (.val x))) s = some (.val x, s) := rfl
@[simp] theorem set_eq {r : List (Option Cell)} {m : List MO} {i : Nat} {c : Option Cell} : S.set ⟨r, m⟩ i c = ⟨r.set i c, m⟩ := rfl
/-! what the operations answer -/
@[simp] theorem add_i {i j : Int} : bopF .add (.int i) (.int j) s = some (.val (.int (i + j)), s) := rfl
@[simp] theorem add_s {a b : Str} (h : a.length + b.length ≤ 16777216) : bopF .add (.str a) (.str b) s = some (.val (.str (a ++ b)), s) := if_pos h
@[simp] theorem add_l {a b : List D} (h : a.length + b.length ≤ 16777216) : bopF .add (.lst a) (.lst b) s = some (.fr (.bx (a ++ b)), s) := if_pos h
@[simp] theorem add_t {a b : List D} (h : a.length + b.length ≤ 16777216) (h2 : a ≠ []) : bopF .add (.tup a) (.tup b) s = some (.val (.tup (a ++ b)), s) := if_pos ⟨h, h2⟩
@[simp] theorem sub_i {i j : Int} : bopF .sub (.int i) (.int j) s = some (.val (.int (i - j)), s) := rfl
@[simp] theorem mul_l {i j : Int} (h1 : -18446744073709551616 < i) (h2 : i < 18446744073709551616) : bopF .mul (.int i) (.int j) s = some (.val (.int (i * j)), s) := if_pos (.inl ⟨h1, h2⟩)
@[simp] theorem mul_r {i j : Int} (h1 : -18446744073709551616 < j) (h2 : j < 18446744073709551616) : bopF .mul (.int i) (.int j) s = some (.val (.int (i * j)), s) := if_pos (.inr ⟨h1, h2⟩)
@[simp] theorem mul_lst {a : List D} {k : Int} (h1 : -9223372036854775808 ≤ k) (h2 : k < 9223372036854775808) (h3 : a.length * k.toNat ≤ 16777216) : bopF .mul (.lst a) (.int k) s = some (.fr (.bx (List.replicate k.toNat a).flatten), s) := if_pos ⟨h1, h2, h3⟩
@[simp] theorem div_i {i j : Int} (h1 : 0 < j) (h2 : j < 1073741824) : bopF .div (.int i) (.int j) s = some (.val (.int (i / j)), s) := if_pos ⟨h1, h2⟩
@[simp] theorem mod_i {i j : Int} (h1 : 0 < j) : bopF .mod (.int i) (.int j) s = some (.val (.int (i % j)), s) := if_pos h1
@[simp] theorem pow_i {i j : Int} (h1 : 0 ≤ j) (h2 : j ≤ 1000000) (h3 : i.natAbs < 18446744073709551616) : bopF .pow (.int i) (.int j) s = some (.val (.int (i ^ j.toNat)), s) := if_pos ⟨h1, h2, h3⟩
@[simp] theorem cmp_lt {i j : Int} : cmpF .lt (.int i) (.int j) s = some (decide (i < j)) := rfl
@[simp] theorem cmp_le {i j : Int} : cmpF .le (.int i) (.int j) s = some (decide (i ≤ j)) := rfl
@[simp] theorem cmp_gt {i j : Int} : cmpF .gt (.int i) (.int j) s = some (decide (j < i)) := rfl
@[simp] theorem cmp_ge {i j : Int} : cmpF .ge (.int i) (.int j) s = some (decide (j ≤ i)) := rfl
@[simp] theorem cmp_eq (h1 : okD 8 x = true) (h2 : okD 8 y = true) : cmpF .eq x y s = some (eqD x y) := by
  show (if (okD 8 x && okD 8 y) = true then some (eqD x y) else none) = _
  rw [h1, h2]; rfl
@[simp] theorem cmp_ne (h1 : okD 8 x = true) (h2 : okD 8 y = true) : cmpF .ne x y s = some (!eqD x y) := by
  show (if (okD 8 x && okD 8 y) = true then some (!eqD x y) else none) = _
  rw [h1, h2]; rfl
@[simp] theorem okD_n {k : Nat} : okD k .non = true := by cases k <;> rfl
@[simp] theorem okD_b {k : Nat} {b : Bool} : okD k (.bl b) = true := by cases k <;> rfl
@[simp] theorem okD_i {k : Nat} {i : Int} : okD k (.int i) = true := by cases k <;> rfl
@[simp] theorem okD_s {k : Nat} {z : Str} : okD k (.str z) = true := by cases k <;> rfl
@[simp] theorem okD_l8 {ds : List D} : okD 8 (.lst ds) = ds.all (okD 7) := rfl
@[simp] theorem okD_t8 {ds : List D} : okD 8 (.tup ds) = ds.all (okD 7) := rfl
@[simp] theorem okD_l7 {ds : List D} : okD 7 (.lst ds) = ds.all (okD 6) := rfl
@[simp] theorem okD_t7 {ds : List D} : okD 7 (.tup ds) = ds.all (okD 6) := rfl
@[simp] theorem okD_l6 {ds : List D} : okD 6 (.lst ds) = ds.all (okD 5) := rfl
@[simp] theorem okD_t6 {ds : List D} : okD 6 (.tup ds) = ds.all (okD 5) := rfl
@[simp] theorem okD_l5 {ds : List D} : okD 5 (.lst ds) = ds.all (okD 4) := rfl
@[simp] theorem okD_t5 {ds : List D} : okD 5 (.tup ds) = ds.all (okD 4) := rfl
@[simp] theorem okD_l4 {ds : List D} : okD 4 (.lst ds) = ds.all (okD 3) := rfl
@[simp] theorem okD_t4 {ds : List D} : okD 4 (.tup ds) = ds.all (okD 3) := rfl
@[simp] theorem okD_l3 {ds : List D} : okD 3 (.lst ds) = ds.all (okD 2) := rfl
@[simp] theorem okD_t3 {ds : List D} : okD 3 (.tup ds) = ds.all (okD 2) := rfl
@[simp] theorem okD_l2 {ds : List D} : okD 2 (.lst ds) = ds.all (okD 1) := rfl
@[simp] theorem okD_t2 {ds : List D} : okD 2 (.tup ds) = ds.all (okD 1) := rfl
@[simp] theorem okD_l1 {ds : List D} : okD 1 (.lst ds) = ds.all (okD 0) := rfl
@[simp] theorem okD_t1 {ds : List D} : okD 1 (.tup ds) = ds.all (okD 0) := rfl
@[simp] theorem eqD_b {a b : Bool} : eqD (.bl a) (.bl b) = (a == b) := by simp only [eqD]
@[simp] theorem eqD_i {i j : Int} : eqD (.int i) (.int j) = (i == j) := by simp only [eqD]
@[simp] theorem eqD_s {a b : Str} : eqD (.str a) (.str b) = (a == b) := by simp only [eqD]
@[simp] theorem eqD_l {a b : List D} : eqD (.lst a) (.lst b) = eqDs a b := by simp only [eqD]
@[simp] theorem eqD_t {a b : List D} : eqD (.tup a) (.tup b) = eqDs a b := by simp only [eqD]
@[simp] theorem eqDs_n : eqDs [] [] = true := by simp only [eqDs]
@[simp] theorem eqDs_c {a b : D} {as bs : List D} : eqDs (a :: as) (b :: bs) = (eqD a b && eqDs as bs) := by simp only [eqDs]
@[simp] theorem eqDs_nc {b : D} {bs : List D} : eqDs [] (b :: bs) = false := by simp only [eqDs]
@[simp] theorem eqDs_cn {b : D} {bs : List D} : eqDs (b :: bs) [] = false := by simp only [eqDs]
@[simp] theorem cmp_in : cmpF .isin x y s = inF x y s := rfl
@[simp] theorem cmp_nin : cmpF .notin x y s = (inF x y s).map (!·) := rfl
@[simp] theorem in_c {c : Nat} {z : Str} : inF (.str ⟨#[c]⟩) (.str z) s = some (decide (c ∈ z.cps.toList)) := rfl
theorem in_q {ds : List D} (h : viewQ s y = some ds) (hM : viewM s y = none) (h1 : flat x = true) (h2 : ds.all flat = true) (hx : ∀ a z, ¬ (x = .str a ∧ y = .str z)) : inF x y s = some (ds.any fun z => eqD z x) := by
  unfold inF
  split
  · exact absurd ⟨rfl, rfl⟩ (hx _ _)
  · unfold inQ
    rw [hM, h, h1]
    simp [h2]
@[simp] theorem in_l {ds : List D} (h1 : flat x = true) (h2 : ds.all flat = true) : inF x (.lst ds) s = some (ds.any fun z => eqD z x) := in_q rfl rfl h1 h2 (fun _ _ h => by cases h.2)
@[simp] theorem in_t {ds : List D} (h1 : flat x = true) (h2 : ds.all flat = true) : inF x (.tup ds) s = some (ds.any fun z => eqD z x) := in_q rfl rfl h1 h2 (fun _ _ h => by cases h.2)
theorem in_m {ks : List Key} {ds : List D} {k : Key} (h : viewM s y = some (ks, ds)) (hk : keyD x = some k) : inF x y s = some (ks.any fun a => decide (a = k)) := by
  unfold inF
  split
  · cases h
  · unfold inQ
    rw [h]
    dsimp only
    rw [hk]
@[simp] theorem in_ds {z : Str} {ks : List Key} {ds : List D} : inF (.str z) (.dct ks ds) s = some (ks.any fun a => decide (a = .inr z)) := in_m rfl rfl
@[simp] theorem in_di {i : Int} {ks : List Key} {ds : List D} : inF (.int i) (.dct ks ds) s = some (ks.any fun a => decide (a = .inl i)) := in_m rfl rfl
@[simp] theorem viewM_dct {ks : List Key} {ds : List D} : viewM s (.dct ks ds) = some (ks, ds) := rfl
theorem viewM_dx {n : Nat} {ks : List Key} {ds : List D} (h : s.m[n]? = some (.dx ks ds)) : viewM s (.adr n) = some (ks, ds) := by
  unfold viewM; dsimp only; rw [h]
theorem viewM_dl {n : Nat} {ks : List Key} {ds : List D} (h : s.m[n]? = some (.dl ks ds)) : viewM s (.adr n) = some (ks, ds) := by
  unfold viewM; dsimp only; rw [h]
theorem viewM_bx {n : Nat} {ds : List D} (h : s.m[n]? = some (.bx ds)) : viewM s (.adr n) = none := by
  unfold viewM; dsimp only; rw [h]
theorem viewM_ll {n : Nat} {ds : List D} (h : s.m[n]? = some (.ll ds)) : viewM s (.adr n) = none := by
  unfold viewM; dsimp only; rw [h]
theorem view_ll {n : Nat} {ds : List D} (h : s.m[n]? = some (.ll ds)) : viewL s (.adr n) = some ds := by
  unfold viewL; dsimp only; rw [h]
theorem len_m {ks : List Key} {ds : List D} (h : viewM s x = some (ks, ds)) : biF .len [x] s = some (.val (.int ks.length), s) := by
  cases x with
  | dct ks ds => cases h; rfl
  | adr n =>
    show (match viewM s (.adr n) with
      | some (ks, _) => (some (.val (.int ks.length), s) : Res)
      | none => match viewQ s (.adr n) with
        | some ds => some (.val (.int ds.length), s)
        | none => none) = _
    rw [h]
  | _ => cases h
theorem list_m {ks : List Key} {ds : List D} (h : viewM s x = some (ks, ds)) : biF .list [x] s = some (.fr (.bx (ks.map keyV)), s) := by
  show (match viewM s x with
      | some (ks, _) => (some (.fr (.bx (ks.map keyV)), s) : Res)
      | none => match viewQ s x with
        | some ds => some (.fr (.bx ds), s)
        | none => none) = _
  rw [h]
theorem ix_m {ks : List Key} {ds : List D} {k : Key} (h : viewM s x = some (ks, ds)) (hk : keyD y = some k) : ixF x y s = lookK k ks ds := by
  unfold ixF
  split
  · cases h
  · rw [h]
    dsimp only
    rw [hk]
@[simp] theorem view_l {ds : List D} : viewL s (.lst ds) = some ds := rfl
@[simp] theorem view_ql {ds : List D} : viewQ s (.lst ds) = some ds := rfl
@[simp] theorem view_qt {ds : List D} : viewQ s (.tup ds) = some ds := rfl
theorem view_a {n : Nat} {ds : List D} (h : s.m[n]? = some (.bx ds)) : viewL s (.adr n) = some ds := by
  unfold viewL; dsimp only; rw [h]
@[simp] theorem ix_l {ds : List D} {i : Int} : ixF (.lst ds) (.int i) s = atI ds i := rfl
@[simp] theorem ix_t {ds : List D} {i : Int} : ixF (.tup ds) (.int i) s = atI ds i := rfl
@[simp] theorem ix_a {n : Nat} {ds : List D} {i : Int} (h : s.m[n]? = some (.bx ds)) : ixF (.adr n) (.int i) s = atI ds i := by
  show (match viewM s (.adr n) with
    | some (ks, ds) => (match keyD (.int i) with
      | some k => lookK k ks ds
      | none => none)
    | none => match viewL s (.adr n) with
      | some ds => atI ds i
      | none => none) = _
  rw [viewM_bx h, view_a h]
@[simp] theorem ix_di {ks : List Key} {ds : List D} {i : Int} : ixF (.dct ks ds) (.int i) s = lookK (.inl i) ks ds := rfl
@[simp] theorem ix_ds {ks : List Key} {ds : List D} {i : Str} : ixF (.dct ks ds) (.str i) s = lookK (.inr i) ks ds := rfl
theorem atI_nat {α : Type} {ds : List α} {i : Nat} (h : i < ds.length) : atI ds (i : Int) = some ds[i] := by
  have h2 : (i : Int) < ds.length := by omega
  unfold atI ixN
  rw [if_pos (by omega), if_pos h2]
  show ds[(i : Int).toNat]? = _
  rw [Int.toNat_natCast]
  exact List.getElem?_eq_getElem h
@[simp] theorem sl_s {z : Str} {lo hi : Option Int} (h : z.length ≤ 16777216) : slF (.str z) lo hi s = some (.val (.str (cutS z lo hi)), s) := if_pos h
@[simp] theorem sl_t {ds : List D} {lo hi : Option Int} : slF (.tup ds) lo hi s = some (.val (.tup (cutD ds lo hi)), s) := rfl
@[simp] theorem sl_f {ds : List D} {lo hi : Option Int} : slF (.fzl ds) lo hi s = some (.fr (.bx (cutD ds lo hi)), s) := rfl
@[simp] theorem sl_l {ds : List D} {lo hi : Option Int} : slF (.lst ds) lo hi s = some (.fr (.bx (cutD ds lo hi)), s) := rfl
@[simp] theorem len_s {z : Str} (h : z.length ≤ 16777216) : biF .len [.str z] s = some (.val (.int z.length), s) := if_pos h
@[simp] theorem len_d {ks : List Key} {ds : List D} : biF .len [.dct ks ds] s = some (.val (.int ks.length), s) := rfl
@[simp] theorem len_l {ds : List D} : biF .len [.lst ds] s = some (.val (.int ds.length), s) := rfl
@[simp] theorem len_t {ds : List D} : biF .len [.tup ds] s = some (.val (.int ds.length), s) := rfl
@[simp] theorem len_a {n : Nat} {ds : List D} (h : s.m[n]? = some (.bx ds)) : biF .len [.adr n] s = some (.val (.int ds.length), s) := by
  show (match viewM s (.adr n) with
    | some (ks, _) => (some (.val (.int ks.length), s) : Res)
    | none => match viewL s (.adr n) with
      | some ds => some (.val (.int ds.length), s)
      | none => none) = _
  rw [viewM_bx h, view_a h]
@[simp] theorem int_i {i : Int} : biF .int [.int i] s = some (.val (.int i), s) := rfl
@[simp] theorem int_b {b : Bool} : biF .int [.bl b] s = some (.val (.int (if b then 1 else 0)), s) := rfl
theorem all_l {ds : List D} {bs : List Bool} (h : blsOf ds = some bs) : biF .all [.lst ds] s = some (.val (.bl (bs.all id)), s) := by
  show (match blsOf ds with
    | some bs => (some (.val (.bl (bs.all id)), s) : Res)
    | none => none) = _
  rw [h]
theorem any_l {ds : List D} {bs : List Bool} (h : blsOf ds = some bs) : biF .any [.lst ds] s = some (.val (.bl (bs.any id)), s) := by
  show (match blsOf ds with
    | some bs => (some (.val (.bl (bs.any id)), s) : Res)
    | none => none) = _
  rw [h]
@[simp] theorem list_l {ds : List D} : biF .list [.lst ds] s = some (.fr (.bx ds), s) := rfl
@[simp] theorem list_t {ds : List D} : biF .list [.tup ds] s = some (.fr (.bx ds), s) := rfl
@[simp] theorem tuple_l {ds : List D} : biF .tuple [.lst ds] s = some (.val (.tup ds), s) := rfl
@[simp] theorem tuple_t {ds : List D} : biF .tuple [.tup ds] s = some (.val (.tup ds), s) := rfl
@[simp] theorem append_a {n : Nat} {ds : List D} (hm : s.m[n]? = some (.bx ds)) (h : ds.length < 16777216) : bmF .append (.adr n) [x] s = some (.val .non, ⟨s.r, s.m.set n (.bx (ds ++ [x]))⟩) := by
  show (match s.m[n]? with
    | some (.bx ds) => (if ds.length < big then some (.val .non, { s with m := s.m.set n (.bx (ds ++ [x])) }) else none : Res)
    | _ => none) = _
  rw [hm]
  exact if_pos h
@[simp] theorem insert_a {n : Nat} {i : Int} {ds : List D} (hm : s.m[n]? = some (.bx ds)) (h : ds.length < 16777216) (h0 : 0 ≤ i) (h1 : i < 4611686018427387904) : bmF .insert (.adr n) [.int i, x] s = some (.val .non, ⟨s.r, s.m.set n (.bx (ds.take i.toNat ++ [x] ++ ds.drop i.toNat))⟩) := by
  show (match s.m[n]? with
    | some (.bx ds) => (if ds.length < big ∧ 0 ≤ i ∧ i < 2 ^ 62 then some (.val .non, { s with m := s.m.set n (.bx (ds.take i.toNat ++ [x] ++ ds.drop i.toNat)) }) else none : Res)
    | _ => none) = _
  rw [hm]
  exact if_pos ⟨h, h0, h1⟩
def idxR (s : S) : Option Nat → Res
  | some j => some (.val (.int (j : Nat)), s)
  | none => none
theorem index_l {ds : List D} (h1 : flat x = true) (h2 : ds.all flat = true) : bmF .index (.lst ds) [x] s = idxR s (ds.findIdx? fun z => eqD z x) := by
  show (if flat x && ds.all flat then (match ds.findIdx? fun z => eqD z x with
      | some j => some (.val (.int (j : Nat)), s)
      | none => none) else none : Res) = _
  rw [h1, h2]
  show (match ds.findIdx? fun z => eqD z x with
      | some j => some (.val (.int (j : Nat)), s)
      | none => none : Res) = _
  cases ds.findIdx? fun z => eqD z x <;> rfl
@[simp] theorem idxR_eq {j : Nat} : idxR s (some j) = some (.val (.int (j : Nat)), s) := rfl
theorem sorted_l {ds es : List D} (h : srtD ds = some es) : biF .sorted [.lst ds] s = some (.fr (.bx es), s) := by
  show (match srtD ds with
      | some es => some (.fr (.bx es), s)
      | none => none : Res) = _
  rw [h]
@[simp] theorem bool_b {b : Bool} : biF .bool [.bl b] s = some (.val (.bl b), s) := rfl
@[simp] theorem fin_rt {m : List MO} {r : List (Option Cell)} : fin (some (.rt x, ⟨r, m⟩)) = some (.val x, m) := rfl
@[simp] theorem fin_rtf {m : List MO} {r : List (Option Cell)} {o : MO} : fin (some (.rtf o, ⟨r, m⟩)) = some (.fr o, m) := rfl
@[simp] theorem fin_nx {m : List MO} {r : List (Option Cell)} : fin (some (.nx, ⟨r, m⟩)) = some (.val .non, m) := rfl
@[simp] theorem fin_exc {m : List MO} {r : List (Option Cell)} {c : Nat} {ns : List Nat} {ds : List D} : fin (some (.exc c ns ds, ⟨r, m⟩)) = some (.exc c ns ds, m) := rfl
end
/-- a run ends, and so -/
def Sat (o : Option (Out × List MO)) (Q : Out → List MO → Prop) : Prop := ∃ x m, o = some (x, m) ∧ Q x m
@[simp] theorem Sat_some {x : Out} {m : List MO} {Q : Out → List MO → Prop} : Sat (some (x, m)) Q ↔ Q x m := ⟨fun ⟨_, _, e, q⟩ => by cases e; exact q, fun q => ⟨x, m, rfl, q⟩⟩
theorem Sat.imp {o : Option (Out × List MO)} {Q R : Out → List MO → Prop} (h : Sat o Q) (k : ∀ x m, Q x m → R x m) : Sat o R := by
  obtain ⟨x, m, e, q⟩ := h
  exact ⟨x, m, e, k x m q⟩
theorem Pn_def {Cd : Nat → Option Ent} {Gm : Nat → D} {f N p : Nat} {c : E} {g : List D → List D} (h : Cd f = some ⟨N, p, c, g, none⟩) (n : Nat) (ds : List D) (m : List MO) :
    Pn Cd Gm (n + 1) f ds m = if (g ds).length = p then stowO m (fin (ev (Pn Cd Gm n) Gm c ⟨ini N (g ds), m⟩)) else none := by
  conv => lhs; unfold Pn
  rw [h]
  rfl
noncomputable def mkR (m : List MO) : Option (Out × List MO) → Option (Out × List MO)
  | some (.val .non, m') => stow false m (some (.val (.adr m.length), m'))
  | some (.exc k ns es, m') => stow false m (some (.exc k ns es, m'))
  | _ => none
/-- a class called -/
theorem Pn_mk {Cd : Nat → Option Ent} {Gm : Nat → D} {f i k N0 p0 N p : Nat} {c0 c : E} {g0 g : List D → List D} (h : Cd f = some ⟨N0, p0, c0, g0, some (k, i)⟩) (h2 : Cd i = some ⟨N, p, c, g, none⟩) (n : Nat) (ds : List D) (m : List MO) :
    Pn Cd Gm (n + 1) f ds m = mkR m (if (.adr m.length :: g0 ds).length = p then stowO (m ++ [.ob k [] []]) (fin (ev (Pn Cd Gm n) Gm c ⟨ini N (.adr m.length :: g0 ds), m ++ [.ob k [] []]⟩)) else none) := by
  conv => lhs; unfold Pn
  rw [h]
  dsimp only
  rw [h2]
  rfl
@[simp] theorem mkR_ok {m m' : List MO} : mkR m (some (.val .non, m')) = stow false m (some (.val (.adr m.length), m')) := rfl
@[simp] theorem mkR_exc {m m' : List MO} {k : Nat} {ns : List Nat} {es : List D} : mkR m (some (.exc k ns es, m')) = stow false m (some (.exc k ns es, m')) := rfl
@[simp] theorem stow_id {lk : Bool} {m0 : List MO} {o : Out} {m : List MO} (h : m.length = m0.length) : stow lk m0 (some (o, m)) = some (o, m) := by
  unfold stow
  dsimp only
  rw [if_pos h]
@[simp] theorem stowO_val {m0 m : List MO} {d : D} : stowO m0 (some (.val d, m)) = stow true m0 (some (.val d, m)) := rfl
@[simp] theorem stowO_fr {m0 m : List MO} {o : MO} : stowO m0 (some (.fr o, m)) = stow true m0 (some (.fr o, m)) := rfl
@[simp] theorem stowO_exc {m0 m : List MO} {c : Nat} {ns : List Nat} {ds : List D} : stowO m0 (some (.exc c ns ds, m)) = stow false m0 (some (.exc c ns ds, m)) := rfl
def stwR : Option (List MO) → Option Out → Option (Out × List MO)
  | some m', some o' => some (o', m')
  | _, _ => none
@[simp] theorem stwR_eq {m : List MO} {o : Out} : stwR (some m) (some o) = some (o, m) := rfl
/-- what was added is made data -/
theorem stow_new {lk : Bool} {m0 l : List MO} {o : Out} (hl : l ≠ []) : stow lk m0 (some (o, m0 ++ l)) = stwR (some m0) (frzO lk (m0 ++ l) m0.length o) := by
  unfold stow
  dsimp only
  rw [if_neg (by rw [List.length_append]; cases l with | nil => exact absurd rfl hl | cons a l => simp)]
  have e : keepM lk (m0 ++ l) m0 = some m0 := by
    unfold keepM
    rw [if_pos (List.take_left' rfl)]
  rw [e]
  cases frzO lk (m0 ++ l) m0.length o <;> rfl
@[simp] theorem stow_new1 {lk : Bool} {m0 l : List MO} {a : MO} {o : Out} : stow lk m0 (some (o, m0 ++ (a :: l))) = stwR (some m0) (frzO lk (m0 ++ (a :: l)) m0.length o) := stow_new (by simp)
/-- data without places -/
def Pu (d : D) : Prop := ∀ f, mapD f d = some d
theorem Pu.at {d : D} (h : Pu d) (f : Nat → Option D) : mapD f d = some d := h f
theorem Pu.all {ds : List D} (h : ∀ d ∈ ds, Pu d) (f : Nat → Option D) : mapDs f ds = some ds := by
  induction ds with
  | nil => rfl
  | cons d ds ih =>
    rw [mapDs, h d (List.mem_cons_self ..) f, ih fun x hx => h x (List.mem_cons_of_mem _ hx)]
section
variable {f : Nat → Option D} {ds : List D}
@[simp] theorem mapD_non : mapD f .non = some .non := rfl
@[simp] theorem mapD_bl {b : Bool} : mapD f (.bl b) = some (.bl b) := rfl
@[simp] theorem mapD_int {i : Int} : mapD f (.int i) = some (.int i) := rfl
@[simp] theorem mapD_str {z : Str} : mapD f (.str z) = some (.str z) := rfl
@[simp] theorem mapD_lst : mapD f (.lst ds) = (mapDs f ds).map D.lst := rfl
@[simp] theorem mapD_tup : mapD f (.tup ds) = (mapDs f ds).map D.tup := rfl
@[simp] theorem mapD_fzl : mapD f (.fzl ds) = (mapDs f ds).map D.fzl := rfl
@[simp] theorem mapD_dct {ks : List Key} : mapD f (.dct ks ds) = (mapDs f ds).map (D.dct ks) := rfl
@[simp] theorem mapD_obj {c : Nat} {ns : List Nat} : mapD f (.obj c ns ds) = (mapDs f ds).map (D.obj c ns) := rfl
@[simp] theorem mapD_adr {j : Nat} : mapD f (.adr j) = f j := rfl
def mapC (o : Option D) (p : Option (List D)) : Option (List D) := match o with
  | none => none
  | some e => match p with
    | none => none
    | some es => some (e :: es)
@[simp] theorem mapC_eq {d : D} {es : List D} : mapC (some d) (some es) = some (d :: es) := rfl
@[simp] theorem mapDs_nil : mapDs f [] = some [] := rfl
@[simp] theorem mapDs_cons {d : D} : mapDs f (d :: ds) = mapC (mapD f d) (mapDs f ds) := by
  rw [mapDs]
  unfold mapC
  cases mapD f d <;> rfl
end
section
variable {lk : Bool} {m : List MO} {k n j : Nat}
theorem frz_low (h : j < k) : frz lk m k n j = some (.adr j) := by
  cases n <;> (unfold frz; rw [if_pos h])
theorem frz_ob {c : Nat} {ns : List Nat} {ds : List D} (h : ¬ j < k) (e : m[j]? = some (.ob c ns ds)) : frz lk m k (n + 1) j = (mapDs (frz lk m k n) ds).map (D.obj c ns) := by
  rw [frz, if_neg h, e]
  rfl
theorem frz_bx {ds : List D} (h : ¬ j < k) (e : m[j]? = some (.bx ds)) : frz lk m k (n + 1) j = (mapDs (frz lk m k n) ds).map D.lst := by
  rw [frz, if_neg h, e]
  rfl
theorem frz_dx {ks : List Key} {ds : List D} (h : ¬ j < k) (e : m[j]? = some (.dx ks ds)) : frz true m k (n + 1) j = (mapDs (frz true m k n) ds).map (D.dct ks) := by
  rw [frz, if_neg h, e]
  rfl
theorem frz_dl {ks : List Key} {ds : List D} (h : ¬ j < k) (e : m[j]? = some (.dl ks ds)) : frz lk m k (n + 1) j = (mapDs (frz lk m k n) ds).map (D.dct ks) := by
  rw [frz, if_neg h, e]
  rfl
@[simp] theorem frzO_val {d : D} : frzO lk m k (.val d) = (mapD (frz lk m k 16) d).map Out.val := rfl
@[simp] theorem frzO_exc {c : Nat} {ns : List Nat} {ds : List D} : frzO lk m k (.exc c ns ds) = (mapDs (frz lk m k 16) ds).map (Out.exc c ns) := rfl
@[simp] theorem frzO_bx {ds : List D} : frzO lk m k (.fr (.bx ds)) = ((mapDs (frz lk m k 16) ds).map MO.bx).map Out.fr := rfl
@[simp] theorem frzO_dx {ks : List Key} {ds : List D} : frzO lk m k (.fr (.dx ks ds)) = ((mapDs (frz lk m k 16) ds).map (MO.dx ks)).map Out.fr := rfl
end
/-! ### places behind a store -/
section
variable {α : Type} {m l : List α} {a b : α}
@[simp] theorem at_last : (m ++ (a :: l))[m.length]? = some a := by simp
@[simp] theorem at_last1 : (m ++ (a :: b :: l))[m.length + 1]? = some b := by
  have e : m.length + 1 - m.length = 1 := by omega
  rw [List.getElem?_append_right (by omega), e]; rfl
@[simp] theorem set_last : (m ++ (a :: l)).set m.length b = m ++ (b :: l) := by
  rw [List.set_append_right _ _ (Nat.le_refl _), Nat.sub_self]; rfl
@[simp] theorem set_last1 {c : α} : (m ++ (a :: b :: l)).set (m.length + 1) c = m ++ (a :: c :: l) := by
  have e : m.length + 1 - m.length = 1 := by omega
  rw [List.set_append_right _ _ (by omega), e]; rfl
@[simp] theorem app_app {x y : List α} : (m ++ (a :: l)) ++ (b :: y) = m ++ (a :: (l ++ (b :: y))) := by simp
end
/-! ### objects -/
section
variable {P : Nat → List D → List MO → Option (Out × List MO)} {Gm : Nat → D} {s : S} {a b o as ks : E} {x y : D} {tbl : List (Nat × Nat)} {f n k c i : Nat} {cs : List Nat}
def lookR (cs : List Nat) (f : Nat) : Option (Nat × List Nat × List D) → Option D
  | some (c, ns, ds) => if c ∈ cs then lookF f ns ds else none
  | none => none
@[simp] theorem lookR_eq {ns : List Nat} {ds : List D} (h : c ∈ cs) : lookR cs f (some (c, ns, ds)) = lookF f ns ds := if_pos h
@[simp] theorem lookF_hit {ns : List Nat} {ds : List D} {d : D} : lookF f (f :: ns) (d :: ds) = some d := if_pos rfl
@[simp] theorem lookF_miss {ns : List Nat} {ds : List D} {d : D} (h : n ≠ f) : lookF f (n :: ns) (d :: ds) = lookF f ns ds := if_neg h
def kFld (f : Nat) (cs : List Nat) (x : D) (s : S) : Res := resD s (lookR cs f (clsF s x))
@[simp] theorem ev_fld : ev P Gm (.fld a f cs) s = bnd (ev P Gm a s) (kFld f cs) := by
  show bnd (ev P Gm a s) (fun x s => resD s (fldF cs f x s)) = _
  congr 1
@[simp] theorem kFld_eq : kFld f cs x s = resD s (lookR cs f (clsF s x)) := rfl
@[simp] theorem clsF_obj {ns : List Nat} {ds : List D} : clsF s (.obj c ns ds) = some (c, ns, ds) := rfl
@[simp] theorem clsF_adr {ns : List Nat} {ds : List D} (h : s.m[n]? = some (.ob c ns ds)) : clsF s (.adr n) = some (c, ns, ds) := by
  unfold clsF; dsimp only; rw [h]
@[simp] theorem clsN_obj {ns : List Nat} {ds : List D} : clsN s (.obj c ns ds) = some c := rfl
theorem clsN_adr {ns : List Nat} {ds : List D} (h : s.m[n]? = some (.ob c ns ds)) : clsN s (.adr n) = some c := by
  unfold clsN; rw [clsF_adr h]
theorem clsN_bx {ds : List D} (h : s.m[n]? = some (.bx ds)) : clsN s (.adr n) = none := by
  unfold clsN clsF; dsimp only; rw [h]
theorem clsN_dx {ks : List Key} {ds : List D} (h : s.m[n]? = some (.dx ks ds)) : clsN s (.adr n) = none := by
  unfold clsN clsF; dsimp only; rw [h]
@[simp] theorem clsN_non : clsN s .non = none := rfl
@[simp] theorem clsN_bl {b : Bool} : clsN s (.bl b) = none := rfl
@[simp] theorem clsN_int {i : Int} : clsN s (.int i) = none := rfl
@[simp] theorem clsN_str {z : Str} : clsN s (.str z) = none := rfl
@[simp] theorem clsN_lst {ds : List D} : clsN s (.lst ds) = none := rfl
@[simp] theorem clsN_tup {ds : List D} : clsN s (.tup ds) = none := rfl
@[simp] theorem clsN_dct {ks : List Key} {ds : List D} : clsN s (.dct ks ds) = none := rfl
@[simp] theorem clsN_fzl {ds : List D} : clsN s (.fzl ds) = none := rfl
@[simp] theorem v_non : s.v .non = .non := rfl
@[simp] theorem v_bl {b : Bool} : s.v (.bl b) = .bl b := rfl
@[simp] theorem v_int {i : Int} : s.v (.int i) = .int i := rfl
@[simp] theorem v_str {z : Str} : s.v (.str z) = .str z := rfl
@[simp] theorem v_lst {ds : List D} : s.v (.lst ds) = .lst ds := rfl
@[simp] theorem v_tup {ds : List D} : s.v (.tup ds) = .tup ds := rfl
@[simp] theorem v_dct {ks : List Key} {ds : List D} : s.v (.dct ks ds) = .dct ks ds := rfl
@[simp] theorem v_fzl {ds : List D} : s.v (.fzl ds) = .fzl ds := rfl
@[simp] theorem v_obj {ns : List Nat} {ds : List D} : s.v (.obj c ns ds) = .obj c ns ds := rfl
theorem v_adr {o : MO} (h : s.m[n]? = some o) : s.v (.adr n) = o.dv n := by
  unfold S.v; dsimp only; rw [h]
def flsR (f : Nat) (cs : List Nat) (d : D) (n : Nat) (o : Option MO) (s : S) : Res := match o with
  | some (.ob c ns ds) => if c ∈ cs ∧ ns.length < 1000 then some (.nx, { s with m := s.m.set n (.ob c (putN f d ns ds).1 (putN f d ns ds).2) }) else none
  | _ => none
def kFls2 (f : Nat) (cs : List Nat) (d x : D) (s : S) : Res := match x with
  | .adr n => flsR f cs d n s.m[n]? s
  | _ => none
def kFls1 (P : Nat → List D → List MO → Option (Out × List MO)) (Gm : Nat → D) (o : E) (f : Nat) (cs : List Nat) (d : D) (s : S) : Res := bnd (ev P Gm o s) (kFls2 f cs d)
@[simp] theorem ev_fls : ev P Gm (.fls o f cs a) s = bnd (ev P Gm a s) (kFls1 P Gm o f cs) := rfl
@[simp] theorem kFls1_eq {d : D} : kFls1 P Gm o f cs d s = bnd (ev P Gm o s) (kFls2 f cs d) := rfl
@[simp] theorem kFls2_eq {d : D} : kFls2 f cs d (.adr n) s = flsR f cs d n s.m[n]? s := rfl
@[simp] theorem flsR_eq {d : D} {ns : List Nat} {ds : List D} (h : c ∈ cs) (h2 : ns.length < 1000) : flsR f cs d n (some (.ob c ns ds)) s = some (.nx, ⟨s.r, s.m.set n (.ob c (putN f d ns ds).1 (putN f d ns ds).2)⟩) := if_pos ⟨h, h2⟩
@[simp] theorem putN_nil {d : D} : putN f d [] [] = ([f], [d]) := rfl
@[simp] theorem putN_hit {d e : D} {ns : List Nat} {ds : List D} : putN f d (f :: ns) (e :: ds) = (f :: ns, d :: ds) := if_pos rfl
@[simp] theorem putN_miss {d e : D} {ns : List Nat} {ds : List D} (h : n ≠ f) : putN f d (n :: ns) (e :: ds) = (n :: (putN f d ns ds).1, e :: (putN f d ns ds).2) := if_neg h
def kMet4 (P : Nat → List D → List MO → Option (Out × List MO)) (n k i : Nat) (x : D) (ds es : List D) (s : S) : Res := if ds.length = n ∧ es.length = k then callR (P i (x :: (ds ++ es)) s.m) s else none
def kMet3 (P : Nat → List D → List MO → Option (Out × List MO)) (Gm : Nat → D) (n k : Nat) (ks : E) (i : Nat) (x : D) (ds : List D) (s : S) : Res := bndA (ev P Gm ks s) (kMet4 P n k i x ds)
def metR2 (P : Nat → List D → List MO → Option (Out × List MO)) (Gm : Nat → D) (n : Nat) (as : E) (k : Nat) (ks : E) (x : D) (s : S) (o : Option Nat) : Res := match o with
  | some i => bndA (ev P Gm as s) (kMet3 P Gm n k ks i x)
  | none => none
def metR (P : Nat → List D → List MO → Option (Out × List MO)) (Gm : Nat → D) (tbl : List (Nat × Nat)) (n : Nat) (as : E) (k : Nat) (ks : E) (x : D) (s : S) (o : Option Nat) : Res := match o with
  | some c => metR2 P Gm n as k ks x s (tbl.lookup c)
  | none => none
def kMet (P : Nat → List D → List MO → Option (Out × List MO)) (Gm : Nat → D) (tbl : List (Nat × Nat)) (n : Nat) (as : E) (k : Nat) (ks : E) (x : D) (s : S) : Res := metR P Gm tbl n as k ks x s (clsN s x)
@[simp] theorem ev_met : ev P Gm (.met tbl o n as k ks) s = bnd (ev P Gm o s) (kMet P Gm tbl n as k ks) := rfl
@[simp] theorem kMet_eq : kMet P Gm tbl n as k ks x s = metR P Gm tbl n as k ks x s (clsN s x) := rfl
@[simp] theorem metR_eq : metR P Gm tbl n as k ks x s (some c) = metR2 P Gm n as k ks x s (tbl.lookup c) := rfl
@[simp] theorem metR2_eq : metR2 P Gm n as k ks x s (some i) = bndA (ev P Gm as s) (kMet3 P Gm n k ks i x) := rfl
@[simp] theorem kMet3_eq {ds : List D} : kMet3 P Gm n k ks i x ds s = bndA (ev P Gm ks s) (kMet4 P n k i x ds) := rfl
@[simp] theorem kMet4_eq {ds es : List D} (h1 : ds.length = n) (h2 : es.length = k) : kMet4 P n k i x ds es s = callR (P i (x :: (ds ++ es)) s.m) s := if_pos ⟨h1, h2⟩
@[simp] theorem look_hit {i : Nat} : List.lookup c ((c, i) :: tbl) = some i := by simp [List.lookup]
@[simp] theorem look_miss {c' i : Nat} (h : (c == c') = false) : List.lookup c ((c', i) :: tbl) = List.lookup c tbl := by rw [List.lookup_cons, h]
def calB (neg : Bool) (o : Option (Out × List MO)) (s : S) : Res := match o with
  | some (.val (.bl b), m) => some (.val (.bl (neg != b)), { s with m := m })
  | _ => none
def cmoS (P : Nat → List D → List MO → Option (Out × List MO)) (o : Cop) (x y : D) (s : S) (nf : Bool) (q : Option Nat) : Res := match q with
  | some i => if nf then (match o with
    | .eq => calB false (P i [x, y] s.m) s
    | .ne => calB true (P i [x, y] s.m) s
    | _ => none) else none
  | none => none
def cmoR (P : Nat → List D → List MO → Option (Out × List MO)) (o : Cop) (tbl : List (Nat × Nat)) (x y : D) (s : S) (p q : Option Nat) : Res := match p with
  | some c => cmoS P o x y s (nfD c (s.v y)) (tbl.lookup c)
  | none => match q with
    | some _ => none
    | none => resB s (cmpF o x y s)
def kCmo2 (P : Nat → List D → List MO → Option (Out × List MO)) (o : Cop) (tbl : List (Nat × Nat)) (x y : D) (s : S) : Res := cmoR P o tbl x y s (clsN s x) (clsN s y)
def kCmo1 (P : Nat → List D → List MO → Option (Out × List MO)) (Gm : Nat → D) (o : Cop) (tbl : List (Nat × Nat)) (b : E) (x : D) (s : S) : Res := bnd (ev P Gm b s) (kCmo2 P o tbl x)
@[simp] theorem ev_cmo {q : Cop} : ev P Gm (.cmo q tbl a b) s = bnd (ev P Gm a s) (kCmo1 P Gm q tbl b) := by
  show bnd (ev P Gm a s) (fun x s => bnd (ev P Gm b s) fun y s => cmoF P q tbl x y s) = _
  congr 1
@[simp] theorem kCmo1_eq {q : Cop} : kCmo1 P Gm q tbl b x s = bnd (ev P Gm b s) (kCmo2 P q tbl x) := rfl
@[simp] theorem kCmo2_eq {q : Cop} : kCmo2 P q tbl x y s = cmoR P q tbl x y s (clsN s x) (clsN s y) := rfl
@[simp] theorem cmoR_no {q : Cop} : cmoR P q tbl x y s none none = resB s (cmpF q x y s) := rfl
@[simp] theorem cmoR_own {q : Cop} {r : Option Nat} : cmoR P q tbl x y s (some c) r = cmoS P q x y s (nfD c (s.v y)) (tbl.lookup c) := rfl
@[simp] theorem cmoS_eq : cmoS P .eq x y s true (some i) = calB false (P i [x, y] s.m) s := rfl
@[simp] theorem cmoS_ne : cmoS P .ne x y s true (some i) = calB true (P i [x, y] s.m) s := rfl
@[simp] theorem calB_eq {neg b : Bool} {m : List MO} : calB neg (some (.val (.bl b), m)) s = some (.val (.bl (neg != b)), ⟨s.r, m⟩) := rfl
@[simp] theorem nfD_non : nfD c .non = true := rfl
@[simp] theorem nfD_bl {b : Bool} : nfD c (.bl b) = true := rfl
@[simp] theorem nfD_int {i : Int} : nfD c (.int i) = true := rfl
@[simp] theorem nfD_str {z : Str} : nfD c (.str z) = true := rfl
@[simp] theorem nfD_lst {ds : List D} : nfD c (.lst ds) = true := rfl
@[simp] theorem nfD_tup {ds : List D} : nfD c (.tup ds) = true := rfl
@[simp] theorem nfD_dct {ks : List Key} {ds : List D} : nfD c (.dct ks ds) = true := rfl
@[simp] theorem nfD_obj {k : Nat} {ns : List Nat} {ds : List D} : nfD c (.obj k ns ds) = (k == c || !subC k c) := rfl
def calV (b : Bi) (o : Option (Out × List MO)) (s : S) : Res := match o with
  | some (.val d, m) => if bioOk b d then some (.val d, { s with m := m }) else none
  | _ => none
def bioS (P : Nat → List D → List MO → Option (Out × List MO)) (b : Bi) (x : D) (s : S) (q : Option Nat) : Res := match q with
  | some i => if bioB b then calV b (P i [x] s.m) s else none
  | none => none
def bioR (P : Nat → List D → List MO → Option (Out × List MO)) (b : Bi) (tbl : List (Nat × Nat)) (x : D) (s : S) (p : Option Nat) : Res := match p with
  | some c => bioS P b x s (tbl.lookup c)
  | none => biF b [x] s
def kBio (P : Nat → List D → List MO → Option (Out × List MO)) (b : Bi) (tbl : List (Nat × Nat)) (x : D) (s : S) : Res := bioR P b tbl x s (clsN s x)
@[simp] theorem ev_bio {q : Bi} : ev P Gm (.bio q tbl a) s = bnd (ev P Gm a s) (kBio P q tbl) := by
  show bnd (ev P Gm a s) (fun x s => bioF P q tbl x s) = _
  congr 1
@[simp] theorem kBio_eq {q : Bi} : kBio P q tbl x s = bioR P q tbl x s (clsN s x) := rfl
@[simp] theorem bioR_no {q : Bi} : bioR P q tbl x s none = biF q [x] s := rfl
@[simp] theorem bioR_own {q : Bi} : bioR P q tbl x s (some c) = bioS P q x s (tbl.lookup c) := rfl
@[simp] theorem bioS_len : bioS P .len x s (some i) = calV .len (P i [x] s.m) s := rfl
@[simp] theorem bioS_bool : bioS P .bool x s (some i) = calV .bool (P i [x] s.m) s := rfl
@[simp] theorem bioS_repr : bioS P .repr x s (some i) = calV .repr (P i [x] s.m) s := rfl
@[simp] theorem calV_len {j : Int} {m : List MO} (h0 : 0 ≤ j) (h1 : j < 9223372036854775808) : calV .len (some (.val (.int j), m)) s = some (.val (.int j), ⟨s.r, m⟩) := by
  show (if bioOk .len (.int j) then _ else none) = _
  rw [if_pos (by show (decide (0 ≤ j) && decide (j < 9223372036854775808)) = true; rw [decide_eq_true h0, decide_eq_true h1]; rfl)]
@[simp] theorem calV_bool {b : Bool} {m : List MO} : calV .bool (some (.val (.bl b), m)) s = some (.val (.bl b), ⟨s.r, m⟩) := rfl
@[simp] theorem calV_repr {z : Str} {m : List MO} : calV .repr (some (.val (.str z), m)) s = some (.val (.str z), ⟨s.r, m⟩) := rfl
def varP : Option (Option Cell) → Option D
  | some (some (.val d)) => some d
  | _ => none
@[simp] theorem varP_eq {d : D} : varP (some (some (.val d))) = some d := rfl
@[simp] theorem pathV_var {i : Nat} : pathV (.var i) s = varP s.r[i]? := rfl
def fldP (cs : List Nat) (f : Nat) (s : S) : Option D → Option D
  | some x => lookR cs f (clsF s x)
  | none => none
@[simp] theorem fldP_eq : fldP cs f s (some x) = lookR cs f (clsF s x) := rfl
@[simp] theorem pathV_fld : pathV (.fld a f cs) s = fldP cs f s (pathV a s) := by
  show (match pathV a s with
    | some x => fldF cs f x s
    | none => none) = _
  cases pathV a s <;> rfl
def lkR2 (P : Nat → List D → List MO → Option (Out × List MO)) (Gm : Nat → D) (a : E) (n : Nat) (s : S) : Option MO → Res
  | some (.dx ks ds) => unlk n (ev P Gm a ⟨s.r, s.m.set n (.dl ks ds)⟩)
  | some (.bx ds) => unlk n (ev P Gm a ⟨s.r, s.m.set n (.ll ds)⟩)
  | _ => ev P Gm a s
def lkR1 (P : Nat → List D → List MO → Option (Out × List MO)) (Gm : Nat → D) (a : E) (s : S) : Option D → Res
  | some (.adr n) => lkR2 P Gm a n s s.m[n]?
  | _ => ev P Gm a s
@[simp] theorem ev_lkp {p : E} : ev P Gm (.lkp p a) s = lkR1 P Gm a s (pathV p s) := by
  show (match pathV p s with
    | some (.adr n) => (match s.m[n]? with
      | some (.dx ks ds) => unlk n (ev P Gm a { s with m := s.m.set n (.dl ks ds) })
      | some (.bx ds) => unlk n (ev P Gm a { s with m := s.m.set n (.ll ds) })
      | _ => ev P Gm a s)
    | _ => ev P Gm a s) = _
  unfold lkR1 lkR2
  rfl
@[simp] theorem lkR1_adr : lkR1 P Gm a s (some (.adr n)) = lkR2 P Gm a n s s.m[n]? := rfl
@[simp] theorem lkR2_dx {ks : List Key} {ds : List D} : lkR2 P Gm a n s (some (.dx ks ds)) = unlk n (ev P Gm a ⟨s.r, s.m.set n (.dl ks ds)⟩) := rfl
@[simp] theorem lkR2_bx {ds : List D} : lkR2 P Gm a n s (some (.bx ds)) = unlk n (ev P Gm a ⟨s.r, s.m.set n (.ll ds)⟩) := rfl
@[simp] theorem lkR2_ll {ds : List D} : lkR2 P Gm a n s (some (.ll ds)) = ev P Gm a s := rfl
@[simp] theorem lkR2_dl {ks : List Key} {ds : List D} : lkR2 P Gm a n s (some (.dl ks ds)) = ev P Gm a s := rfl
@[simp] theorem lkR1_dct {ks : List Key} {ds : List D} : lkR1 P Gm a s (some (.dct ks ds)) = ev P Gm a s := rfl
def unlR (o : MO → Res) : Option MO → Res
  | some (.dl ks ds) => o (.dx ks ds)
  | some (.ll ds) => o (.bx ds)
  | _ => none
@[simp] theorem unlk_val {d : D} : unlk n (some (.val d, s)) = unlR (fun o => some (.val d, ⟨s.r, s.m.set n o⟩)) s.m[n]? := by
  unfold unlk unlR
  dsimp only
  all_goals (cases s.m[n]? with
  | none => rfl
  | some o => cases o <;> rfl)
@[simp] theorem unlk_fr {q : MO} : unlk n (some (.fr q, s)) = unlR (fun o => some (.fr q, ⟨s.r, s.m.set n o⟩)) s.m[n]? := by
  unfold unlk unlR
  dsimp only
  all_goals (cases s.m[n]? with
  | none => rfl
  | some o => cases o <;> rfl)
@[simp] theorem unlR_ll {o : MO → Res} {ds : List D} : unlR o (some (.ll ds)) = o (.bx ds) := rfl
@[simp] theorem unlR_eq {o : MO → Res} {ks : List Key} {ds : List D} : unlR o (some (.dl ks ds)) = o (.dx ks ds) := rfl
def lkS2 (P : Nat → List D → List MO → Option (Out × List MO)) (Gm : Nat → D) (a : E) (n : Nat) (s : S) : Option MO → Res
  | some (.dx ks ds) => unlkS n (ev P Gm a ⟨s.r, s.m.set n (.dl ks ds)⟩)
  | some (.bx ds) => unlkS n (ev P Gm a ⟨s.r, s.m.set n (.ll ds)⟩)
  | _ => ev P Gm a s
def lkS1 (P : Nat → List D → List MO → Option (Out × List MO)) (Gm : Nat → D) (a : E) (s : S) : Option D → Res
  | some (.adr n) => lkS2 P Gm a n s s.m[n]?
  | _ => ev P Gm a s
@[simp] theorem ev_lks {p : E} : ev P Gm (.lks p a) s = lkS1 P Gm a s (pathV p s) := by
  show (match pathV p s with
    | some (.adr n) => (match s.m[n]? with
      | some (.dx ks ds) => unlkS n (ev P Gm a { s with m := s.m.set n (.dl ks ds) })
      | some (.bx ds) => unlkS n (ev P Gm a { s with m := s.m.set n (.ll ds) })
      | _ => ev P Gm a s)
    | _ => ev P Gm a s) = _
  unfold lkS1 lkS2
  rfl
@[simp] theorem lkS1_adr : lkS1 P Gm a s (some (.adr n)) = lkS2 P Gm a n s s.m[n]? := rfl
@[simp] theorem lkS1_lst {ds : List D} : lkS1 P Gm a s (some (.lst ds)) = ev P Gm a s := rfl
@[simp] theorem lkS1_tup {ds : List D} : lkS1 P Gm a s (some (.tup ds)) = ev P Gm a s := rfl
@[simp] theorem lkS1_dct {ks : List Key} {ds : List D} : lkS1 P Gm a s (some (.dct ks ds)) = ev P Gm a s := rfl
@[simp] theorem lkS2_dx {ks : List Key} {ds : List D} : lkS2 P Gm a n s (some (.dx ks ds)) = unlkS n (ev P Gm a ⟨s.r, s.m.set n (.dl ks ds)⟩) := rfl
@[simp] theorem lkS2_bx {ds : List D} : lkS2 P Gm a n s (some (.bx ds)) = unlkS n (ev P Gm a ⟨s.r, s.m.set n (.ll ds)⟩) := rfl
@[simp] theorem lkS2_ll {ds : List D} : lkS2 P Gm a n s (some (.ll ds)) = ev P Gm a s := rfl
@[simp] theorem lkS2_dl {ks : List Key} {ds : List D} : lkS2 P Gm a n s (some (.dl ks ds)) = ev P Gm a s := rfl
@[simp] theorem lkR1_lst {ds : List D} : lkR1 P Gm a s (some (.lst ds)) = ev P Gm a s := rfl
@[simp] theorem lkR1_tup {ds : List D} : lkR1 P Gm a s (some (.tup ds)) = ev P Gm a s := rfl
theorem unlkS_eq {o : Out} {q : MO} (h : isEnd o = true) (hb : bkO s.m[n]? = some q) : unlkS n (some (o, s)) = some (o, ⟨s.r, s.m.set n q⟩) := by
  unfold unlkS
  dsimp only
  rw [h, hb]
  rfl
@[simp] theorem bkO_ll {ds : List D} : bkO (some (.ll ds)) = some (.bx ds) := rfl
@[simp] theorem bkO_dl {ks : List Key} {ds : List D} : bkO (some (.dl ks ds)) = some (.dx ks ds) := rfl
@[simp] theorem ev_bxe : ev P Gm (.bxe a) s = bxF (ev P Gm a s) := rfl
@[simp] theorem bxF_fr {o : MO} : bxF (some (.fr o, s)) = some (.val (.adr s.m.length), ⟨s.r, s.m ++ [o]⟩) := rfl
@[simp] theorem bxF_val {d : D} : bxF (some (.val d, s)) = some (.val d, s) := rfl
def conS (P : Nat → List D → List MO → Option (Out × List MO)) (neg : Bool) (x y : D) (s : S) (q : Option Nat) : Res := match q with
  | some i => calB neg (P i [y, x] s.m) s
  | none => none
def conR (P : Nat → List D → List MO → Option (Out × List MO)) (neg : Bool) (tbl : List (Nat × Nat)) (x y : D) (s : S) (p : Option Nat) : Res := match p with
  | some c => conS P neg x y s (tbl.lookup c)
  | none => resB s (cmpF (if neg then .notin else .isin) x y s)
def kCon2 (P : Nat → List D → List MO → Option (Out × List MO)) (neg : Bool) (tbl : List (Nat × Nat)) (x y : D) (s : S) : Res := conR P neg tbl x y s (clsN s y)
def kCon1 (P : Nat → List D → List MO → Option (Out × List MO)) (Gm : Nat → D) (neg : Bool) (tbl : List (Nat × Nat)) (b : E) (x : D) (s : S) : Res := bnd (ev P Gm b s) (kCon2 P neg tbl x)
@[simp] theorem ev_con {neg : Bool} : ev P Gm (.con neg tbl a b) s = bnd (ev P Gm a s) (kCon1 P Gm neg tbl b) := by
  show bnd (ev P Gm a s) (fun x s => bnd (ev P Gm b s) fun y s => conF P neg tbl x y s) = _
  congr 1
@[simp] theorem kCon1_eq {neg : Bool} : kCon1 P Gm neg tbl b x s = bnd (ev P Gm b s) (kCon2 P neg tbl x) := rfl
@[simp] theorem kCon2_eq {neg : Bool} : kCon2 P neg tbl x y s = conR P neg tbl x y s (clsN s y) := rfl
@[simp] theorem conR_own {neg : Bool} : conR P neg tbl x y s (some c) = conS P neg x y s (tbl.lookup c) := rfl
@[simp] theorem conR_in : conR P false tbl x y s none = resB s (cmpF .isin x y s) := rfl
@[simp] theorem conR_ni : conR P true tbl x y s none = resB s (cmpF .notin x y s) := rfl
@[simp] theorem conS_eq {neg : Bool} {i : Nat} : conS P neg x y s (some i) = calB neg (P i [y, x] s.m) s := rfl
def kIsb (k : Bool) (x : D) (s : S) : Res := match x with
  | .bl b => some (.val (.bl (b == k)), s)
  | _ => none
@[simp] theorem ev_isb {k : Bool} : ev P Gm (.isb k a) s = bnd (ev P Gm a s) (kIsb k) := rfl
@[simp] theorem kIsb_eq {k b : Bool} : kIsb k (.bl b) s = some (.val (.bl (b == k)), s) := rfl
def fmtR (o : Option Str) (s : S) : Res := match o with
  | some y => if y.length ≤ 100000 then some (.val (.str y), s) else none
  | none => none
def kFmt (x : D) (s : S) : Res := fmtR (txD x) s
def fstR (o : Option Str) (s : S) : Res := match o with
  | some z => some (.val (.str z), s)
  | none => none
def kFst (ds : List D) (s : S) : Res := fstR (fstF ds) s
@[simp] theorem ev_fmt : ev P Gm (.fmt a) s = bnd (ev P Gm a s) kFmt := rfl
@[simp] theorem kFmt_eq : kFmt x s = fmtR (txD x) s := rfl
@[simp] theorem txD_str {z : Str} : txD (.str z) = some z := rfl
@[simp] theorem txD_int {i : Int} (h : i.natAbs.log2 < 1920) : txD (.int i) = some (toString i : String) := if_pos h
@[simp] theorem fmtR_eq {z : Str} (h : z.length ≤ 100000) : fmtR (some z) s = some (.val (.str z), s) := if_pos h
@[simp] theorem ev_fst : ev P Gm (.fst a) s = bndA (ev P Gm a s) kFst := rfl
@[simp] theorem kFst_eq {ds : List D} : kFst ds s = fstR (fstF ds) s := rfl
@[simp] theorem fstR_eq {z : Str} : fstR (some z) s = some (.val (.str z), s) := rfl
def fstC (y : Str) (o : Option Str) : Option Str := match o with
  | some z => some (y ++ z)
  | none => none
@[simp] theorem fstF_nil : fstF [] = some Str.empty := rfl
@[simp] theorem fstF_cons {y : Str} {ds : List D} : fstF (.str y :: ds) = fstC y (fstF ds) := rfl
@[simp] theorem fstC_eq {y z : Str} : fstC y (some z) = some (y ++ z) := rfl
end
end En

namespace En
open PySem PySem.Spec L2
/-! ### walks over lists -/
/-- a run yields d -/
def Yld (o : Res) (d : D) (s : S) : Prop := o = some (.val d, s) ∨ ∃ ds, o = some (.fr (.bx ds), s) ∧ d = .lst ds
theorem Yld.bnd {o : Res} {d : D} {s : S} (h : Yld o d s) (k : D → S → Res) : bnd o k = k d s := by
  rcases h with h | ⟨ds, h, rfl⟩
  · rw [h]; rfl
  · rw [h]; rfl
@[simp] theorem Yld_val {d e : D} {s t : S} : Yld (some (.val d, s)) e t ↔ d = e ∧ s = t := by
  constructor
  · rintro (h | ⟨ds, h, _⟩)
    · cases h; exact ⟨rfl, rfl⟩
    · cases h
  · rintro ⟨rfl, rfl⟩; exact .inl rfl
@[simp] theorem Yld_frs {ds : List D} {e : D} {s t : S} : Yld (some (.fr (.bx ds), s)) e t ↔ D.lst ds = e ∧ s = t := by
  constructor
  · rintro (h | ⟨es, h, rfl⟩)
    · cases h
    · cases h; exact ⟨rfl, rfl⟩
  · rintro ⟨rfl, rfl⟩; exact .inr ⟨_, rfl, rfl⟩
section
variable {st : D → S → Option S} {cd el : S → Res} {body : S → Res} {r : List (Option Cell)}
/-- a comprehension that changes nothing: kept where p, each yields f -/
theorem compL_map (p : D → Bool) (f : D → D) : ∀ (ds : List D) (acc : List D) (m : List MO), (∀ d ∈ ds, ∃ s1, st d ⟨r, m⟩ = some s1 ∧ ∃ s2, Yld (cd s1) (.bl (p d)) s2 ∧ s2.m = m ∧ (p d = true → ∃ s3, Yld (el s2) (f d) s3 ∧ s3.m = m)) → acc.length + ds.length ≤ big →
    compL st cd el r ds acc m = some (.fr (.bx (acc ++ (ds.filter p).map f)), ⟨r, m⟩)
  | [], acc, m, _, _ => by rw [compL]; simp
  | d :: ds, acc, m, h, hl => by
    obtain ⟨s1, e1, s2, e2, e3, h3⟩ := h d (List.mem_cons_self ..)
    have ih := fun acc => compL_map p f ds acc m (fun x hx => h x (List.mem_cons_of_mem _ hx))
    rw [compL, e1]
    show bnd (cd s1) _ = _
    rw [e2.bnd]
    cases hp : p d with
    | true =>
      obtain ⟨s3, e4, e5⟩ := h3 hp
      show bnd (el s2) _ = _
      rw [e4.bnd, List.filter_cons, hp, if_pos rfl, List.map_cons]
      rw [List.length_cons] at hl
      have hb : acc.length < big := by omega
      show (if acc.length < big then compL st cd el r ds (acc ++ [f d]) s3.m else none) = _
      rw [if_pos hb, e5, ih _ (by rw [List.length_append, List.length_singleton]; omega), List.append_assoc]
      rfl
    | false =>
      show compL st cd el r ds acc s2.m = _
      rw [List.length_cons] at hl
      rw [e3, ih _ (by omega), List.filter_cons, hp]
      rfl
/-- one without a condition -/
theorem compL_all (f : D → D) (ds : List D) (acc : List D) (m : List MO) (h : ∀ d ∈ ds, ∃ s1, st d ⟨r, m⟩ = some s1 ∧ ∃ s2, Yld (cd s1) (.bl true) s2 ∧ s2.m = m ∧ ∃ s3, Yld (el s2) (f d) s3 ∧ s3.m = m) (hl : acc.length + ds.length ≤ big) :
    compL st cd el r ds acc m = some (.fr (.bx (acc ++ ds.map f)), ⟨r, m⟩) := by
  have e := compL_map (st := st) (cd := cd) (el := el) (r := r) (fun _ => true) f ds acc m (fun d hd => by
    obtain ⟨s1, e1, s2, e2, e3, s3, e4⟩ := h d hd
    exact ⟨s1, e1, s2, e2, e3, fun _ => ⟨s3, e4⟩⟩) hl
  rw [e, List.filter_eq_self.mpr fun _ _ => rfl]
/-- a comprehension whose elements may change the store -/
theorem compL_inv (J : List MO → Prop) (R : D → Prop) : ∀ (ds : List D) (acc : List D) (m : List MO), J m → (∀ d ∈ ds, ∀ m, J m → ∃ s1, st d ⟨r, m⟩ = some s1 ∧ ∃ s2, Yld (cd s1) (.bl true) s2 ∧ ∃ y s3, Yld (el s2) y s3 ∧ J s3.m ∧ R y) → acc.length + ds.length ≤ big →
    ∃ ys m', compL st cd el r ds acc m = some (.fr (.bx (acc ++ ys)), ⟨r, m'⟩) ∧ ys.length = ds.length ∧ (∀ y ∈ ys, R y) ∧ J m'
  | [], acc, m, hj, _, _ => ⟨[], m, by rw [compL]; simp, rfl, (fun y hy => by cases hy), hj⟩
  | d :: ds, acc, m, hj, h, hl => by
    obtain ⟨s1, e1, s2, e2, y, s3, e4, e5, e6⟩ := h d (List.mem_cons_self ..) m hj
    rw [List.length_cons] at hl
    obtain ⟨ys, m', q1, q2, q3, q4⟩ := compL_inv J R ds (acc ++ [y]) s3.m e5 (fun x hx => h x (List.mem_cons_of_mem _ hx)) (by rw [List.length_append, List.length_singleton]; omega)
    refine ⟨y :: ys, m', ?_, by rw [List.length_cons, q2]; rfl, fun z hz => ?_, q4⟩
    · rw [compL, e1]
      show bnd (cd s1) _ = _
      rw [e2.bnd]
      show bnd (el s2) _ = _
      rw [e4.bnd]
      have hb : acc.length < big := by omega
      show (if acc.length < big then compL st cd el r ds (acc ++ [y]) s3.m else none) = _
      rw [if_pos hb, q1, List.append_assoc]
      rfl
    · rcases List.mem_cons.mp hz with rfl | hz
      · exact e6
      · exact q3 z hz
/-- a for that goes through -/
theorem forL_inv (J : List D → S → Prop) : ∀ (ds : List D) (s : S), J ds s → (∀ d ds s, J (d :: ds) s → ∃ s1, st d s = some s1 ∧ ∃ s2, (body s1 = some (.nx, s2) ∨ body s1 = some (.ct, s2)) ∧ J ds s2) → ∃ s', forL st body ds s = some (.nx, s') ∧ J [] s'
  | [], s, hj, _ => ⟨s, by rw [forL], hj⟩
  | d :: ds, s, hj, h => by
    obtain ⟨s1, e1, s2, e2, e3⟩ := h d ds s hj
    obtain ⟨s', q1, q2⟩ := forL_inv J ds s2 e3 h
    refine ⟨s', ?_, q2⟩
    rw [forL, e1]
    show (match body s1 with
      | some (.nx, s2) => forL st body ds s2
      | some (.ct, s2) => forL st body ds s2
      | some (.bk, s2) => some (.nx, s2)
      | r => r) = _
    rcases e2 with e2 | e2
    · rw [e2]; exact q1
    · rw [e2]; exact q1
end
/-! ### texts by their signs -/
/-- the text of these signs -/
abbrev tx (l : List Nat) : Str := ⟨l.toArray⟩
def az : List Nat := [97, 98, 99, 100, 101, 102, 103, 104, 105, 106, 107, 108, 109, 110, 111, 112, 113, 114, 115, 116, 117, 118, 119, 120, 121, 122]
theorem tx_tl (x : Str) : tx x.cps.toList = x := TL.mk_tl x
theorem tx_len (a : List Nat) : (tx a).length = a.length := by simp [tx, Str.length]
theorem tx_cat (a b : List Nat) : tx a ++ tx b = tx (a ++ b) := TL.ext_tl (TL.tl_append (tx a) (tx b))
theorem tx_inj {a b : List Nat} : (tx a = tx b) ↔ a = b := ⟨fun h => congrArg (fun x : Str => x.cps.toList) h, fun h => by rw [h]⟩
theorem tx_cut (a : List Nat) (lo hi : Option Int) : cutS (tx a) lo hi = tx ((a.drop (HT.sIx a.length 0 lo)).take (HT.sIx a.length a.length hi - HT.sIx a.length 0 lo)) := by
  unfold cutS
  rw [tx_len]
theorem tx_join (ys : List (List Nat)) : Txt.join (tx []) (ys.map tx) = tx ys.flatten := by
  have e := SX.join_S [] ys
  have z : ∀ ys : List (List Nat), TL.joinL [] ys = ys.flatten := by
    intro ys
    induction ys with
    | nil => rfl
    | cons y ys ih =>
      cases ys with
      | nil => simp [TL.joinL]
      | cons z zs => simp only [TL.joinL, List.flatten_cons, ih, List.nil_append]
  rw [z] at e
  exact e
theorem strs_tx : ∀ ys : List (List Nat), strsOf (ys.map fun l => D.str (tx l)) = some (ys.map tx)
  | [] => rfl
  | y :: ys => by simp [strsOf, strs_tx ys]
theorem join_tx (ys : List (List Nat)) (s : S) (h : ys.flatten.length ≤ 16777216) : bmF .join (.str (tx [])) [.lst (ys.map fun l => .str (tx l))] s = some (.val (.str (tx ys.flatten)), s) := by
  have e : ((ys.map tx).map (·.length)).sum = ys.flatten.length := by
    rw [List.length_flatten, List.map_map]
    exact congrArg List.sum (List.map_congr_left fun l _ => tx_len l)
  simp only [bmF, viewQ, viewL, strs_tx, e, tx_join]
  rw [if_pos]
  show _ ≤ 16777216
  simpa [Str.length] using h
theorem join_one (w : List Nat) (s : S) (h : w.length ≤ 16777216) : bmF .join (.str (tx [])) [.lst (w.map fun c => .str (tx [c]))] s = some (.val (.str (tx w)), s) := by
  have e : (w.map fun c => [c]).flatten = w := by
    clear h
    induction w with
    | nil => rfl
    | cons c w ih => simpa using ih
  have := join_tx (w.map fun c => [c]) s (by rw [e]; exact h)
  rw [e, List.map_map] at this
  exact this
theorem tx_to (w : List Nat) (k : Nat) : cutS (tx w) none (some (k : Int)) = tx (w.take k) := by
  rw [tx_cut, HT.sIx_none, HT.sIx_nat, List.drop_zero]
  refine congrArg tx ?_
  rw [Nat.sub_zero]
  by_cases h : k ≤ w.length
  · rw [Nat.min_eq_left h]
  · rw [Nat.min_eq_right (by omega), List.take_of_length_le (Nat.le_refl _), List.take_of_length_le (by omega)]
theorem tx_from (w : List Nat) (k : Nat) : cutS (tx w) (some (k : Int)) none = tx (w.drop k) := by
  rw [tx_cut, HT.sIx_none, HT.sIx_nat]
  refine congrArg tx ?_
  by_cases h : k ≤ w.length
  · rw [Nat.min_eq_left h, List.take_of_length_le (by rw [List.length_drop]; omega)]
  · rw [Nat.min_eq_right (by omega), List.drop_of_length_le (Nat.le_refl _), List.drop_of_length_le (by omega), List.take_nil]
theorem ix_tx {l : List Nat} {x : Int} (s : S) (h0 : 0 ≤ x) (h1 : x < l.length) (h2 : l.length ≤ 16777216) : ixF (.str (tx l)) (.int x) s = some (.str (tx [l.getD x.toNat 0])) := by
  have hl : x.toNat < l.length := by omega
  simp [ixF, tx_len, h2, atI, ixN, h0, h1, hl]
theorem getD_mem {l : List Nat} {x : Nat} (h : x < l.length) : l.getD x 0 ∈ l := by
  rw [List.getD_eq_getElem?_getD, List.getElem?_eq_getElem h]
  exact List.getElem_mem h
theorem az_len : az.length = 26 := rfl
end En

namespace En
open PySem PySem.Spec L2
def tEq : List (Nat × Nat) := [(0, 2005), (1, 2006), (2, 2007), (3, 2008), (14, 2009), (18, 2010)]
def tLen : List (Nat × Nat) := [(1, 2011), (3, 2012), (18, 2013), (19, 2014)]
def tBool : List (Nat × Nat) := [(1, 2015), (4, 2016), (5, 2017), (6, 2016), (7, 2018), (8, 2019), (9, 2020), (15, 2021), (18, 2022), (19, 2023)]
def tRepr : List (Nat × Nat) := [(0, 2024), (1, 2025), (2, 2026), (3, 2027), (4, 2028), (5, 2028), (6, 2028), (7, 2028), (8, 2028), (9, 2029), (10, 2030), (11, 2030), (12, 2030), (18, 2031), (19, 2032)]
def tIn : List (Nat × Nat) := [(1, 2177)]
def t_is_exact_0 : List (Nat × Nat) := [(0, 2033)]
def t_may_be_0_date : List (Nat × Nat) := [(0, 2034)]
def t_parts_0 : List (Nat × Nat) := [(0, 2035), (1, 2036), (2, 2037)]
def t_may_be_1 : List (Nat × Nat) := [(0, 2073)]
def t_rivals_1 : List (Nat × Nat) := [(1, 2074)]
def t_is_kept_1 : List (Nat × Nat) := [(1, 2075)]
def t_is_aside_1 : List (Nat × Nat) := [(1, 2076)]
def t_labels_0 : List (Nat × Nat) := [(1, 2077)]
def t_active_0 : List (Nat × Nat) := [(1, 2078)]
def t_kept_0 : List (Nat × Nat) := [(1, 2079)]
def t_aside_0 : List (Nat × Nat) := [(1, 2080)]
def t_all_keys_0 : List (Nat × Nat) := [(1, 2081)]
def t_things_0 : List (Nat × Nat) := [(1, 2082), (2, 2083), (3, 2084), (9, 2085)]
def t_is_next_1 : List (Nat × Nat) := [(1, 2178)]
def t_need_key_1 : List (Nat × Nat) := [(1, 2086)]
def t_label_1 : List (Nat × Nat) := [(1, 2090)]
def t_class_of_1 : List (Nat × Nat) := [(2, 2087)]
def t_with_labels_1 : List (Nat × Nat) := [(1, 2088)]
def t_exchanged_1 : List (Nat × Nat) := [(1, 2089)]
def t_narrowed_2 : List (Nat × Nat) := [(0, 2091)]
def t_classes_0 : List (Nat × Nat) := [(2, 2092)]
def t_class_of_0_thing : List (Nat × Nat) := [(2, 2179)]
def t_apart_0 : List (Nat × Nat) := [(2, 2102)]
def t_together_0 : List (Nat × Nat) := [(2, 2104)]
def t_chain_2 : List (Nat × Nat) := [(2, 2180)]
def t_apart_fact_2 : List (Nat × Nat) := [(2, 2107)]
def t_need_two_2 : List (Nat × Nat) := [(2, 2151)]
def t_fits_0_facts : List (Nat × Nat) := [(3, 2093), (14, 2094)]
def t_fits_1 : List (Nat × Nat) := [(3, 2095), (14, 2096)]
def t_groups_0 : List (Nat × Nat) := [(3, 2097)]
def t_alone_0_thing : List (Nat × Nat) := [(3, 2098)]
def t_moved_0_one_other : List (Nat × Nat) := [(3, 2099)]
def t_joined_0_other_one : List (Nat × Nat) := [(3, 2100)]
def t_joined_2 : List (Nat × Nat) := [(3, 2101)]
def t_group_of_1 : List (Nat × Nat) := [(3, 2103)]
def t_placed_2 : List (Nat × Nat) := [(3, 2105)]
def t_place_1 : List (Nat × Nat) := [(1, 2106)]
def t_grouping_0 : List (Nat × Nat) := [(5, 2108), (8, 2109), (14, 2110)]
def t_dating_0 : List (Nat × Nat) := [(5, 2111), (8, 2112), (9, 2113), (15, 2114)]
def t_tree_0 : List (Nat × Nat) := [(6, 2115)]
def t_told_0 : List (Nat × Nat) := [(4, 2116), (5, 2116), (6, 2116), (7, 2116), (8, 2116), (10, 2117), (11, 2118), (12, 2119)]
def t_holds_0 : List (Nat × Nat) := [(4, 2120), (5, 2121), (6, 2122), (7, 2123), (8, 2124), (9, 2125), (15, 2126)]
def t_is_fitting_2 : List (Nat × Nat) := [(4, 2127), (5, 2127), (6, 2127), (7, 2127), (8, 2127)]
def t_is_apart_0 : List (Nat × Nat) := [(6, 2128)]
def t_is_reason_2 : List (Nat × Nat) := [(7, 2129)]
def t_bearers_1 : List (Nat × Nat) := [(7, 2130)]
def t_reasons_0 : List (Nat × Nat) := [(7, 2131)]
def t_can_join_1 : List (Nat × Nat) := [(2, 2132)]
def t_is_union_0 : List (Nat × Nat) := [(9, 2133)]
def t_pick_1 : List (Nat × Nat) := [(10, 2134), (11, 2135), (12, 2136)]
def t_choice_3 : List (Nat × Nat) := [(10, 2137), (11, 2137), (12, 2137)]
def t_things_beside_0_thing : List (Nat × Nat) := [(14, 2181)]
def t_sections_0 : List (Nat × Nat) := [(14, 2141)]
def t_outside_0 : List (Nat × Nat) := [(13, 2138)]
def t_things_beside_1 : List (Nat × Nat) := [(14, 2139)]
def t_inside_0 : List (Nat × Nat) := [(13, 2140)]
def t_components_0 : List (Nat × Nat) := [(13, 2164)]
def t_sectioned_0 : List (Nat × Nat) := [(15, 2142)]
def t_leaders_2 : List (Nat × Nat) := [(14, 2143), (18, 2144)]
def t_takes_1 : List (Nat × Nat) := [(16, 2145)]
def t_takes_keys_2 : List (Nat × Nat) := [(16, 2146)]
def t_takes_label_1 : List (Nat × Nat) := [(16, 2147)]
def t_takes_things_1 : List (Nat × Nat) := [(16, 2148)]
def t_with_apart_2 : List (Nat × Nat) := [(2, 2149)]
def t_with_together_2 : List (Nat × Nat) := [(2, 2150)]
def t_become_1 : List (Nat × Nat) := [(18, 2152)]
def t_advance_1 : List (Nat × Nat) := [(18, 2153)]
def t_history_0 : List (Nat × Nat) := [(18, 2154)]
def t_is_sure_1 : List (Nat × Nat) := [(18, 2155)]
def t_leaders_0 : List (Nat × Nat) := [(14, 2156), (18, 2157)]
def t_redo_0 : List (Nat × Nat) := [(18, 2158)]
def t_undo_0 : List (Nat × Nat) := [(18, 2159)]
def t_say_1 : List (Nat × Nat) := [(19, 2160)]
def t_log_0 : List (Nat × Nat) := [(19, 2161)]
def t_set_limit_1 : List (Nat × Nat) := [(18, 2162)]
def t_chosen_3 : List (Nat × Nat) := [(10, 2163), (11, 2163), (12, 2163)]
def c_law_feed : E := (.seq (.asg 1 (.lc [3] (.tn 3) (.it (.sl (.var 0) .abs (.one (.cst (.int 63))))) (.cst (.bl true)) (.bi .int (.cns (.var 3) .nil)))) (.seq (.asg 2 (.bop .add (.cst (.int 10029)) (.bop .mul (.cst (.int 71)) (.bi .len (.cns (.var 1) .nil))))) (.seq (.frr (.tn 3) (.it (.var 1)) (.seq (.asg 2 (.bop .mod (.bi .int (.cns (.bop .add (.bop .mul (.var 2) (.cst (.int 8101))) (.var 3)) .nil)) (.cst (.int 2147483269)))) .skp)) (.seq (.ret (.lst (.cns (.var 1) (.cns (.cst (.int 0)) (.cns (.cst (.int 0)) (.cns (.var 2) .nil)))))) .skp))))
def c_law_take : E := (.seq (.iff (.cmp .lt (.ix (.var 0) (.cst (.int 2))) (.cst (.int 2))) (.seq (.sit (.var 0) (.cst (.int 1)) (.bop .add (.ix (.var 0) (.cst (.int 1))) (.cst (.int 1)))) (.seq (.asg 3 (.bop .add (.ix (.var 0) (.cst (.int 3))) (.bop .mul (.ix (.var 0) (.cst (.int 1))) (.cst (.int 9311))))) (.seq (.iff (.cmp .le (.ix (.var 0) (.cst (.int 1))) (.bi .len (.cns (.ix (.var 0) (.cst (.int 0))) .nil))) (.seq (.asg 3 (.ix (.ix (.var 0) (.cst (.int 0))) (.bop .sub (.ix (.var 0) (.cst (.int 1))) (.cst (.int 1))))) .skp) .skp) (.seq (.iff (.bor (.cmp .gt (.ix (.var 0) (.cst (.int 1))) (.bi .len (.cns (.ix (.var 0) (.cst (.int 0))) .nil))) (.one (.cmp .lt (.var 3) (.bop .pow (.cst (.int 10)) (.cst (.int 18)))))) (.seq (.asg 4 (.bop .mod (.bi .int (.cns (.bop .add (.bop .add (.bop .mul (.var 3) (.cst (.int 46687))) (.bop .mul (.ix (.var 0) (.cst (.int 1))) (.cst (.int 36007)))) (.ix (.var 0) (.cst (.int 3)))) .nil)) (.cst (.int 2147483647)))) (.seq (.asg 5 (.bop .mod (.bi .int (.cns (.bop .add (.bop .mul (.var 4) (.var 4)) (.bop .mul (.ix (.var 0) (.cst (.int 1))) (.cst (.int 51539)))) .nil)) (.cst (.int 998244353)))) (.seq (.ret (.bop .mod (.bop .div (.bop .mod (.bi .int (.cns (.bop .add (.bop .mul (.var 5) (.cst (.int 48109))) (.var 4)) .nil)) (.cst (.int 2147483579))) (.cst (.int 29))) (.var 1))) .skp))) .skp) (.seq (.sit (.var 0) (.cst (.int 2)) (.var 3)) .skp))))) .skp) (.seq (.asg 2 (.bop .mod (.bi .int (.cns (.ix (.var 0) (.cst (.int 2))) .nil)) (.var 1))) (.seq (.sit (.var 0) (.cst (.int 2)) (.bop .div (.bi .int (.cns (.ix (.var 0) (.cst (.int 2))) .nil)) (.var 1))) (.seq (.ret (.var 2)) .skp))))
def c_law_of : E := (.seq (.ret (.ix (.var 1) (.cal 11 (.cns (.var 0) (.cns (.bi .len (.cns (.var 1) .nil)) .nil))))) .skp)
def c_law_same : E := (.seq (.iff (.isn (.var 1)) (.seq (.ret (.isn (.var 0))) .skp) .skp) (.seq (.iff (.bor (.isi (.var 1) [.bool]) (.one (.isi (.var 0) [.bool]))) (.seq (.ret (.band (.isi (.var 1) [.bool]) (.band (.isi (.var 0) [.bool]) (.one (.cmp .eq (.var 0) (.var 1)))))) .skp) .skp) (.seq (.iff (.isi (.var 1) [.int, .str]) (.seq (.ret (.band (.isi (.var 0) [.int, .str]) (.band (.cmp .eq (.isi (.var 0) [.int]) (.isi (.var 1) [.int])) (.one (.cmp .eq (.var 0) (.var 1)))))) .skp) .skp) (.seq (.iff (.isi (.var 1) [.dict]) (.seq (.ret (.band (.isi (.var 0) [.dict]) (.band (.cmp .eq (.bi .len (.cns (.var 0) .nil)) (.bi .len (.cns (.var 1) .nil))) (.one (.bi .all (.cns (.lc [2] (.tn 2) (.it (.var 1)) (.cst (.bl true)) (.band (.cmp .isin (.var 2) (.var 0)) (.one (.cal 13 (.cns (.ix (.var 0) (.var 2)) (.cns (.ix (.var 1) (.var 2)) .nil)))))) .nil)))))) .skp) .skp) (.seq (.iff (.bor (.cmp .ne (.isi (.var 1) [.list]) (.isi (.var 0) [.list])) (.one (.cmp .ne (.isi (.var 1) [.tuple]) (.isi (.var 0) [.tuple])))) (.seq (.ret (.cst (.bl false))) .skp) .skp) (.seq (.ret (.band (.cmp .eq (.bi .len (.cns (.var 0) .nil)) (.bi .len (.cns (.var 1) .nil))) (.one (.bi .all (.cns (.lc [3, 4] (.tt [3, 4]) (.zp (.var 0) (.var 1)) (.cst (.bl true)) (.cal 13 (.cns (.var 3) (.cns (.var 4) .nil)))) .nil))))) .skp))))))
def c_law_fields : E := (.seq (.iff (.cmp .isin (.fld (.var 0) 43 []) (.tpl (.cns (.cst (.str (tx [73, 110, 118, 97, 108, 105, 100, 87, 111, 114, 100]))) (.cns (.cst (.str (tx [73, 110, 118, 97, 108, 105, 100, 68, 97, 116, 101]))) (.cns (.cst (.str (tx [73, 110, 118, 97, 108, 105, 100, 67, 111, 117, 110, 116]))) (.cns (.cst (.str (tx [73, 110, 118, 97, 108, 105, 100, 76, 105, 109, 105, 116]))) .nil)))))) (.seq (.ret (.tpl (.cns (.fld (.var 0) 44 []) .nil))) .skp) .skp) (.seq (.iff (.cmp .isin (.fld (.var 0) 43 []) (.tpl (.cns (.cst (.str (tx [68, 117, 112, 108, 105, 99, 97, 116, 101, 75, 101, 121]))) (.cns (.cst (.str (tx [85, 110, 107, 110, 111, 119, 110, 75, 101, 121]))) .nil)))) (.seq (.ret (.tpl (.cns (.fld (.var 0) 0 [0, 4, 5, 6, 7, 8, 15]) .nil))) .skp) .skp) (.seq (.iff (.cmp .isin (.fld (.var 0) 43 []) (.tpl (.cns (.cst (.str (tx [83, 97, 109, 101, 84, 104, 105, 110, 103]))) (.cns (.cst (.str (tx [85, 110, 107, 110, 111, 119, 110, 84, 104, 105, 110, 103]))) .nil)))) (.seq (.ret (.tpl (.cns (.fld (.var 0) 46 []) .nil))) .skp) .skp) (.seq (.iff (.cmp .eq (.fld (.var 0) 43 []) (.cst (.str (tx [73, 110, 118, 97, 108, 105, 100, 84, 101, 120, 116])))) (.seq (.ret (.tpl (.cns (.fld (.var 0) 47 []) .nil))) .skp) .skp) (.seq (.iff (.cmp .eq (.fld (.var 0) 43 []) (.cst (.str (tx [84, 111, 111, 77, 97, 110, 121])))) (.seq (.ret (.tpl (.cns (.fld (.var 0) 48 []) (.cns (.fld (.var 0) 49 []) .nil)))) .skp) .skp) (.seq (.ret (.ite (.cmp .isin (.fld (.var 0) 43 []) (.tpl (.cns (.cst (.str (tx [84, 104, 105, 110, 103, 115, 68, 105, 102, 102, 101, 114]))) (.cns (.cst (.str (tx [73, 110, 118, 97, 108, 105, 100, 68, 97, 116, 105, 110, 103]))) (.cns (.cst (.str (tx [67, 108, 97, 115, 104]))) (.cns (.cst (.str (tx [78, 111, 116, 104, 105, 110, 103, 76, 101, 102, 116]))) .nil)))))) (.tpl .nil) (.tpl (.cns (.fld (.var 0) 45 []) .nil)))) .skp))))))
def c_law_kinds : E := (.seq (.asg 1 (.lst (.cns (.isi (.var 0) [.own 32]) (.cns (.isi (.var 0) [.own 33]) (.cns (.isi (.var 0) [.own 34]) (.cns (.isi (.var 0) [.own 35]) (.cns (.isi (.var 0) [.own 36]) (.cns (.isi (.var 0) [.own 37]) (.cns (.isi (.var 0) [.own 38]) (.cns (.isi (.var 0) [.own 39]) .nil)))))))))) (.seq (.asg 1 (.bop .add (.var 1) (.lst (.cns (.isi (.var 0) [.own 40]) (.cns (.isi (.var 0) [.own 41]) (.cns (.isi (.var 0) [.own 42]) (.cns (.isi (.var 0) [.own 43]) (.cns (.isi (.var 0) [.own 44]) (.cns (.isi (.var 0) [.own 45]) (.cns (.isi (.var 0) [.own 46]) (.cns (.isi (.var 0) [.own 47]) .nil))))))))))) (.seq (.ret (.bop .add (.var 1) (.lst (.cns (.isi (.var 0) [.own 48]) (.cns (.isi (.var 0) [.own 49]) (.cns (.isi (.var 0) [.own 50]) (.cns (.isi (.var 0) [.own 51]) (.cns (.isi (.var 0) [.own 52]) (.cns (.isi (.var 0) [.own 53]) (.cns (.isi (.var 0) [.own 54]) .nil)))))))))) .skp)))
def c_is_word : E := (.seq (.iff (.bor (.nt (.isi (.var 0) [.str])) (.one (.nt (.chn .le .le (.cst (.int 1)) (.bi .len (.cns (.var 0) .nil)) (.gv 1))))) (.seq (.ret (.cst (.bl false))) .skp) .skp) (.seq (.ret (.bi .all (.cns (.lc [1] (.tn 1) (.it (.var 0)) (.cst (.bl true)) (.cmp .isin (.var 1) (.gv 0))) .nil))) .skp))
def c_is_number : E := (.seq (.ret (.band (.isi (.var 0) [.int]) (.band (.nt (.isi (.var 0) [.bool])) (.one (.chn .le .le (.var 1) (.var 0) (.var 2)))))) .skp)
def c_is_date : E := (.seq (.ret (.cal 1 (.cns (.var 0) (.cns (.cst (.int 0)) (.cns (.gv 2) .nil))))) .skp)
def c_law_new_names : E := (.seq (.asg 2 (.cst (.str (tx az)))) (.seq (.asg 3 (.bm .join (.cst (.str (tx []))) (.cns (.lc [6] (.tn 6) (.rng (.cal 11 (.cns (.var 0) (.cns (.cst (.int 5)) .nil)))) (.cst (.bl true)) (.cal 12 (.cns (.var 0) (.cns (.var 2) .nil)))) .nil))) (.seq (.ast (.tt [4, 5]) (.tpl (.cns (.cal 11 (.cns (.var 0) (.cns (.bop .add (.bi .len (.cns (.var 3) .nil)) (.cst (.int 1))) .nil))) (.cns (.cal 11 (.cns (.var 0) (.cns (.cst (.int 26)) .nil))) .nil)))) (.seq (.ret (.lc [6] (.tn 6) (.rng (.var 1)) (.cst (.bl true)) (.bop .add (.bop .add (.sl (.var 3) .abs (.one (.var 4))) (.ix (.var 2) (.bop .mod (.bi .int (.cns (.bop .add (.var 5) (.bop .mul (.cst (.int 7)) (.var 6))) .nil)) (.cst (.int 26))))) (.sl (.var 3) (.one (.var 4)) .abs)))) .skp))))
def c_law_dates : E := (.seq (.asg 2 (.bop .add (.cal 12 (.cns (.var 0) (.cns (.lst (.cns (.cst (.int 0)) (.cns (.cst (.int 7)) (.cns (.cst (.int 1753)) (.cns (.cst (.int 9990)) .nil))))) .nil))) (.cal 11 (.cns (.var 0) (.cns (.cst (.int 4)) .nil))))) (.seq (.ret (.tpl (.cns (.var 2) (.cns (.bop .add (.var 2) (.cal 11 (.cns (.var 0) (.cns (.var 1) .nil)))) .nil)))) .skp))
def c_Label_init : E := (.seq (.frr (.tn 6) (.it (.tpl (.cns (.var 1) (.cns (.var 2) (.cns (.var 3) .nil))))) (.seq (.iff (.nt (.cal 0 (.cns (.var 6) .nil))) (.seq .wal .skp) .skp) .skp)) (.seq (.iff (.nt (.cal 2 (.cns (.var 4) .nil))) (.seq .wal .skp) .skp) (.seq (.iff (.band (.nin (.var 5)) (.one (.bor (.nt (.cal 2 (.cns (.var 5) .nil))) (.one (.cmp .lt (.var 5) (.var 4)))))) (.seq .wal .skp) .skp) (.seq (.fls (.var 0) 0 [0, 4, 5, 6, 7, 8, 15] (.var 1)) (.seq (.fls (.var 0) 1 [0] (.var 2)) (.seq (.fls (.var 0) 2 [0] (.var 3)) (.seq (.fls (.var 0) 3 [0] (.var 4)) (.seq (.fls (.var 0) 4 [0] (.ite (.isn (.var 5)) (.var 4) (.var 5))) .skp))))))))
def c_Label_is_exact : E := (.seq (.ret (.cmp .eq (.fld (.var 0) 3 [0]) (.fld (.var 0) 4 [0]))) .skp)
def c_Label_may_be : E := (.seq (.ret (.cal 1 (.cns (.var 1) (.cns (.fld (.var 0) 3 [0]) (.cns (.fld (.var 0) 4 [0]) .nil))))) .skp)
def c_Label_parts : E := (.seq (.ret (.tpl (.cns (.fld (.var 0) 0 [0, 4, 5, 6, 7, 8, 15]) (.cns (.fld (.var 0) 1 [0]) (.cns (.fld (.var 0) 2 [0]) (.cns (.fld (.var 0) 3 [0]) (.cns (.fld (.var 0) 4 [0]) .nil))))))) .skp)
def c_Label_eq : E := (.seq (.ret (.band (.isi (.var 1) [.own 0]) (.one (.cmp .eq (.met t_parts_0 (.var 0) 0 .nil 0 .nil) (.met t_parts_0 (.var 1) 0 .nil 0 .nil))))) .skp)
def c_Label_repr : E := (.seq (.ret (.fst (.cns (.fmt (.cst (.str (tx [76, 97, 98, 101, 108, 40])))) (.cns (.fmt (.fld (.var 0) 0 [0, 4, 5, 6, 7, 8, 15])) (.cns (.fmt (.cst (.str (tx [32])))) (.cns (.fmt (.fld (.var 0) 1 [0])) (.cns (.fmt (.cst (.str (tx [41])))) .nil))))))) .skp)
def c_law_whys : E := (.seq (.ret (.lc [1] (.tn 1) (.it (.var 0)) (.cst (.bl true)) (.cal 109 (.cns (.var 1) .nil)))) .skp)
def c_law_odd : E := (.seq (.ret (.cal 12 (.cns (.var 0) (.cns (.lst (.cns (.cst .non) (.cns (.cst (.int 3)) (.cns (.cst (.bl true)) (.cns (.cst (.str (tx []))) (.cns (.cst (.str (tx [65]))) (.cns (.cst (.str (tx [97, 32, 98]))) (.cns (.cst (.str (tx [97, 98, 99, 100, 101, 102, 103]))) (.cns (.tpl (.cns (.cst (.str (tx [97]))) .nil)) (.cns (.lst (.cns (.cst (.str (tx [97]))) .nil)) (.cns (.cst (.str (tx [97, 49]))) (.cns (.neg (.cst (.int 1))) .nil)))))))))))) .nil)))) .skp)
def c_Label_narrowed : E := (.seq (.iff (.nt (.met t_may_be_1 (.var 0) 1 (.cns (.var 1) .nil) 0 .nil)) (.seq .wal .skp) .skp) (.seq (.iff (.bor (.nt (.met t_may_be_1 (.var 0) 1 (.cns (.var 2) .nil) 0 .nil)) (.one (.cmp .lt (.var 2) (.var 1)))) (.seq .wal .skp) .skp) (.seq (.ret (.calk 2003 5 (.cns (.fld (.var 0) 0 [0, 4, 5, 6, 7, 8, 15]) (.cns (.fld (.var 0) 1 [0]) (.cns (.fld (.var 0) 2 [0]) (.cns (.var 1) (.cns (.var 2) .nil))))) 0 .nil)) .skp)))
def c_is_listed : E := (.seq (.ret (.isi (.var 0) [.list, .tuple])) .skp)
def c_check_things : E := (.seq (.iff (.bor (.nt (.cal 111 (.cns (.var 0) .nil))) (.one (.cmp .eq (.bi .len (.cns (.var 0) .nil)) (.cst (.int 0))))) (.seq .wal .skp) .skp) (.seq (.frr (.tt [1, 2]) (.enm (.var 0)) (.seq (.iff (.bor (.nt (.cal 0 (.cns (.var 2) .nil))) (.bor (.cmp .isin (.var 2) (.sl (.var 0) .abs (.one (.var 1)))) (.one (.cmp .eq (.var 1) (.gv 5))))) (.seq .wal .skp) .skp) .skp)) .skp))
def c_law_mixed : E := (.seq (.asb 2 (.lst .nil)) (.seq (.frr (.tn 3) (.it (.var 1)) (.seq (.exp (.bm .insert (.var 2) (.cns (.cal 11 (.cns (.var 0) (.cns (.bop .add (.bi .len (.cns (.var 2) .nil)) (.cst (.int 1))) .nil))) (.cns (.var 3) .nil)))) .skp)) (.seq (.ret (.var 2)) .skp)))
def c_law_words : E := (.seq (.asg 2 (.cal 14 (.cns (.var 0) (.cns (.cst (.int 3)) .nil)))) (.seq (.ret (.lc [3] (.tn 3) (.rng (.var 1)) (.cst (.bl true)) (.ix (.var 2) (.cal 11 (.cns (.var 0) (.cns (.cst (.int 3)) .nil)))))) .skp))
def c_law_spec : E := (.seq (.asg 4 (.bop .add (.cst (.int 1)) (.cal 11 (.cns (.var 0) (.cns (.var 1) .nil))))) (.seq (.asg 5 (.cal 14 (.cns (.var 0) (.cns (.bop .add (.var 4) (.var 2)) .nil)))) (.seq (.ast (.tt [10, 11, 12]) (.tpl (.cns (.sl (.var 5) .abs (.one (.var 4))) (.cns (.bxe (.lst .nil)) (.cns (.cal 12 (.cns (.var 0) (.cns (.lst (.cns (.cst (.int 0)) (.cns (.cst (.int 7)) (.cns (.cst (.int 1753)) (.cns (.cst (.int 9990)) .nil))))) .nil))) .nil))))) (.seq (.asg 6 (.cal 238 (.cns (.var 0) (.cns (.var 2) .nil)))) (.seq (.frr (.tn 7) (.rng (.cal 11 (.cns (.var 0) (.cns (.bop .add (.var 2) (.cst (.int 1))) .nil)))) (.seq (.asg 13 (.bop .add (.var 12) (.cal 11 (.cns (.var 0) (.cns (.cst (.int 4)) .nil))))) (.seq (.exp (.bm .append (.var 11) (.cns (.tpl (.cns (.ix (.var 5) (.bop .add (.var 4) (.var 7))) (.cns (.ix (.var 6) (.var 7)) (.cns (.cal 12 (.cns (.var 0) (.cns (.var 10) .nil))) (.cns (.var 13) (.cns (.bop .add (.var 13) (.cal 11 (.cns (.var 0) (.cns (.var 3) .nil)))) .nil)))))) .nil))) .skp))) (.seq (.asg 8 (.lkp (.var 11) (.lc [14] (.tn 14) (.it (.var 11)) (.cst (.bl true)) (.cal 11 (.cns (.var 0) (.cns (.cst (.int 7)) .nil)))))) (.seq (.asg 9 (.lc [7] (.tn 7) (.rng (.bi .len (.cns (.var 11) .nil))) (.cmp .eq (.ix (.var 8) (.var 7)) (.cst (.int 0))) (.ix (.ix (.var 11) (.var 7)) (.cst (.int 0))))) (.seq (.ret (.tpl (.cns (.var 10) (.cns (.var 11) (.cns (.var 9) (.cns (.lc [7] (.tn 7) (.rng (.bi .len (.cns (.var 11) .nil))) (.cmp .eq (.ix (.var 8) (.var 7)) (.cst (.int 1))) (.ix (.ix (.var 11) (.var 7)) (.cst (.int 0)))) .nil)))))) .skp))))))))
def c_law_labels : E := (.seq (.ret (.lc [1] (.tn 1) (.it (.ix (.var 0) (.cst (.int 1)))) (.cst (.bl true)) (.calk 2003 5 (.cns (.ix (.var 1) (.cst (.int 0))) (.cns (.ix (.var 1) (.cst (.int 1))) (.cns (.ix (.var 1) (.cst (.int 2))) (.cns (.ix (.var 1) (.cst (.int 3))) (.cns (.ix (.var 1) (.cst (.int 4))) .nil))))) 0 .nil))) .skp)
def c_law_keys : E := (.seq (.ret (.lc [1] (.tn 1) (.it (.ix (.var 0) (.cst (.int 1)))) (.cst (.bl true)) (.ix (.var 1) (.cst (.int 0))))) .skp)
def c_law_active : E := (.seq (.ret (.lc [1] (.tn 1) (.it (.ix (.var 0) (.cst (.int 1)))) (.cmp .notin (.ix (.var 1) (.cst (.int 0))) (.ix (.var 0) (.cst (.int 2)))) (.ix (.var 1) (.cst (.int 0))))) .skp)
def c_law_label : E := (.seq (.ret (.ix (.lc [2] (.tn 2) (.it (.ix (.var 0) (.cst (.int 1)))) (.cmp .eq (.ix (.var 2) (.cst (.int 0))) (.var 1)) (.var 2)) (.cst (.int 0)))) .skp)
def c_law_rivals : E := (.seq (.asg 2 (.cal 112 (.cns (.var 0) (.cns (.var 1) .nil)))) (.seq (.ret (.lc [3] (.tn 3) (.it (.ix (.var 0) (.cst (.int 1)))) (.band (.cmp .notin (.ix (.var 3) (.cst (.int 0))) (.ix (.var 0) (.cst (.int 2)))) (.band (.cmp .eq (.ix (.var 3) (.cst (.int 1))) (.ix (.var 2) (.cst (.int 1)))) (.one (.cmp .ne (.ix (.var 3) (.cst (.int 2))) (.ix (.var 2) (.cst (.int 2))))))) (.ix (.var 3) (.cst (.int 0))))) .skp))
def c_law_is_book : E := (.seq (.asg 2 (.cal 116 (.cns (.var 1) .nil))) (.seq (.asg 3 (.lst (.cns (.met t_things_0 (.var 0) 0 .nil 0 .nil) (.cns (.met t_all_keys_0 (.var 0) 0 .nil 0 .nil) (.cns (.met t_aside_0 (.var 0) 0 .nil 0 .nil) (.cns (.met t_kept_0 (.var 0) 0 .nil 0 .nil) (.cns (.met t_active_0 (.var 0) 0 .nil 0 .nil) (.cns (.bi .len (.cns (.var 0) .nil)) (.cns (.bio .repr tRepr (.var 0)) (.cns (.bio .bool tBool (.var 0)) .nil)))))))))) (.seq (.asg 4 (.lst (.cns (.ix (.var 1) (.cst (.int 0))) (.cns (.var 2) (.cns (.ix (.var 1) (.cst (.int 2))) (.cns (.ix (.var 1) (.cst (.int 3))) (.cns (.cal 115 (.cns (.var 1) .nil)) (.cns (.bi .len (.cns (.var 2) .nil)) (.cns (.bop .add (.bop .add (.bop .add (.bop .add (.cst (.str (tx [66, 111, 111, 107, 40]))) (.bi .str (.cns (.bi .len (.cns (.ix (.var 1) (.cst (.int 0))) .nil)) .nil))) (.cst (.str (tx [32, 116, 104, 105, 110, 103, 115, 44, 32])))) (.bi .str (.cns (.bi .len (.cns (.var 2) .nil)) .nil))) (.cst (.str (tx [32, 108, 97, 98, 101, 108, 115, 41])))) (.cns (.cst (.bl true)) .nil)))))))))) (.seq (.iff (.bor (.nt (.cal 13 (.cns (.var 3) (.cns (.var 4) .nil)))) (.one (.cmp .ne (.met t_labels_0 (.var 0) 0 .nil 0 .nil) (.cal 114 (.cns (.var 1) .nil))))) (.seq (.ret (.cst (.bl false))) .skp) .skp) (.seq (.asg 5 (.lc [6] (.tn 6) (.it (.var 2)) (.cst (.bl true)) (.lst (.cns (.met t_is_aside_1 (.var 0) 1 (.cns (.var 6) .nil) 0 .nil) (.cns (.met t_is_kept_1 (.var 0) 1 (.cns (.var 6) .nil) 0 .nil) (.cns (.cmp .isin (.var 6) (.var 0)) (.cns (.met t_rivals_1 (.var 0) 1 (.cns (.var 6) .nil) 0 .nil) .nil))))))) (.seq (.ret (.cal 13 (.cns (.var 5) (.cns (.lc [6] (.tn 6) (.it (.var 2)) (.cst (.bl true)) (.lst (.cns (.cmp .isin (.var 6) (.ix (.var 1) (.cst (.int 2)))) (.cns (.cmp .isin (.var 6) (.ix (.var 1) (.cst (.int 3)))) (.cns (.cst (.bl true)) (.cns (.cal 113 (.cns (.var 1) (.cns (.var 6) .nil))) .nil)))))) .nil)))) .skp))))))
def c_Book_init : E := (.seq (.exp (.cal 119 (.cns (.var 1) .nil))) (.seq (.fls (.var 0) 5 [1, 2, 3] (.bi .list (.cns (.var 1) .nil))) (.seq (.iff (.nt (.cal 111 (.cns (.var 2) .nil))) (.seq .wal .skp) .skp) (.seq (.fls (.var 0) 6 [1] .emp) (.seq (.frr (.tt [5, 6]) (.enm (.var 2)) (.seq (.iff (.nt (.met t_is_next_1 (.var 0) 1 (.cns (.var 6) .nil) 0 .nil)) (.seq .wal .skp) .skp) (.seq (.sit (.fld (.var 0) 6 [1]) (.fld (.var 6) 0 [0, 4, 5, 6, 7, 8, 15]) (.var 6)) .skp))) (.seq (.iff (.bor (.nt (.cal 111 (.cns (.var 3) .nil))) (.one (.nt (.cal 111 (.cns (.var 4) .nil))))) (.seq .wal .skp) .skp) (.seq (.frr (.tt [5, 7]) (.enm (.lst (.spl (.var 3) (.spl (.var 4) .nil)))) (.seq (.iff (.bor (.con true tIn (.var 7) (.var 0)) (.one (.cmp .isin (.var 7) (.sl (.lst (.spl (.var 3) (.spl (.var 4) .nil))) .abs (.one (.var 5)))))) (.seq .wal .skp) .skp) .skp)) (.seq (.fls (.var 0) 7 [1] (.lkp (.fld (.var 0) 6 [1]) (.lc [7] (.tn 7) (.it (.fld (.var 0) 6 [1])) (.cmp .isin (.var 7) (.var 3)) (.var 7)))) (.seq (.fls (.var 0) 8 [1] (.lkp (.fld (.var 0) 6 [1]) (.lc [7] (.tn 7) (.it (.fld (.var 0) 6 [1])) (.cmp .isin (.var 7) (.var 4)) (.var 7)))) .skp)))))))))
def c_Book_is_next : E := (.seq (.iff (.bor (.nt (.isi (.var 1) [.own 0])) (.one (.cmp .eq (.bi .len (.cns (.fld (.var 0) 6 [1]) .nil)) (.gv 7)))) (.seq (.ret (.cst (.bl false))) .skp) .skp) (.seq (.ret (.band (.cmp .notin (.fld (.var 1) 0 [0, 4, 5, 6, 7, 8, 15]) (.fld (.var 0) 6 [1])) (.one (.cmp .isin (.fld (.var 1) 2 [0]) (.fld (.var 0) 5 [1, 2, 3]))))) .skp))
def c_Book_things : E := (.seq (.ret (.bi .list (.cns (.fld (.var 0) 5 [1, 2, 3]) .nil))) .skp)
def c_Book_labels : E := (.seq (.ret (.lc [1] (.tn 1) (.it (.fld (.var 0) 6 [1])) (.cst (.bl true)) (.ix (.fld (.var 0) 6 [1]) (.var 1)))) .skp)
def c_Book_all_keys : E := (.seq (.ret (.bi .list (.cns (.fld (.var 0) 6 [1]) .nil))) .skp)
def c_Book_aside : E := (.seq (.ret (.bi .list (.cns (.fld (.var 0) 7 [1]) .nil))) .skp)
def c_Book_kept : E := (.seq (.ret (.bi .list (.cns (.fld (.var 0) 8 [1]) .nil))) .skp)
def c_Book_active : E := (.seq (.ret (.lc [1] (.tn 1) (.it (.fld (.var 0) 6 [1])) (.cmp .notin (.var 1) (.fld (.var 0) 7 [1])) (.var 1))) .skp)
def c_Book_need_key : E := (.seq (.iff (.con true tIn (.var 1) (.var 0)) (.seq .wal .skp) .skp) .skp)
def c_Book_label : E := (.seq (.exp (.met t_need_key_1 (.var 0) 1 (.cns (.var 1) .nil) 0 .nil)) (.seq (.ret (.ix (.fld (.var 0) 6 [1]) (.var 1))) .skp))
def c_Book_is_aside : E := (.seq (.exp (.met t_need_key_1 (.var 0) 1 (.cns (.var 1) .nil) 0 .nil)) (.seq (.ret (.cmp .isin (.var 1) (.fld (.var 0) 7 [1]))) .skp))
def c_Book_is_kept : E := (.seq (.exp (.met t_need_key_1 (.var 0) 1 (.cns (.var 1) .nil) 0 .nil)) (.seq (.ret (.cmp .isin (.var 1) (.fld (.var 0) 8 [1]))) .skp))
def c_Book_rivals : E := (.seq (.asg 2 (.met t_label_1 (.var 0) 1 (.cns (.var 1) .nil) 0 .nil)) (.seq (.asb 3 (.lst .nil)) (.seq (.frr (.tn 4) (.it (.met t_active_0 (.var 0) 0 .nil 0 .nil)) (.seq (.asg 5 (.ix (.fld (.var 0) 6 [1]) (.var 4))) (.seq (.iff (.band (.cmp .eq (.fld (.var 5) 1 [0]) (.fld (.var 2) 1 [0])) (.one (.cmp .ne (.fld (.var 5) 2 [0]) (.fld (.var 2) 2 [0])))) (.seq (.exp (.bm .append (.var 3) (.cns (.var 4) .nil))) .skp) .skp) .skp))) (.seq (.ret (.var 3)) .skp))))
def c_Book_parts : E := (.seq (.asg 1 (.bi .tuple (.cns (.lc [2] (.tn 2) (.it (.fld (.var 0) 6 [1])) (.cst (.bl true)) (.met t_parts_0 (.ix (.fld (.var 0) 6 [1]) (.var 2)) 0 .nil 0 .nil)) .nil))) (.seq (.ret (.tpl (.cns (.bi .tuple (.cns (.fld (.var 0) 5 [1, 2, 3]) .nil)) (.cns (.var 1) (.cns (.bi .tuple (.cns (.fld (.var 0) 7 [1]) .nil)) (.cns (.bi .tuple (.cns (.fld (.var 0) 8 [1]) .nil)) .nil)))))) .skp))
def c_Book_contains : E := (.seq (.ret (.band (.isi (.var 1) [.str]) (.one (.cmp .isin (.var 1) (.fld (.var 0) 6 [1]))))) .skp)
def c_Book_eq : E := (.seq (.ret (.band (.isi (.var 1) [.own 1]) (.one (.cmp .eq (.met t_parts_0 (.var 0) 0 .nil 0 .nil) (.met t_parts_0 (.var 1) 0 .nil 0 .nil))))) .skp)
def c_Book_len : E := (.seq (.ret (.bi .len (.cns (.fld (.var 0) 6 [1]) .nil))) .skp)
def c_Book_bool : E := (.seq (.ret (.cst (.bl true))) .skp)
def c_Book_repr : E := (.seq (.ret (.fst (.cns (.fmt (.cst (.str (tx [66, 111, 111, 107, 40])))) (.cns (.fmt (.bi .len (.cns (.fld (.var 0) 5 [1, 2, 3]) .nil))) (.cns (.fmt (.cst (.str (tx [32, 116, 104, 105, 110, 103, 115, 44, 32])))) (.cns (.fmt (.bi .len (.cns (.fld (.var 0) 6 [1]) .nil))) (.cns (.fmt (.cst (.str (tx [32, 108, 97, 98, 101, 108, 115, 41])))) .nil))))))) .skp)
def c_need_things : E := (.seq (.frr (.tn 2) (.it (.var 1)) (.seq (.iff (.bor (.nt (.isi (.var 2) [.str])) (.one (.cmp .notin (.var 2) (.var 0)))) (.seq .wal .skp) .skp) .skp)) .skp)
def c_check_pairs : E := (.seq (.iff (.bor (.nt (.cal 111 (.cns (.var 1) .nil))) (.one (.nt (.cal 111 (.cns (.var 2) .nil))))) (.seq .wal .skp) .skp) (.seq (.frr (.tt [3, 4]) (.enm (.lst (.spl (.var 1) (.spl (.var 2) .nil)))) (.seq (.iff (.bor (.nt (.isi (.var 4) [.tuple])) (.one (.cmp .ne (.bi .len (.cns (.var 4) .nil)) (.cst (.int 2))))) (.seq .wal .skp) .skp) (.seq (.iff (.bor (.nt (.bi .all (.cns (.lc [5] (.tn 5) (.it (.var 4)) (.cst (.bl true)) (.band (.isi (.var 5) [.str]) (.one (.cmp .isin (.var 5) (.var 0))))) .nil))) (.one (.cmp .eq (.ix (.var 4) (.cst (.int 0))) (.ix (.var 4) (.cst (.int 1)))))) (.seq .wal .skp) .skp) .skp))) .skp))
def c_part_with : E := (.seq (.ret (.ix (.lc [2] (.tn 2) (.it (.var 0)) (.cmp .isin (.var 1) (.var 2)) (.var 2)) (.cst (.int 0)))) .skp)
def c_need_same : E := (.seq (.iff (.cmp .ne (.var 0) (.var 1)) (.seq .wal .skp) .skp) .skp)
def c_check_parts : E := (.seq (.iff (.nt (.cal 111 (.cns (.var 1) .nil))) (.seq .wal .skp) .skp) (.seq (.asg 2 (.lst .nil)) (.seq (.frr (.tt [3, 4]) (.enm (.var 1)) (.seq (.iff (.bor (.nt (.cal 111 (.cns (.var 4) .nil))) (.one (.cmp .eq (.bi .len (.cns (.var 4) .nil)) (.cst (.int 0))))) (.seq .wal .skp) .skp) (.seq (.frr (.tn 5) (.it (.var 4)) (.seq (.iff (.bor (.nt (.isi (.var 5) [.int, .str])) (.bor (.isi (.var 5) [.bool]) (.bor (.cmp .notin (.var 5) (.var 0)) (.one (.cmp .isin (.var 5) (.var 2)))))) (.seq .wal .skp) .skp) (.seq (.asg 2 (.lst (.spl (.var 2) (.cns (.var 5) .nil)))) .skp))) .skp))) (.seq (.iff (.cmp .lt (.bi .len (.cns (.var 2) .nil)) (.bi .len (.cns (.var 0) .nil))) (.seq .wal .skp) .skp) .skp))))
def c_Facts_init : E := (.seq (.exp (.cal 119 (.cns (.var 1) .nil))) (.seq (.exp (.cal 118 (.cns (.var 1) (.cns (.var 2) (.cns (.var 3) .nil))))) (.seq (.fls (.var 0) 5 [1, 2, 3] (.bi .list (.cns (.var 1) .nil))) (.seq (.fls (.var 0) 9 [2] (.bi .list (.cns (.var 2) .nil))) (.seq (.fls (.var 0) 10 [2] (.bi .list (.cns (.var 3) .nil))) (.seq (.fls (.var 0) 11 [2] (.cal 117 (.cns (.fld (.var 0) 5 [1, 2, 3]) (.cns (.fld (.var 0) 9 [2]) .nil)))) (.seq (.frr (.tt [4, 5]) (.enm (.fld (.var 0) 10 [2])) (.seq (.iff (.cmp .isin (.ix (.var 5) (.cst (.int 1))) (.met t_class_of_1 (.var 0) 1 (.cns (.ix (.var 5) (.cst (.int 0))) .nil) 0 .nil)) (.seq .wal .skp) .skp) .skp)) .skp)))))))
def c_Facts_things : E := (.seq (.ret (.bi .list (.cns (.fld (.var 0) 5 [1, 2, 3]) .nil))) .skp)
def c_Facts_together : E := (.seq (.ret (.bi .list (.cns (.fld (.var 0) 9 [2]) .nil))) .skp)
def c_Facts_apart : E := (.seq (.ret (.bi .list (.cns (.fld (.var 0) 10 [2]) .nil))) .skp)
def c_Facts_class_of : E := (.seq (.exp (.cal 121 (.cns (.fld (.var 0) 5 [1, 2, 3]) (.cns (.lst (.cns (.var 1) .nil)) .nil)))) (.seq (.ret (.cal 120 (.cns (.fld (.var 0) 11 [2]) (.cns (.var 1) .nil)))) .skp))
def c_Facts_parts : E := (.seq (.ret (.tpl (.cns (.bi .tuple (.cns (.fld (.var 0) 5 [1, 2, 3]) .nil)) (.cns (.bi .tuple (.cns (.fld (.var 0) 9 [2]) .nil)) (.cns (.bi .tuple (.cns (.fld (.var 0) 10 [2]) .nil)) .nil))))) .skp)
def c_Facts_eq : E := (.seq (.ret (.band (.isi (.var 1) [.own 2]) (.one (.cmp .eq (.met t_parts_0 (.var 0) 0 .nil 0 .nil) (.met t_parts_0 (.var 1) 0 .nil 0 .nil))))) .skp)
def c_Facts_repr : E := (.seq (.ret (.fst (.cns (.fmt (.cst (.str (tx [70, 97, 99, 116, 115, 40])))) (.cns (.fmt (.bi .len (.cns (.fld (.var 0) 9 [2]) .nil))) (.cns (.fmt (.cst (.str (tx [32, 116, 111, 103, 101, 116, 104, 101, 114, 44, 32])))) (.cns (.fmt (.bi .len (.cns (.fld (.var 0) 10 [2]) .nil))) (.cns (.fmt (.cst (.str (tx [32, 97, 112, 97, 114, 116, 41])))) .nil))))))) .skp)
def c_Grouping_things : E := (.seq (.ret (.bi .list (.cns (.fld (.var 0) 5 [1, 2, 3]) .nil))) .skp)
def c_Grouping_groups : E := (.seq (.ret (.bi .list (.cns (.fld (.var 0) 12 [3]) .nil))) .skp)
def c_Grouping_or : E := (.seq (.exp (.cal 137 (.cns (.fld (.var 0) 5 [1, 2, 3]) (.cns (.fld (.var 1) 5 [1, 2, 3]) .nil)))) (.seq (.ret (.calk 2038 2 (.cns (.fld (.var 0) 5 [1, 2, 3]) (.cns (.cal 117 (.cns (.fld (.var 0) 5 [1, 2, 3]) (.cns (.lst (.spl (.fld (.var 0) 12 [3]) (.spl (.fld (.var 1) 12 [3]) .nil))) .nil))) .nil)) 0 .nil)) .skp))
def c_Grouping_eq : E := (.seq (.iff (.nt (.isi (.var 1) [.own 3])) (.seq (.ret (.cst (.bl false))) .skp) .skp) (.seq (.ret (.band (.cmp .eq (.fld (.var 0) 5 [1, 2, 3]) (.fld (.var 1) 5 [1, 2, 3])) (.one (.cmp .eq (.fld (.var 0) 12 [3]) (.fld (.var 1) 12 [3]))))) .skp))
def c_Grouping_len : E := (.seq (.ret (.bi .len (.cns (.fld (.var 0) 12 [3]) .nil))) .skp)
def c_Grouping_repr : E := (.seq (.ret (.fst (.cns (.fmt (.cst (.str (tx [71, 114, 111, 117, 112, 105, 110, 103, 40])))) (.cns (.fmt (.bi .len (.cns (.fld (.var 0) 12 [3]) .nil))) (.cns (.fmt (.cst (.str (tx [32, 103, 114, 111, 117, 112, 115, 41])))) .nil))))) .skp)
def c_law_made : E := (.seq (.ret (.calk 2039 2 (.cns (.bi .list (.cns (.ix (.var 0) (.cst (.int 0))) .nil)) (.cns (.cal 114 (.cns (.var 0) .nil)) .nil)) 2 (.cns (.bi .list (.cns (.ix (.var 0) (.cst (.int 2))) .nil)) (.cns (.bi .list (.cns (.ix (.var 0) (.cst (.int 3))) .nil)) .nil)))) .skp)
def c_law_bearer : E := (.seq (.ret (.ix (.cal 112 (.cns (.var 0) (.cns (.var 1) .nil))) (.cst (.int 2)))) .skp)
def c_Book_bearing : E := (.seq (.exp (.cal 121 (.cns (.fld (.var 0) 5 [1, 2, 3]) (.cns (.var 1) .nil)))) (.seq (.ret (.lc [2] (.tn 2) (.it (.met t_active_0 (.var 0) 0 .nil 0 .nil)) (.cmp .isin (.fld (.ix (.fld (.var 0) 6 [1]) (.var 2)) 2 [0]) (.var 1)) (.var 2))) .skp))
def c_Book_with_labels : E := (.seq (.asg 2 (.lc [4] (.tn 4) (.it (.var 1)) (.cst (.bl true)) (.fld (.var 4) 0 [0, 4, 5, 6, 7, 8, 15]))) (.seq (.asg 3 (.lc [5] (.tn 5) (.it (.fld (.var 0) 7 [1])) (.cmp .isin (.var 5) (.var 2)) (.var 5))) (.seq (.ret (.calk 2039 2 (.cns (.fld (.var 0) 5 [1, 2, 3]) (.cns (.var 1) .nil)) 2 (.cns (.var 3) (.cns (.lc [5] (.tn 5) (.it (.fld (.var 0) 8 [1])) (.cmp .isin (.var 5) (.var 2)) (.var 5)) .nil)))) .skp)))
def c_Book_added : E := (.seq (.asg 2 (.var 0)) (.seq (.frr (.tt [3, 4]) (.enm (.var 1)) (.seq (.iff (.nt (.met t_is_next_1 (.var 2) 1 (.cns (.var 4) .nil) 0 .nil)) (.seq .wal .skp) .skp) (.seq (.asg 2 (.met t_with_labels_1 (.var 2) 1 (.cns (.lst (.spl (.met t_labels_0 (.var 2) 0 .nil 0 .nil) (.cns (.var 4) .nil))) .nil) 0 .nil)) .skp))) (.seq (.ret (.var 2)) .skp)))
def c_Book_without : E := (.seq (.exp (.met t_need_key_1 (.var 0) 1 (.cns (.var 1) .nil) 0 .nil)) (.seq (.ret (.met t_with_labels_1 (.var 0) 1 (.cns (.lc [2] (.tn 2) (.it (.met t_labels_0 (.var 0) 0 .nil 0 .nil)) (.cmp .ne (.fld (.var 2) 0 [0, 4, 5, 6, 7, 8, 15]) (.var 1)) (.var 2)) .nil) 0 .nil)) .skp))
def c_Book_exchanged : E := (.seq (.exp (.met t_need_key_1 (.var 0) 1 (.cns (.fld (.var 1) 0 [0, 4, 5, 6, 7, 8, 15]) .nil) 0 .nil)) (.seq (.exp (.cal 121 (.cns (.fld (.var 0) 5 [1, 2, 3]) (.cns (.lst (.cns (.fld (.var 1) 2 [0]) .nil)) .nil)))) (.seq (.ret (.met t_with_labels_1 (.var 0) 1 (.cns (.lc [2] (.tn 2) (.it (.met t_labels_0 (.var 0) 0 .nil 0 .nil)) (.cst (.bl true)) (.ite (.cmp .eq (.fld (.var 2) 0 [0, 4, 5, 6, 7, 8, 15]) (.fld (.var 1) 0 [0, 4, 5, 6, 7, 8, 15])) (.var 1) (.var 2))) .nil) 0 .nil)) .skp)))
def c_is_ruling : E := (.seq (.iff (.bor (.nt (.isi (.var 1) [.tuple])) (.bor (.cmp .ne (.bi .len (.cns (.var 1) .nil)) (.cst (.int 2))) (.one (.nt (.isi (.ix (.var 1) (.cst (.int 0))) [.str]))))) (.seq (.ret (.cst (.bl false))) .skp) .skp) (.seq (.ret (.band (.cmp .isin (.ix (.var 1) (.cst (.int 0))) (.gv 4)) (.band (.isi (.ix (.var 1) (.cst (.int 1))) [.str]) (.one (.cmp .isin (.ix (.var 1) (.cst (.int 1))) (.var 0)))))) .skp))
def c_law_ruled : E := (.seq (.ast (.tt [4, 5]) (.var 1)) (.seq (.asg 2 (.lc [6] (.tn 6) (.it (.ix (.var 0) (.cst (.int 2)))) (.cmp .ne (.var 6) (.var 5)) (.var 6))) (.seq (.asg 3 (.lc [6] (.tn 6) (.it (.ix (.var 0) (.cst (.int 3)))) (.cmp .ne (.var 6) (.var 5)) (.var 6))) (.seq (.asg 2 (.lc [6] (.tn 6) (.it (.cal 116 (.cns (.var 0) .nil))) (.bor (.cmp .isin (.var 6) (.var 2)) (.one (.band (.cmp .eq (.var 6) (.var 5)) (.one (.cmp .eq (.var 4) (.cst (.str (tx [97, 115, 105, 100, 101])))))))) (.var 6))) (.seq (.ret (.tpl (.cns (.ix (.var 0) (.cst (.int 0))) (.cns (.ix (.var 0) (.cst (.int 1))) (.cns (.var 2) (.cns (.lc [6] (.tn 6) (.it (.cal 116 (.cns (.var 0) .nil))) (.bor (.cmp .isin (.var 6) (.var 3)) (.one (.band (.cmp .eq (.var 6) (.var 5)) (.one (.cmp .eq (.var 4) (.cst (.str (tx [107, 101, 112, 116])))))))) (.var 6)) .nil)))))) .skp)))))
def c_Book_ruled : E := (.seq (.par 2 3 (.met t_aside_0 (.var 0) 0 .nil 0 .nil) (.met t_kept_0 (.var 0) 0 .nil 0 .nil)) (.seq (.frr (.tt [4, 5]) (.enm (.var 1)) (.seq (.iff (.nt (.cal 122 (.cns (.met t_all_keys_0 (.var 0) 0 .nil 0 .nil) (.cns (.var 5) .nil)))) (.seq .wal .skp) .skp) (.seq (.ast (.tt [6, 7]) (.var 5)) (.seq (.asg 2 (.bop .add (.lc [8] (.tn 8) (.it (.var 2)) (.cmp .ne (.var 8) (.var 7)) (.var 8)) (.ite (.cmp .eq (.var 6) (.cst (.str (tx [97, 115, 105, 100, 101])))) (.lst (.cns (.var 7) .nil)) (.lst .nil)))) (.seq (.asg 3 (.bop .add (.lc [8] (.tn 8) (.it (.var 3)) (.cmp .ne (.var 8) (.var 7)) (.var 8)) (.ite (.cmp .eq (.var 6) (.cst (.str (tx [107, 101, 112, 116])))) (.lst (.cns (.var 7) .nil)) (.lst .nil)))) .skp))))) (.seq (.ret (.calk 2039 2 (.cns (.fld (.var 0) 5 [1, 2, 3]) (.cns (.met t_labels_0 (.var 0) 0 .nil 0 .nil) .nil)) 2 (.cns (.var 2) (.cns (.var 3) .nil)))) .skp)))
def c_law_other_label_so : E := (.seq (.asg 2 (.ix (.ix (.var 1) (.cst (.int 1))) (.cst (.int 0)))) (.seq (.asg 3 (.met t_exchanged_1 (.var 0) 1 (.cns (.calk 2003 5 (.cns (.ix (.var 2) (.cst (.int 0))) (.cns (.cst (.str (tx [122, 122, 122, 122, 122, 122]))) (.cns (.ix (.var 2) (.cst (.int 2))) (.cns (.ix (.var 2) (.cst (.int 3))) (.cns (.ix (.var 2) (.cst (.int 4))) .nil))))) 0 .nil) .nil) 0 .nil)) (.seq (.iff (.bor (.cmo .eq tEq (.var 0) (.var 3)) (.one (.cmo .ne tEq (.var 3) (.met t_exchanged_1 (.var 0) 1 (.cns (.met t_label_1 (.var 3) 1 (.cns (.ix (.var 2) (.cst (.int 0))) .nil) 0 .nil) .nil) 0 .nil)))) (.seq (.ret (.cst (.bl false))) .skp) .skp) (.seq (.asg 4 (.lc [5] (.tn 5) (.it (.ix (.var 1) (.cst (.int 0)))) (.cmo .ne tEq (.var 5) (.ix (.var 2) (.cst (.int 2)))) (.var 5))) (.seq (.ret (.bor (.cmo .eq tEq (.var 4) (.lst .nil)) (.one (.cmo .ne tEq (.var 0) (.met t_exchanged_1 (.var 0) 1 (.cns (.calk 2003 5 (.cns (.ix (.var 2) (.cst (.int 0))) (.cns (.ix (.var 2) (.cst (.int 1))) (.cns (.ix (.var 4) (.cst (.int 0))) (.cns (.ix (.var 2) (.cst (.int 3))) (.cns (.ix (.var 2) (.cst (.int 4))) .nil))))) 0 .nil) .nil) 0 .nil))))) .skp)))))
def c_law_closed : E := (.seq (.asb 2 (.lst .nil)) (.seq (.frr (.tn 3) (.it (.var 0)) (.seq (.iff (.cmp .eq (.lkp (.var 2) (.lc [6] (.tn 6) (.it (.var 2)) (.cmp .isin (.var 3) (.var 6)) (.var 6))) (.lst .nil)) (.seq (.asg 4 (.lst (.cns (.var 3) .nil))) (.seq (.frr (.tn 5) (.rng (.bi .len (.cns (.var 0) .nil))) (.seq (.asg 4 (.lc [7] (.tn 7) (.it (.var 0)) (.bor (.cmp .isin (.var 7) (.var 4)) (.one (.cmp .ne (.lc [8] (.tn 8) (.it (.var 1)) (.band (.cmp .isin (.var 7) (.var 8)) (.one (.cmp .ne (.lc [9] (.tn 9) (.it (.var 4)) (.cmp .isin (.var 9) (.var 8)) (.var 9)) (.lst .nil)))) (.var 8)) (.lst .nil)))) (.var 7))) .skp)) (.seq (.exp (.bm .append (.var 2) (.cns (.bi .tuple (.cns (.var 4) .nil)) .nil))) .skp))) .skp) .skp)) (.seq (.ret (.var 2)) .skp)))
def c_law_part : E := (.seq (.ret (.ix (.lc [2] (.tn 2) (.it (.var 0)) (.cmp .isin (.var 1) (.var 2)) (.var 2)) (.cst (.int 0)))) .skp)
def c_law_facts : E := (.seq (.par 4 5 (.bxe (.lst .nil)) (.bxe (.lst .nil))) (.seq (.frr (.tn 3) (.rng (.ite (.cmp .gt (.bi .len (.cns (.var 1) .nil)) (.cst (.int 1))) (.cal 11 (.cns (.var 0) (.cns (.bop .add (.var 2) (.cst (.int 1))) .nil))) (.cst (.int 0)))) (.seq (.asg 6 (.cal 11 (.cns (.var 0) (.cns (.bi .len (.cns (.var 1) .nil)) .nil)))) (.seq (.asg 7 (.tpl (.cns (.ix (.var 1) (.var 6)) (.cns (.ix (.var 1) (.bop .mod (.bi .int (.cns (.bop .add (.bop .add (.var 6) (.cst (.int 1))) (.cal 11 (.cns (.var 0) (.cns (.bop .sub (.bi .len (.cns (.var 1) .nil)) (.cst (.int 1))) .nil)))) .nil)) (.bi .len (.cns (.var 1) .nil)))) .nil)))) (.seq (.iff (.cmp .eq (.cal 11 (.cns (.var 0) (.cns (.cst (.int 2)) .nil))) (.cst (.int 0))) (.seq (.asg 8 (.cal 126 (.cns (.var 1) (.cns (.bop .add (.var 4) (.lst (.cns (.var 7) .nil))) .nil)))) (.seq (.iff (.cmp .eq (.lkp (.var 5) (.lc [9] (.tn 9) (.it (.var 5)) (.cmp .isin (.ix (.var 9) (.cst (.int 1))) (.cal 125 (.cns (.var 8) (.cns (.ix (.var 9) (.cst (.int 0))) .nil)))) (.var 9))) (.lst .nil)) (.seq (.exp (.bm .append (.var 4) (.cns (.var 7) .nil))) .skp) .skp) .skp)) (.seq (.iff (.cmp .notin (.ix (.var 7) (.cst (.int 1))) (.cal 125 (.cns (.cal 126 (.cns (.var 1) (.cns (.var 4) .nil))) (.cns (.ix (.var 7) (.cst (.int 0))) .nil)))) (.seq (.exp (.bm .append (.var 5) (.cns (.var 7) .nil))) .skp) .skp) .skp)) .skp)))) (.seq (.ret (.tpl (.cns (.var 1) (.cns (.var 4) (.cns (.var 5) .nil))))) .skp)))
def c_law_made_facts : E := (.seq (.ret (.calk 2041 1 (.cns (.bi .list (.cns (.ix (.var 0) (.cst (.int 0))) .nil)) .nil) 2 (.cns (.bi .list (.cns (.ix (.var 0) (.cst (.int 1))) .nil)) (.cns (.bi .list (.cns (.ix (.var 0) (.cst (.int 2))) .nil)) .nil)))) .skp)
def c_law_classes : E := (.seq (.ret (.cal 126 (.cns (.ix (.var 0) (.cst (.int 0))) (.cns (.ix (.var 0) (.cst (.int 1))) .nil)))) .skp)
def c_Facts_classes : E := (.seq (.ret (.bi .list (.cns (.fld (.var 0) 11 [2]) .nil))) .skp)
def c_pair_between : E := (.seq (.frr (.tn 3) (.it (.var 0)) (.seq (.iff (.bor (.band (.cmp .isin (.ix (.var 3) (.cst (.int 0))) (.var 1)) (.one (.cmp .isin (.ix (.var 3) (.cst (.int 1))) (.var 2)))) (.one (.band (.cmp .isin (.ix (.var 3) (.cst (.int 0))) (.var 2)) (.one (.cmp .isin (.ix (.var 3) (.cst (.int 1))) (.var 1)))))) (.seq (.ret (.var 3)) .skp) .skp) .skp)) (.seq (.ret (.cst .non)) .skp))
def c_Facts_apart_fact : E := (.seq (.exp (.cal 121 (.cns (.fld (.var 0) 5 [1, 2, 3]) (.cns (.lst (.cns (.var 1) (.cns (.var 2) .nil))) .nil)))) (.seq (.ret (.cal 128 (.cns (.fld (.var 0) 10 [2]) (.cns (.met t_class_of_1 (.var 0) 1 (.cns (.var 1) .nil) 0 .nil) (.cns (.met t_class_of_1 (.var 0) 1 (.cns (.var 2) .nil) 0 .nil) .nil))))) .skp))
def c_law_chain : E := (.seq (.ast (.tt [5, 6, 7]) (.tpl (.cns (.ix (.var 0) (.cst (.int 0))) (.cns (.bxe .emp) (.cns (.bxe (.lst (.cns (.var 2) .nil))) .nil))))) (.seq (.sit (.var 6) (.var 2) (.cst (.int 0))) (.seq (.frr (.tn 3) (.rng (.bi .len (.cns (.var 5) .nil))) (.seq (.frr (.tn 8) (.it (.bi .list (.cns (.var 7) .nil))) (.seq (.frr (.tn 10) (.it (.var 5)) (.seq (.iff (.band (.cmp .notin (.var 10) (.var 6)) (.one (.cmp .ne (.lc [11] (.tn 11) (.it (.ix (.var 0) (.cst (.int 1)))) (.band (.cmp .isin (.var 8) (.var 11)) (.one (.cmp .isin (.var 10) (.var 11)))) (.var 11)) (.lst .nil)))) (.seq (.sit (.var 6) (.var 10) (.bop .add (.ix (.var 6) (.var 8)) (.cst (.int 1)))) (.seq (.exp (.bm .append (.var 7) (.cns (.var 10) .nil))) .skp)) .skp) .skp)) .skp)) .skp)) (.seq (.iff (.cmp .notin (.var 1) (.var 6)) (.seq (.ret (.cst .non)) .skp) .skp) (.seq (.asb 4 (.lst (.cns (.var 1) .nil))) (.seq (.frr (.tn 3) (.rng (.ix (.var 6) (.var 1))) (.seq (.asg 9 (.ix (.var 4) (.neg (.cst (.int 1))))) (.seq (.exp (.bm .append (.var 4) (.cns (.ix (.lc [10] (.tn 10) (.it (.var 5)) (.band (.cmp .isin (.var 10) (.var 6)) (.band (.cmp .eq (.ix (.var 6) (.var 10)) (.bop .sub (.ix (.var 6) (.var 9)) (.cst (.int 1)))) (.one (.cmp .ne (.lc [11] (.tn 11) (.it (.ix (.var 0) (.cst (.int 1)))) (.band (.cmp .isin (.var 10) (.var 11)) (.one (.cmp .isin (.var 9) (.var 11)))) (.var 11)) (.lst .nil))))) (.var 10)) (.cst (.int 0))) .nil))) .skp))) (.seq (.ret (.var 4)) .skp)))))))
def c_law_apart_fact : E := (.seq (.asg 3 (.cal 125 (.cns (.cal 129 (.cns (.var 0) .nil)) (.cns (.var 1) .nil)))) (.seq (.asg 4 (.cal 125 (.cns (.cal 129 (.cns (.var 0) .nil)) (.cns (.var 2) .nil)))) (.seq (.asg 5 (.lc [6] (.tn 6) (.it (.ix (.var 0) (.cst (.int 2)))) (.bor (.band (.cmp .isin (.ix (.var 6) (.cst (.int 0))) (.var 3)) (.one (.cmp .isin (.ix (.var 6) (.cst (.int 1))) (.var 4)))) (.one (.band (.cmp .isin (.ix (.var 6) (.cst (.int 0))) (.var 4)) (.one (.cmp .isin (.ix (.var 6) (.cst (.int 1))) (.var 3)))))) (.var 6))) (.seq (.ret (.ite (.cmp .ne (.var 5) (.lst .nil)) (.ix (.var 5) (.cst (.int 0))) (.cst .non))) .skp))))
def c_Facts_with_together : E := (.seq (.exp (.met t_need_two_2 (.var 0) 2 (.cns (.var 1) (.cns (.var 2) .nil)) 0 .nil)) (.seq (.iff (.nin (.met t_apart_fact_2 (.var 0) 2 (.cns (.var 1) (.cns (.var 2) .nil)) 0 .nil)) (.seq .wal .skp) .skp) (.seq (.ret (.calk 2041 1 (.cns (.fld (.var 0) 5 [1, 2, 3]) .nil) 2 (.cns (.lst (.spl (.fld (.var 0) 9 [2]) (.cns (.tpl (.cns (.var 1) (.cns (.var 2) .nil))) .nil))) (.cns (.fld (.var 0) 10 [2]) .nil)))) .skp)))
def c_Facts_with_apart : E := (.seq (.exp (.met t_need_two_2 (.var 0) 2 (.cns (.var 1) (.cns (.var 2) .nil)) 0 .nil)) (.seq (.iff (.cmp .isin (.var 2) (.met t_class_of_1 (.var 0) 1 (.cns (.var 1) .nil) 0 .nil)) (.seq .wal .skp) .skp) (.seq (.ret (.calk 2041 1 (.cns (.fld (.var 0) 5 [1, 2, 3]) .nil) 2 (.cns (.fld (.var 0) 9 [2]) (.cns (.lst (.spl (.fld (.var 0) 10 [2]) (.cns (.tpl (.cns (.var 1) (.cns (.var 2) .nil))) .nil))) .nil)))) .skp)))
def c_Facts_need_two : E := (.seq (.exp (.cal 121 (.cns (.fld (.var 0) 5 [1, 2, 3]) (.cns (.lst (.cns (.var 1) (.cns (.var 2) .nil))) .nil)))) (.seq (.iff (.cmp .eq (.var 1) (.var 2)) (.seq .wal .skp) .skp) .skp))
def c_law_some_groups : E := (.seq (.asb 2 (.lst .nil)) (.seq (.frr (.tn 3) (.it (.cal 218 (.cns (.var 0) (.cns (.var 1) .nil)))) (.seq (.asg 4 (.cal 11 (.cns (.var 0) (.cns (.bop .add (.bi .len (.cns (.var 2) .nil)) (.cst (.int 1))) .nil)))) (.seq (.iff (.cmp .lt (.var 4) (.bi .len (.cns (.var 2) .nil))) (.seq (.exp (.bm .append (.ix (.var 2) (.var 4)) (.cns (.var 3) .nil))) .skp) (.seq (.exp (.bm .append (.var 2) (.cns (.lst (.cns (.var 3) .nil)) .nil))) .skp)) .skp))) (.seq (.ret (.var 2)) .skp)))
def c_law_plain_groups : E := (.seq (.asg 2 (.lst .nil)) (.seq (.frr (.tn 3) (.it (.var 0)) (.seq (.asg 4 (.lc [5] (.tn 5) (.it (.var 0)) (.cmp .isin (.var 5) (.cal 125 (.cns (.var 1) (.cns (.var 3) .nil)))) (.var 5))) (.seq (.asg 2 (.bop .add (.var 2) (.ite (.cmp .eq (.ix (.var 4) (.cst (.int 0))) (.var 3)) (.lst (.cns (.bi .tuple (.cns (.var 4) .nil)) .nil)) (.lst .nil)))) .skp))) (.seq (.ret (.var 2)) .skp)))
def c_Grouping_singles : E := (.seq (.ret (.calk 2038 2 (.cns (.var 0) (.cns (.lc [1] (.tn 1) (.it (.var 0)) (.cst (.bl true)) (.lst (.cns (.var 1) .nil))) .nil)) 0 .nil)) .skp)
def c_Grouping_group_of : E := (.seq (.exp (.cal 121 (.cns (.fld (.var 0) 5 [1, 2, 3]) (.cns (.lst (.cns (.var 1) .nil)) .nil)))) (.seq (.ret (.cal 120 (.cns (.fld (.var 0) 12 [3]) (.cns (.var 1) .nil)))) .skp))
def c_law_fits : E := (.seq (.frr (.tt [2, 3]) (.it (.ix (.var 0) (.cst (.int 1)))) (.seq (.iff (.cmp .notin (.var 3) (.cal 125 (.cns (.var 1) (.cns (.var 2) .nil)))) (.seq (.ret (.cst (.bl false))) .skp) .skp) .skp)) (.seq (.ret (.cmp .eq (.lc [4] (.tn 4) (.it (.ix (.var 0) (.cst (.int 2)))) (.cmp .isin (.ix (.var 4) (.cst (.int 1))) (.cal 125 (.cns (.var 1) (.cns (.ix (.var 4) (.cst (.int 0))) .nil)))) (.var 4)) (.lst .nil))) .skp))
def c_law_turned_groups : E := (.seq (.ast (.tt [7, 8]) (.tpl (.cns (.bi .list (.cns (.cal 125 (.cns (.var 0) (.cns (.var 1) .nil))) .nil)) (.cns (.bi .list (.cns (.cal 125 (.cns (.var 0) (.cns (.var 2) .nil))) .nil)) .nil)))) (.seq (.asg 3 (.lc [9] (.tn 9) (.it (.var 0)) (.band (.cmp .notin (.var 1) (.var 9)) (.one (.cmp .notin (.var 2) (.var 9)))) (.bi .list (.cns (.var 9) .nil)))) (.seq (.asg 4 (.ite (.cmp .notin (.var 1) (.var 8)) (.bop .add (.var 3) (.lst (.cns (.lc [10] (.tn 10) (.it (.var 7)) (.cmp .ne (.var 10) (.var 1)) (.var 10)) (.cns (.bop .add (.var 8) (.lst (.cns (.var 1) .nil))) .nil)))) (.lc [9] (.tn 9) (.it (.var 0)) (.cst (.bl true)) (.bi .list (.cns (.var 9) .nil))))) (.seq (.asg 5 (.bop .add (.lc [9] (.tn 9) (.it (.var 0)) (.cst (.bl true)) (.lc [10] (.tn 10) (.it (.var 9)) (.cmp .ne (.var 10) (.var 1)) (.var 10))) (.lst (.cns (.lst (.cns (.var 1) .nil)) .nil)))) (.seq (.asg 6 (.bop .add (.var 3) (.lst (.cns (.bop .add (.var 7) (.lc [10] (.tn 10) (.it (.var 8)) (.cmp .notin (.var 10) (.var 7)) (.var 10))) .nil)))) (.seq (.ret (.lst (.cns (.var 6) (.cns (.var 6) (.cns (.lc [9] (.tn 9) (.it (.var 4)) (.cmp .ne (.var 9) (.lst .nil)) (.var 9)) (.cns (.lc [9] (.tn 9) (.it (.var 5)) (.cmp .ne (.var 9) (.lst .nil)) (.var 9)) .nil)))))) .skp))))))
def c_Grouping_fits : E := (.seq (.exp (.cal 137 (.cns (.fld (.var 0) 5 [1, 2, 3]) (.cns (.met t_things_0 (.var 1) 0 .nil 0 .nil) .nil)))) (.seq (.iff (.nt (.bi .all (.cns (.lc [2, 3] (.tt [2, 3]) (.it (.met t_together_0 (.var 1) 0 .nil 0 .nil)) (.cst (.bl true)) (.cmp .isin (.var 2) (.met t_group_of_1 (.var 0) 1 (.cns (.var 3) .nil) 0 .nil))) .nil))) (.seq (.ret (.cst (.bl false))) .skp) .skp) (.seq (.ret (.nt (.bi .any (.cns (.lc [2, 3] (.tt [2, 3]) (.it (.met t_apart_0 (.var 1) 0 .nil 0 .nil)) (.cst (.bl true)) (.cmp .isin (.var 2) (.met t_group_of_1 (.var 0) 1 (.cns (.var 3) .nil) 0 .nil))) .nil)))) .skp)))
def c_Grouping_joined : E := (.seq (.exp (.cal 121 (.cns (.fld (.var 0) 5 [1, 2, 3]) (.cns (.lst (.cns (.var 1) (.cns (.var 2) .nil))) .nil)))) (.seq (.ret (.calk 2038 2 (.cns (.fld (.var 0) 5 [1, 2, 3]) (.cns (.cal 117 (.cns (.fld (.var 0) 5 [1, 2, 3]) (.cns (.lst (.spl (.fld (.var 0) 12 [3]) (.cns (.tpl (.cns (.var 1) (.cns (.var 2) .nil))) .nil))) .nil))) .nil)) 0 .nil)) .skp))
def c_Grouping_moved : E := (.seq (.exp (.cal 121 (.cns (.fld (.var 0) 5 [1, 2, 3]) (.cns (.lst (.cns (.var 1) (.cns (.var 2) .nil))) .nil)))) (.seq (.ret (.met t_placed_2 (.var 0) 2 (.cns (.lst (.cns (.var 1) .nil)) (.cns (.var 2) .nil)) 0 .nil)) .skp))
def c_Grouping_placed : E := (.seq (.asg 3 (.met t_group_of_1 (.var 0) 1 (.cns (.var 2) .nil) 0 .nil)) (.seq (.iff (.bi .all (.cns (.lc [6] (.tn 6) (.it (.var 1)) (.cst (.bl true)) (.cmp .isin (.var 6) (.var 3))) .nil)) (.seq (.ret (.var 0)) .skp) .skp) (.seq (.asg 4 (.lc [5] (.tn 5) (.it (.fld (.var 0) 12 [3])) (.cst (.bl true)) (.lc [6] (.tn 6) (.it (.var 5)) (.cmp .notin (.var 6) (.var 1)) (.var 6)))) (.seq (.asg 4 (.lc [5, 7] (.tt [7, 5]) (.zp (.var 4) (.fld (.var 0) 12 [3])) (.cst (.bl true)) (.bop .add (.var 7) (.lc [6] (.tn 6) (.it (.var 1)) (.cmp .isin (.var 2) (.var 5)) (.var 6))))) (.seq (.ret (.calk 2038 2 (.cns (.fld (.var 0) 5 [1, 2, 3]) (.cns (.lc [7] (.tn 7) (.it (.var 4)) (.cmp .ne (.var 7) (.lst .nil)) (.var 7)) .nil)) 0 .nil)) .skp)))))
def c_Grouping_alone : E := (.seq (.exp (.cal 121 (.cns (.fld (.var 0) 5 [1, 2, 3]) (.cns (.lst (.cns (.var 1) .nil)) .nil)))) (.seq (.asg 2 (.lc [3] (.tn 3) (.it (.fld (.var 0) 12 [3])) (.cst (.bl true)) (.lc [4] (.tn 4) (.it (.var 3)) (.cmp .ne (.var 4) (.var 1)) (.var 4)))) (.seq (.ret (.calk 2038 2 (.cns (.fld (.var 0) 5 [1, 2, 3]) (.cns (.bop .add (.lc [5] (.tn 5) (.it (.var 2)) (.cmp .ne (.var 5) (.lst .nil)) (.var 5)) (.lst (.cns (.lst (.cns (.var 1) .nil)) .nil))) .nil)) 0 .nil)) .skp)))
def c_law_partings : E := (.seq (.asg 1 (.lst (.cns (.lst .nil) .nil))) (.seq (.frr (.tn 2) (.it (.var 0)) (.seq (.asb 3 (.lst .nil)) (.seq (.frr (.tn 4) (.it (.var 1)) (.seq (.frr (.tn 5) (.rng (.bi .len (.cns (.var 4) .nil))) (.seq (.exp (.bm .append (.var 3) (.cns (.bop .add (.bop .add (.sl (.var 4) .abs (.one (.var 5))) (.lst (.cns (.bop .add (.ix (.var 4) (.var 5)) (.tpl (.cns (.var 2) .nil))) .nil))) (.sl (.var 4) (.one (.bop .add (.var 5) (.cst (.int 1)))) .abs)) .nil))) .skp)) (.seq (.exp (.bm .append (.var 3) (.cns (.bop .add (.var 4) (.lst (.cns (.tpl (.cns (.var 2) .nil)) .nil))) .nil))) .skp))) (.seq (.asg 1 (.var 3)) .skp)))) (.seq (.ret (.var 1)) .skp)))
def c_law_pairs_in : E := (.seq (.asg 2 (.lst .nil)) (.seq (.frr (.tn 3) (.it (.var 0)) (.seq (.asg 2 (.bop .add (.var 2) (.lc [4] (.tn 4) (.it (.var 0)) (.cmp .isin (.var 4) (.cal 125 (.cns (.var 1) (.cns (.var 3) .nil)))) (.tpl (.cns (.var 3) (.cns (.var 4) .nil)))))) .skp)) (.seq (.ret (.var 2)) .skp)))
def c_Grouping_is_finer : E := (.seq (.exp (.cal 137 (.cns (.fld (.var 0) 5 [1, 2, 3]) (.cns (.fld (.var 1) 5 [1, 2, 3]) .nil)))) (.seq (.ret (.bi .all (.cns (.lc [2] (.tn 2) (.it (.fld (.var 0) 12 [3])) (.cst (.bl true)) (.bi .all (.cns (.lc [3] (.tn 3) (.it (.var 2)) (.cst (.bl true)) (.cmp .isin (.var 3) (.met t_group_of_1 (.var 1) 1 (.cns (.ix (.var 2) (.cst (.int 0))) .nil) 0 .nil))) .nil))) .nil))) .skp))
def c_grown : E := (.seq (.asb 3 (.lst .nil)) (.seq (.frr (.tn 4) (.rng (.bop .add (.bi .len (.cns (.var 1) .nil)) (.cst (.int 1)))) (.seq (.asg 5 (.lc [6, 7] (.tt [6, 7]) (.enm (.var 1)) (.cst (.bl true)) (.ite (.cmp .eq (.var 6) (.var 4)) (.lst (.spl (.var 7) (.cns (.var 2) .nil))) (.var 7)))) (.seq (.asg 5 (.ite (.cmp .lt (.var 4) (.bi .len (.cns (.var 1) .nil))) (.var 5) (.lst (.spl (.var 1) (.cns (.lst (.cns (.var 2) .nil)) .nil))))) (.seq (.iff (.cal 139 (.cns (.var 0) (.cns (.var 5) .nil))) (.seq (.exp (.bm .append (.var 3) (.cns (.var 5) .nil))) .skp) .skp) .skp)))) (.seq (.ret (.var 3)) .skp)))
def c_count_groupings : E := (.seq (.ret (.bi .len (.cns (.cal 140 (.cns (.var 0) .nil)) .nil))) .skp)
def c_law_all_fitting : E := (.seq (.ret (.lc [1] (.tn 1) (.it (.cal 141 (.cns (.ix (.var 0) (.cst (.int 0))) .nil))) (.cal 132 (.cns (.var 0) (.cns (.var 1) .nil))) (.var 1))) .skp)
def c_is_dating : E := (.seq (.iff (.bor (.nt (.isi (.var 1) [.dict])) (.one (.cmp .ne (.bi .len (.cns (.var 1) .nil)) (.bio .len tLen (.var 0))))) (.seq (.ret (.cst (.bl false))) .skp) .skp) (.seq (.ret (.bi .all (.cns (.lc [2] (.tn 2) (.it (.met t_labels_0 (.var 0) 0 .nil 0 .nil)) (.cst (.bl true)) (.band (.cmp .isin (.fld (.var 2) 0 [0, 4, 5, 6, 7, 8, 15]) (.var 1)) (.one (.met t_may_be_1 (.var 2) 1 (.cns (.ix (.var 1) (.fld (.var 2) 0 [0, 4, 5, 6, 7, 8, 15])) .nil) 0 .nil)))) .nil))) .skp))
def c_need_dating : E := (.seq (.iff (.nt (.cal 144 (.cns (.var 0) (.cns (.var 1) .nil)))) (.seq .wal .skp) .skp) .skp)
def c_age : E := (.seq (.ret (.tpl (.cns (.ix (.var 1) (.var 2)) (.cns (.met t_place_1 (.var 0) 1 (.cns (.var 2) .nil) 0 .nil) .nil)))) .skp)
def c_older : E := (.seq (.exp (.cal 146 (.cns (.var 0) (.cns (.var 1) .nil)))) (.seq (.frr (.tn 4) (.it (.tpl (.cns (.var 2) (.cns (.var 3) .nil)))) (.seq (.exp (.met t_need_key_1 (.var 0) 1 (.cns (.var 4) .nil) 0 .nil)) .skp)) (.seq (.ret (.cmp .lt (.cal 145 (.cns (.var 0) (.cns (.var 1) (.cns (.var 2) .nil)))) (.cal 145 (.cns (.var 0) (.cns (.var 1) (.cns (.var 3) .nil)))))) .skp)))
def c_can_be_older : E := (.seq (.par 3 4 (.met t_label_1 (.var 0) 1 (.cns (.var 1) .nil) 0 .nil) (.met t_label_1 (.var 0) 1 (.cns (.var 2) .nil) 0 .nil)) (.seq (.ret (.band (.cmp .ne (.var 1) (.var 2)) (.one (.cmp .lt (.tpl (.cns (.fld (.var 3) 3 [0]) (.cns (.met t_place_1 (.var 0) 1 (.cns (.var 1) .nil) 0 .nil) .nil))) (.tpl (.cns (.fld (.var 4) 4 [0]) (.cns (.met t_place_1 (.var 0) 1 (.cns (.var 2) .nil) 0 .nil) .nil))))))) .skp))
def c_law_age : E := (.seq (.ret (.tpl (.cns (.ix (.var 1) (.var 2)) (.cns (.bm .index (.cal 116 (.cns (.var 0) .nil)) (.cns (.var 2) .nil)) .nil)))) .skp)
def c_law_is_older : E := (.seq (.ret (.cmp .lt (.cal 147 (.cns (.var 0) (.cns (.var 1) (.cns (.var 2) .nil)))) (.cal 147 (.cns (.var 0) (.cns (.var 1) (.cns (.var 3) .nil)))))) .skp)
def c_law_first_dates : E := (.seq (.asb 1 .emp) (.seq (.frr (.tn 2) (.it (.ix (.var 0) (.cst (.int 1)))) (.seq (.sit (.var 1) (.ix (.var 2) (.cst (.int 0))) (.ix (.var 2) (.cst (.int 3)))) .skp)) (.seq (.ret (.var 1)) .skp)))
def c_law_dating : E := (.seq (.asb 2 .emp) (.seq (.frr (.tn 3) (.it (.ix (.var 1) (.cst (.int 1)))) (.seq (.sit (.var 2) (.ix (.var 3) (.cst (.int 0))) (.bop .add (.ix (.var 3) (.cst (.int 3))) (.cal 11 (.cns (.var 0) (.cns (.bop .sub (.bop .add (.ix (.var 3) (.cst (.int 4))) (.cst (.int 1))) (.ix (.var 3) (.cst (.int 3)))) .nil))))) .skp)) (.seq (.ret (.var 2)) .skp)))
def c_law_can_be_older : E := (.seq (.asg 3 (.cal 116 (.cns (.var 0) .nil))) (.seq (.asg 4 (.tpl (.cns (.ix (.cal 112 (.cns (.var 0) (.cns (.var 1) .nil))) (.cst (.int 3))) (.cns (.bm .index (.var 3) (.cns (.var 1) .nil)) .nil)))) (.seq (.asg 5 (.tpl (.cns (.ix (.cal 112 (.cns (.var 0) (.cns (.var 2) .nil))) (.cst (.int 4))) (.cns (.bm .index (.var 3) (.cns (.var 2) .nil)) .nil)))) (.seq (.ret (.band (.cmp .ne (.var 1) (.var 2)) (.one (.cmp .lt (.var 4) (.var 5))))) .skp))))
def c_law_turned_dict : E := (.seq (.asb 1 .emp) (.seq (.frr (.tn 2) (.it (.rev (.lc [2] (.tn 2) (.it (.var 0)) (.cst (.bl true)) (.var 2)))) (.seq (.sit (.var 1) (.var 2) (.ix (.var 0) (.var 2))) .skp)) (.seq (.ret (.var 1)) .skp)))
def c_Book_place : E := (.seq (.ret (.bm .index (.bi .list (.cns (.fld (.var 0) 6 [1]) .nil)) (.cns (.var 1) .nil))) .skp)
def c_step_over : E := (.seq (.ret (.bi .int (.cns (.cmp .lt (.met t_place_1 (.var 0) 1 (.cns (.var 2) .nil) 0 .nil) (.met t_place_1 (.var 0) 1 (.cns (.var 1) .nil) 0 .nil)) .nil))) .skp)
def c_dates_for : E := (.seq (.iff (.nt (.cal 111 (.cns (.var 1) .nil))) (.seq .wal .skp) .skp) (.seq (.frr (.tt [2, 3]) (.enm (.var 1)) (.seq (.iff (.bor (.nt (.isi (.var 3) [.tuple])) (.bor (.cmp .ne (.bi .len (.cns (.var 3) .nil)) (.cst (.int 2))) (.one (.nt (.bi .all (.cns (.lc [4] (.tn 4) (.it (.var 3)) (.cst (.bl true)) (.con false tIn (.var 4) (.var 0))) .nil)))))) (.seq .wal .skp) .skp) .skp)) (.seq (.ret (.cal 153 (.cns (.var 0) (.cns (.var 1) .nil)))) .skp)))
def c_chain_back : E := (.seq (.asg 2 (.lst (.cns (.var 1) .nil))) (.seq (.whl (.cmp .isin (.ix (.var 2) (.cst (.int 0))) (.var 0)) (.seq (.asg 3 (.ix (.var 0) (.ix (.var 2) (.cst (.int 0))))) (.seq (.iff (.cmp .isin (.var 3) (.var 2)) (.seq (.ret (.tpl (.cns (.var 3) (.spl (.sl (.var 2) .abs (.one (.bop .add (.bm .index (.var 2) (.cns (.var 3) .nil)) (.cst (.int 1))))) .nil)))) .skp) .skp) (.seq (.asg 2 (.lst (.cns (.var 3) (.spl (.var 2) .nil)))) .skp)))) (.seq (.ret (.bi .tuple (.cns (.var 2) .nil))) .skp)))
def c_settled : E := (.seq (.ret (.ix (.cal 155 (.cns (.var 0) (.cns (.var 1) .nil))) (.cst (.int 0)))) .skp)
def c_law_right_datings : E := (.seq (.asb 2 (.lst .nil)) (.seq (.frr (.tn 3) (.it (.cal 170 (.cns (.var 0) .nil))) (.seq (.iff (.cmp .eq (.lc [4] (.tn 4) (.it (.var 1)) (.nt (.cal 150 (.cns (.var 0) (.cns (.var 3) (.cns (.ix (.var 4) (.cst (.int 0))) (.cns (.ix (.var 4) (.cst (.int 1))) .nil)))))) (.var 4)) (.lst .nil)) (.seq (.exp (.bm .append (.var 2) (.cns (.var 3) .nil))) .skp) .skp) .skp)) (.seq (.ret (.var 2)) .skp)))
def c_barred : E := (.seq (.exp (.cal 146 (.cns (.var 0) (.cns (.var 1) .nil)))) (.seq (.asb 3 (.lst .nil)) (.seq (.frr (.tn 4) (.it (.met t_active_0 (.var 0) 0 .nil 0 .nil)) (.seq (.asg 5 (.ite (.met t_is_kept_1 (.var 0) 1 (.cns (.var 4) .nil) 0 .nil) (.cst .non) (.cal 282 (.cns (.var 0) (.cns (.var 1) (.cns (.var 4) (.cns (.var 2) .nil))))))) (.seq (.iff (.nin (.var 5)) (.seq (.exp (.bm .append (.var 3) (.cns (.tpl (.cns (.var 4) (.cns (.var 5) .nil))) .nil))) .skp) .skp) .skp))) (.seq (.ret (.var 3)) .skp))))
def c_law_barring : E := (.seq (.iff (.cmp .isin (.var 2) (.ix (.var 0) (.cst (.int 3)))) (.seq (.ret (.lst .nil)) .skp) .skp) (.seq (.asg 4 (.lc [6] (.tn 6) (.it (.cal 113 (.cns (.var 0) (.cns (.var 2) .nil)))) (.band (.cmp .isin (.cal 159 (.cns (.var 0) (.cns (.var 6) .nil))) (.var 3)) (.one (.cal 150 (.cns (.var 0) (.cns (.var 1) (.cns (.var 6) (.cns (.var 2) .nil))))))) (.var 6))) (.seq (.asg 5 (.bi .sorted (.cns (.lc [6] (.tn 6) (.it (.var 4)) (.cst (.bl true)) (.cal 147 (.cns (.var 0) (.cns (.var 1) (.cns (.var 6) .nil))))) .nil))) (.seq (.ret (.lc [7] (.tn 7) (.it (.var 5)) (.cst (.bl true)) (.ix (.cal 116 (.cns (.var 0) .nil)) (.ix (.var 7) (.cst (.int 1)))))) .skp))))
def c_leader : E := (.seq (.asg 4 (.calk 2045 2 (.cns (.var 0) (.cns (.var 1) .nil)) 1 (.cns (.var 3) .nil))) (.seq (.exp (.cal 121 (.cns (.met t_things_0 (.var 0) 0 .nil 0 .nil) (.cns (.var 2) .nil)))) (.seq (.asg 5 (.lc [6] (.tn 6) (.it (.var 4)) (.cmp .isin (.fld (.met t_label_1 (.var 0) 1 (.cns (.var 6) .nil) 0 .nil) 2 [0]) (.var 2)) (.var 6))) (.seq (.ret (.ite (.cmp .ne (.var 5) (.lst .nil)) (.ix (.var 5) (.cst (.int 0))) (.cst .non))) .skp))))
def c_law_row : E := (.seq (.asb 3 (.lst .nil)) (.seq (.frr (.tn 4) (.it (.cal 115 (.cns (.var 0) .nil))) (.seq (.iff (.cmp .eq (.cal 283 (.cns (.var 0) (.cns (.var 1) (.cns (.var 4) (.cns (.var 2) .nil))))) (.lst .nil)) (.seq (.exp (.bm .append (.var 3) (.cns (.tpl (.cns (.bi .int (.cns (.cmp .notin (.var 4) (.ix (.var 0) (.cst (.int 3)))) .nil)) (.cns (.cal 147 (.cns (.var 0) (.cns (.var 1) (.cns (.var 4) .nil)))) .nil))) .nil))) .skp) .skp) .skp)) (.seq (.ret (.lc [5] (.tn 5) (.it (.bi .sorted (.cns (.var 3) .nil))) (.cst (.bl true)) (.ix (.cal 116 (.cns (.var 0) .nil)) (.ix (.ix (.var 5) (.cst (.int 1))) (.cst (.int 1)))))) .skp)))
def c_law_leader : E := (.seq (.asg 4 (.lc [5] (.tn 5) (.it (.cal 160 (.cns (.var 0) (.cns (.var 1) (.cns (.var 3) .nil))))) (.cmp .isin (.cal 159 (.cns (.var 0) (.cns (.var 5) .nil))) (.var 2)) (.var 5))) (.seq (.ret (.ite (.cmp .ne (.var 4) (.lst .nil)) (.ix (.var 4) (.cst (.int 0))) (.cst .non))) .skp))
def c_law_lots : E := (.seq (.asg 1 (.lst (.cns (.lst .nil) .nil))) (.seq (.frr (.tn 2) (.it (.var 0)) (.seq (.asg 1 (.bop .add (.var 1) (.lc [3] (.tn 3) (.it (.var 1)) (.cst (.bl true)) (.bop .add (.var 3) (.lst (.cns (.var 2) .nil)))))) .skp)) (.seq (.ret (.var 1)) .skp)))
def c_leaders : E := (.seq (.exp (.cal 146 (.cns (.var 0) (.cns (.var 1) .nil)))) (.seq (.exp (.cal 137 (.cns (.met t_things_0 (.var 0) 0 .nil 0 .nil) (.cns (.met t_things_0 (.var 2) 0 .nil 0 .nil) .nil)))) (.seq (.ret (.lc [3] (.tn 3) (.it (.met t_groups_0 (.var 2) 0 .nil 0 .nil)) (.cst (.bl true)) (.calk 2046 3 (.cns (.var 0) (.cns (.var 1) (.cns (.var 3) .nil))) 0 .nil))) .skp)))
def c_changes : E := (.seq (.ast (.tt [5, 6, 7]) (.tpl (.cns (.bxe (.lst .nil)) (.cns (.cal 213 (.cns (.var 0) (.cns (.var 1) (.cns (.var 2) .nil)))) (.cns (.cal 213 (.cns (.var 0) (.cns (.var 1) (.cns (.var 3) .nil)))) .nil))))) (.seq (.frr (.tn 4) (.it (.met t_things_0 (.var 0) 0 .nil 0 .nil)) (.seq (.asg 8 (.ix (.var 6) (.bm .index (.met t_groups_0 (.var 2) 0 .nil 0 .nil) (.cns (.met t_group_of_1 (.var 2) 1 (.cns (.var 4) .nil) 0 .nil) .nil)))) (.seq (.asg 9 (.ix (.var 7) (.bm .index (.met t_groups_0 (.var 3) 0 .nil 0 .nil) (.cns (.met t_group_of_1 (.var 3) 1 (.cns (.var 4) .nil) 0 .nil) .nil)))) (.seq (.iff (.cmp .ne (.var 8) (.var 9)) (.seq (.exp (.bm .append (.var 5) (.cns (.tpl (.cns (.var 4) (.cns (.var 8) (.cns (.var 9) .nil)))) .nil))) .skp) .skp) .skp)))) (.seq (.ret (.var 5)) .skp)))
def c_rivals_in : E := (.seq (.ret (.lc [3] (.tn 3) (.it (.met t_rivals_1 (.var 0) 1 (.cns (.var 1) .nil) 0 .nil)) (.bor (.isn (.var 2)) (.one (.cmp .isin (.fld (.met t_label_1 (.var 0) 1 (.cns (.var 3) .nil) 0 .nil) 2 [0]) (.var 2)))) (.var 3))) .skp)
def c_clause_for : E := (.seq (.iff (.met t_is_kept_1 (.var 0) 1 (.cns (.var 2) .nil) 0 .nil) (.seq (.ret (.ite (.met t_is_kept_1 (.var 0) 1 (.cns (.var 1) .nil) 0 .nil) (.lst (.cns (.tpl (.cns (.var 1) (.cns (.var 2) .nil))) .nil)) (.lst .nil))) .skp) .skp) (.seq (.iff (.met t_is_kept_1 (.var 0) 1 (.cns (.var 1) .nil) 0 .nil) (.seq (.ret (.cst .non)) .skp) .skp) (.seq (.ret (.lst (.cns (.tpl (.cns (.var 1) (.cns (.var 2) .nil))) (.spl (.lc [4] (.tn 4) (.it (.cal 164 (.cns (.var 0) (.cns (.var 2) (.cns (.var 3) .nil))))) (.cst (.bl true)) (.tpl (.cns (.var 4) (.cns (.var 2) .nil)))) .nil)))) .skp)))
def c_law_rivals_in : E := (.seq (.ret (.lc [3] (.tn 3) (.it (.cal 113 (.cns (.var 0) (.cns (.var 1) .nil)))) (.cmp .isin (.cal 159 (.cns (.var 0) (.cns (.var 3) .nil))) (.var 2)) (.var 3))) .skp)
def c_law_clause : E := (.seq (.iff (.cmp .isin (.var 2) (.ix (.var 0) (.cst (.int 3)))) (.seq (.ret (.lst (.cns (.ite (.cmp .isin (.var 1) (.ix (.var 0) (.cst (.int 3)))) (.lst (.cns (.tpl (.cns (.var 1) (.cns (.var 2) .nil))) .nil)) (.lst .nil)) .nil))) .skp) .skp) (.seq (.ret (.ite (.cmp .isin (.var 1) (.ix (.var 0) (.cst (.int 3)))) (.lst .nil) (.lst (.cns (.bop .add (.lst (.cns (.tpl (.cns (.var 1) (.cns (.var 2) .nil))) .nil)) (.lc [4] (.tn 4) (.it (.cal 165 (.cns (.var 0) (.cns (.var 2) (.cns (.var 3) .nil))))) (.cst (.bl true)) (.tpl (.cns (.var 4) (.cns (.var 2) .nil))))) .nil)))) .skp))
def c_law_clauses : E := (.seq (.asg 4 (.lc [6] (.tn 6) (.it (.cal 115 (.cns (.var 0) .nil))) (.cmp .isin (.cal 159 (.cns (.var 0) (.cns (.var 6) .nil))) (.var 2)) (.var 6))) (.seq (.iff (.isn (.var 1)) (.seq (.ret (.lc [6] (.tn 6) (.it (.var 4)) (.cst (.bl true)) (.ite (.cmp .isin (.var 6) (.ix (.var 0) (.cst (.int 3)))) (.lst .nil) (.lc [7] (.tn 7) (.it (.cal 165 (.cns (.var 0) (.cns (.var 6) (.cns (.var 3) .nil))))) (.cst (.bl true)) (.tpl (.cns (.var 7) (.cns (.var 6) .nil))))))) .skp) .skp) (.seq (.asg 5 (.ite (.cmp .isin (.var 1) (.var 4)) (.lst .nil) (.lst (.cns (.lst .nil) .nil)))) (.seq (.iff (.cmp .notin (.var 1) (.ix (.var 0) (.cst (.int 3)))) (.seq (.asg 5 (.bop .add (.var 5) (.lc [6] (.tn 6) (.it (.cal 165 (.cns (.var 0) (.cns (.var 1) (.cns (.var 3) .nil))))) (.cst (.bl true)) (.lst (.cns (.tpl (.cns (.var 1) (.cns (.var 6) .nil))) .nil))))) .skp) .skp) (.seq (.frr (.tn 6) (.it (.var 4)) (.seq (.asg 5 (.bop .add (.var 5) (.ite (.cmp .ne (.var 6) (.var 1)) (.cal 166 (.cns (.var 0) (.cns (.var 1) (.cns (.var 6) (.cns (.var 3) .nil))))) (.lst .nil)))) .skp)) (.seq (.ret (.var 5)) .skp))))))
def c_chosen_from : E := (.seq (.iff (.isn (.ix (.cal 155 (.cns (.var 0) (.cns (.var 2) .nil))) (.cst (.int 0)))) (.seq (.ret (.cst .non)) .skp) .skp) (.seq (.iff (.cmp .eq (.bi .len (.cns (.var 2) .nil)) (.bi .len (.cns (.var 1) .nil))) (.seq (.ret (.var 2)) .skp) .skp) (.seq (.frr (.tn 3) (.it (.ix (.var 1) (.bi .len (.cns (.var 2) .nil)))) (.seq (.asg 4 (.cal 167 (.cns (.var 0) (.cns (.var 1) (.cns (.lst (.spl (.var 2) (.cns (.var 3) .nil))) .nil))))) (.seq (.iff (.nin (.var 4)) (.seq (.ret (.var 4)) .skp) .skp) .skp))) (.seq (.ret (.cst .non)) .skp))))
def c_chosen_pairs : E := (.seq (.ret (.ite (.cmp .isin (.lst .nil) (.bi .list (.cns (.var 1) .nil))) (.cst .non) (.cal 167 (.cns (.var 0) (.cns (.var 1) (.cns (.lst .nil) .nil)))))) .skp)
def c_tree_from : E := (.seq (.asg 3 (.ix (.cal 155 (.cns (.var 0) (.cns (.var 2) .nil))) (.cst (.int 1)))) (.seq (.iff (.nin (.var 3)) (.seq (.ret (.tpl (.cns (.cst (.str (tx [99, 104, 97, 105, 110]))) (.cns (.var 3) .nil)))) .skp) .skp) (.seq (.iff (.cmp .eq (.bi .len (.cns (.var 2) .nil)) (.bi .len (.cns (.var 1) .nil))) (.seq (.ret (.cst .non)) .skp) .skp) (.seq (.asb 4 (.lst .nil)) (.seq (.frr (.tn 5) (.it (.ix (.var 1) (.bi .len (.cns (.var 2) .nil)))) (.seq (.asg 6 (.cal 168 (.cns (.var 0) (.cns (.var 1) (.cns (.lst (.spl (.var 2) (.cns (.var 5) .nil))) .nil))))) (.seq (.iff (.isn (.var 6)) (.seq (.ret (.cst .non)) .skp) .skp) (.seq (.exp (.bm .append (.var 4) (.cns (.var 6) .nil))) .skp)))) (.seq (.ret (.tpl (.cns (.cst (.str (tx [115, 112, 108, 105, 116]))) (.cns (.bi .len (.cns (.var 2) .nil)) (.cns (.bi .tuple (.cns (.var 4) .nil)) .nil))))) .skp))))))
def c_closed_tree : E := (.seq (.frr (.tt [2, 3]) (.enm (.var 1)) (.seq (.iff (.cmp .eq (.bi .len (.cns (.var 3) .nil)) (.cst (.int 0))) (.seq (.ret (.tpl (.cns (.cst (.str (tx [101, 109, 112, 116, 121]))) (.cns (.var 2) .nil)))) .skp) .skp) .skp)) (.seq (.ret (.cal 168 (.cns (.var 0) (.cns (.var 1) (.cns (.lst .nil) .nil))))) .skp))
def c_law_all_true : E := (.seq (.frr (.tn 3) (.it (.var 2)) (.seq (.iff (.cmp .eq (.lc [4] (.tn 4) (.it (.var 3)) (.band (.cmp .ne (.ix (.var 4) (.cst (.int 0))) (.ix (.var 4) (.cst (.int 1)))) (.one (.cal 150 (.cns (.var 0) (.cns (.var 1) (.cns (.ix (.var 4) (.cst (.int 0))) (.cns (.ix (.var 4) (.cst (.int 1))) .nil))))))) (.var 4)) (.lst .nil)) (.seq (.ret (.cst (.bl false))) .skp) .skp) .skp)) (.seq (.ret (.cst (.bl true))) .skp))
def c_law_is_possible : E := (.seq (.frr (.tn 2) (.it (.cal 170 (.cns (.var 0) .nil))) (.seq (.iff (.cal 169 (.cns (.var 0) (.cns (.var 2) (.cns (.var 1) .nil)))) (.seq (.ret (.cst (.bl true))) .skp) .skp) .skp)) (.seq (.ret (.cst (.bl false))) .skp))
def c_law_some_rows : E := (.seq (.ast (.tt [3, 4]) (.tpl (.cns (.cal 116 (.cns (.var 1) .nil)) (.cns (.bxe (.lst .nil)) .nil)))) (.seq (.frr (.tn 2) (.rng (.ite (.cmp .ne (.var 3) (.lst .nil)) (.cal 11 (.cns (.var 0) (.cns (.cst (.int 5)) .nil))) (.cst (.int 0)))) (.seq (.asg 5 (.ite (.cmp .eq (.cal 11 (.cns (.var 0) (.cns (.cst (.int 5)) .nil))) (.cst (.int 0))) (.cal 11 (.cns (.var 0) (.cns (.cst (.int 4)) .nil))) (.bop .add (.cst (.int 1)) (.cal 11 (.cns (.var 0) (.cns (.cst (.int 2)) .nil)))))) (.seq (.exp (.bm .append (.var 4) (.cns (.lc [6] (.tn 6) (.rng (.var 5)) (.cst (.bl true)) (.tpl (.cns (.cal 12 (.cns (.var 0) (.cns (.var 3) .nil))) (.cns (.cal 12 (.cns (.var 0) (.cns (.var 3) .nil))) .nil)))) .nil))) .skp))) (.seq (.ret (.var 4)) .skp)))
def c_is_chain : E := (.seq (.iff (.bor (.nt (.isi (.var 1) [.tuple])) (.bor (.cmp .lt (.bi .len (.cns (.var 1) .nil)) (.cst (.int 2))) (.one (.nt (.bi .all (.cns (.lc [5] (.tn 5) (.it (.var 1)) (.cst (.bl true)) (.con false tIn (.var 5) (.var 0))) .nil)))))) (.seq (.ret (.cst (.bl false))) .skp) .skp) (.seq (.ret (.bi .all (.cns (.lc [3, 4] (.tt [3, 4]) (.zp (.var 1) (.sl (.var 1) (.one (.cst (.int 1))) .abs)) (.cst (.bl true)) (.cmp .isin (.tpl (.cns (.var 3) (.cns (.var 4) .nil))) (.var 2))) .nil))) .skp))
def c_closes : E := (.seq (.iff (.bor (.nt (.isi (.var 2) [.tuple])) (.bor (.nt (.chn .le .le (.cst (.int 2)) (.bi .len (.cns (.var 2) .nil)) (.cst (.int 3)))) (.one (.nt (.isi (.ix (.var 2) (.cst (.int 0))) [.str]))))) (.seq (.ret (.cst (.bl false))) .skp) .skp) (.seq (.iff (.cmp .eq (.ix (.var 2) (.cst (.int 0))) (.cst (.str (tx [99, 104, 97, 105, 110])))) (.seq (.ret (.band (.cmp .eq (.bi .len (.cns (.var 2) .nil)) (.cst (.int 2))) (.band (.cal 258 (.cns (.var 0) (.cns (.ix (.var 2) (.cst (.int 1))) (.cns (.var 3) .nil)))) (.one (.cal 286 (.cns (.var 0) (.cns (.ix (.var 2) (.cst (.int 1))) .nil))))))) .skp) .skp) (.seq (.iff (.nt (.cal 1 (.cns (.ix (.var 2) (.cst (.int 1))) (.cns (.cst (.int 0)) (.cns (.bop .sub (.bi .len (.cns (.var 1) .nil)) (.cst (.int 1))) .nil))))) (.seq (.ret (.cst (.bl false))) .skp) .skp) (.seq (.asg 4 (.ix (.var 1) (.ix (.var 2) (.cst (.int 1))))) (.seq (.iff (.cmp .eq (.ix (.var 2) (.cst (.int 0))) (.cst (.str (tx [101, 109, 112, 116, 121])))) (.seq (.ret (.band (.cmp .eq (.bi .len (.cns (.var 2) .nil)) (.cst (.int 2))) (.one (.cmp .eq (.bi .len (.cns (.var 4) .nil)) (.cst (.int 0)))))) .skp) .skp) (.seq (.iff (.bor (.cmp .ne (.ix (.var 2) (.cst (.int 0))) (.cst (.str (tx [115, 112, 108, 105, 116])))) (.bor (.cmp .ne (.bi .len (.cns (.var 2) .nil)) (.cst (.int 3))) (.bor (.nt (.isi (.ix (.var 2) (.cst (.int 2))) [.tuple])) (.one (.cmp .ne (.bi .len (.cns (.ix (.var 2) (.cst (.int 2))) .nil)) (.bi .len (.cns (.var 4) .nil))))))) (.seq (.ret (.cst (.bl false))) .skp) .skp) (.seq (.ret (.bi .all (.cns (.lc [5, 6] (.tt [5, 6]) (.zp (.ix (.var 2) (.cst (.int 2))) (.var 4)) (.cst (.bl true)) (.cal 177 (.cns (.var 0) (.cns (.var 1) (.cns (.var 5) (.cns (.lst (.spl (.var 3) (.cns (.var 6) .nil))) .nil)))))) .nil))) .skp)))))))
def c_is_closed : E := (.seq (.ret (.cal 177 (.cns (.var 0) (.cns (.var 1) (.cns (.var 2) (.cns (.lst .nil) .nil)))))) .skp)
def c_law_tree_closes : E := (.seq (.iff (.bor (.nt (.isi (.var 2) [.tuple])) (.bor (.cmp .lt (.bi .len (.cns (.var 2) .nil)) (.cst (.int 2))) (.one (.cmp .notin (.ix (.var 2) (.cst (.int 0))) (.tpl (.cns (.cst (.str (tx [101, 109, 112, 116, 121]))) (.cns (.cst (.str (tx [99, 104, 97, 105, 110]))) (.cns (.cst (.str (tx [115, 112, 108, 105, 116]))) .nil)))))))) (.seq (.ret (.cst (.bl false))) .skp) .skp) (.seq (.iff (.cmp .eq (.ix (.var 2) (.cst (.int 0))) (.cst (.str (tx [99, 104, 97, 105, 110])))) (.seq (.ast (.tt [7, 8]) (.tpl (.cns (.ix (.var 2) (.cst (.int 1))) (.cns (.cal 116 (.cns (.var 0) .nil)) .nil)))) (.seq (.iff (.bor (.cmp .ne (.bi .len (.cns (.var 2) .nil)) (.cst (.int 2))) (.bor (.nt (.isi (.var 7) [.tuple])) (.bor (.cmp .lt (.bi .len (.cns (.var 7) .nil)) (.cst (.int 2))) (.one (.cmp .ne (.lc [9] (.tn 9) (.it (.var 7)) (.cmp .notin (.var 9) (.var 8)) (.var 9)) (.lst .nil)))))) (.seq (.ret (.cst (.bl false))) .skp) .skp) (.seq (.ret (.band (.cmp .eq (.lc [10] (.tn 10) (.rng (.bop .sub (.bi .len (.cns (.var 7) .nil)) (.cst (.int 1)))) (.cmp .notin (.tpl (.cns (.ix (.var 7) (.var 10)) (.cns (.ix (.var 7) (.bop .add (.var 10) (.cst (.int 1)))) .nil))) (.var 3)) (.var 10)) (.lst .nil)) (.one (.cal 179 (.cns (.var 0) (.cns (.var 7) .nil)))))) .skp))) .skp) (.seq (.asg 4 (.ix (.var 2) (.cst (.int 1)))) (.seq (.iff (.bor (.nt (.isi (.var 4) [.int])) (.bor (.isi (.var 4) [.bool]) (.bor (.cmp .lt (.var 4) (.cst (.int 0))) (.one (.cmp .ge (.var 4) (.bi .len (.cns (.var 1) .nil))))))) (.seq (.ret (.cst (.bl false))) .skp) .skp) (.seq (.iff (.cmp .eq (.ix (.var 2) (.cst (.int 0))) (.cst (.str (tx [101, 109, 112, 116, 121])))) (.seq (.ret (.band (.cmp .eq (.bi .len (.cns (.var 2) .nil)) (.cst (.int 2))) (.one (.cmp .eq (.ix (.var 1) (.var 4)) (.lst .nil))))) .skp) .skp) (.seq (.iff (.bor (.cmp .ne (.bi .len (.cns (.var 2) .nil)) (.cst (.int 3))) (.bor (.nt (.isi (.ix (.var 2) (.cst (.int 2))) [.tuple])) (.one (.cmp .ne (.bi .len (.cns (.ix (.var 2) (.cst (.int 2))) .nil)) (.bi .len (.cns (.ix (.var 1) (.var 4)) .nil)))))) (.seq (.ret (.cst (.bl false))) .skp) .skp) (.seq (.frr (.tt [5, 6]) (.zp (.ix (.var 2) (.cst (.int 2))) (.ix (.var 1) (.var 4))) (.seq (.iff (.nt (.cal 178 (.cns (.var 0) (.cns (.var 1) (.cns (.var 5) (.cns (.bop .add (.var 3) (.lst (.cns (.var 6) .nil))) .nil)))))) (.seq (.ret (.cst (.bl false))) .skp) .skp) .skp)) (.seq (.ret (.cst (.bl true))) .skp))))))))
def c_law_bent_trees : E := (.seq (.asg 3 (.cal 12 (.cns (.var 0) (.cns (.bop .add (.var 2) (.lst (.cns (.cst (.str (tx [122, 122, 122, 122, 122, 122]))) .nil))) .nil)))) (.seq (.asg 4 (.lst (.cns (.cst .non) (.cns (.tpl .nil) (.cns (.tpl (.cns (.cst (.str (tx [101, 109, 112, 116, 121]))) .nil)) (.cns (.tpl (.cns (.cst (.str (tx [101, 109, 112, 116, 121]))) (.cns (.cst (.int 0)) .nil))) (.cns (.tpl (.cns (.cst (.str (tx [101, 109, 112, 116, 121]))) (.cns (.cst (.bl true)) .nil))) (.cns (.tpl (.cns (.cst (.str (tx [99, 104, 97, 105, 110]))) (.cns (.tpl (.cns (.var 3) (.cns (.var 3) .nil))) .nil))) (.cns (.tpl (.cns (.cst (.str (tx [99, 104, 97, 105, 110]))) (.cns (.tpl (.cns (.var 3) .nil)) .nil))) (.cns (.tpl (.cns (.cst (.str (tx [99, 104, 97, 105, 110]))) (.cns (.lst (.cns (.var 3) (.cns (.var 3) .nil))) .nil))) (.cns (.tpl (.cns (.cst (.str (tx [115, 112, 108, 105, 116]))) (.cns (.cst (.int 0)) (.cns (.tpl .nil) .nil)))) (.cns (.tpl (.cns (.cst (.str (tx [115, 112, 108, 105, 116]))) (.cns (.cst (.int 0)) (.cns (.tpl (.cns (.var 1) .nil)) .nil)))) (.cns (.tpl (.cns (.cst (.str (tx [115, 112, 108, 105, 116]))) (.cns (.cst (.int 1)) (.cns (.tpl (.cns (.var 1) (.cns (.var 1) .nil))) .nil)))) .nil))))))))))))) (.seq (.asg 4 (.bop .add (.var 4) (.lst (.cns (.lst (.cns (.var 1) .nil)) (.cns (.tpl (.cns (.cst (.str (tx [69, 109, 112, 116, 121]))) (.cns (.cst (.int 0)) .nil))) (.cns (.tpl (.cns (.cst (.int 0)) (.cns (.cst (.str (tx [101, 109, 112, 116, 121]))) .nil))) (.cns (.tpl (.cns (.cst (.str (tx [99, 104, 97, 105, 110]))) (.cns (.tpl (.cns (.var 3) (.cns (.cst (.str (tx [122, 122, 122, 122, 122, 122]))) .nil))) .nil))) (.cns (.tpl (.cns (.cst (.str (tx [115, 112, 108, 105, 116]))) (.cns (.cst (.int 0)) .nil))) (.cns (.tpl (.cns (.cst (.str (tx [101, 109, 112, 116, 121]))) (.cns (.neg (.cst (.int 1))) .nil))) (.cns (.tpl (.cns (.cst (.str (tx [101, 109, 112, 116, 121]))) (.cns (.cst (.int 99)) .nil))) (.cns (.tpl (.cns (.cst (.str (tx [115, 112, 108, 105, 116]))) (.cns (.cst (.int 0)) (.cns (.lst (.cns (.var 1) .nil)) .nil)))) (.cns (.tpl (.cns (.cst (.str (tx [99, 104, 97, 105, 110]))) (.cns (.cst .non) .nil))) (.cns (.tpl (.cns (.cst (.str (tx [115, 112, 108, 105, 116]))) (.cns (.cst .non) (.cns (.tpl .nil) .nil)))) .nil))))))))))))) (.seq (.iff (.band (.isi (.var 1) [.tuple]) (.band (.cmp .eq (.ix (.var 1) (.cst (.int 0))) (.cst (.str (tx [115, 112, 108, 105, 116])))) (.one (.cmp .ne (.ix (.var 1) (.cst (.int 2))) (.tpl .nil))))) (.seq (.asg 4 (.bop .add (.var 4) (.lst (.cns (.tpl (.cns (.ix (.var 1) (.cst (.int 0))) (.cns (.ix (.var 1) (.cst (.int 1))) (.cns (.sl (.ix (.var 1) (.cst (.int 2))) .abs (.one (.neg (.cst (.int 1))))) .nil)))) (.cns (.tpl (.cns (.ix (.var 1) (.cst (.int 0))) (.cns (.ix (.var 1) (.cst (.int 1))) (.cns (.rev (.ix (.var 1) (.cst (.int 2)))) .nil)))) (.cns (.ix (.ix (.var 1) (.cst (.int 2))) (.cst (.int 0))) (.cns (.tpl (.cns (.ix (.var 1) (.cst (.int 0))) (.cns (.ix (.var 1) (.cst (.int 1))) (.cns (.bop .add (.ix (.var 1) (.cst (.int 2))) (.ix (.var 1) (.cst (.int 2)))) .nil)))) .nil))))))) .skp) .skp) (.seq (.iff (.band (.isi (.var 1) [.tuple]) (.one (.cmp .eq (.ix (.var 1) (.cst (.int 0))) (.cst (.str (tx [99, 104, 97, 105, 110])))))) (.seq (.asg 4 (.bop .add (.var 4) (.lst (.cns (.tpl (.cns (.cst (.str (tx [99, 104, 97, 105, 110]))) (.cns (.rev (.ix (.var 1) (.cst (.int 1)))) .nil))) (.cns (.tpl (.cns (.cst (.str (tx [99, 104, 97, 105, 110]))) (.cns (.sl (.ix (.var 1) (.cst (.int 1))) (.one (.cst (.int 1))) .abs) .nil))) (.cns (.tpl (.cns (.cst (.str (tx [99, 104, 97, 105, 110]))) (.cns (.bop .add (.ix (.var 1) (.cst (.int 1))) (.sl (.ix (.var 1) (.cst (.int 1))) .abs (.one (.cst (.int 1))))) .nil))) .nil)))))) .skp) .skp) (.seq (.ret (.var 4)) .skp))))))
def c_is_thing : E := (.seq (.ret (.band (.isi (.var 1) [.str]) (.one (.cmp .isin (.var 1) (.met t_things_0 (.var 0) 0 .nil 0 .nil))))) .skp)
def c_least_group : E := (.seq (.asg 4 (.ite (.isn (.var 2)) (.var 3) (.fld (.met t_label_1 (.var 0) 1 (.cns (.var 2) .nil) 0 .nil) 2 [0]))) (.seq (.ret (.lc [5] (.tn 5) (.it (.met t_things_0 (.var 0) 0 .nil 0 .nil)) (.bor (.cmp .isin (.var 5) (.met t_class_of_1 (.var 1) 1 (.cns (.var 3) .nil) 0 .nil)) (.one (.cmp .isin (.var 5) (.met t_class_of_1 (.var 1) 1 (.cns (.var 4) .nil) 0 .nil)))) (.var 5))) .skp))
def c_with_group : E := (.seq (.asg 2 (.lc [3] (.tn 3) (.it (.met t_classes_0 (.var 0) 0 .nil 0 .nil)) (.cmp .notin (.ix (.var 3) (.cst (.int 0))) (.var 1)) (.bi .list (.cns (.var 3) .nil)))) (.seq (.ret (.calk 2038 2 (.cns (.met t_things_0 (.var 0) 0 .nil 0 .nil) (.cns (.lst (.cns (.bi .list (.cns (.var 1) .nil)) (.spl (.var 2) .nil))) .nil)) 0 .nil)) .skp))
def c_lead : E := (.seq (.exp (.cal 137 (.cns (.met t_things_0 (.var 0) 0 .nil 0 .nil) (.cns (.met t_things_0 (.var 1) 0 .nil 0 .nil) .nil)))) (.seq (.iff (.nin (.var 2)) (.seq (.exp (.met t_need_key_1 (.var 0) 1 (.cns (.var 2) .nil) 0 .nil)) .skp) .skp) (.seq (.exp (.cal 121 (.cns (.met t_things_0 (.var 0) 0 .nil 0 .nil) (.cns (.lst (.cns (.var 3) .nil)) .nil)))) (.seq (.asg 4 (.ite (.isn (.var 2)) (.cst .non) (.met t_apart_fact_2 (.var 1) 2 (.cns (.var 3) (.cns (.fld (.met t_label_1 (.var 0) 1 (.cns (.var 2) .nil) 0 .nil) 2 [0]) .nil)) 0 .nil))) (.seq (.iff (.nin (.var 4)) (.seq (.ret (.calk 2051 5 (.cns (.var 0) (.cns (.var 1) (.cns (.var 2) (.cns (.var 3) (.cns (.tpl (.cns (.cst (.str (tx [97, 112, 97, 114, 116]))) (.cns (.var 4) .nil))) .nil))))) 0 .nil)) .skp) .skp) (.seq (.asg 5 (.cal 182 (.cns (.var 0) (.cns (.var 1) (.cns (.var 2) (.cns (.var 3) .nil)))))) (.seq (.asg 6 (.calk 2052 3 (.cns (.var 0) (.cns (.var 2) (.cns (.var 5) .nil))) 0 .nil)) (.seq (.asg 7 (.cal 171 (.cns (.var 0) (.cns (.var 6) .nil)))) (.seq (.iff (.isn (.var 7)) (.seq (.ret (.calk 2051 5 (.cns (.var 0) (.cns (.var 1) (.cns (.var 2) (.cns (.var 3) (.cns (.cal 172 (.cns (.var 0) (.cns (.var 6) .nil))) .nil))))) 0 .nil)) .skp) .skp) (.seq (.ret (.calk 2050 6 (.cns (.var 0) (.cns (.var 1) (.cns (.var 2) (.cns (.var 3) (.cns (.cal 153 (.cns (.var 0) (.cns (.var 7) .nil))) (.cns (.cal 181 (.cns (.var 1) (.cns (.var 5) .nil))) .nil)))))) 0 .nil)) .skp))))))))))
def c_law_first_of : E := (.seq (.asg 3 (.lc [4] (.tn 4) (.it (.var 1)) (.cmp .isin (.cal 159 (.cns (.var 0) (.cns (.var 4) .nil))) (.var 2)) (.var 4))) (.seq (.ret (.ite (.cmp .ne (.var 3) (.lst .nil)) (.ix (.var 3) (.cst (.int 0))) (.cst .non))) .skp))
def c_law_possible : E := (.seq (.ast (.tt [3, 4]) (.tpl (.cns (.lst .nil) (.cns (.cal 184 (.cns (.var 1) .nil)) .nil)))) (.seq (.frr (.tn 2) (.it (.cal 170 (.cns (.var 0) .nil))) (.seq (.asg 5 (.cal 160 (.cns (.var 0) (.cns (.var 2) (.cns (.ix (.var 0) (.cst (.int 0))) .nil))))) (.seq (.frr (.tn 6) (.it (.var 4)) (.seq (.frr (.tn 7) (.it (.var 6)) (.seq (.asg 8 (.cal 183 (.cns (.var 0) (.cns (.var 5) (.cns (.var 7) .nil))))) (.seq (.asg 3 (.bop .add (.var 3) (.lc [9] (.tn 9) (.it (.var 7)) (.cmp .notin (.tpl (.cns (.var 9) (.cns (.var 8) .nil))) (.var 3)) (.tpl (.cns (.var 9) (.cns (.var 8) .nil)))))) .skp))) .skp)) .skp))) (.seq (.ret (.var 3)) .skp)))
def c_law_scene : E := (.seq (.asg 5 (.cal 176 (.cns (.var 0) (.cns (.var 1) (.cns (.var 2) (.cns (.var 3) .nil)))))) (.seq (.ret (.tpl (.cns (.var 5) (.cns (.cal 133 (.cns (.var 0) (.cns (.ix (.var 5) (.cst (.int 0))) (.cns (.var 4) .nil)))) .nil)))) .skp))
def c_law_least_group : E := (.seq (.asg 4 (.cal 129 (.cns (.var 1) .nil))) (.seq (.asg 5 (.cal 125 (.cns (.var 4) (.cns (.ite (.isn (.var 2)) (.var 3) (.cal 159 (.cns (.var 0) (.cns (.var 2) .nil)))) .nil)))) (.seq (.ret (.lc [6] (.tn 6) (.it (.ix (.var 0) (.cst (.int 0)))) (.bor (.cmp .isin (.var 6) (.cal 125 (.cns (.var 4) (.cns (.var 3) .nil)))) (.one (.cmp .isin (.var 6) (.var 5)))) (.var 6))) .skp)))
def c_law_is_fitting : E := (.seq (.asg 2 (.met t_groups_0 (.var 1) 0 .nil 0 .nil)) (.seq (.ret (.cmp .isin (.bi .sorted (.cns (.lc [4] (.tn 4) (.it (.var 2)) (.cst (.bl true)) (.bi .sorted (.cns (.bi .list (.cns (.var 4) .nil)) .nil))) .nil)) (.lc [3] (.tn 3) (.it (.cal 184 (.cns (.var 0) .nil))) (.cst (.bl true)) (.bi .sorted (.cns (.lc [4] (.tn 4) (.it (.var 3)) (.cst (.bl true)) (.bi .sorted (.cns (.bi .list (.cns (.var 4) .nil)) .nil))) .nil))))) .skp))
def c_Answer_init : E := (.seq (.fls (.var 0) 13 [4, 5, 6, 7, 8, 15] (.var 1)) (.seq (.fls (.var 0) 14 [4, 5, 6, 7, 8, 9, 13, 15] (.var 2)) (.seq (.fls (.var 0) 0 [0, 4, 5, 6, 7, 8, 15] (.var 3)) .skp)))
def c_Answer_holds : E := (.seq (.ret (.cst (.bl false))) .skp)
def c_Answer_is_fitting : E := (.seq (.iff (.bor (.nt (.cal 144 (.cns (.fld (.var 0) 13 [4, 5, 6, 7, 8, 15]) (.cns (.var 1) .nil)))) (.one (.nt (.isi (.var 2) [.own 3])))) (.seq (.ret (.cst (.bl false))) .skp) .skp) (.seq (.ret (.band (.chn .eq .eq (.met t_things_0 (.var 2) 0 .nil 0 .nil) (.met t_things_0 (.fld (.var 0) 13 [4, 5, 6, 7, 8, 15]) 0 .nil 0 .nil) (.met t_things_0 (.fld (.var 0) 14 [4, 5, 6, 7, 8, 9, 13, 15]) 0 .nil 0 .nil)) (.one (.met t_fits_1 (.var 2) 1 (.cns (.fld (.var 0) 14 [4, 5, 6, 7, 8, 9, 13, 15]) .nil) 0 .nil)))) .skp))
def c_Answer_bool : E := (.seq (.ret (.cst (.bl false))) .skp)
def c_Answer_repr : E := (.seq (.ret (.fst (.cns (.fmt (.cst (.str (tx [65, 110, 115, 119, 101, 114, 40])))) (.cns (.fmt (.met t_told_0 (.var 0) 0 .nil 0 .nil)) (.cns (.fmt (.cst (.str (tx [41])))) .nil))))) .skp)
def c_Leads_dating : E := (.seq (.ret (.cal 192 (.cns (.fld (.var 0) 16 [5, 8, 9, 15]) .nil))) .skp)
def c_Leads_grouping : E := (.seq (.ret (.cal 192 (.cns (.fld (.var 0) 17 [5, 8, 14]) .nil))) .skp)
def c_Leads_holds : E := (.seq (.iff (.bor (.nt (.met t_is_fitting_2 (.var 0) 2 (.cns (.fld (.var 0) 16 [5, 8, 9, 15]) (.cns (.fld (.var 0) 17 [5, 8, 14]) .nil)) 0 .nil)) (.one (.nt (.cal 193 (.cns (.fld (.var 0) 13 [4, 5, 6, 7, 8, 15]) (.cns (.fld (.var 0) 15 [5, 6, 15]) .nil)))))) (.seq (.ret (.cst (.bl false))) .skp) .skp) (.seq (.asg 1 (.calk 2046 3 (.cns (.fld (.var 0) 13 [4, 5, 6, 7, 8, 15]) (.cns (.fld (.var 0) 16 [5, 8, 9, 15]) (.cns (.met t_group_of_1 (.fld (.var 0) 17 [5, 8, 14]) 1 (.cns (.fld (.var 0) 15 [5, 6, 15]) .nil) 0 .nil) .nil))) 0 .nil)) (.seq (.ret (.ite (.isn (.fld (.var 0) 0 [0, 4, 5, 6, 7, 8, 15])) (.isn (.var 1)) (.band (.nin (.var 1)) (.one (.cmp .eq (.var 1) (.fld (.var 0) 0 [0, 4, 5, 6, 7, 8, 15])))))) .skp)))
def c_Leads_bool : E := (.seq (.ret (.cst (.bl true))) .skp)
def c_Never_tree : E := (.seq (.ret (.cal 192 (.cns (.fld (.var 0) 18 [6]) .nil))) .skp)
def c_Never_holds : E := (.seq (.iff (.bor (.cmp .ne (.met t_things_0 (.fld (.var 0) 13 [4, 5, 6, 7, 8, 15]) 0 .nil 0 .nil) (.met t_things_0 (.fld (.var 0) 14 [4, 5, 6, 7, 8, 9, 13, 15]) 0 .nil 0 .nil)) (.one (.nt (.cal 193 (.cns (.fld (.var 0) 13 [4, 5, 6, 7, 8, 15]) (.cns (.fld (.var 0) 15 [5, 6, 15]) .nil)))))) (.seq (.ret (.cst (.bl false))) .skp) .skp) (.seq (.iff (.band (.nin (.fld (.var 0) 0 [0, 4, 5, 6, 7, 8, 15])) (.one (.cmp .notin (.fld (.var 0) 0 [0, 4, 5, 6, 7, 8, 15]) (.fld (.var 0) 13 [4, 5, 6, 7, 8, 15])))) (.seq (.ret (.cst (.bl false))) .skp) .skp) (.seq (.iff (.band (.nin (.fld (.var 0) 0 [0, 4, 5, 6, 7, 8, 15])) (.one (.met t_is_apart_0 (.var 0) 0 .nil 0 .nil))) (.seq (.ret (.cst (.bl true))) .skp) .skp) (.seq (.asg 1 (.cal 182 (.cns (.fld (.var 0) 13 [4, 5, 6, 7, 8, 15]) (.cns (.fld (.var 0) 14 [4, 5, 6, 7, 8, 9, 13, 15]) (.cns (.fld (.var 0) 0 [0, 4, 5, 6, 7, 8, 15]) (.cns (.fld (.var 0) 15 [5, 6, 15]) .nil)))))) (.seq (.ret (.cal 180 (.cns (.fld (.var 0) 13 [4, 5, 6, 7, 8, 15]) (.cns (.calk 2052 3 (.cns (.fld (.var 0) 13 [4, 5, 6, 7, 8, 15]) (.cns (.fld (.var 0) 0 [0, 4, 5, 6, 7, 8, 15]) (.cns (.var 1) .nil))) 0 .nil) (.cns (.fld (.var 0) 18 [6]) .nil))))) .skp)))))
def c_Never_is_apart : E := (.seq (.iff (.bor (.nt (.isi (.fld (.var 0) 18 [6]) [.tuple])) (.bor (.cmp .ne (.bi .len (.cns (.fld (.var 0) 18 [6]) .nil)) (.cst (.int 2))) (.one (.cmp .ne (.ix (.fld (.var 0) 18 [6]) (.cst (.int 0))) (.cst (.str (tx [97, 112, 97, 114, 116]))))))) (.seq (.ret (.cst (.bl false))) .skp) .skp) (.seq (.asg 1 (.fld (.met t_label_1 (.fld (.var 0) 13 [4, 5, 6, 7, 8, 15]) 1 (.cns (.fld (.var 0) 0 [0, 4, 5, 6, 7, 8, 15]) .nil) 0 .nil) 2 [0])) (.seq (.par 2 3 (.met t_class_of_1 (.fld (.var 0) 14 [4, 5, 6, 7, 8, 9, 13, 15]) 1 (.cns (.fld (.var 0) 15 [5, 6, 15]) .nil) 0 .nil) (.met t_class_of_1 (.fld (.var 0) 14 [4, 5, 6, 7, 8, 9, 13, 15]) 1 (.cns (.var 1) .nil) 0 .nil)) (.seq (.ret (.band (.cmp .isin (.ix (.fld (.var 0) 18 [6]) (.cst (.int 1))) (.met t_apart_0 (.fld (.var 0) 14 [4, 5, 6, 7, 8, 9, 13, 15]) 0 .nil 0 .nil)) (.one (.nin (.cal 128 (.cns (.lst (.cns (.ix (.fld (.var 0) 18 [6]) (.cst (.int 1))) .nil)) (.cns (.var 2) (.cns (.var 3) .nil)))))))) .skp))))
def c_law_leads_holds : E := (.seq (.iff (.bor (.cmp .notin (.var 3) (.ix (.var 0) (.cst (.int 0)))) (.bor (.cmp .notin (.var 4) (.cal 170 (.cns (.var 0) .nil))) (.one (.nt (.isi (.var 5) [.own 3]))))) (.seq (.ret (.cst (.bl false))) .skp) .skp) (.seq (.iff (.bor (.cmp .ne (.met t_things_0 (.var 5) 0 .nil 0 .nil) (.ix (.var 0) (.cst (.int 0)))) (.one (.nt (.cal 185 (.cns (.var 1) (.cns (.var 5) .nil)))))) (.seq (.ret (.cst (.bl false))) .skp) .skp) (.seq (.ret (.cal 13 (.cns (.cal 161 (.cns (.var 0) (.cns (.var 4) (.cns (.cal 125 (.cns (.met t_groups_0 (.var 5) 0 .nil 0 .nil) (.cns (.var 3) .nil))) (.cns (.ix (.var 0) (.cst (.int 0))) .nil))))) (.cns (.var 2) .nil)))) .skp)))
def c_law_never_holds : E := (.seq (.iff (.bor (.cmp .notin (.var 3) (.ix (.var 0) (.cst (.int 0)))) (.one (.band (.nin (.var 2)) (.one (.cmp .notin (.var 2) (.cal 116 (.cns (.var 0) .nil))))))) (.seq (.ret (.cst (.bl false))) .skp) .skp) (.seq (.iff (.band (.nin (.var 2)) (.band (.isi (.var 4) [.tuple]) (.band (.cmp .eq (.bi .len (.cns (.var 4) .nil)) (.cst (.int 2))) (.one (.cmp .eq (.ix (.var 4) (.cst (.int 0))) (.cst (.str (tx [97, 112, 97, 114, 116])))))))) (.seq (.asg 5 (.cal 129 (.cns (.var 1) .nil))) (.seq (.asg 6 (.cal 125 (.cns (.var 5) (.cns (.var 3) .nil)))) (.seq (.asg 7 (.cal 125 (.cns (.var 5) (.cns (.cal 159 (.cns (.var 0) (.cns (.var 2) .nil))) .nil)))) (.seq (.ret (.cmp .isin (.ix (.var 4) (.cst (.int 1))) (.lc [8] (.tn 8) (.it (.ix (.var 1) (.cst (.int 2)))) (.bor (.band (.cmp .isin (.ix (.var 8) (.cst (.int 0))) (.var 6)) (.one (.cmp .isin (.ix (.var 8) (.cst (.int 1))) (.var 7)))) (.one (.band (.cmp .isin (.ix (.var 8) (.cst (.int 0))) (.var 7)) (.one (.cmp .isin (.ix (.var 8) (.cst (.int 1))) (.var 6)))))) (.var 8)))) .skp)))) .skp) (.seq (.ret (.cal 178 (.cns (.var 0) (.cns (.cal 187 (.cns (.var 0) (.cns (.var 2) (.cns (.cal 188 (.cns (.var 0) (.cns (.var 1) (.cns (.var 2) (.cns (.var 3) .nil))))) (.cns (.ix (.var 0) (.cst (.int 0))) .nil))))) (.cns (.var 4) (.cns (.lst .nil) .nil)))))) .skp)))
def c_leading : E := (.seq (.exp (.cal 137 (.cns (.met t_things_0 (.var 0) 0 .nil 0 .nil) (.cns (.met t_things_0 (.var 1) 0 .nil 0 .nil) .nil)))) (.seq (.exp (.cal 121 (.cns (.met t_things_0 (.var 0) 0 .nil 0 .nil) (.cns (.lst (.cns (.var 2) .nil)) .nil)))) (.seq (.ret (.lc [3] (.tn 3) (.it (.lst (.spl (.met t_all_keys_0 (.var 0) 0 .nil 0 .nil) (.cns (.cst .non) .nil)))) (.bio .bool tBool (.cal 189 (.cns (.var 0) (.cns (.var 1) (.cns (.var 3) (.cns (.var 2) .nil)))))) (.var 3))) .skp)))
def c_is_between : E := (.seq (.par 5 6 (.met t_class_of_1 (.var 0) 1 (.cns (.fld (.met t_label_1 (.var 1) 1 (.cns (.var 2) .nil) 0 .nil) 2 [0]) .nil) 0 .nil) (.met t_class_of_1 (.var 0) 1 (.cns (.fld (.met t_label_1 (.var 1) 1 (.cns (.var 3) .nil) 0 .nil) 2 [0]) .nil) 0 .nil)) (.seq (.ret (.bor (.band (.cmp .isin (.ix (.var 4) (.cst (.int 0))) (.var 5)) (.one (.cmp .isin (.ix (.var 4) (.cst (.int 1))) (.var 6)))) (.one (.band (.cmp .isin (.ix (.var 4) (.cst (.int 0))) (.var 6)) (.one (.cmp .isin (.ix (.var 4) (.cst (.int 1))) (.var 5))))))) .skp))
def c_bounds_of : E := (.seq (.iff (.met t_is_kept_1 (.var 0) 1 (.cns (.var 1) .nil) 0 .nil) (.seq (.ret (.ite (.met t_is_kept_1 (.var 0) 1 (.cns (.var 2) .nil) 0 .nil) (.lst (.cns (.var 2) .nil)) (.lst .nil))) .skp) .skp) (.seq (.ret (.lst (.cns (.var 2) (.spl (.met t_rivals_1 (.var 0) 1 (.cns (.var 1) .nil) 0 .nil) .nil)))) .skp))
def c_Always_reasons : E := (.seq (.ret (.cal 192 (.cns (.fld (.var 0) 19 [7]) .nil))) .skp)
def c_Always_holds : E := (.seq (.iff (.bor (.cmp .ne (.met t_things_0 (.fld (.var 0) 13 [4, 5, 6, 7, 8, 15]) 0 .nil 0 .nil) (.met t_things_0 (.fld (.var 0) 14 [4, 5, 6, 7, 8, 9, 13, 15]) 0 .nil 0 .nil)) (.one (.cmp .notin (.fld (.var 0) 0 [0, 4, 5, 6, 7, 8, 15]) (.met t_active_0 (.fld (.var 0) 13 [4, 5, 6, 7, 8, 15]) 0 .nil 0 .nil)))) (.seq (.ret (.cst (.bl false))) .skp) .skp) (.seq (.asg 1 (.lc [2] (.tn 2) (.it (.met t_active_0 (.fld (.var 0) 13 [4, 5, 6, 7, 8, 15]) 0 .nil 0 .nil)) (.cmp .ne (.var 2) (.fld (.var 0) 0 [0, 4, 5, 6, 7, 8, 15])) (.var 2))) (.seq (.iff (.bor (.nt (.isi (.fld (.var 0) 19 [7]) [.list])) (.one (.cmp .ne (.bi .len (.cns (.fld (.var 0) 19 [7]) .nil)) (.bi .len (.cns (.var 1) .nil))))) (.seq (.ret (.cst (.bl false))) .skp) .skp) (.seq (.ret (.bi .all (.cns (.lc [2, 3] (.tt [2, 3]) (.zp (.var 1) (.fld (.var 0) 19 [7])) (.cst (.bl true)) (.met t_is_reason_2 (.var 0) 2 (.cns (.var 2) (.cns (.var 3) .nil)) 0 .nil)) .nil))) .skp))))
def c_Always_bearers : E := (.seq (.ret (.tpl (.cns (.fld (.met t_label_1 (.fld (.var 0) 13 [4, 5, 6, 7, 8, 15]) 1 (.cns (.var 1) .nil) 0 .nil) 2 [0]) (.cns (.fld (.met t_label_1 (.fld (.var 0) 13 [4, 5, 6, 7, 8, 15]) 1 (.cns (.fld (.var 0) 0 [0, 4, 5, 6, 7, 8, 15]) .nil) 0 .nil) 2 [0]) .nil)))) .skp)
def c_Always_is_reason : E := (.seq (.iff (.bor (.nt (.isi (.var 2) [.tuple])) (.bor (.cmp .ne (.bi .len (.cns (.var 2) .nil)) (.cst (.int 3))) (.bor (.cmp .ne (.ix (.var 2) (.cst (.int 0))) (.var 1)) (.one (.nt (.isi (.ix (.var 2) (.cst (.int 1))) [.str])))))) (.seq (.ret (.cst (.bl false))) .skp) .skp) (.seq (.iff (.band (.cmp .isin (.var 1) (.met t_rivals_1 (.fld (.var 0) 13 [4, 5, 6, 7, 8, 15]) 1 (.cns (.fld (.var 0) 0 [0, 4, 5, 6, 7, 8, 15]) .nil) 0 .nil)) (.one (.nt (.met t_is_kept_1 (.fld (.var 0) 13 [4, 5, 6, 7, 8, 15]) 1 (.cns (.fld (.var 0) 0 [0, 4, 5, 6, 7, 8, 15]) .nil) 0 .nil)))) (.seq (.ast (.tt [3, 4]) (.met t_bearers_1 (.var 0) 1 (.cns (.var 1) .nil) 0 .nil)) (.seq (.iff (.band (.met t_is_kept_1 (.fld (.var 0) 13 [4, 5, 6, 7, 8, 15]) 1 (.cns (.var 1) .nil) 0 .nil) (.one (.isn (.met t_apart_fact_2 (.fld (.var 0) 14 [4, 5, 6, 7, 8, 9, 13, 15]) 2 (.cns (.var 3) (.cns (.var 4) .nil)) 0 .nil)))) (.seq (.ret (.cst (.bl false))) .skp) .skp) (.seq (.ret (.band (.cmp .eq (.var 2) (.tpl (.cns (.var 1) (.cns (.cst (.str (tx [108, 97, 116, 101, 114]))) (.cns (.fld (.var 0) 0 [0, 4, 5, 6, 7, 8, 15]) .nil))))) (.one (.nt (.cal 151 (.cns (.fld (.var 0) 13 [4, 5, 6, 7, 8, 15]) (.cns (.var 1) (.cns (.fld (.var 0) 0 [0, 4, 5, 6, 7, 8, 15]) .nil)))))))) .skp))) .skp) (.seq (.iff (.cmp .eq (.ix (.var 2) (.cst (.int 1))) (.cst (.str (tx [107, 101, 112, 116])))) (.seq (.ret (.band (.isn (.ix (.var 2) (.cst (.int 2)))) (.band (.met t_is_kept_1 (.fld (.var 0) 13 [4, 5, 6, 7, 8, 15]) 1 (.cns (.fld (.var 0) 0 [0, 4, 5, 6, 7, 8, 15]) .nil) 0 .nil) (.one (.nt (.met t_is_kept_1 (.fld (.var 0) 13 [4, 5, 6, 7, 8, 15]) 1 (.cns (.var 1) .nil) 0 .nil)))))) .skp) .skp) (.seq (.iff (.cmp .eq (.ix (.var 2) (.cst (.int 1))) (.cst (.str (tx [97, 112, 97, 114, 116])))) (.seq (.ret (.band (.cmp .isin (.ix (.var 2) (.cst (.int 2))) (.met t_apart_0 (.fld (.var 0) 14 [4, 5, 6, 7, 8, 9, 13, 15]) 0 .nil 0 .nil)) (.one (.cal 195 (.cns (.fld (.var 0) 14 [4, 5, 6, 7, 8, 9, 13, 15]) (.cns (.fld (.var 0) 13 [4, 5, 6, 7, 8, 15]) (.cns (.var 1) (.cns (.fld (.var 0) 0 [0, 4, 5, 6, 7, 8, 15]) (.cns (.ix (.var 2) (.cst (.int 2))) .nil))))))))) .skp) .skp) (.seq (.iff (.bor (.cmp .ne (.ix (.var 2) (.cst (.int 1))) (.cst (.str (tx [108, 97, 116, 101, 114])))) (.one (.cmp .notin (.ix (.var 2) (.cst (.int 2))) (.cal 194 (.cns (.fld (.var 0) 13 [4, 5, 6, 7, 8, 15]) (.cns (.var 1) (.cns (.fld (.var 0) 0 [0, 4, 5, 6, 7, 8, 15]) .nil))))))) (.seq (.ret (.cst (.bl false))) .skp) .skp) (.seq (.ret (.nt (.cal 151 (.cns (.fld (.var 0) 13 [4, 5, 6, 7, 8, 15]) (.cns (.var 1) (.cns (.ix (.var 2) (.cst (.int 2))) .nil)))))) .skp))))))
def c_Always_bool : E := (.seq (.ret (.cst (.bl true))) .skp)
def c_Fails_dating : E := (.seq (.ret (.cal 192 (.cns (.fld (.var 0) 16 [5, 8, 9, 15]) .nil))) .skp)
def c_Fails_grouping : E := (.seq (.ret (.cal 192 (.cns (.fld (.var 0) 17 [5, 8, 14]) .nil))) .skp)
def c_Fails_holds : E := (.seq (.iff (.bor (.nt (.met t_is_fitting_2 (.var 0) 2 (.cns (.fld (.var 0) 16 [5, 8, 9, 15]) (.cns (.fld (.var 0) 17 [5, 8, 14]) .nil)) 0 .nil)) (.one (.cmp .notin (.fld (.var 0) 0 [0, 4, 5, 6, 7, 8, 15]) (.fld (.var 0) 13 [4, 5, 6, 7, 8, 15])))) (.seq (.ret (.cst (.bl false))) .skp) .skp) (.seq (.asg 1 (.fld (.met t_label_1 (.fld (.var 0) 13 [4, 5, 6, 7, 8, 15]) 1 (.cns (.fld (.var 0) 0 [0, 4, 5, 6, 7, 8, 15]) .nil) 0 .nil) 2 [0])) (.seq (.ret (.cmp .ne (.calk 2046 3 (.cns (.fld (.var 0) 13 [4, 5, 6, 7, 8, 15]) (.cns (.fld (.var 0) 16 [5, 8, 9, 15]) (.cns (.met t_group_of_1 (.fld (.var 0) 17 [5, 8, 14]) 1 (.cns (.var 1) .nil) 0 .nil) .nil))) 0 .nil) (.fld (.var 0) 0 [0, 4, 5, 6, 7, 8, 15]))) .skp)))
def c_Fails_bool : E := (.seq (.ret (.cst (.bl false))) .skp)
def c_reason_for : E := (.seq (.asg 4 (.met t_apart_fact_2 (.var 1) 2 (.cns (.fld (.met t_label_1 (.var 0) 1 (.cns (.var 2) .nil) 0 .nil) 2 [0]) (.cns (.fld (.met t_label_1 (.var 0) 1 (.cns (.var 3) .nil) 0 .nil) 2 [0]) .nil)) 0 .nil)) (.seq (.iff (.band (.cmp .isin (.var 2) (.met t_rivals_1 (.var 0) 1 (.cns (.var 3) .nil) 0 .nil)) (.one (.nt (.met t_is_kept_1 (.var 0) 1 (.cns (.var 3) .nil) 0 .nil)))) (.seq (.asg 6 (.bor (.cal 151 (.cns (.var 0) (.cns (.var 2) (.cns (.var 3) .nil)))) (.one (.band (.met t_is_kept_1 (.var 0) 1 (.cns (.var 2) .nil) 0 .nil) (.one (.isn (.var 4))))))) (.seq (.ret (.ite (.var 6) (.cst .non) (.tpl (.cns (.var 2) (.cns (.cst (.str (tx [108, 97, 116, 101, 114]))) (.cns (.var 3) .nil)))))) .skp)) .skp) (.seq (.iff (.nin (.var 4)) (.seq (.ret (.tpl (.cns (.var 2) (.cns (.cst (.str (tx [97, 112, 97, 114, 116]))) (.cns (.var 4) .nil))))) .skp) .skp) (.seq (.iff (.band (.met t_is_kept_1 (.var 0) 1 (.cns (.var 3) .nil) 0 .nil) (.one (.nt (.met t_is_kept_1 (.var 0) 1 (.cns (.var 2) .nil) 0 .nil)))) (.seq (.ret (.tpl (.cns (.var 2) (.cns (.cst (.str (tx [107, 101, 112, 116]))) (.cns (.cst .non) .nil))))) .skp) .skp) (.seq (.asg 5 (.lc [7] (.tn 7) (.it (.cal 194 (.cns (.var 0) (.cns (.var 2) (.cns (.var 3) .nil))))) (.nt (.cal 151 (.cns (.var 0) (.cns (.var 2) (.cns (.var 7) .nil))))) (.var 7))) (.seq (.ret (.ite (.cmp .ne (.var 5) (.lst .nil)) (.tpl (.cns (.var 2) (.cns (.cst (.str (tx [108, 97, 116, 101, 114]))) (.cns (.ix (.var 5) (.cst (.int 0))) .nil)))) (.cst .non))) .skp))))))
def c_surely : E := (.seq (.exp (.cal 137 (.cns (.met t_things_0 (.var 0) 0 .nil 0 .nil) (.cns (.met t_things_0 (.var 1) 0 .nil 0 .nil) .nil)))) (.seq (.asg 3 (.fld (.met t_label_1 (.var 0) 1 (.cns (.var 2) .nil) 0 .nil) 2 [0])) (.seq (.iff (.met t_is_aside_1 (.var 0) 1 (.cns (.var 2) .nil) 0 .nil) (.seq (.ret (.calk 2171 5 (.cns (.var 0) (.cns (.var 1) (.cns (.var 2) (.cns (.cal 158 (.cns (.var 0) .nil)) (.cns (.cal 181 (.cns (.var 1) (.cns (.bi .list (.cns (.met t_class_of_1 (.var 1) 1 (.cns (.var 3) .nil) 0 .nil) .nil)) .nil))) .nil))))) 0 .nil)) .skp) .skp) (.seq (.asb 4 (.lst .nil)) (.seq (.frr (.tn 5) (.it (.met t_active_0 (.var 0) 0 .nil 0 .nil)) (.seq (.iff (.cmp .ne (.var 5) (.var 2)) (.seq (.asg 6 (.cal 261 (.cns (.var 0) (.cns (.var 1) (.cns (.var 5) (.cns (.var 2) .nil)))))) (.seq (.iff (.isn (.var 6)) (.seq (.asg 7 (.met t_class_of_1 (.var 1) 1 (.cns (.var 3) .nil) 0 .nil)) (.seq (.iff (.isn (.met t_apart_fact_2 (.var 1) 2 (.cns (.fld (.met t_label_1 (.var 0) 1 (.cns (.var 5) .nil) 0 .nil) 2 [0]) (.cns (.var 3) .nil)) 0 .nil)) (.seq (.asg 7 (.tpl (.spl (.var 7) (.spl (.lc [8] (.tn 8) (.it (.met t_class_of_1 (.var 1) 1 (.cns (.fld (.met t_label_1 (.var 0) 1 (.cns (.var 5) .nil) 0 .nil) 2 [0]) .nil) 0 .nil)) (.cmp .notin (.var 8) (.var 7)) (.var 8)) .nil)))) .skp) .skp) (.seq (.ret (.calk 2171 5 (.cns (.var 0) (.cns (.var 1) (.cns (.var 2) (.cns (.cal 287 (.cns (.var 0) (.cns (.var 5) .nil))) (.cns (.cal 181 (.cns (.var 1) (.cns (.bi .list (.cns (.var 7) .nil)) .nil))) .nil))))) 0 .nil)) .skp))) .skp) (.seq (.exp (.bm .append (.var 4) (.cns (.var 6) .nil))) .skp))) .skp) .skp)) (.seq (.ret (.calk 2054 4 (.cns (.var 0) (.cns (.var 1) (.cns (.var 2) (.cns (.var 4) .nil)))) 0 .nil)) .skp))))))
def c_law_sure : E := (.seq (.par 3 4 (.cal 116 (.cns (.var 0) .nil)) (.cal 184 (.cns (.var 1) .nil))) (.seq (.frr (.tn 2) (.it (.cal 170 (.cns (.var 0) .nil))) (.seq (.asg 5 (.cal 160 (.cns (.var 0) (.cns (.var 2) (.cns (.ix (.var 0) (.cst (.int 0))) .nil))))) (.seq (.frr (.tn 6) (.it (.var 4)) (.seq (.asg 3 (.lc [7] (.tn 7) (.it (.var 3)) (.cmp .eq (.cal 183 (.cns (.var 0) (.cns (.var 5) (.cns (.cal 125 (.cns (.var 6) (.cns (.cal 159 (.cns (.var 0) (.cns (.var 7) .nil))) .nil))) .nil)))) (.var 7)) (.var 7))) .skp)) .skp))) (.seq (.ret (.var 3)) .skp)))
def c_law_bounds : E := (.seq (.iff (.cmp .isin (.var 1) (.ix (.var 0) (.cst (.int 3)))) (.seq (.ret (.ite (.cmp .isin (.var 2) (.ix (.var 0) (.cst (.int 3)))) (.lst (.cns (.var 2) .nil)) (.lst .nil))) .skp) .skp) (.seq (.ret (.bop .add (.lst (.cns (.var 2) .nil)) (.cal 113 (.cns (.var 0) (.cns (.var 1) .nil))))) .skp))
def c_law_is_reason : E := (.seq (.iff (.bor (.nt (.isi (.var 4) [.tuple])) (.bor (.cmp .ne (.bi .len (.cns (.var 4) .nil)) (.cst (.int 3))) (.bor (.cmp .ne (.ix (.var 4) (.cst (.int 0))) (.var 2)) (.one (.nt (.isi (.ix (.var 4) (.cst (.int 1))) [.str])))))) (.seq (.ret (.cst (.bl false))) .skp) .skp) (.seq (.iff (.band (.cmp .isin (.var 2) (.cal 113 (.cns (.var 0) (.cns (.var 3) .nil)))) (.one (.cmp .notin (.var 3) (.ix (.var 0) (.cst (.int 3)))))) (.seq (.iff (.band (.cmp .isin (.var 2) (.ix (.var 0) (.cst (.int 3)))) (.one (.isn (.cal 186 (.cns (.var 1) (.cns (.cal 159 (.cns (.var 0) (.cns (.var 2) .nil))) (.cns (.cal 159 (.cns (.var 0) (.cns (.var 3) .nil))) .nil))))))) (.seq (.ret (.cst (.bl false))) .skp) .skp) (.seq (.ret (.band (.cmp .eq (.var 4) (.tpl (.cns (.var 2) (.cns (.cst (.str (tx [108, 97, 116, 101, 114]))) (.cns (.var 3) .nil))))) (.one (.nt (.cal 149 (.cns (.var 0) (.cns (.var 2) (.cns (.var 3) .nil)))))))) .skp)) .skp) (.seq (.iff (.cmp .eq (.ix (.var 4) (.cst (.int 1))) (.cst (.str (tx [107, 101, 112, 116])))) (.seq (.ret (.band (.isn (.ix (.var 4) (.cst (.int 2)))) (.band (.cmp .isin (.var 3) (.ix (.var 0) (.cst (.int 3)))) (.one (.cmp .notin (.var 2) (.ix (.var 0) (.cst (.int 3)))))))) .skp) .skp) (.seq (.iff (.cmp .eq (.ix (.var 4) (.cst (.int 1))) (.cst (.str (tx [97, 112, 97, 114, 116])))) (.seq (.asg 5 (.cal 129 (.cns (.var 1) .nil))) (.seq (.asg 6 (.cal 125 (.cns (.var 5) (.cns (.cal 159 (.cns (.var 0) (.cns (.var 2) .nil))) .nil)))) (.seq (.asg 7 (.cal 125 (.cns (.var 5) (.cns (.cal 159 (.cns (.var 0) (.cns (.var 3) .nil))) .nil)))) (.seq (.ret (.cmp .isin (.ix (.var 4) (.cst (.int 2))) (.lc [8] (.tn 8) (.it (.ix (.var 1) (.cst (.int 2)))) (.bor (.band (.cmp .isin (.ix (.var 8) (.cst (.int 0))) (.var 6)) (.one (.cmp .isin (.ix (.var 8) (.cst (.int 1))) (.var 7)))) (.one (.band (.cmp .isin (.ix (.var 8) (.cst (.int 0))) (.var 7)) (.one (.cmp .isin (.ix (.var 8) (.cst (.int 1))) (.var 6)))))) (.var 8)))) .skp)))) .skp) (.seq (.ret (.band (.cmp .eq (.ix (.var 4) (.cst (.int 1))) (.cst (.str (tx [108, 97, 116, 101, 114])))) (.band (.cmp .isin (.ix (.var 4) (.cst (.int 2))) (.cal 196 (.cns (.var 0) (.cns (.var 2) (.cns (.var 3) .nil))))) (.one (.nt (.cal 149 (.cns (.var 0) (.cns (.var 2) (.cns (.ix (.var 4) (.cst (.int 2))) .nil))))))))) .skp)))))
def c_law_always_holds : E := (.seq (.iff (.bor (.cmp .notin (.var 2) (.cal 115 (.cns (.var 0) .nil))) (.one (.nt (.isi (.var 3) [.list])))) (.seq (.ret (.cst (.bl false))) .skp) .skp) (.seq (.asg 4 (.lc [5] (.tn 5) (.it (.cal 115 (.cns (.var 0) .nil))) (.cmp .ne (.var 5) (.var 2)) (.var 5))) (.seq (.iff (.cmp .ne (.bi .len (.cns (.var 3) .nil)) (.bi .len (.cns (.var 4) .nil))) (.seq (.ret (.cst (.bl false))) .skp) .skp) (.seq (.ret (.cmp .eq (.lc [6] (.tn 6) (.rng (.bi .len (.cns (.var 4) .nil))) (.nt (.cal 197 (.cns (.var 0) (.cns (.var 1) (.cns (.ix (.var 4) (.var 6)) (.cns (.var 2) (.cns (.ix (.var 3) (.var 6)) .nil))))))) (.var 6)) (.lst .nil))) .skp))))
def c_law_bent_reasons : E := (.seq (.asg 5 (.lst (.cns (.cst .non) (.cns (.cst (.int 3)) (.cns (.cst (.str (tx [97, 98]))) (.cns (.cst (.bl true)) (.cns (.sl (.var 3) .abs (.one (.neg (.cst (.int 1))))) (.cns (.rev (.var 3)) (.cns (.bop .add (.var 3) (.sl (.var 3) .abs (.one (.cst (.int 1))))) (.cns (.bop .add (.var 3) (.lst (.cns (.cst .non) .nil))) .nil)))))))))) (.seq (.iff (.cmp .ne (.var 3) (.lst .nil)) (.seq (.asg 6 (.cal 11 (.cns (.var 0) (.cns (.bi .len (.cns (.var 3) .nil)) .nil)))) (.seq (.ast (.tt [8, 9]) (.tpl (.cns (.ix (.ix (.var 3) (.var 6)) (.cst (.int 0))) (.cns (.lst (.cns (.cst (.str (tx [108, 97, 116, 101, 114]))) (.cns (.cst (.str (tx [97, 112, 97, 114, 116]))) (.cns (.cst (.str (tx [107, 101, 112, 116]))) .nil)))) .nil)))) (.seq (.asg 7 (.lc [10, 11] (.tt [10, 11]) (.zp (.bop .mul (.var 9) (.cst (.int 3))) (.lst (.cns (.var 4) (.cns (.cst .non) (.cns (.cst .non) (.cns (.var 8) (.cns (.tpl (.cns (.var 8) (.cns (.var 4) .nil))) (.cns (.var 4) (.cns (.cst .non) (.cns (.ix (.var 2) (.cst (.int 2))) (.cns (.var 8) .nil))))))))))) (.cst (.bl true)) (.tpl (.cns (.var 8) (.cns (.var 10) (.cns (.var 11) .nil)))))) (.seq (.asg 7 (.bop .add (.bop .add (.bop .add (.bop .add (.var 7) (.lc [14] (.tn 14) (.it (.ix (.var 2) (.cst (.int 2)))) (.cst (.bl true)) (.tpl (.cns (.var 8) (.cns (.cst (.str (tx [97, 112, 97, 114, 116]))) (.cns (.var 14) .nil)))))) (.lc [14] (.tn 14) (.it (.ix (.var 2) (.cst (.int 2)))) (.cst (.bl true)) (.tpl (.cns (.var 8) (.cns (.cst (.str (tx [97, 112, 97, 114, 116]))) (.cns (.rev (.var 14)) .nil)))))) (.lc [13] (.tn 13) (.it (.cal 116 (.cns (.var 1) .nil))) (.cst (.bl true)) (.tpl (.cns (.var 8) (.cns (.cst (.str (tx [108, 97, 116, 101, 114]))) (.cns (.var 13) .nil)))))) (.lst (.cns (.tpl (.cns (.var 8) (.cns (.cst (.str (tx [107, 101, 112, 116]))) (.cns (.cst .non) .nil)))) (.cns (.bi .list (.cns (.ix (.var 3) (.var 6)) .nil)) (.cns (.bop .add (.tpl (.cns (.var 4) .nil)) (.sl (.ix (.var 3) (.var 6)) (.one (.cst (.int 1))) .abs)) (.cns (.tpl (.cns (.var 8) (.cns (.cst (.str (tx [76, 97, 116, 101, 114]))) (.cns (.var 4) .nil)))) .nil))))))) (.seq (.asg 5 (.bop .add (.var 5) (.lc [12] (.tn 12) (.it (.var 7)) (.cst (.bl true)) (.bop .add (.bop .add (.sl (.var 3) .abs (.one (.var 6))) (.lst (.cns (.var 12) .nil))) (.sl (.var 3) (.one (.bop .add (.var 6) (.cst (.int 1)))) .abs))))) .skp))))) .skp) (.seq (.ret (.var 5)) .skp)))
def c_sure_keys : E := (.seq (.exp (.cal 137 (.cns (.met t_things_0 (.var 0) 0 .nil 0 .nil) (.cns (.met t_things_0 (.var 1) 0 .nil 0 .nil) .nil)))) (.seq (.ret (.lc [2] (.tn 2) (.it (.met t_all_keys_0 (.var 0) 0 .nil 0 .nil)) (.bio .bool tBool (.cal 199 (.cns (.var 0) (.cns (.var 1) (.cns (.var 2) .nil))))) (.var 2))) .skp))
def c_law_fails_holds : E := (.seq (.iff (.bor (.cmp .notin (.var 2) (.cal 116 (.cns (.var 0) .nil))) (.bor (.cmp .notin (.var 3) (.cal 170 (.cns (.var 0) .nil))) (.one (.nt (.isi (.var 4) [.own 3]))))) (.seq (.ret (.cst (.bl false))) .skp) .skp) (.seq (.iff (.bor (.cmp .ne (.met t_things_0 (.var 4) 0 .nil 0 .nil) (.ix (.var 0) (.cst (.int 0)))) (.one (.nt (.cal 185 (.cns (.var 1) (.cns (.var 4) .nil)))))) (.seq (.ret (.cst (.bl false))) .skp) .skp) (.seq (.ret (.nt (.cal 13 (.cns (.cal 161 (.cns (.var 0) (.cns (.var 3) (.cns (.cal 125 (.cns (.met t_groups_0 (.var 4) 0 .nil 0 .nil) (.cns (.cal 159 (.cns (.var 0) (.cns (.var 2) .nil))) .nil))) (.cns (.ix (.var 0) (.cst (.int 0))) .nil))))) (.cns (.var 2) .nil))))) .skp)))
def c_is_parted : E := (.seq (.asg 4 (.lst (.cns (.calk 2046 3 (.cns (.var 0) (.cns (.var 2) (.cns (.var 3) .nil))) 0 .nil) (.cns (.calk 2046 3 (.cns (.var 1) (.cns (.var 2) (.cns (.var 3) .nil))) 0 .nil) .nil)))) (.seq (.iff (.cmp .isin (.cst .non) (.var 4)) (.seq (.ret (.cmp .ne (.var 4) (.lst (.cns (.cst .non) (.cns (.cst .non) .nil))))) .skp) .skp) (.seq (.ret (.cmp .ne (.ix (.var 4) (.cst (.int 0))) (.ix (.var 4) (.cst (.int 1))))) .skp)))
def c_parting_dating : E := (.seq (.asg 3 (.lst (.spl (.met t_all_keys_0 (.var 0) 0 .nil 0 .nil) (.cns (.cst .non) .nil)))) (.seq (.frr (.tn 4) (.it (.var 3)) (.seq (.frr (.tn 5) (.it (.lc [7] (.tn 7) (.it (.var 3)) (.nt (.cal 263 (.cns (.var 7) (.cns (.var 4) .nil)))) (.var 7))) (.seq (.asg 6 (.cal 171 (.cns (.var 0) (.cns (.lst (.spl (.calk 2052 3 (.cns (.var 0) (.cns (.var 4) (.cns (.var 2) .nil))) 0 .nil) (.spl (.calk 2052 3 (.cns (.var 1) (.cns (.var 5) (.cns (.var 2) .nil))) 0 .nil) .nil))) .nil)))) (.seq (.iff (.nin (.var 6)) (.seq (.ret (.cal 153 (.cns (.var 0) (.cns (.var 6) .nil)))) .skp) .skp) .skp))) .skp)) (.seq (.ret (.cst .non)) .skp)))
def c_same_key : E := (.seq (.iff (.bor (.isn (.var 0)) (.one (.isn (.var 1)))) (.seq (.ret (.band (.isn (.var 0)) (.one (.isn (.var 1))))) .skp) .skp) (.seq (.ret (.cmp .eq (.var 0) (.var 1))) .skp))
def c_unions : E := (.seq (.asg 1 (.met t_classes_0 (.var 0) 0 .nil 0 .nil)) (.seq (.asg 2 (.lc [4] (.tn 4) (.it (.var 1)) (.cst (.bl true)) (.lst (.cns (.var 4) .nil)))) (.seq (.frr (.tt [3, 4]) (.enm (.var 1)) (.seq (.asg 2 (.bop .add (.var 2) (.lc [5] (.tn 5) (.it (.sl (.var 1) (.one (.bop .add (.var 3) (.cst (.int 1)))) .abs)) (.met t_can_join_1 (.var 0) 1 (.cns (.lst (.cns (.var 4) (.cns (.var 5) .nil))) .nil) 0 .nil) (.lst (.cns (.var 4) (.cns (.var 5) .nil)))))) .skp)) (.seq (.ret (.var 2)) .skp))))
def c_law_near_ruled : E := (.seq (.asg 2 (.var 1)) (.seq (.frr (.tn 3) (.rng (.ite (.cmp .ne (.ix (.var 1) (.cst (.int 1))) (.lst .nil)) (.bop .add (.cst (.int 1)) (.cal 11 (.cns (.var 0) (.cns (.cst (.int 2)) .nil)))) (.cst (.int 0)))) (.seq (.asg 2 (.cal 203 (.cns (.var 2) (.cns (.tpl (.cns (.cal 12 (.cns (.var 0) (.cns (.lst (.cns (.cst (.str (tx [97, 115, 105, 100, 101]))) (.cns (.cst (.str (tx [107, 101, 112, 116]))) (.cns (.cst (.str (tx [102, 114, 101, 101]))) .nil)))) .nil))) (.cns (.cal 12 (.cns (.var 0) (.cns (.cal 116 (.cns (.var 1) .nil)) .nil))) .nil))) .nil)))) .skp)) (.seq (.ret (.var 2)) .skp)))
def c_law_unions : E := (.seq (.ast (.tt [2, 3, 4]) (.tpl (.cns (.cal 129 (.cns (.var 0) .nil)) (.cns (.lst .nil) (.cns (.lst (.cns (.lst .nil) .nil)) .nil))))) (.seq (.frr (.tn 1) (.rng (.bi .len (.cns (.var 2) .nil))) (.seq (.asb 5 (.lst .nil)) (.seq (.frr (.tn 6) (.it (.var 4)) (.seq (.frr (.tn 7) (.rng2 (.ite (.cmp .ne (.var 6) (.lst .nil)) (.bop .add (.ix (.var 6) (.neg (.cst (.int 1)))) (.cst (.int 1))) (.cst (.int 0))) (.bi .len (.cns (.var 2) .nil))) (.seq (.iff (.cmp .eq (.lc [8] (.tn 8) (.it (.var 6)) (.nin (.cal 186 (.cns (.var 0) (.cns (.ix (.ix (.var 2) (.var 8)) (.cst (.int 0))) (.cns (.ix (.ix (.var 2) (.var 7)) (.cst (.int 0))) .nil))))) (.var 8)) (.lst .nil)) (.seq (.exp (.bm .append (.var 5) (.cns (.bop .add (.var 6) (.lst (.cns (.var 7) .nil))) .nil))) .skp) .skp) .skp)) .skp)) (.seq (.asg 3 (.bop .add (.var 3) (.lkp (.var 5) (.lc [6] (.tn 6) (.it (.var 5)) (.cst (.bl true)) (.tpl (.cns (.bop .add (.var 1) (.cst (.int 1))) (.cns (.lc [9] (.tn 9) (.it (.ix (.var 0) (.cst (.int 0)))) (.cmp .ne (.lc [7] (.tn 7) (.it (.var 6)) (.cmp .isin (.var 9) (.ix (.var 2) (.var 7))) (.var 7)) (.lst .nil)) (.var 9)) .nil))))))) (.seq (.asg 4 (.var 5)) .skp))))) (.seq (.ret (.var 3)) .skp)))
def c_law_least_unlike : E := (.seq (.frr (.tt [3, 4]) (.it (.cal 204 (.cns (.var 2) .nil))) (.seq (.frr (.tn 5) (.it (.cal 170 (.cns (.var 0) .nil))) (.seq (.iff (.nt (.cal 13 (.cns (.cal 161 (.cns (.var 0) (.cns (.var 5) (.cns (.var 4) (.cns (.ix (.var 0) (.cst (.int 0))) .nil))))) (.cns (.cal 161 (.cns (.var 1) (.cns (.var 5) (.cns (.var 4) (.cns (.ix (.var 0) (.cst (.int 0))) .nil))))) .nil)))) (.seq (.ret (.var 3)) .skp) .skp) .skp)) .skp)) (.seq (.ret (.cst (.int 0))) .skp))
def c_Facts_can_join : E := (.seq (.frr (.tt [2, 3]) (.enm (.var 1)) (.seq (.frr (.tn 4) (.it (.sl (.var 1) .abs (.one (.var 2)))) (.seq (.iff (.nin (.cal 128 (.cns (.fld (.var 0) 10 [2]) (.cns (.var 3) (.cns (.var 4) .nil))))) (.seq (.ret (.cst (.bl false))) .skp) .skp) .skp)) .skp)) (.seq (.ret (.cst (.bl true))) .skp))
def c_Unlike_init : E := (.seq (.fls (.var 0) 20 [9] (.var 1)) (.seq (.fls (.var 0) 21 [9] (.var 2)) (.seq (.fls (.var 0) 14 [4, 5, 6, 7, 8, 9, 13, 15] (.var 3)) (.seq (.fls (.var 0) 16 [5, 8, 9, 15] (.cal 192 (.cns (.var 4) .nil))) (.seq (.fls (.var 0) 22 [9] (.ite (.isi (.var 5) [.list, .tuple]) (.cal 192 (.cns (.bi .list (.cns (.var 5) .nil)) .nil)) (.var 5))) .skp)))))
def c_Unlike_dating : E := (.seq (.ret (.cal 192 (.cns (.fld (.var 0) 16 [5, 8, 9, 15]) .nil))) .skp)
def c_Unlike_things : E := (.seq (.ret (.cal 192 (.cns (.fld (.var 0) 22 [9]) .nil))) .skp)
def c_Unlike_holds : E := (.seq (.iff (.bor (.cmp .ne (.met t_things_0 (.fld (.var 0) 20 [9]) 0 .nil 0 .nil) (.met t_things_0 (.fld (.var 0) 21 [9]) 0 .nil 0 .nil)) (.one (.cmp .ne (.met t_labels_0 (.fld (.var 0) 20 [9]) 0 .nil 0 .nil) (.met t_labels_0 (.fld (.var 0) 21 [9]) 0 .nil 0 .nil)))) (.seq (.ret (.cst (.bl false))) .skp) .skp) (.seq (.iff (.bor (.cmp .ne (.met t_things_0 (.fld (.var 0) 20 [9]) 0 .nil 0 .nil) (.met t_things_0 (.fld (.var 0) 14 [4, 5, 6, 7, 8, 9, 13, 15]) 0 .nil 0 .nil)) (.one (.nt (.cal 144 (.cns (.fld (.var 0) 20 [9]) (.cns (.fld (.var 0) 16 [5, 8, 9, 15]) .nil)))))) (.seq (.ret (.cst (.bl false))) .skp) .skp) (.seq (.ret (.band (.met t_is_union_0 (.var 0) 0 .nil 0 .nil) (.one (.cal 208 (.cns (.fld (.var 0) 20 [9]) (.cns (.fld (.var 0) 21 [9]) (.cns (.fld (.var 0) 16 [5, 8, 9, 15]) (.cns (.fld (.var 0) 22 [9]) .nil)))))))) .skp)))
def c_Unlike_bool : E := (.seq (.ret (.cst (.bl true))) .skp)
def c_Unlike_repr : E := (.seq (.asg 1 (.ite (.isi (.fld (.var 0) 22 [9]) [.list]) (.bi .len (.cns (.fld (.var 0) 22 [9]) .nil)) (.cst (.int 0)))) (.seq (.ret (.fst (.cns (.fmt (.cst (.str (tx [85, 110, 108, 105, 107, 101, 40])))) (.cns (.fmt (.var 1)) (.cns (.fmt (.cst (.str (tx [32, 116, 104, 105, 110, 103, 115, 41])))) .nil))))) .skp))
def c_check_wishes : E := (.seq (.iff (.nt (.cal 111 (.cns (.var 1) .nil))) (.seq .wal .skp) .skp) (.seq (.frr (.tt [2, 3]) (.enm (.var 1)) (.seq (.iff (.bor (.con true tIn (.var 3) (.var 0)) (.one (.cmp .isin (.var 3) (.sl (.var 1) .abs (.one (.var 2)))))) (.seq .wal .skp) .skp) .skp)) (.seq (.iff (.cmp .gt (.bi .len (.cns (.var 1) .nil)) (.gv 9)) (.seq .wal .skp) .skp) .skp)))
def c_later_than : E := (.seq (.ret (.ite (.cmp .ne (.var 1) (.lst .nil)) (.bop .add (.bm .index (.var 0) (.cns (.ix (.var 1) (.neg (.cst (.int 1)))) .nil)) (.cst (.int 1))) (.cst (.int 0)))) .skp)
def c_law_key_lots : E := (.seq (.asg 2 (.lst (.cns (.lst .nil) .nil))) (.seq (.frr (.tn 3) (.rng (.var 1)) (.seq (.asg 4 (.lst .nil)) (.seq (.frr (.tn 5) (.it (.var 2)) (.seq (.asg 4 (.bop .add (.var 4) (.lc [6] (.tn 6) (.rng2 (.ite (.cmp .ne (.var 5) (.lst .nil)) (.bop .add (.bm .index (.var 0) (.cns (.ix (.var 5) (.neg (.cst (.int 1)))) .nil)) (.cst (.int 1))) (.cst (.int 0))) (.bi .len (.cns (.var 0) .nil))) (.cst (.bl true)) (.bop .add (.var 5) (.lst (.cns (.ix (.var 0) (.var 6)) .nil)))))) .skp)) (.seq (.asg 2 (.var 4)) .skp)))) (.seq (.ret (.var 2)) .skp)))
def c_law_fewest : E := (.seq (.frr (.tn 3) (.rng (.cst (.int 4))) (.seq (.frr (.tn 4) (.it (.cal 209 (.cns (.cal 116 (.cns (.var 0) .nil)) (.cns (.var 3) .nil)))) (.seq (.asg 5 (.lst (.cns (.lst .nil) .nil))) (.seq (.frr (.tn 6) (.it (.var 4)) (.seq (.asg 8 (.lst .nil)) (.seq (.frr (.tn 7) (.it (.var 5)) (.seq (.asg 8 (.bop .add (.var 8) (.lst (.cns (.bop .add (.var 7) (.lst (.cns (.tpl (.cns (.cst (.str (tx [97, 115, 105, 100, 101]))) (.cns (.var 6) .nil))) .nil))) (.cns (.bop .add (.var 7) (.lst (.cns (.tpl (.cns (.cst (.str (tx [107, 101, 112, 116]))) (.cns (.var 6) .nil))) .nil))) .nil))))) .skp)) (.seq (.asg 5 (.var 8)) .skp)))) (.seq (.frr (.tn 7) (.it (.var 5)) (.seq (.asg 9 (.var 0)) (.seq (.frr (.tn 10) (.it (.var 7)) (.seq (.asg 9 (.cal 203 (.cns (.var 9) (.cns (.var 10) .nil)))) .skp)) (.seq (.asg 11 (.cal 200 (.cns (.var 9) (.cns (.var 1) .nil)))) (.seq (.iff (.cmp .eq (.lc [6] (.tn 6) (.it (.var 2)) (.cmp .notin (.var 6) (.var 11)) (.var 6)) (.lst .nil)) (.seq (.ret (.var 7)) .skp) .skp) .skp))))) .skp)))) .skp)) (.seq (.ret (.cst .non)) .skp))
def c_Rule_chosen : E := (.seq (.exp (.cal 146 (.cns (.var 1) (.cns (.var 2) .nil)))) (.seq (.frr (.tn 4) (.it (.var 3)) (.seq (.exp (.met t_need_key_1 (.var 1) 1 (.cns (.var 4) .nil) 0 .nil)) .skp)) (.seq (.ret (.met t_pick_1 (.var 0) 1 (.cns (.lc [4] (.tn 4) (.it (.calk 2047 2 (.cns (.var 1) (.cns (.var 2) .nil)) 0 .nil)) (.cmp .isin (.var 4) (.var 3)) (.var 4)) .nil) 0 .nil)) .skp)))
def c_Rule_choice : E := (.seq (.exp (.cal 146 (.cns (.var 1) (.cns (.var 2) .nil)))) (.seq (.exp (.cal 121 (.cns (.met t_things_0 (.var 1) 0 .nil 0 .nil) (.cns (.var 3) .nil)))) (.seq (.ret (.met t_pick_1 (.var 0) 1 (.cns (.lc [4] (.tn 4) (.it (.calk 2047 2 (.cns (.var 1) (.cns (.var 2) .nil)) 0 .nil)) (.cmp .isin (.fld (.met t_label_1 (.var 1) 1 (.cns (.var 4) .nil) 0 .nil) 2 [0]) (.var 3)) (.var 4)) .nil) 0 .nil)) .skp)))
def c_Rule_pick : E := (.seq (.ret (.ite (.cmp .ne (.var 1) (.lst .nil)) (.ix (.var 1) (.cst (.int 0))) (.cst .non))) .skp)
def c_Rule_repr : E := (.seq (.ret (.fst (.cns (.fmt (.cst (.str (tx [82, 117, 108, 101, 40])))) (.cns (.fmt (.met t_told_0 (.var 0) 0 .nil 0 .nil)) (.cns (.fmt (.cst (.str (tx [41])))) .nil))))) .skp)
def c_Reviser_init : E := (.seq (.iff (.nt (.cal 111 (.cns (.var 1) .nil))) (.seq .wal .skp) .skp) (.seq (.frr (.tt [2, 3]) (.enm (.var 1)) (.seq (.iff (.bor (.nt (.isi (.var 3) [.tuple])) (.bor (.cmp .ne (.bi .len (.cns (.var 3) .nil)) (.cst (.int 2))) (.one (.nt (.bi .all (.cns (.lc [4] (.tn 4) (.it (.var 3)) (.cst (.bl true)) (.cal 0 (.cns (.var 4) .nil))) .nil)))))) (.seq .wal .skp) .skp) (.seq (.iff (.cmp .eq (.ix (.var 3) (.cst (.int 0))) (.ix (.var 3) (.cst (.int 1)))) (.seq .wal .skp) .skp) .skp))) (.seq (.fls (.var 0) 24 [12] (.bi .list (.cns (.var 1) .nil))) .skp)))
def c_Reviser_pairs : E := (.seq (.ret (.bi .list (.cns (.fld (.var 0) 24 [12]) .nil))) .skp)
def c_parting : E := (.seq (.exp (.cal 146 (.cns (.var 0) (.cns (.var 1) .nil)))) (.seq (.exp (.cal 137 (.cns (.met t_things_0 (.var 0) 0 .nil 0 .nil) (.cns (.met t_things_0 (.var 2) 0 .nil 0 .nil) .nil)))) (.seq (.asg 5 (.met t_classes_0 (.var 2) 0 .nil 0 .nil)) (.seq (.frr (.tn 6) (.it (.cal 212 (.cns (.bi .len (.cns (.var 5) .nil)) .nil))) (.seq (.asg 7 (.lc [9] (.tn 9) (.it (.var 6)) (.cst (.bl true)) (.ix (.var 5) (.var 9)))) (.seq (.asg 8 (.bi .tuple (.cns (.lc [10] (.tn 10) (.it (.met t_things_0 (.var 0) 0 .nil 0 .nil)) (.bi .any (.cns (.lc [11] (.tn 11) (.it (.var 7)) (.cst (.bl true)) (.cmp .isin (.var 10) (.var 11))) .nil)) (.var 10)) .nil))) (.seq (.iff (.band (.met t_can_join_1 (.var 2) 1 (.cns (.var 7) .nil) 0 .nil) (.one (.cal 211 (.cns (.met t_choice_3 (.var 3) 3 (.cns (.var 0) (.cns (.var 1) (.cns (.var 8) .nil))) 0 .nil) (.cns (.met t_choice_3 (.var 4) 3 (.cns (.var 0) (.cns (.var 1) (.cns (.var 8) .nil))) 0 .nil) .nil))))) (.seq (.ret (.var 8)) .skp) .skp) .skp)))) (.seq (.ret (.cst .non)) .skp)))))
def c_is_unlike : E := (.seq (.iff (.bor (.isn (.var 0)) (.one (.isn (.var 1)))) (.seq (.ret (.bor (.nin (.var 0)) (.one (.nin (.var 1))))) .skp) .skp) (.seq (.ret (.cmp .ne (.var 0) (.var 1))) .skp))
def c_law_rule : E := (.seq (.asg 2 (.cal 11 (.cns (.var 0) (.cns (.cst (.int 3)) .nil)))) (.seq (.iff (.cmp .eq (.var 2) (.cst (.int 0))) (.seq (.ret (.tpl (.cns (.cst (.str (tx [101, 108, 100, 101, 115, 116]))) (.cns (.lst .nil) .nil)))) .skp) .skp) (.seq (.iff (.cmp .eq (.var 2) (.cst (.int 1))) (.seq (.ret (.tpl (.cns (.cst (.str (tx [109, 111, 115, 116, 32, 117, 115, 101, 100]))) (.cns (.lc [6] (.tn 6) (.it (.var 1)) (.cmp .gt (.cal 11 (.cns (.var 0) (.cns (.cst (.int 3)) .nil))) (.cst (.int 0))) (.tpl (.cns (.var 6) (.cns (.cal 11 (.cns (.var 0) (.cns (.cst (.int 4)) .nil))) .nil)))) .nil)))) .skp) .skp) (.seq (.asb 3 (.lst .nil)) (.seq (.frr (.tn 4) (.rng (.ite (.cmp .gt (.bi .len (.cns (.var 1) .nil)) (.cst (.int 1))) (.cal 11 (.cns (.var 0) (.cns (.cst (.int 6)) .nil))) (.cst (.int 0)))) (.seq (.asg 5 (.cal 11 (.cns (.var 0) (.cns (.bi .len (.cns (.var 1) .nil)) .nil)))) (.seq (.exp (.bm .append (.var 3) (.cns (.tpl (.cns (.ix (.var 1) (.var 5)) (.cns (.ix (.var 1) (.bop .mod (.bi .int (.cns (.bop .add (.bop .add (.var 5) (.cst (.int 1))) (.cal 11 (.cns (.var 0) (.cns (.bop .sub (.bi .len (.cns (.var 1) .nil)) (.cst (.int 1))) .nil)))) .nil)) (.bi .len (.cns (.var 1) .nil)))) .nil))) .nil))) .skp))) (.seq (.ret (.tpl (.cns (.cst (.str (tx [114, 101, 118, 105, 115, 101, 114]))) (.cns (.var 3) .nil)))) .skp))))))
def c_law_made_rule : E := (.seq (.iff (.cmp .eq (.ix (.var 0) (.cst (.int 0))) (.cst (.str (tx [114, 101, 118, 105, 115, 101, 114])))) (.seq (.ret (.calk 2174 1 (.cns (.bi .list (.cns (.ix (.var 0) (.cst (.int 1))) .nil)) .nil) 0 .nil)) .skp) .skp) (.seq (.asb 1 .emp) (.seq (.frr (.tt [2, 3]) (.it (.ix (.var 0) (.cst (.int 1)))) (.seq (.sit (.var 1) (.var 2) (.var 3)) .skp)) (.seq (.ret (.ite (.cmp .eq (.ix (.var 0) (.cst (.int 0))) (.cst (.str (tx [109, 111, 115, 116, 32, 117, 115, 101, 100])))) (.calk 2057 1 (.cns (.var 1) .nil) 0 .nil) (.calk 2058 0 .nil 0 .nil))) .skp))))
def c_leading_keys : E := (.seq (.asg 3 (.cal 213 (.cns (.var 0) (.cns (.var 1) (.cns (.var 2) .nil))))) (.seq (.ret (.bi .tuple (.cns (.lc [4] (.tn 4) (.it (.met t_all_keys_0 (.var 0) 0 .nil 0 .nil)) (.cmp .isin (.var 4) (.var 3)) (.var 4)) .nil))) .skp))
def c_matching : E := (.seq (.exp (.cal 146 (.cns (.var 0) (.cns (.var 1) .nil)))) (.seq (.exp (.cal 137 (.cns (.met t_things_0 (.var 0) 0 .nil 0 .nil) (.cns (.met t_things_0 (.var 2) 0 .nil 0 .nil) .nil)))) (.seq (.frr (.tn 4) (.it (.var 3)) (.seq (.exp (.met t_need_key_1 (.var 0) 1 (.cns (.var 4) .nil) 0 .nil)) .skp)) (.seq (.asg 5 (.bi .tuple (.cns (.lc [4] (.tn 4) (.it (.met t_all_keys_0 (.var 0) 0 .nil 0 .nil)) (.cmp .isin (.var 4) (.var 3)) (.var 4)) .nil))) (.seq (.ret (.lc [6] (.tn 6) (.it (.cal 142 (.cns (.var 2) .nil))) (.cmp .eq (.cal 214 (.cns (.var 0) (.cns (.var 1) (.cns (.var 6) .nil)))) (.var 5)) (.var 6))) .skp)))))
def c_count_named : E := (.seq (.ret (.bi .len (.cns (.cal 215 (.cns (.var 0) (.cns (.var 1) (.cns (.var 2) (.cns (.var 3) .nil))))) .nil))) .skp)
def c_law_leading_keys : E := (.seq (.asg 3 (.lc [4] (.tn 4) (.it (.var 2)) (.cst (.bl true)) (.cal 183 (.cns (.var 0) (.cns (.var 1) (.cns (.var 4) .nil)))))) (.seq (.ret (.lc [5] (.tn 5) (.it (.cal 116 (.cns (.var 0) .nil))) (.cmp .isin (.var 5) (.lc [6] (.tn 6) (.it (.var 3)) (.nin (.var 6)) (.var 6))) (.var 5))) .skp))
def c_law_section_facts : E := (.seq (.ast (.tt [4, 5, 6]) (.tpl (.cns (.ix (.var 1) (.cst (.int 0))) (.cns (.bxe (.lst .nil)) (.cns (.bxe (.lst .nil)) .nil))))) (.seq (.frr (.tn 3) (.rng (.ite (.cmp .gt (.bi .len (.cns (.var 4) .nil)) (.cst (.int 1))) (.cal 11 (.cns (.var 0) (.cns (.bop .add (.var 2) (.cst (.int 1))) .nil))) (.cst (.int 0)))) (.seq (.asg 7 (.cal 11 (.cns (.var 0) (.cns (.bi .len (.cns (.var 4) .nil)) .nil)))) (.seq (.asg 8 (.tpl (.cns (.ix (.var 4) (.var 7)) (.cns (.ix (.var 4) (.bop .mod (.bi .int (.cns (.bop .add (.bop .add (.var 7) (.cst (.int 1))) (.cal 11 (.cns (.var 0) (.cns (.bop .sub (.bi .len (.cns (.var 4) .nil)) (.cst (.int 1))) .nil)))) .nil)) (.bi .len (.cns (.var 4) .nil)))) .nil)))) (.seq (.iff (.cmp .eq (.cal 11 (.cns (.var 0) (.cns (.cst (.int 2)) .nil))) (.cst (.int 0))) (.seq (.asg 9 (.cal 126 (.cns (.var 4) (.cns (.bop .add (.bop .add (.ix (.var 1) (.cst (.int 1))) (.var 5)) (.lst (.cns (.var 8) .nil))) .nil)))) (.seq (.iff (.cmp .eq (.lkp (.var 6) (.lc [10] (.tn 10) (.it (.var 6)) (.cmp .isin (.ix (.var 10) (.cst (.int 1))) (.cal 125 (.cns (.var 9) (.cns (.ix (.var 10) (.cst (.int 0))) .nil)))) (.var 10))) (.lst .nil)) (.seq (.exp (.bm .append (.var 5) (.cns (.var 8) .nil))) .skp) .skp) .skp)) (.seq (.iff (.cmp .notin (.ix (.var 8) (.cst (.int 1))) (.cal 125 (.cns (.cal 126 (.cns (.var 4) (.cns (.bop .add (.ix (.var 1) (.cst (.int 1))) (.var 5)) .nil))) (.cns (.ix (.var 8) (.cst (.int 0))) .nil)))) (.seq (.exp (.bm .append (.var 6) (.cns (.var 8) .nil))) .skp) .skp) .skp)) .skp)))) (.seq (.ret (.tpl (.cns (.var 1) (.cns (.var 5) (.cns (.var 6) .nil))))) .skp)))
def c_law_components : E := (.seq (.ret (.cal 126 (.cns (.ix (.ix (.var 0) (.cst (.int 0))) (.cst (.int 0))) (.cns (.bop .add (.ix (.ix (.var 0) (.cst (.int 0))) (.cst (.int 1))) (.ix (.var 0) (.cst (.int 1)))) .nil)))) .skp)
def c_law_outside_fact : E := (.seq (.asg 3 (.cal 125 (.cns (.cal 219 (.cns (.var 0) .nil)) (.cns (.var 1) .nil)))) (.seq (.asg 4 (.cal 125 (.cns (.cal 219 (.cns (.var 0) .nil)) (.cns (.var 2) .nil)))) (.seq (.asg 5 (.lc [6] (.tn 6) (.it (.ix (.var 0) (.cst (.int 2)))) (.bor (.band (.cmp .isin (.ix (.var 6) (.cst (.int 0))) (.var 3)) (.one (.cmp .isin (.ix (.var 6) (.cst (.int 1))) (.var 4)))) (.one (.band (.cmp .isin (.ix (.var 6) (.cst (.int 0))) (.var 4)) (.one (.cmp .isin (.ix (.var 6) (.cst (.int 1))) (.var 3)))))) (.var 6))) (.seq (.ret (.ite (.cmp .ne (.var 5) (.lst .nil)) (.ix (.var 5) (.cst (.int 0))) (.cst .non))) .skp))))
def c_Sections_init : E := (.seq (.exp (.cal 118 (.cns (.met t_things_0 (.var 1) 0 .nil 0 .nil) (.cns (.var 2) (.cns (.var 3) .nil))))) (.seq (.fls (.var 0) 14 [4, 5, 6, 7, 8, 9, 13, 15] (.var 1)) (.seq (.fls (.var 0) 25 [13] (.bi .list (.cns (.var 2) .nil))) (.seq (.fls (.var 0) 26 [13] (.bi .list (.cns (.var 3) .nil))) (.seq (.fls (.var 0) 27 [13] (.cal 117 (.cns (.met t_things_0 (.var 1) 0 .nil 0 .nil) (.cns (.lst (.spl (.met t_together_0 (.var 1) 0 .nil 0 .nil) (.spl (.fld (.var 0) 25 [13]) .nil))) .nil)))) (.seq (.frr (.tt [4, 5]) (.enm (.fld (.var 0) 26 [13])) (.seq (.iff (.cmp .isin (.ix (.var 5) (.cst (.int 1))) (.cal 120 (.cns (.fld (.var 0) 27 [13]) (.cns (.ix (.var 5) (.cst (.int 0))) .nil)))) (.seq .wal .skp) .skp) .skp)) .skp))))))
def c_Sections_inside : E := (.seq (.ret (.bi .list (.cns (.fld (.var 0) 25 [13]) .nil))) .skp)
def c_Sections_outside : E := (.seq (.ret (.bi .list (.cns (.fld (.var 0) 26 [13]) .nil))) .skp)
def c_Sections_components : E := (.seq (.ret (.bi .list (.cns (.fld (.var 0) 27 [13]) .nil))) .skp)
def c_Sections_outside_fact : E := (.seq (.exp (.cal 121 (.cns (.met t_things_0 (.fld (.var 0) 14 [4, 5, 6, 7, 8, 9, 13, 15]) 0 .nil 0 .nil) (.cns (.lst (.cns (.var 1) (.cns (.var 2) .nil))) .nil)))) (.seq (.par 3 4 (.cal 120 (.cns (.fld (.var 0) 27 [13]) (.cns (.var 1) .nil))) (.cal 120 (.cns (.fld (.var 0) 27 [13]) (.cns (.var 2) .nil)))) (.seq (.ret (.cal 128 (.cns (.fld (.var 0) 26 [13]) (.cns (.var 3) (.cns (.var 4) .nil))))) .skp)))
def c_law_things_of : E := (.seq (.ret (.lc [2] (.tn 2) (.it (.var 0)) (.cmp .ne (.lc [3] (.tn 3) (.it (.var 1)) (.cmp .isin (.var 2) (.var 3)) (.var 3)) (.lst .nil)) (.var 2))) .skp)
def c_law_scope : E := (.seq (.ret (.ix (.lc [3] (.tn 3) (.it (.lc [4] (.tn 4) (.it (.var 1)) (.cst (.bl true)) (.cal 220 (.cns (.var 0) (.cns (.var 4) .nil))))) (.cmp .isin (.var 2) (.var 3)) (.var 3)) (.cst (.int 0)))) .skp)
def c_Sectioned_grouping : E := (.seq (.ret (.fld (.var 0) 17 [5, 8, 14])) .skp)
def c_Sectioned_sections : E := (.seq (.asg 1 (.met t_groups_0 (.fld (.var 0) 17 [5, 8, 14]) 0 .nil 0 .nil)) (.seq (.ret (.lc [2] (.tn 2) (.it (.fld (.var 0) 28 [14])) (.cst (.bl true)) (.lc [3] (.tn 3) (.it (.var 2)) (.cst (.bl true)) (.ix (.var 1) (.var 3))))) .skp))
def c_Sectioned_eq : E := (.seq (.iff (.bor (.nt (.isi (.var 1) [.own 14])) (.one (.cmo .ne tEq (.fld (.var 0) 17 [5, 8, 14]) (.fld (.var 1) 17 [5, 8, 14])))) (.seq (.ret (.cst (.bl false))) .skp) .skp) (.seq (.ret (.cmp .eq (.fld (.var 0) 28 [14]) (.fld (.var 1) 28 [14]))) .skp))
def c_law_made_sections : E := (.seq (.ret (.calk 2061 1 (.cns (.cal 127 (.cns (.ix (.var 0) (.cst (.int 0))) .nil)) .nil) 2 (.cns (.bi .list (.cns (.ix (.var 0) (.cst (.int 1))) .nil)) (.cns (.bi .list (.cns (.ix (.var 0) (.cst (.int 2))) .nil)) .nil)))) .skp)
def c_law_sections_fit : E := (.seq (.asg 3 (.ix (.ix (.var 0) (.cst (.int 0))) (.cst (.int 0)))) (.seq (.asg 4 (.lc [7] (.tn 7) (.it (.var 2)) (.cst (.bl true)) (.cal 220 (.cns (.var 3) (.cns (.var 7) .nil))))) (.seq (.frr (.tt [5, 6]) (.it (.ix (.var 0) (.cst (.int 1)))) (.seq (.iff (.cmp .notin (.var 6) (.cal 125 (.cns (.var 4) (.cns (.var 5) .nil)))) (.seq (.ret (.cst (.bl false))) .skp) .skp) .skp)) (.seq (.ret (.band (.cal 132 (.cns (.ix (.var 0) (.cst (.int 0))) (.cns (.var 1) .nil))) (.one (.cmp .eq (.lc [8] (.tn 8) (.it (.ix (.var 0) (.cst (.int 2)))) (.cmp .isin (.ix (.var 8) (.cst (.int 1))) (.cal 125 (.cns (.var 4) (.cns (.ix (.var 8) (.cst (.int 0))) .nil)))) (.var 8)) (.lst .nil))))) .skp))))
def c_Sectioned_fits : E := (.seq (.exp (.cal 137 (.cns (.met t_things_0 (.fld (.var 0) 17 [5, 8, 14]) 0 .nil 0 .nil) (.cns (.met t_things_0 (.fld (.var 1) 14 [4, 5, 6, 7, 8, 9, 13, 15]) 0 .nil 0 .nil) .nil)))) (.seq (.iff (.nt (.met t_fits_1 (.fld (.var 0) 17 [5, 8, 14]) 1 (.cns (.fld (.var 1) 14 [4, 5, 6, 7, 8, 9, 13, 15]) .nil) 0 .nil)) (.seq (.ret (.cst (.bl false))) .skp) .skp) (.seq (.iff (.nt (.bi .all (.cns (.lc [2, 3] (.tt [2, 3]) (.it (.met t_inside_0 (.var 1) 0 .nil 0 .nil)) (.cst (.bl true)) (.cmp .isin (.var 2) (.met t_things_beside_1 (.var 0) 1 (.cns (.var 3) .nil) 0 .nil))) .nil))) (.seq (.ret (.cst (.bl false))) .skp) .skp) (.seq (.ret (.nt (.bi .any (.cns (.lc [2, 3] (.tt [2, 3]) (.it (.met t_outside_0 (.var 1) 0 .nil 0 .nil)) (.cst (.bl true)) (.cmp .isin (.var 2) (.met t_things_beside_1 (.var 0) 1 (.cns (.var 3) .nil) 0 .nil))) .nil)))) .skp))))
def c_Sectioned_leaders : E := (.seq (.exp (.cal 137 (.cns (.met t_things_0 (.fld (.var 0) 17 [5, 8, 14]) 0 .nil 0 .nil) (.cns (.met t_things_0 (.var 1) 0 .nil 0 .nil) .nil)))) (.seq (.exp (.cal 146 (.cns (.var 1) (.cns (.var 2) .nil)))) (.seq (.asg 3 (.met t_groups_0 (.fld (.var 0) 17 [5, 8, 14]) 0 .nil 0 .nil)) (.seq (.ret (.lc [4] (.tn 4) (.it (.var 3)) (.cst (.bl true)) (.calk 2062 3 (.cns (.var 1) (.cns (.var 2) (.cns (.var 4) .nil))) 1 (.cns (.met t_things_beside_1 (.var 0) 1 (.cns (.ix (.var 4) (.cst (.int 0))) .nil) 0 .nil) .nil)))) .skp))))
def c_section_of : E := (.seq (.asg 3 (.fld (.var 0) 14 [4, 5, 6, 7, 8, 9, 13, 15])) (.seq (.asg 4 (.lc [10] (.tn 10) (.it (.met t_classes_0 (.var 3) 0 .nil 0 .nil)) (.cmp .notin (.ix (.var 10) (.cst (.int 0))) (.var 1)) (.bi .list (.cns (.var 10) .nil)))) (.seq (.asg 5 (.calk 2038 2 (.cns (.met t_things_0 (.var 3) 0 .nil 0 .nil) (.cns (.lst (.cns (.bi .list (.cns (.var 1) .nil)) (.spl (.var 4) .nil))) .nil)) 0 .nil)) (.seq (.asg 6 (.met t_groups_0 (.var 5) 0 .nil 0 .nil)) (.seq (.asg 7 (.lc [11, 12] (.tt [11, 12]) (.enm (.var 6)) (.cmp .isin (.ix (.var 12) (.cst (.int 0))) (.var 2)) (.var 11))) (.seq (.asg 8 (.lc [10] (.tn 10) (.it (.met t_components_0 (.var 0) 0 .nil 0 .nil)) (.cst (.bl true)) (.lc [11, 12] (.tt [11, 12]) (.enm (.var 6)) (.cmp .isin (.ix (.var 12) (.cst (.int 0))) (.var 10)) (.var 11)))) (.seq (.asg 9 (.lc [10] (.tn 10) (.it (.var 8)) (.cst (.bl true)) (.lc [11] (.tn 11) (.it (.var 10)) (.cmp .notin (.var 11) (.var 7)) (.var 11)))) (.seq (.ret (.calk 2060 2 (.cns (.var 5) (.cns (.lst (.cns (.var 7) (.spl (.lc [10] (.tn 10) (.it (.var 9)) (.cmp .ne (.var 10) (.lst .nil)) (.var 10)) .nil))) .nil)) 0 .nil)) .skp))))))))
def c_lead_in_sections : E := (.seq (.asg 4 (.fld (.var 1) 14 [4, 5, 6, 7, 8, 9, 13, 15])) (.seq (.exp (.cal 137 (.cns (.met t_things_0 (.var 0) 0 .nil 0 .nil) (.cns (.met t_things_0 (.var 4) 0 .nil 0 .nil) .nil)))) (.seq (.iff (.nin (.var 2)) (.seq (.exp (.met t_need_key_1 (.var 0) 1 (.cns (.var 2) .nil) 0 .nil)) .skp) .skp) (.seq (.exp (.cal 121 (.cns (.met t_things_0 (.var 0) 0 .nil 0 .nil) (.cns (.lst (.cns (.var 3) .nil)) .nil)))) (.seq (.iff (.band (.nin (.var 2)) (.one (.nin (.met t_apart_fact_2 (.var 4) 2 (.cns (.var 3) (.cns (.fld (.met t_label_1 (.var 0) 1 (.cns (.var 2) .nil) 0 .nil) 2 [0]) .nil)) 0 .nil)))) (.seq (.ret (.cst .non)) .skp) .skp) (.seq (.asg 5 (.cal 182 (.cns (.var 0) (.cns (.var 4) (.cns (.var 2) (.cns (.var 3) .nil)))))) (.seq (.frr (.tn 6) (.it (.cal 223 (.cns (.var 1) (.cns (.var 5) .nil)))) (.seq (.asg 7 (.cal 171 (.cns (.var 0) (.cns (.calk 2064 3 (.cns (.var 0) (.cns (.var 2) (.cns (.var 5) .nil))) 1 (.cns (.var 6) .nil)) .nil)))) (.seq (.iff (.nin (.var 7)) (.seq (.ret (.calk 2063 6 (.cns (.var 0) (.cns (.var 1) (.cns (.var 2) (.cns (.var 3) (.cns (.cal 153 (.cns (.var 0) (.cns (.var 7) .nil))) (.cns (.cal 222 (.cns (.var 1) (.cns (.var 5) (.cns (.var 6) .nil)))) .nil)))))) 0 .nil)) .skp) .skp) .skp))) (.seq (.ret (.cst .non)) .skp))))))))
def c_law_all_sections : E := (.seq (.asb 1 (.lst .nil)) (.seq (.frr (.tn 2) (.it (.cal 184 (.cns (.ix (.var 0) (.cst (.int 0))) .nil))) (.seq (.frr (.tn 3) (.it (.cal 141 (.cns (.var 2) .nil))) (.seq (.iff (.cal 224 (.cns (.var 0) (.cns (.var 2) (.cns (.var 3) .nil)))) (.seq (.exp (.bm .append (.var 1) (.cns (.tpl (.cns (.var 2) (.cns (.var 3) .nil))) .nil))) .skp) .skp) .skp)) .skp)) (.seq (.ret (.var 1)) .skp)))
def c_Sections_can_share : E := (.seq (.frr (.tt [2, 3]) (.enm (.var 1)) (.seq (.frr (.tn 4) (.it (.sl (.var 1) .abs (.one (.var 2)))) (.seq (.iff (.nin (.cal 128 (.cns (.fld (.var 0) 26 [13]) (.cns (.var 3) (.cns (.var 4) .nil))))) (.seq (.ret (.cst (.bl false))) .skp) .skp) .skp)) .skp)) (.seq (.ret (.cst (.bl true))) .skp))
def c_SectionLeads_init : E := (.seq (.fls (.var 0) 13 [4, 5, 6, 7, 8, 15] (.var 1)) (.seq (.fls (.var 0) 14 [4, 5, 6, 7, 8, 9, 13, 15] (.var 2)) (.seq (.fls (.var 0) 0 [0, 4, 5, 6, 7, 8, 15] (.var 3)) (.seq (.fls (.var 0) 15 [5, 6, 15] (.var 4)) (.seq (.fls (.var 0) 16 [5, 8, 9, 15] (.cal 192 (.cns (.var 5) .nil))) (.seq (.fls (.var 0) 29 [15] (.cal 192 (.cns (.var 6) .nil))) .skp))))))
def c_SectionLeads_dating : E := (.seq (.ret (.cal 192 (.cns (.fld (.var 0) 16 [5, 8, 9, 15]) .nil))) .skp)
def c_SectionLeads_sectioned : E := (.seq (.ret (.cal 192 (.cns (.fld (.var 0) 29 [15]) .nil))) .skp)
def c_SectionLeads_holds : E := (.seq (.asg 1 (.fld (.var 0) 29 [15])) (.seq (.iff (.bor (.nt (.cal 144 (.cns (.fld (.var 0) 13 [4, 5, 6, 7, 8, 15]) (.cns (.fld (.var 0) 16 [5, 8, 9, 15]) .nil)))) (.one (.nt (.isi (.var 1) [.own 14])))) (.seq (.ret (.cst (.bl false))) .skp) .skp) (.seq (.asg 2 (.met t_things_0 (.met t_grouping_0 (.var 1) 0 .nil 0 .nil) 0 .nil 0 .nil)) (.seq (.iff (.bor (.cmp .ne (.met t_things_0 (.fld (.var 0) 13 [4, 5, 6, 7, 8, 15]) 0 .nil 0 .nil) (.var 2)) (.bor (.cmp .ne (.met t_things_0 (.fld (.fld (.var 0) 14 [4, 5, 6, 7, 8, 9, 13, 15]) 14 [4, 5, 6, 7, 8, 9, 13, 15]) 0 .nil 0 .nil) (.var 2)) (.one (.nt (.met t_fits_1 (.var 1) 1 (.cns (.fld (.var 0) 14 [4, 5, 6, 7, 8, 9, 13, 15]) .nil) 0 .nil))))) (.seq (.ret (.cst (.bl false))) .skp) .skp) (.seq (.iff (.nt (.cal 193 (.cns (.fld (.var 0) 13 [4, 5, 6, 7, 8, 15]) (.cns (.fld (.var 0) 15 [5, 6, 15]) .nil)))) (.seq (.ret (.cst (.bl false))) .skp) .skp) (.seq (.asg 3 (.met t_group_of_1 (.met t_grouping_0 (.var 1) 0 .nil 0 .nil) 1 (.cns (.fld (.var 0) 15 [5, 6, 15]) .nil) 0 .nil)) (.seq (.asg 4 (.ix (.met t_leaders_2 (.var 1) 2 (.cns (.fld (.var 0) 13 [4, 5, 6, 7, 8, 15]) (.cns (.fld (.var 0) 16 [5, 8, 9, 15]) .nil)) 0 .nil) (.bm .index (.met t_groups_0 (.met t_grouping_0 (.var 1) 0 .nil 0 .nil) 0 .nil 0 .nil) (.cns (.var 3) .nil)))) (.seq (.ret (.ite (.isn (.fld (.var 0) 0 [0, 4, 5, 6, 7, 8, 15])) (.isn (.var 4)) (.band (.nin (.var 4)) (.one (.cmp .eq (.var 4) (.fld (.var 0) 0 [0, 4, 5, 6, 7, 8, 15])))))) .skp))))))))
def c_SectionLeads_bool : E := (.seq (.ret (.cst (.bl true))) .skp)
def c_law_section_holds : E := (.seq (.iff (.bor (.cmp .notin (.var 3) (.ix (.var 0) (.cst (.int 0)))) (.bor (.cmp .notin (.var 4) (.cal 170 (.cns (.var 0) .nil))) (.one (.nt (.cal 224 (.cns (.var 1) (.cns (.var 5) (.cns (.var 6) .nil)))))))) (.seq (.ret (.cst (.bl false))) .skp) .skp) (.seq (.ret (.cal 13 (.cns (.cal 161 (.cns (.var 0) (.cns (.var 4) (.cns (.cal 125 (.cns (.var 5) (.cns (.var 3) .nil))) (.cns (.cal 225 (.cns (.ix (.var 0) (.cst (.int 0))) (.cns (.var 6) (.cns (.var 3) .nil)))) .nil))))) (.cns (.var 2) .nil)))) .skp))
def c_book_text : E := (.seq (.asb 1 (.lst (.cns (.lst (.cns (.cst (.str (tx [116, 104, 105, 110, 103, 115]))) (.spl (.met t_things_0 (.var 0) 0 .nil 0 .nil) .nil))) .nil))) (.seq (.frr (.tn 2) (.it (.met t_labels_0 (.var 0) 0 .nil 0 .nil)) (.seq (.exp (.bm .append (.var 1) (.cns (.lst (.cns (.cst (.str (tx [108, 97, 98, 101, 108]))) (.cns (.fld (.var 2) 0 [0, 4, 5, 6, 7, 8, 15]) (.cns (.fld (.var 2) 1 [0]) (.cns (.fld (.var 2) 2 [0]) (.cns (.bi .str (.cns (.fld (.var 2) 3 [0]) .nil)) (.cns (.bi .str (.cns (.fld (.var 2) 4 [0]) .nil)) .nil))))))) .nil))) .skp)) (.seq (.asb 1 (.lst (.spl (.var 1) (.cns (.lst (.cns (.cst (.str (tx [97, 115, 105, 100, 101]))) (.spl (.met t_aside_0 (.var 0) 0 .nil 0 .nil) .nil))) (.cns (.lst (.cns (.cst (.str (tx [107, 101, 112, 116]))) (.spl (.met t_kept_0 (.var 0) 0 .nil 0 .nil) .nil))) .nil))))) (.seq (.ret (.bm .join (.cst (.str (tx []))) (.cns (.lkp (.var 1) (.lc [3] (.tn 3) (.it (.var 1)) (.cst (.bl true)) (.bop .add (.bm .join (.cst (.str (tx [32]))) (.cns (.var 3) .nil)) (.cst (.str (tx [10])))))) .nil))) .skp))))
def c_law_text : E := (.seq (.asg 1 (.bop .add (.lst (.cns (.bop .add (.lst (.cns (.cst (.str (tx [116, 104, 105, 110, 103, 115]))) .nil)) (.ix (.var 0) (.cst (.int 0)))) .nil)) (.lc [2] (.tn 2) (.it (.ix (.var 0) (.cst (.int 1)))) (.cst (.bl true)) (.lst (.cns (.cst (.str (tx [108, 97, 98, 101, 108]))) (.cns (.ix (.var 2) (.cst (.int 0))) (.cns (.ix (.var 2) (.cst (.int 1))) (.cns (.ix (.var 2) (.cst (.int 2))) (.cns (.bi .str (.cns (.ix (.var 2) (.cst (.int 3))) .nil)) (.cns (.bi .str (.cns (.ix (.var 2) (.cst (.int 4))) .nil)) .nil)))))))))) (.seq (.ret (.bm .join (.cst (.str (tx []))) (.cns (.lc [2] (.tn 2) (.it (.bop .add (.var 1) (.lst (.cns (.bop .add (.lst (.cns (.cst (.str (tx [97, 115, 105, 100, 101]))) .nil)) (.ix (.var 0) (.cst (.int 2)))) (.cns (.bop .add (.lst (.cns (.cst (.str (tx [107, 101, 112, 116]))) .nil)) (.ix (.var 0) (.cst (.int 3)))) .nil))))) (.cst (.bl true)) (.bop .add (.bm .join (.cst (.str (tx [32]))) (.cns (.var 2) .nil)) (.cst (.str (tx [10]))))) .nil))) .skp))
def c_Reader_init : E := (.seq (.fls (.var 0) 30 [16] (.cst (.int 0))) (.seq (.fls (.var 0) 31 [16] (.calk 2040 1 (.cns (.lst (.cns (.cst (.str (tx [97]))) .nil)) .nil) 0 .nil)) (.seq (.fls (.var 0) 32 [16] (.lst .nil)) .skp)))
def c_Reader_takes : E := (.seq (.iff (.cmp .eq (.fld (.var 0) 30 [16]) (.cst (.int 0))) (.seq (.ret (.band (.cmp .eq (.ix (.var 1) (.cst (.int 0))) (.cst (.str (tx [116, 104, 105, 110, 103, 115])))) (.one (.met t_takes_things_1 (.var 0) 1 (.cns (.sl (.var 1) (.one (.cst (.int 1))) .abs) .nil) 0 .nil)))) .skp) .skp) (.seq (.iff (.band (.cmp .eq (.fld (.var 0) 30 [16]) (.cst (.int 1))) (.one (.cmp .eq (.ix (.var 1) (.cst (.int 0))) (.cst (.str (tx [108, 97, 98, 101, 108])))))) (.seq (.ret (.band (.cmp .eq (.bi .len (.cns (.var 1) .nil)) (.cst (.int 6))) (.one (.met t_takes_label_1 (.var 0) 1 (.cns (.var 1) .nil) 0 .nil)))) .skp) .skp) (.seq (.iff (.cmp .eq (.fld (.var 0) 30 [16]) (.cst (.int 1))) (.seq (.ret (.band (.cmp .eq (.ix (.var 1) (.cst (.int 0))) (.cst (.str (tx [97, 115, 105, 100, 101])))) (.one (.met t_takes_keys_2 (.var 0) 2 (.cns (.sl (.var 1) (.one (.cst (.int 1))) .abs) (.cns (.lst .nil) .nil)) 0 .nil)))) .skp) .skp) (.seq (.ret (.band (.cmp .eq (.fld (.var 0) 30 [16]) (.cst (.int 2))) (.band (.cmp .eq (.ix (.var 1) (.cst (.int 0))) (.cst (.str (tx [107, 101, 112, 116])))) (.one (.met t_takes_keys_2 (.var 0) 2 (.cns (.sl (.var 1) (.one (.cst (.int 1))) .abs) (.cns (.fld (.var 0) 32 [16]) .nil)) 0 .nil))))) .skp))))
def c_law_wrong_lines : E := (.seq (.par 5 6 (.ix (.var 1) (.cst (.int 0))) (.bop .add (.cal 116 (.cns (.var 1) .nil)) (.lst (.cns (.cst (.str (tx [122, 122, 122, 122, 122, 122]))) .nil)))) (.seq (.asg 2 (.lst (.cns (.cst (.str (tx []))) (.cns (.cst (.str (tx [116, 104, 105, 110, 103, 115]))) (.cns (.cst (.str (tx [116, 104, 105, 110, 103, 32, 97]))) (.cns (.cst (.str (tx [116, 104, 105, 110, 103, 115, 32, 97, 32, 97]))) (.cns (.cst (.str (tx [116, 104, 105, 110, 103, 115, 32, 65]))) (.cns (.cst (.str (tx [116, 104, 105, 110, 103, 115, 32, 32, 97]))) (.cns (.cst (.str (tx [116, 104, 105, 110, 103, 115, 32, 97, 32]))) (.cns (.cst (.str (tx [32, 116, 104, 105, 110, 103, 115, 32, 97]))) (.cns (.cst (.str (tx [116, 104, 105, 110, 103, 115, 32, 97, 98, 99, 100, 101, 102, 103]))) (.cns (.cst (.str (tx [116, 104, 105, 110, 103, 115, 32, 97, 32, 98, 32, 99, 32, 100, 32, 101, 32, 102, 32, 103, 32, 104, 32, 105]))) (.cns (.cst (.str (tx [108, 97, 98, 101, 108, 32, 97, 32, 97, 32, 97, 32, 49, 32, 49]))) .nil))))))))))))) (.seq (.asb 3 (.lst (.cns (.cst (.str (tx []))) (.cns (.cst (.str (tx [108, 97, 98, 101, 108]))) (.cns (.bop .add (.bop .add (.cst (.str (tx [108, 97, 98, 101, 108, 32, 113, 32, 113, 32]))) (.ix (.var 5) (.cst (.int 0)))) (.cst (.str (tx [32, 49])))) (.cns (.cst (.str (tx [108, 97, 98, 101, 108, 32, 113, 32, 113, 32, 122, 122, 122, 122, 122, 122, 32, 49, 32, 49]))) (.cns (.bop .add (.bop .add (.cst (.str (tx [108, 97, 98, 101, 108, 32, 113, 32, 113, 32]))) (.ix (.var 5) (.cst (.int 0)))) (.cst (.str (tx [32, 53, 32, 52])))) (.cns (.bop .add (.bop .add (.cst (.str (tx [108, 97, 98, 101, 108, 32, 113, 32, 113, 32]))) (.ix (.var 5) (.cst (.int 0)))) (.cst (.str (tx [32, 48, 49, 32, 50])))) (.cns (.bop .add (.bop .add (.cst (.str (tx [108, 97, 98, 101, 108, 32, 113, 32, 113, 32]))) (.ix (.var 5) (.cst (.int 0)))) (.cst (.str (tx [32, 49, 32, 49, 48, 48, 48, 48])))) (.cns (.bop .add (.bop .add (.cst (.str (tx [108, 97, 98, 101, 108, 32, 81, 32, 113, 32]))) (.ix (.var 5) (.cst (.int 0)))) (.cst (.str (tx [32, 49, 32, 49])))) (.cns (.bop .add (.bop .add (.cst (.str (tx [108, 97, 98, 101, 108, 32, 113, 32, 32, 113, 32]))) (.ix (.var 5) (.cst (.int 0)))) (.cst (.str (tx [32, 49, 32, 49])))) (.cns (.bop .add (.bop .add (.cst (.str (tx [108, 97, 98, 101, 108, 32, 113, 32, 113, 32]))) (.ix (.var 5) (.cst (.int 0)))) (.cst (.str (tx [32, 49, 32, 49, 32])))) (.cns (.bop .add (.bop .add (.cst (.str (tx [108, 97, 98, 101, 108, 32, 113, 32, 113, 32]))) (.ix (.var 5) (.cst (.int 0)))) (.cst (.str (tx [32, 45, 49, 32, 49])))) (.cns (.bop .add (.bop .add (.cst (.str (tx [108, 97, 98, 101, 108, 32, 113, 32, 113, 32]))) (.ix (.var 5) (.cst (.int 0)))) (.cst (.str (tx [32, 49, 32, 120])))) (.cns (.cst (.str (tx [107, 101, 112, 116]))) (.cns (.cst (.str (tx [116, 104, 105, 110, 103, 115, 32, 97]))) (.cns (.cst (.str (tx [97, 115, 105, 100, 101, 32, 122, 122, 122, 122, 122, 122]))) (.cns (.cst (.str (tx [97, 115, 105, 100, 101, 32]))) (.cns (.cst (.str (tx [65, 115, 105, 100, 101]))) (.cns (.bop .add (.bop .add (.cst (.str (tx [108, 97, 98, 101, 108, 32, 113, 32, 97, 98, 99, 100, 101, 102, 103, 32]))) (.ix (.var 5) (.cst (.int 0)))) (.cst (.str (tx [32, 49, 32, 49])))) .nil)))))))))))))))))))) (.seq (.iff (.cmp .gt (.bi .len (.cns (.var 6) .nil)) (.cst (.int 1))) (.seq (.asb 3 (.bop .add (.var 3) (.lst (.cns (.bop .add (.bop .add (.bop .add (.bop .add (.cst (.str (tx [108, 97, 98, 101, 108, 32]))) (.ix (.var 6) (.cst (.int 0)))) (.cst (.str (tx [32, 97, 32])))) (.ix (.var 5) (.cst (.int 0)))) (.cst (.str (tx [32, 49, 32, 49])))) (.cns (.bop .add (.bop .add (.bop .add (.cst (.str (tx [97, 115, 105, 100, 101, 32]))) (.ix (.var 6) (.cst (.int 0)))) (.cst (.str (tx [32])))) (.ix (.var 6) (.cst (.int 0)))) .nil))))) .skp) .skp) (.seq (.iff (.cmp .gt (.bi .len (.cns (.var 6) .nil)) (.cst (.int 2))) (.seq (.exp (.bm .append (.var 3) (.cns (.bop .add (.bop .add (.bop .add (.cst (.str (tx [97, 115, 105, 100, 101, 32]))) (.ix (.var 6) (.cst (.int 1)))) (.cst (.str (tx [32])))) (.ix (.var 6) (.cst (.int 0)))) .nil))) .skp) .skp) (.seq (.asg 4 (.bop .add (.lst (.cns (.cst (.str (tx []))) (.cns (.cst (.str (tx [97, 115, 105, 100, 101]))) (.cns (.cst (.str (tx [107, 101, 112, 116, 32, 122, 122, 122, 122, 122, 122]))) (.cns (.cst (.str (tx [107, 101, 112, 116, 32]))) (.cns (.cst (.str (tx [75, 101, 112, 116]))) (.cns (.cst (.str (tx [108, 97, 98, 101, 108, 32, 97, 32, 97, 32, 97, 32, 49, 32, 49]))) (.cns (.cst (.str (tx [32, 107, 101, 112, 116]))) .nil)))))))) (.lc [7] (.tn 7) (.it (.ix (.var 1) (.cst (.int 2)))) (.cst (.bl true)) (.bop .add (.cst (.str (tx [107, 101, 112, 116, 32]))) (.var 7))))) (.seq (.ret (.lst (.cns (.cal 12 (.cns (.var 0) (.cns (.var 2) .nil))) (.cns (.cal 12 (.cns (.var 0) (.cns (.var 3) .nil))) (.cns (.cal 12 (.cns (.var 0) (.cns (.var 4) .nil))) .nil))))) .skp)))))))
def c_regrouped : E := (.seq (.ast (.tt [3, 4, 5]) (.var 2)) (.seq (.exp (.met t_need_two_2 (.var 0) 2 (.cns (.var 4) (.cns (.var 5) .nil)) 0 .nil)) (.seq (.iff (.cmp .eq (.var 3) (.cst (.str (tx [97, 112, 97, 114, 116])))) (.seq (.asg 6 (.tpl (.cns (.met t_with_apart_2 (.var 0) 2 (.cns (.var 4) (.cns (.var 5) .nil)) 0 .nil) (.cns (.var 1) .nil)))) .skp) (.seq (.iff (.cmp .eq (.var 3) (.cst (.str (tx [116, 111, 103, 101, 116, 104, 101, 114])))) (.seq (.asg 6 (.tpl (.cns (.met t_with_together_2 (.var 0) 2 (.cns (.var 4) (.cns (.var 5) .nil)) 0 .nil) (.cns (.met t_joined_2 (.var 1) 2 (.cns (.var 4) (.cns (.var 5) .nil)) 0 .nil) .nil)))) .skp) (.seq (.iff (.cmp .eq (.var 3) (.cst (.str (tx [106, 111, 105, 110])))) (.seq (.asg 6 (.tpl (.cns (.var 0) (.cns (.met t_joined_2 (.var 1) 2 (.cns (.var 4) (.cns (.var 5) .nil)) 0 .nil) .nil)))) .skp) (.seq (.asg 6 (.tpl (.cns (.var 0) (.cns (.met t_placed_2 (.var 1) 2 (.cns (.bi .list (.cns (.met t_class_of_1 (.var 0) 1 (.cns (.var 4) .nil) 0 .nil) .nil)) (.cns (.var 5) .nil)) 0 .nil) .nil)))) .skp)) .skp)) .skp)) (.seq (.iff (.nt (.met t_fits_1 (.ix (.var 6) (.cst (.int 1))) 1 (.cns (.ix (.var 6) (.cst (.int 0))) .nil) 0 .nil)) (.seq .wal .skp) .skp) (.seq (.ret (.var 6)) .skp)))))
def c_behind : E := (.seq (.ast (.tt [2, 3, 4]) (.var 0)) (.seq (.iff (.cmp .eq (.ix (.var 1) (.cst (.int 0))) (.cst (.str (tx [108, 97, 98, 101, 108])))) (.seq (.ret (.tpl (.cns (.cal 291 (.cns (.var 2) (.cns (.var 1) .nil))) (.cns (.var 3) (.cns (.var 4) .nil))))) .skp) .skp) (.seq (.iff (.cmp .isin (.ix (.var 1) (.cst (.int 0))) (.tpl (.cns (.cst (.str (tx [116, 111, 103, 101, 116, 104, 101, 114]))) (.cns (.cst (.str (tx [97, 112, 97, 114, 116]))) (.cns (.cst (.str (tx [106, 111, 105, 110]))) (.cns (.cst (.str (tx [109, 111, 118, 101]))) .nil)))))) (.seq (.ret (.tpl (.cns (.var 2) (.spl (.cal 271 (.cns (.var 3) (.cns (.var 4) (.cns (.var 1) .nil)))) .nil)))) .skp) .skp) (.seq (.ret (.tpl (.cns (.cal 232 (.cns (.var 2) (.cns (.var 1) .nil))) (.cns (.var 3) (.cns (.var 4) .nil))))) .skp))))
def c_law_label_fault : E := (.seq (.frr (.tn 2) (.it (.sl (.var 1) (.one (.cst (.int 1))) (.one (.cst (.int 4))))) (.seq (.iff (.bor (.nt (.isi (.var 2) [.str])) (.bor (.nt (.chn .le .le (.cst (.int 1)) (.bi .len (.cns (.var 2) .nil)) (.cst (.int 6)))) (.one (.cmp .ne (.lc [3] (.tn 3) (.it (.var 2)) (.cmp .notin (.var 3) (.cst (.str (tx az)))) (.var 3)) (.lst .nil))))) (.seq (.ret (.tpl (.cns (.cst (.str (tx [73, 110, 118, 97, 108, 105, 100, 87, 111, 114, 100]))) (.cns (.tpl (.cns (.var 2) .nil)) .nil)))) .skp) .skp) .skp)) (.seq (.iff (.nt (.chn .le .le (.cst (.int 0)) (.ix (.var 1) (.cst (.int 4))) (.cst (.int 9999)))) (.seq (.ret (.tpl (.cns (.cst (.str (tx [73, 110, 118, 97, 108, 105, 100, 68, 97, 116, 101]))) (.cns (.tpl (.cns (.ix (.var 1) (.cst (.int 4))) .nil)) .nil)))) .skp) .skp) (.seq (.iff (.band (.nin (.ix (.var 1) (.cst (.int 5)))) (.one (.nt (.chn .le .le (.ix (.var 1) (.cst (.int 4))) (.ix (.var 1) (.cst (.int 5))) (.cst (.int 9999)))))) (.seq (.ret (.tpl (.cns (.cst (.str (tx [73, 110, 118, 97, 108, 105, 100, 68, 97, 116, 101]))) (.cns (.tpl (.cns (.ix (.var 1) (.cst (.int 5))) .nil)) .nil)))) .skp) .skp) (.seq (.iff (.cmp .isin (.ix (.var 1) (.cst (.int 1))) (.cal 116 (.cns (.var 0) .nil))) (.seq (.ret (.tpl (.cns (.cst (.str (tx [68, 117, 112, 108, 105, 99, 97, 116, 101, 75, 101, 121]))) (.cns (.tpl (.cns (.ix (.var 1) (.cst (.int 1))) .nil)) .nil)))) .skp) .skp) (.seq (.iff (.cmp .notin (.ix (.var 1) (.cst (.int 3))) (.ix (.var 0) (.cst (.int 0)))) (.seq (.ret (.tpl (.cns (.cst (.str (tx [85, 110, 107, 110, 111, 119, 110, 84, 104, 105, 110, 103]))) (.cns (.tpl (.cns (.ix (.var 1) (.cst (.int 3))) .nil)) .nil)))) .skp) .skp) (.seq (.ret (.ite (.cmp .ge (.bi .len (.cns (.ix (.var 0) (.cst (.int 1))) .nil)) (.cst (.int 16))) (.tpl (.cns (.cst (.str (tx [84, 111, 111, 77, 97, 110, 121]))) (.cns (.tpl (.cns (.cst (.int 16)) (.cns (.cst (.str (tx [108, 97, 98, 101, 108, 115]))) .nil))) .nil))) (.cst .non))) .skp))))))
def c_law_behind_label : E := (.seq (.ast (.tt [4, 5, 6]) (.var 0)) (.seq (.iff (.cmp .eq (.ix (.var 1) (.cst (.int 0))) (.cst (.str (tx [108, 97, 98, 101, 108])))) (.seq (.asg 7 (.cal 233 (.cns (.var 4) (.cns (.var 1) .nil)))) (.seq (.asg 8 (.ite (.isn (.ix (.var 1) (.cst (.int 5)))) (.ix (.var 1) (.cst (.int 4))) (.ix (.var 1) (.cst (.int 5))))) (.seq (.ret (.ite (.nin (.var 7)) (.tpl (.cns (.var 7) (.cns (.var 0) .nil))) (.tpl (.cns (.cst .non) (.cns (.tpl (.cns (.tpl (.cns (.ix (.var 4) (.cst (.int 0))) (.cns (.bop .add (.ix (.var 4) (.cst (.int 1))) (.lst (.cns (.bop .add (.sl (.var 1) (.one (.cst (.int 1))) (.one (.cst (.int 5)))) (.tpl (.cns (.var 8) .nil))) .nil))) (.cns (.ix (.var 4) (.cst (.int 2))) (.cns (.ix (.var 4) (.cst (.int 3))) .nil))))) (.cns (.var 5) (.cns (.var 6) .nil)))) .nil))))) .skp))) .skp) (.seq (.iff (.cmp .notin (.ix (.var 1) (.cst (.int 1))) (.cal 116 (.cns (.var 4) .nil))) (.seq (.ret (.tpl (.cns (.tpl (.cns (.cst (.str (tx [85, 110, 107, 110, 111, 119, 110, 75, 101, 121]))) (.cns (.tpl (.cns (.ix (.var 1) (.cst (.int 1))) .nil)) .nil))) (.cns (.var 0) .nil)))) .skp) .skp) (.seq (.iff (.cmp .ne (.ix (.var 1) (.cst (.int 0))) (.cst (.str (tx [110, 97, 114, 114, 111, 119])))) (.seq (.ret (.tpl (.cns (.cst .non) (.cns (.tpl (.cns (.cal 203 (.cns (.var 4) (.cns (.tpl (.cns (.ix (.var 1) (.cst (.int 0))) (.cns (.ix (.var 1) (.cst (.int 1))) .nil))) .nil))) (.cns (.var 5) (.cns (.var 6) .nil)))) .nil)))) .skp) .skp) (.seq (.asg 2 (.cal 112 (.cns (.var 4) (.cns (.ix (.var 1) (.cst (.int 1))) .nil)))) (.seq (.iff (.nt (.chn .le .le (.ix (.var 2) (.cst (.int 3))) (.ix (.var 1) (.cst (.int 2))) (.ix (.var 2) (.cst (.int 4))))) (.seq (.ret (.tpl (.cns (.tpl (.cns (.cst (.str (tx [73, 110, 118, 97, 108, 105, 100, 68, 97, 116, 101]))) (.cns (.tpl (.cns (.ix (.var 1) (.cst (.int 2))) .nil)) .nil))) (.cns (.var 0) .nil)))) .skp) .skp) (.seq (.iff (.nt (.chn .le .le (.ix (.var 1) (.cst (.int 2))) (.ix (.var 1) (.cst (.int 3))) (.ix (.var 2) (.cst (.int 4))))) (.seq (.ret (.tpl (.cns (.tpl (.cns (.cst (.str (tx [73, 110, 118, 97, 108, 105, 100, 68, 97, 116, 101]))) (.cns (.tpl (.cns (.ix (.var 1) (.cst (.int 3))) .nil)) .nil))) (.cns (.var 0) .nil)))) .skp) .skp) (.seq (.asg 3 (.lc [9] (.tn 9) (.it (.ix (.var 4) (.cst (.int 1)))) (.cst (.bl true)) (.ite (.cmp .ne (.ix (.var 9) (.cst (.int 0))) (.ix (.var 1) (.cst (.int 1)))) (.var 9) (.bop .add (.sl (.var 9) .abs (.one (.cst (.int 3)))) (.tpl (.cns (.ix (.var 1) (.cst (.int 2))) (.cns (.ix (.var 1) (.cst (.int 3))) .nil))))))) (.seq (.ret (.tpl (.cns (.cst .non) (.cns (.tpl (.cns (.tpl (.cns (.ix (.var 4) (.cst (.int 0))) (.cns (.var 3) (.cns (.ix (.var 4) (.cst (.int 2))) (.cns (.ix (.var 4) (.cst (.int 3))) .nil))))) (.cns (.var 5) (.cns (.var 6) .nil)))) .nil)))) .skp)))))))))
def c_law_moved : E := (.seq (.asg 4 (.cal 125 (.cns (.var 1) (.cns (.var 3) .nil)))) (.seq (.iff (.cmp .eq (.lc [7] (.tn 7) (.it (.var 2)) (.cmp .notin (.var 7) (.var 4)) (.var 7)) (.lst .nil)) (.seq (.ret (.var 1)) .skp) .skp) (.seq (.asg 5 (.lc [6] (.tn 6) (.it (.var 1)) (.cst (.bl true)) (.bop .add (.lc [7] (.tn 7) (.it (.var 6)) (.cmp .notin (.var 7) (.var 2)) (.var 7)) (.ite (.cmp .isin (.var 3) (.var 6)) (.bi .list (.cns (.var 2) .nil)) (.lst .nil))))) (.seq (.ret (.cal 135 (.cns (.var 0) (.cns (.lc [8] (.tn 8) (.it (.var 5)) (.cmp .ne (.var 8) (.lst .nil)) (.var 8)) .nil)))) .skp))))
def c_law_behind_facts : E := (.seq (.ast (.tt [3, 4, 5]) (.var 0)) (.seq (.ast (.tt [6, 7, 8]) (.var 1)) (.seq (.par 9 10 (.ix (.var 3) (.cst (.int 0))) (.cal 129 (.cns (.var 4) .nil))) (.seq (.frr (.tn 2) (.it (.tpl (.cns (.var 7) (.cns (.var 8) .nil)))) (.seq (.iff (.cmp .notin (.var 2) (.var 9)) (.seq (.ret (.tpl (.cns (.tpl (.cns (.cst (.str (tx [85, 110, 107, 110, 111, 119, 110, 84, 104, 105, 110, 103]))) (.cns (.tpl (.cns (.var 2) .nil)) .nil))) (.cns (.var 0) .nil)))) .skp) .skp) .skp)) (.seq (.iff (.cmp .eq (.var 7) (.var 8)) (.seq (.ret (.tpl (.cns (.tpl (.cns (.cst (.str (tx [83, 97, 109, 101, 84, 104, 105, 110, 103]))) (.cns (.tpl (.cns (.var 7) .nil)) .nil))) (.cns (.var 0) .nil)))) .skp) .skp) (.seq (.par 11 12 (.var 4) (.var 5)) (.seq (.iff (.cmp .eq (.var 6) (.cst (.str (tx [97, 112, 97, 114, 116])))) (.seq (.iff (.cmp .isin (.var 8) (.cal 125 (.cns (.var 10) (.cns (.var 7) .nil)))) (.seq (.ret (.tpl (.cns (.tpl (.cns (.cst (.str (tx [67, 108, 97, 115, 104]))) (.cns (.tpl .nil) .nil))) (.cns (.var 0) .nil)))) .skp) .skp) (.seq (.asg 11 (.tpl (.cns (.var 9) (.cns (.ix (.var 4) (.cst (.int 1))) (.cns (.bop .add (.ix (.var 4) (.cst (.int 2))) (.lst (.cns (.tpl (.cns (.var 7) (.cns (.var 8) .nil))) .nil))) .nil))))) .skp)) .skp) (.seq (.iff (.cmp .eq (.var 6) (.cst (.str (tx [116, 111, 103, 101, 116, 104, 101, 114])))) (.seq (.iff (.nin (.cal 186 (.cns (.var 4) (.cns (.var 7) (.cns (.var 8) .nil))))) (.seq (.ret (.tpl (.cns (.tpl (.cns (.cst (.str (tx [67, 108, 97, 115, 104]))) (.cns (.tpl .nil) .nil))) (.cns (.var 0) .nil)))) .skp) .skp) (.seq (.asg 11 (.tpl (.cns (.var 9) (.cns (.bop .add (.ix (.var 4) (.cst (.int 1))) (.lst (.cns (.tpl (.cns (.var 7) (.cns (.var 8) .nil))) .nil))) (.cns (.ix (.var 4) (.cst (.int 2))) .nil))))) .skp)) .skp) (.seq (.iff (.cmp .isin (.var 6) (.tpl (.cns (.cst (.str (tx [116, 111, 103, 101, 116, 104, 101, 114]))) (.cns (.cst (.str (tx [106, 111, 105, 110]))) .nil)))) (.seq (.asg 12 (.cal 126 (.cns (.var 9) (.cns (.bop .add (.var 5) (.lst (.cns (.tpl (.cns (.var 7) (.cns (.var 8) .nil))) .nil))) .nil)))) .skp) .skp) (.seq (.iff (.cmp .eq (.var 6) (.cst (.str (tx [109, 111, 118, 101])))) (.seq (.asg 12 (.cal 234 (.cns (.var 9) (.cns (.var 5) (.cns (.cal 125 (.cns (.var 10) (.cns (.var 7) .nil))) (.cns (.var 8) .nil)))))) .skp) .skp) (.seq (.ret (.ite (.cal 132 (.cns (.var 11) (.cns (.var 12) .nil))) (.tpl (.cns (.cst .non) (.cns (.tpl (.cns (.var 3) (.cns (.var 11) (.cns (.var 12) .nil)))) .nil))) (.tpl (.cns (.tpl (.cns (.cst (.str (tx [67, 108, 97, 115, 104]))) (.cns (.tpl .nil) .nil))) (.cns (.var 0) .nil))))) .skp)))))))))))
def c_law_behind : E := (.seq (.ret (.ite (.cmp .isin (.ix (.var 1) (.cst (.int 0))) (.tpl (.cns (.cst (.str (tx [116, 111, 103, 101, 116, 104, 101, 114]))) (.cns (.cst (.str (tx [97, 112, 97, 114, 116]))) (.cns (.cst (.str (tx [106, 111, 105, 110]))) (.cns (.cst (.str (tx [109, 111, 118, 101]))) .nil)))))) (.cal 235 (.cns (.var 0) (.cns (.var 1) .nil))) (.cal 236 (.cns (.var 0) (.cns (.var 1) .nil))))) .skp)
def c_law_all_behind : E := (.seq (.asg 2 (.var 0)) (.seq (.frr (.tn 3) (.it (.var 1)) (.seq (.ast (.tt [4, 2]) (.cal 237 (.cns (.var 2) (.cns (.var 3) .nil)))) (.seq (.iff (.nin (.var 4)) (.seq (.ret (.tpl (.cns (.var 4) (.cns (.var 0) .nil)))) .skp) .skp) .skp))) (.seq (.ret (.tpl (.cns (.cst .non) (.cns (.var 2) .nil)))) .skp)))
def c_law_deed : E := (.seq (.asg 3 (.ix (.var 1) (.cst (.int 0)))) (.seq (.par 6 7 (.bop .add (.cal 116 (.cns (.var 3) .nil)) (.lst (.cns (.var 2) .nil))) (.ix (.var 3) (.cst (.int 0)))) (.seq (.asg 4 (.cal 12 (.cns (.var 0) (.cns (.lst (.cns (.cst (.str (tx [108, 97, 98, 101, 108]))) (.cns (.cst (.str (tx [108, 97, 98, 101, 108]))) (.cns (.cst (.str (tx [110, 97, 114, 114, 111, 119]))) (.cns (.cst (.str (tx [97, 115, 105, 100, 101]))) (.cns (.cst (.str (tx [107, 101, 112, 116]))) (.cns (.cst (.str (tx [102, 114, 101, 101]))) (.cns (.cst (.str (tx [116, 111, 103, 101, 116, 104, 101, 114]))) (.cns (.cst (.str (tx [97, 112, 97, 114, 116]))) (.cns (.cst (.str (tx [106, 111, 105, 110]))) (.cns (.cst (.str (tx [106, 111, 105, 110]))) (.cns (.cst (.str (tx [109, 111, 118, 101]))) (.cns (.cst (.str (tx [109, 111, 118, 101]))) .nil))))))))))))) .nil)))) (.seq (.iff (.cmp .isin (.var 4) (.tpl (.cns (.cst (.str (tx [116, 111, 103, 101, 116, 104, 101, 114]))) (.cns (.cst (.str (tx [97, 112, 97, 114, 116]))) (.cns (.cst (.str (tx [106, 111, 105, 110]))) (.cns (.cst (.str (tx [109, 111, 118, 101]))) .nil)))))) (.seq (.ret (.tpl (.cns (.var 4) (.cns (.cal 12 (.cns (.var 0) (.cns (.var 7) .nil))) (.cns (.cal 12 (.cns (.var 0) (.cns (.bop .add (.bop .add (.var 7) (.var 7)) (.lst (.cns (.cst (.str (tx [122, 122, 122, 122, 122, 122]))) .nil))) .nil))) .nil))))) .skp) .skp) (.seq (.iff (.cmp .eq (.var 4) (.cst (.str (tx [108, 97, 98, 101, 108])))) (.seq (.ast (.tt [9, 10]) (.cal 108 (.cns (.var 0) (.cns (.cst (.int 4)) .nil)))) (.seq (.asg 5 (.ite (.cmp .gt (.cal 11 (.cns (.var 0) (.cns (.cst (.int 4)) .nil))) (.cst (.int 0))) (.var 2) (.cal 12 (.cns (.var 0) (.cns (.var 6) .nil))))) (.seq (.ret (.tpl (.cns (.var 4) (.cns (.var 5) (.cns (.ix (.cal 238 (.cns (.var 0) (.cns (.cst (.int 1)) .nil))) (.cst (.int 0))) (.cns (.cal 12 (.cns (.var 0) (.cns (.bop .add (.bop .add (.var 7) (.var 7)) (.lst (.cns (.cst (.str (tx [122, 122, 122, 122, 122, 122]))) .nil))) .nil))) (.cns (.var 9) (.cns (.cal 12 (.cns (.var 0) (.cns (.lst (.cns (.var 10) (.cns (.var 10) (.cns (.var 10) (.cns (.cst .non) (.cns (.bop .sub (.var 9) (.cst (.int 1))) .nil)))))) .nil))) .nil)))))))) .skp))) .skp) (.seq (.asg 5 (.cal 12 (.cns (.var 0) (.cns (.var 6) .nil)))) (.seq (.iff (.cmp .eq (.var 4) (.cst (.str (tx [110, 97, 114, 114, 111, 119])))) (.seq (.asg 8 (.ite (.cmp .isin (.var 5) (.cal 116 (.cns (.var 3) .nil))) (.ix (.cal 112 (.cns (.var 3) (.cns (.var 5) .nil))) (.cst (.int 3))) (.cst (.int 5)))) (.seq (.ret (.tpl (.cns (.var 4) (.cns (.var 5) (.cns (.bop .add (.var 8) (.cal 11 (.cns (.var 0) (.cns (.cst (.int 3)) .nil)))) (.cns (.bop .add (.var 8) (.cal 11 (.cns (.var 0) (.cns (.cst (.int 4)) .nil)))) .nil)))))) .skp)) .skp) (.seq (.ret (.tpl (.cns (.var 4) (.cns (.var 5) .nil)))) .skp))))))))
def c_Doing_init : E := (.seq (.fls (.var 0) 33 [17] (.var 1)) .skp)
def c_Doing_enter : E := (.seq (.fls (.fld (.var 0) 33 [17]) 39 [18] (.cst (.bl true))) (.seq (.ret (.var 0)) .skp))
def c_Doing_exit : E := (.seq (.fls (.fld (.var 0) 33 [17]) 39 [18] (.cst (.bl false))) .skp)
def c_Ledger_book_now : E := (.seq (.ret (.ix (.fld (.var 0) 34 [18]) (.cst (.int 0)))) .skp)
def c_Ledger_facts_now : E := (.seq (.ret (.ix (.fld (.var 0) 34 [18]) (.cst (.int 1)))) .skp)
def c_Ledger_grouping_now : E := (.seq (.ret (.ix (.fld (.var 0) 34 [18]) (.cst (.int 2)))) .skp)
def c_Ledger_busy : E := (.seq (.ret (.fld (.var 0) 39 [18])) .skp)
def c_Ledger_become : E := (.seq (.iff (.bor (.cmo .ne tEq (.ix (.fld (.var 0) 34 [18]) (.cst (.int 0))) (.ix (.var 1) (.cst (.int 0)))) (.one (.cmo .ne tEq (.ix (.fld (.var 0) 34 [18]) (.cst (.int 1))) (.ix (.var 1) (.cst (.int 1)))))) (.seq (.fls (.var 0) 37 [18] .emp) .skp) .skp) (.seq (.fls (.var 0) 34 [18] (.var 1)) .skp))
def c_Ledger_advance : E := (.seq (.fls (.var 0) 35 [18] (.sl (.lst (.spl (.fld (.var 0) 35 [18]) (.cns (.fld (.var 0) 34 [18]) .nil))) (.one (.neg (.fld (.var 0) 40 [18]))) .abs)) (.seq (.exp (.met t_become_1 (.var 0) 1 (.cns (.var 1) .nil) 0 .nil)) .skp))
def c_Ledger_undo : E := (.seq (.iff (.cmp .eq (.fld (.var 0) 35 [18]) (.lst .nil)) (.seq .wal .skp) .skp) (.seq (.fls (.var 0) 36 [18] (.lst (.spl (.fld (.var 0) 36 [18]) (.cns (.fld (.var 0) 34 [18]) .nil)))) (.seq (.exp (.met t_become_1 (.var 0) 1 (.cns (.ix (.fld (.var 0) 35 [18]) (.neg (.cst (.int 1)))) .nil) 0 .nil)) (.seq (.fls (.var 0) 35 [18] (.sl (.fld (.var 0) 35 [18]) .abs (.one (.neg (.cst (.int 1)))))) .skp))))
def c_Ledger_redo : E := (.seq (.iff (.cmp .eq (.fld (.var 0) 36 [18]) (.lst .nil)) (.seq .wal .skp) .skp) (.seq (.exp (.met t_advance_1 (.var 0) 1 (.cns (.ix (.fld (.var 0) 36 [18]) (.neg (.cst (.int 1)))) .nil) 0 .nil)) (.seq (.fls (.var 0) 36 [18] (.sl (.fld (.var 0) 36 [18]) .abs (.one (.neg (.cst (.int 1)))))) .skp)))
def c_Ledger_history : E := (.seq (.ret (.tpl (.cns (.bi .len (.cns (.fld (.var 0) 35 [18]) .nil)) (.cns (.bi .len (.cns (.fld (.var 0) 36 [18]) .nil)) .nil)))) .skp)
def c_Ledger_eq : E := (.seq (.iff (.bor (.nt (.isi (.var 1) [.own 18])) (.one (.cmo .ne tEq (.ix (.fld (.var 0) 34 [18]) (.cst (.int 0))) (.ix (.fld (.var 1) 34 [18]) (.cst (.int 0)))))) (.seq (.ret (.cst (.bl false))) .skp) .skp) (.seq (.ret (.band (.cmo .eq tEq (.ix (.fld (.var 0) 34 [18]) (.cst (.int 1))) (.ix (.fld (.var 1) 34 [18]) (.cst (.int 1)))) (.one (.cmo .eq tEq (.ix (.fld (.var 0) 34 [18]) (.cst (.int 2))) (.ix (.fld (.var 1) 34 [18]) (.cst (.int 2))))))) .skp))
def c_Ledger_len : E := (.seq (.ret (.bio .len tLen (.ix (.fld (.var 0) 34 [18]) (.cst (.int 0))))) .skp)
def c_Ledger_bool : E := (.seq (.ret (.cst (.bl true))) .skp)
def c_Ledger_repr : E := (.seq (.ret (.fst (.cns (.fmt (.cst (.str (tx [76, 101, 100, 103, 101, 114, 40])))) (.cns (.fmt (.bio .len tLen (.ix (.fld (.var 0) 34 [18]) (.cst (.int 0))))) (.cns (.fmt (.cst (.str (tx [32, 108, 97, 98, 101, 108, 115, 44, 32])))) (.cns (.fmt (.bio .len tLen (.ix (.fld (.var 0) 34 [18]) (.cst (.int 2))))) (.cns (.fmt (.cst (.str (tx [32, 103, 114, 111, 117, 112, 115, 41])))) .nil))))))) .skp)
def c_listed : E := (.seq (.ret (.bm .join (.cst (.str (tx [32]))) (.cns (.lc [1] (.tn 1) (.it (.var 0)) (.cst (.bl true)) (.ite (.isn (.var 1)) (.cst (.str (tx [45]))) (.var 1))) .nil))) .skp)
def c_law_ledger : E := (.seq (.ast (.tt [4, 5]) (.cal 191 (.cns (.var 0) (.cns (.var 1) (.cns (.var 2) (.cns (.var 3) (.cns (.cst (.int 2)) .nil))))))) (.seq (.ret (.tpl (.cns (.calk 2065 1 (.cns (.cal 124 (.cns (.var 4) .nil)) .nil) 1 (.cns (.cal 127 (.cns (.var 5) .nil)) .nil)) (.cns (.tpl (.cns (.var 4) (.cns (.var 5) (.cns (.cal 129 (.cns (.var 5) .nil)) .nil)))) .nil)))) .skp))
def c_Desk_init : E := (.seq (.fls (.var 0) 41 [19] (.var 1)) (.seq (.fls (.var 0) 42 [19] (.lst .nil)) .skp))
def c_Desk_call : E := (.seq (.ret (.met t_say_1 (.var 0) 1 (.cns (.var 1) .nil) 0 .nil)) .skp)
def c_Desk_len : E := (.seq (.ret (.bi .len (.cns (.fld (.var 0) 42 [19]) .nil))) .skp)
def c_Desk_bool : E := (.seq (.ret (.cst (.bl true))) .skp)
def c_Desk_repr : E := (.seq (.ret (.fst (.cns (.fmt (.cst (.str (tx [68, 101, 115, 107, 40])))) (.cns (.fmt (.bi .len (.cns (.fld (.var 0) 42 [19]) .nil))) (.cns (.fmt (.cst (.str (tx [32, 108, 105, 110, 101, 115, 41])))) .nil))))) .skp)
def c_law_there_and_back : E := (.seq (.asg 2 (.ite (.cmp .isin (.var 1) (.ix (.var 0) (.cst (.int 2)))) (.cst (.str (tx [97, 115, 105, 100, 101]))) (.ite (.cmp .isin (.var 1) (.ix (.var 0) (.cst (.int 3)))) (.cst (.str (tx [107, 101, 112, 116]))) (.cst (.str (tx [102, 114, 101, 101])))))) (.seq (.ret (.lst (.cns (.tpl (.cns (.ite (.cmp .ne (.var 2) (.cst (.str (tx [97, 115, 105, 100, 101])))) (.cst (.str (tx [97, 115, 105, 100, 101]))) (.cst (.str (tx [107, 101, 112, 116])))) (.cns (.var 1) .nil))) (.cns (.tpl (.cns (.var 2) (.cns (.var 1) .nil))) .nil)))) .skp))
def c_Ledger_computed : E := (.seq (.ret (.fld (.var 0) 38 [18])) .skp)
def c_Ledger_kept_answers : E := (.seq (.ret (.bi .sorted (.cns (.bi .list (.cns (.fld (.var 0) 37 [18]) .nil)) .nil))) .skp)
def c_law_line : E := (.seq (.ret (.bm .join (.cst (.str (tx [32]))) (.cns (.lc [1] (.tn 1) (.it (.var 0)) (.cst (.bl true)) (.bi .str (.cns (.var 1) .nil))) .nil))) .skp)
def c_law_listed : E := (.seq (.ret (.bm .join (.cst (.str (tx [32]))) (.cns (.lc [1] (.tn 1) (.it (.var 0)) (.cst (.bl true)) (.ite (.isn (.var 1)) (.cst (.str (tx [45]))) (.var 1))) .nil))) .skp)
def c_law_question : E := (.seq (.ast (.tt [4, 5, 6]) (.var 1)) (.seq (.asg 2 (.bop .add (.cal 116 (.cns (.var 4) .nil)) (.lst (.cns (.cst (.str (tx [122, 122, 122, 122, 122, 121]))) .nil)))) (.seq (.ast (.tt [7, 8]) (.tpl (.cns (.cal 12 (.cns (.var 0) (.cns (.bop .add (.ix (.var 4) (.cst (.int 0))) (.lst (.cns (.cst (.str (tx [122, 122, 122, 122, 122, 121]))) .nil))) .nil))) (.cns (.cal 11 (.cns (.var 0) (.cns (.cst (.int 5)) .nil))) .nil)))) (.seq (.ast (.tt [9, 10]) (.tpl (.cns (.cal 12 (.cns (.var 0) (.cns (.var 2) .nil))) (.cns (.cal 244 (.cns (.var 4) .nil)) .nil)))) (.seq (.iff (.cmp .eq (.var 8) (.cst (.int 0))) (.seq (.ret (.tpl (.cns (.cst (.str (tx [110, 97, 109, 101, 115]))) (.cns (.cal 245 (.cns (.lc [13] (.tn 13) (.it (.var 6)) (.cst (.bl true)) (.cal 161 (.cns (.var 4) (.cns (.var 10) (.cns (.var 13) (.cns (.ix (.var 4) (.cst (.int 0))) .nil)))))) .nil)) .nil)))) .skp) .skp) (.seq (.iff (.cmp .eq (.var 8) (.cst (.int 1))) (.seq (.asg 11 (.cal 160 (.cns (.var 4) (.cns (.var 10) (.cns (.ix (.var 4) (.cst (.int 0))) .nil))))) (.seq (.ret (.tpl (.cns (.cst (.str (tx [114, 111, 119]))) (.cns (.ite (.cmp .ne (.var 11) (.lst .nil)) (.cal 245 (.cns (.var 11) .nil)) (.cst (.str (tx [110, 111, 110, 101])))) .nil)))) .skp)) .skp) (.seq (.iff (.cmp .eq (.var 8) (.cst (.int 2))) (.seq (.asg 12 (.ite (.cmp .eq (.var 9) (.cst (.str (tx [122, 122, 122, 122, 122, 121])))) (.cst (.str (tx [85, 110, 107, 110, 111, 119, 110, 75, 101, 121]))) (.ite (.cmp .eq (.var 7) (.cst (.str (tx [122, 122, 122, 122, 122, 121])))) (.cst (.str (tx [85, 110, 107, 110, 111, 119, 110, 84, 104, 105, 110, 103]))) (.cst (.str (tx [])))))) (.seq (.asg 3 (.ite (.cmp .eq (.var 12) (.cst (.str (tx [])))) (.cal 190 (.cns (.var 4) (.cns (.var 5) .nil))) (.lst .nil))) (.seq (.ret (.tpl (.cns (.bop .add (.bop .add (.bop .add (.cst (.str (tx [108, 101, 97, 100, 32]))) (.var 9)) (.cst (.str (tx [32])))) (.var 7)) (.cns (.ite (.cmp .ne (.var 12) (.cst (.str (tx [])))) (.bop .add (.cst (.str (tx [101, 114, 114, 111, 114, 32]))) (.var 12)) (.ite (.cmp .isin (.tpl (.cns (.var 7) (.cns (.var 9) .nil))) (.var 3)) (.cst (.str (tx [121, 101, 115]))) (.cst (.str (tx [110, 111]))))) .nil)))) .skp))) .skp) (.seq (.iff (.cmp .eq (.var 8) (.cst (.int 3))) (.seq (.ret (.tpl (.cns (.bop .add (.cst (.str (tx [115, 117, 114, 101, 32]))) (.var 9)) (.cns (.ite (.cmp .eq (.var 9) (.cst (.str (tx [122, 122, 122, 122, 122, 121])))) (.cst (.str (tx [101, 114, 114, 111, 114, 32, 85, 110, 107, 110, 111, 119, 110, 75, 101, 121]))) (.ite (.cmp .isin (.var 9) (.cal 200 (.cns (.var 4) (.cns (.var 5) .nil)))) (.cst (.str (tx [121, 101, 115]))) (.cst (.str (tx [110, 111]))))) .nil)))) .skp) .skp) (.seq (.asg 3 (.cal 190 (.cns (.var 4) (.cns (.var 5) .nil)))) (.seq (.ret (.tpl (.cns (.bop .add (.cst (.str (tx [108, 101, 97, 100, 105, 110, 103, 32]))) (.var 7)) (.cns (.ite (.cmp .eq (.var 7) (.cst (.str (tx [122, 122, 122, 122, 122, 121])))) (.cst (.str (tx [101, 114, 114, 111, 114, 32, 85, 110, 107, 110, 111, 119, 110, 84, 104, 105, 110, 103]))) (.cal 245 (.cns (.lc [14] (.tn 14) (.it (.bop .add (.cal 116 (.cns (.var 4) .nil)) (.lst (.cns (.cst .non) .nil)))) (.cmp .isin (.tpl (.cns (.var 7) (.cns (.var 14) .nil))) (.var 3)) (.var 14)) .nil))) .nil)))) .skp))))))))))
def c_Desk_log : E := (.seq (.ret (.bi .list (.cns (.fld (.var 0) 42 [19]) .nil))) .skp)
def c_law_hand_lines : E := (.seq (.asg 0 (.lst (.cns (.cst (.str (tx []))) (.cns (.cst (.str (tx [32]))) (.cns (.cst (.str (tx [110, 97, 109, 101, 115, 32]))) (.cns (.cst (.str (tx [32, 110, 97, 109, 101, 115]))) (.cns (.cst (.str (tx [78, 97, 109, 101, 115]))) (.cns (.cst (.str (tx [110, 97, 109, 101, 115, 32, 112]))) (.cns (.cst (.str (tx [108, 101, 97, 100]))) (.cns (.cst (.str (tx [108, 101, 97, 100, 32, 107, 97]))) (.cns (.cst (.str (tx [108, 101, 97, 100, 32, 107, 97, 32, 112, 32, 113]))) (.cns (.cst (.str (tx [115, 117, 114, 101]))) (.cns (.cst (.str (tx [115, 117, 114, 101, 32, 107, 97, 32, 107, 98]))) (.cns (.cst (.str (tx [108, 101, 97, 100, 105, 110, 103]))) (.cns (.cst (.str (tx [108, 101, 97, 100, 105, 110, 103, 32, 112, 32, 113]))) (.cns (.cst (.str (tx [114, 111, 119, 32, 49]))) (.cns (.cst (.str (tx [117, 110, 100, 111, 32, 49]))) (.cns (.cst (.str (tx [114, 101, 100, 111, 32, 110, 111, 119]))) (.cns (.cst (.str (tx [110, 97, 109, 101, 115, 10]))) .nil))))))))))))))))))) (.seq (.asg 0 (.bop .add (.var 0) (.lst (.cns (.cst (.str (tx [108, 97, 98, 101, 108, 32, 107, 99, 32, 119, 32, 112, 32, 49]))) (.cns (.cst (.str (tx [108, 97, 98, 101, 108, 32, 107, 99, 32, 119, 32, 112, 32, 49, 32, 50, 32, 51]))) (.cns (.cst (.str (tx [108, 97, 98, 101, 108, 32, 107, 99, 32, 119, 32, 112, 32, 48, 49, 32, 50]))) (.cns (.cst (.str (tx [108, 97, 98, 101, 108, 32, 107, 99, 32, 119, 32, 112, 32, 49, 32, 120]))) (.cns (.cst (.str (tx [108, 97, 98, 101, 108, 32, 107, 99, 32, 119, 32, 112, 32, 45, 49, 32, 50]))) (.cns (.cst (.str (tx [108, 97, 98, 101, 108, 32, 107, 99, 32, 119, 32, 112, 32, 49, 32, 49, 48, 48, 48, 48]))) (.cns (.cst (.str (tx [108, 97, 98, 101, 108, 32, 107, 99, 32, 119, 32, 112, 32, 78, 111, 110, 101, 32, 50]))) (.cns (.cst (.str (tx [110, 97, 114, 114, 111, 119, 32, 107, 97, 32, 49]))) (.cns (.cst (.str (tx [110, 97, 114, 114, 111, 119, 32, 107, 97, 32, 48, 49, 32, 50]))) (.cns (.cst (.str (tx [110, 97, 114, 114, 111, 119, 32, 107, 97, 32, 49, 32, 120]))) (.cns (.cst (.str (tx [97, 115, 105, 100, 101]))) .nil)))))))))))))) (.seq (.ret (.lc [1] (.tn 1) (.it (.bop .add (.var 0) (.lst (.cns (.cst (.str (tx [97, 115, 105, 100, 101, 32, 107, 97, 32, 107, 98]))) (.cns (.cst (.str (tx [107, 101, 112, 116]))) (.cns (.cst (.str (tx [102, 114, 101, 101]))) (.cns (.cst (.str (tx [106, 111, 105, 110, 32, 112]))) (.cns (.cst (.str (tx [109, 111, 118, 101, 32, 112, 32, 113, 32, 114]))) (.cns (.cst (.str (tx [116, 111, 103, 101, 116, 104, 101, 114, 32, 112]))) (.cns (.cst (.str (tx [97, 112, 97, 114, 116, 32, 32, 112, 32, 113]))) (.cns (.cst (.str (tx [97, 112, 97, 114, 116, 32, 112, 32, 113, 32]))) (.cns (.cst (.str (tx [97, 112, 112, 108, 121]))) (.cns (.cst (.str (tx [65, 115, 105, 100, 101, 32, 107, 97]))) (.cns (.cst (.str (tx [108, 101, 97, 100, 32, 32, 107, 97, 32, 112]))) (.cns (.cst (.str (tx [108, 101, 97, 100, 32, 107, 97, 32]))) (.cns (.cst (.str (tx [97, 115, 105, 100, 101, 32]))) (.cns (.cst (.str (tx [115, 117, 114, 101, 32]))) (.cns (.cst (.str (tx [108, 101, 97, 100, 105, 110, 103, 32]))) .nil)))))))))))))))))) (.cst (.bl true)) (.tpl (.cns (.var 1) (.cns (.cst (.str (tx [117, 110, 107, 110, 111, 119, 110]))) .nil))))) .skp)))
def c_law_hand_errors : E := (.seq (.asg 0 (.lst (.cns (.tpl (.cns (.cst (.str (tx [108, 101, 97, 100, 32, 122, 122, 32, 112]))) (.cns (.cst (.str (tx [85, 110, 107, 110, 111, 119, 110, 75, 101, 121]))) .nil))) (.cns (.tpl (.cns (.cst (.str (tx [108, 101, 97, 100, 32, 107, 97, 32, 122, 122]))) (.cns (.cst (.str (tx [85, 110, 107, 110, 111, 119, 110, 84, 104, 105, 110, 103]))) .nil))) (.cns (.tpl (.cns (.cst (.str (tx [108, 101, 97, 100, 32, 122, 122, 32, 122, 122]))) (.cns (.cst (.str (tx [85, 110, 107, 110, 111, 119, 110, 75, 101, 121]))) .nil))) (.cns (.tpl (.cns (.cst (.str (tx [108, 101, 97, 100, 32, 45, 32, 112]))) (.cns (.cst (.str (tx [85, 110, 107, 110, 111, 119, 110, 75, 101, 121]))) .nil))) (.cns (.tpl (.cns (.cst (.str (tx [115, 117, 114, 101, 32, 45]))) (.cns (.cst (.str (tx [85, 110, 107, 110, 111, 119, 110, 75, 101, 121]))) .nil))) (.cns (.tpl (.cns (.cst (.str (tx [108, 101, 97, 100, 32, 107, 97, 32, 45]))) (.cns (.cst (.str (tx [85, 110, 107, 110, 111, 119, 110, 84, 104, 105, 110, 103]))) .nil))) (.cns (.tpl (.cns (.cst (.str (tx [108, 101, 97, 100, 105, 110, 103, 32, 45]))) (.cns (.cst (.str (tx [85, 110, 107, 110, 111, 119, 110, 84, 104, 105, 110, 103]))) .nil))) (.cns (.tpl (.cns (.cst (.str (tx [115, 117, 114, 101, 32, 122, 122]))) (.cns (.cst (.str (tx [85, 110, 107, 110, 111, 119, 110, 75, 101, 121]))) .nil))) (.cns (.tpl (.cns (.cst (.str (tx [108, 101, 97, 100, 105, 110, 103, 32, 122, 122]))) (.cns (.cst (.str (tx [85, 110, 107, 110, 111, 119, 110, 84, 104, 105, 110, 103]))) .nil))) (.cns (.tpl (.cns (.cst (.str (tx [117, 110, 100, 111]))) (.cns (.cst (.str (tx [78, 111, 116, 104, 105, 110, 103, 76, 101, 102, 116]))) .nil))) (.cns (.tpl (.cns (.cst (.str (tx [114, 101, 100, 111]))) (.cns (.cst (.str (tx [78, 111, 116, 104, 105, 110, 103, 76, 101, 102, 116]))) .nil))) .nil))))))))))))) (.seq (.asg 0 (.bop .add (.var 0) (.lst (.cns (.tpl (.cns (.cst (.str (tx [108, 97, 98, 101, 108, 32, 107, 97, 32, 119, 32, 112, 32, 49, 32, 50]))) (.cns (.cst (.str (tx [68, 117, 112, 108, 105, 99, 97, 116, 101, 75, 101, 121]))) .nil))) (.cns (.tpl (.cns (.cst (.str (tx [108, 97, 98, 101, 108, 32, 75, 99, 32, 119, 32, 112, 32, 49, 32, 50]))) (.cns (.cst (.str (tx [73, 110, 118, 97, 108, 105, 100, 87, 111, 114, 100]))) .nil))) (.cns (.tpl (.cns (.cst (.str (tx [108, 97, 98, 101, 108, 32, 107, 101, 32, 119, 32, 122, 122, 32, 49, 32, 50]))) (.cns (.cst (.str (tx [85, 110, 107, 110, 111, 119, 110, 84, 104, 105, 110, 103]))) .nil))) (.cns (.tpl (.cns (.cst (.str (tx [108, 97, 98, 101, 108, 32, 107, 99, 32, 119, 32, 112, 32, 51, 32, 50]))) (.cns (.cst (.str (tx [73, 110, 118, 97, 108, 105, 100, 68, 97, 116, 101]))) .nil))) (.cns (.tpl (.cns (.cst (.str (tx [108, 97, 98, 101, 108, 32, 107, 97, 32, 119, 32, 122, 122, 32, 49, 32, 50]))) (.cns (.cst (.str (tx [68, 117, 112, 108, 105, 99, 97, 116, 101, 75, 101, 121]))) .nil))) .nil)))))))) (.seq (.asg 0 (.bop .add (.var 0) (.lst (.cns (.tpl (.cns (.cst (.str (tx [110, 97, 114, 114, 111, 119, 32, 122, 122, 32, 49, 32, 50]))) (.cns (.cst (.str (tx [85, 110, 107, 110, 111, 119, 110, 75, 101, 121]))) .nil))) (.cns (.tpl (.cns (.cst (.str (tx [110, 97, 114, 114, 111, 119, 32, 107, 97, 32, 52, 32, 55]))) (.cns (.cst (.str (tx [73, 110, 118, 97, 108, 105, 100, 68, 97, 116, 101]))) .nil))) (.cns (.tpl (.cns (.cst (.str (tx [110, 97, 114, 114, 111, 119, 32, 107, 97, 32, 54, 32, 53]))) (.cns (.cst (.str (tx [73, 110, 118, 97, 108, 105, 100, 68, 97, 116, 101]))) .nil))) (.cns (.tpl (.cns (.cst (.str (tx [97, 115, 105, 100, 101, 32, 122, 122]))) (.cns (.cst (.str (tx [85, 110, 107, 110, 111, 119, 110, 75, 101, 121]))) .nil))) (.cns (.tpl (.cns (.cst (.str (tx [107, 101, 112, 116, 32, 112]))) (.cns (.cst (.str (tx [85, 110, 107, 110, 111, 119, 110, 75, 101, 121]))) .nil))) (.cns (.tpl (.cns (.cst (.str (tx [106, 111, 105, 110, 32, 112, 32, 112]))) (.cns (.cst (.str (tx [83, 97, 109, 101, 84, 104, 105, 110, 103]))) .nil))) (.cns (.tpl (.cns (.cst (.str (tx [106, 111, 105, 110, 32, 112, 32, 122, 122]))) (.cns (.cst (.str (tx [85, 110, 107, 110, 111, 119, 110, 84, 104, 105, 110, 103]))) .nil))) .nil)))))))))) (.seq (.asg 0 (.bop .add (.var 0) (.lst (.cns (.tpl (.cns (.cst (.str (tx [106, 111, 105, 110, 32, 112, 32, 114]))) (.cns (.cst (.str (tx [67, 108, 97, 115, 104]))) .nil))) (.cns (.tpl (.cns (.cst (.str (tx [116, 111, 103, 101, 116, 104, 101, 114, 32, 112, 32, 114]))) (.cns (.cst (.str (tx [67, 108, 97, 115, 104]))) .nil))) (.cns (.tpl (.cns (.cst (.str (tx [97, 112, 97, 114, 116, 32, 112, 32, 113]))) (.cns (.cst (.str (tx [67, 108, 97, 115, 104]))) .nil))) (.cns (.tpl (.cns (.cst (.str (tx [109, 111, 118, 101, 32, 113, 32, 114]))) (.cns (.cst (.str (tx [67, 108, 97, 115, 104]))) .nil))) (.cns (.tpl (.cns (.cst (.str (tx [108, 101, 97, 100, 105, 110, 103, 32, 112, 10]))) (.cns (.cst (.str (tx [85, 110, 107, 110, 111, 119, 110, 84, 104, 105, 110, 103]))) .nil))) (.cns (.tpl (.cns (.cst (.str (tx [115, 117, 114, 101, 10, 107, 97]))) (.cns (.cst (.str (tx [117, 110, 107, 110, 111, 119, 110]))) .nil))) .nil))))))))) (.seq (.ret (.lc [1, 2] (.tt [1, 2]) (.it (.var 0)) (.cst (.bl true)) (.tpl (.cns (.var 1) (.cns (.ite (.cmp .ne (.var 2) (.cst (.str (tx [117, 110, 107, 110, 111, 119, 110])))) (.bop .add (.cst (.str (tx [101, 114, 114, 111, 114, 32]))) (.var 2)) (.var 2)) .nil))))) .skp)))))
def c_law_hand_answers : E := (.seq (.ret (.lst (.cns (.tpl (.cns (.cst (.str (tx [110, 97, 109, 101, 115]))) (.cns (.cst (.str (tx [107, 97, 32, 107, 99]))) .nil))) (.cns (.tpl (.cns (.cst (.str (tx [114, 111, 119]))) (.cns (.cst (.str (tx [107, 99, 32, 107, 97, 32, 107, 98]))) .nil))) (.cns (.tpl (.cns (.cst (.str (tx [108, 101, 97, 100, 32, 107, 97, 32, 112]))) (.cns (.cst (.str (tx [121, 101, 115]))) .nil))) (.cns (.tpl (.cns (.cst (.str (tx [108, 101, 97, 100, 32, 107, 98, 32, 113]))) (.cns (.cst (.str (tx [121, 101, 115]))) .nil))) (.cns (.tpl (.cns (.cst (.str (tx [108, 101, 97, 100, 32, 107, 99, 32, 112]))) (.cns (.cst (.str (tx [110, 111]))) .nil))) (.cns (.tpl (.cns (.cst (.str (tx [108, 101, 97, 100, 32, 107, 100, 32, 114]))) (.cns (.cst (.str (tx [110, 111]))) .nil))) (.cns (.tpl (.cns (.cst (.str (tx [115, 117, 114, 101, 32, 107, 99]))) (.cns (.cst (.str (tx [121, 101, 115]))) .nil))) (.cns (.tpl (.cns (.cst (.str (tx [115, 117, 114, 101, 32, 107, 97]))) (.cns (.cst (.str (tx [110, 111]))) .nil))) (.cns (.tpl (.cns (.cst (.str (tx [108, 101, 97, 100, 105, 110, 103, 32, 114]))) (.cns (.cst (.str (tx [107, 99]))) .nil))) (.cns (.tpl (.cns (.cst (.str (tx [108, 101, 97, 100, 105, 110, 103, 32, 112]))) (.cns (.cst (.str (tx [107, 97, 32, 107, 98]))) .nil))) (.cns (.tpl (.cns (.cst (.str (tx [115, 117, 114, 101, 32, 107, 100]))) (.cns (.cst (.str (tx [110, 111]))) .nil))) .nil))))))))))))) .skp)
def c_law_answers : E := (.seq (.asg 3 (.bop .add (.lc [5] (.tn 5) (.it (.met t_things_0 (.var 0) 0 .nil 0 .nil)) (.cst (.bl true)) (.cal 242 (.cns (.var 0) (.cns (.var 1) (.cns (.var 5) .nil))))) (.lst (.cns (.cal 247 (.cns (.var 0) (.cns (.var 1) .nil))) (.cns (.calk 2047 2 (.cns (.var 0) (.cns (.var 2) .nil)) 0 .nil) (.cns (.calk 2044 2 (.cns (.var 0) (.cns (.var 2) .nil)) 0 .nil) .nil)))))) (.seq (.asg 3 (.bop .add (.var 3) (.lst (.cns (.lc [7] (.tn 7) (.it (.met t_classes_0 (.var 1) 0 .nil 0 .nil)) (.cst (.bl true)) (.calk 2046 3 (.cns (.var 0) (.cns (.var 2) (.cns (.var 7) .nil))) 0 .nil)) (.cns (.met t_classes_0 (.var 1) 0 .nil 0 .nil) .nil))))) (.seq (.asg 4 (.lst (.cns (.cal 143 (.cns (.var 1) .nil)) (.cns (.lc [6] (.tn 6) (.it (.met t_all_keys_0 (.var 0) 0 .nil 0 .nil)) (.cst (.bl true)) (.bio .bool tBool (.cal 189 (.cns (.var 0) (.cns (.var 1) (.cns (.var 6) (.cns (.ix (.met t_things_0 (.var 0) 0 .nil 0 .nil) (.neg (.cst (.int 1)))) .nil))))))) (.cns (.lc [6] (.tn 6) (.it (.met t_all_keys_0 (.var 0) 0 .nil 0 .nil)) (.cst (.bl true)) (.cal 246 (.cns (.var 0) (.cns (.var 1) (.cns (.tpl (.cns (.cst (.str (tx [97, 115, 105, 100, 101]))) (.cns (.var 6) .nil))) .nil))))) .nil))))) (.seq (.ret (.tpl (.cns (.var 3) (.cns (.var 4) (.cns (.cal 210 (.cns (.var 0) (.cns (.var 1) (.cns (.sl (.met t_all_keys_0 (.var 0) 0 .nil 0 .nil) .abs (.one (.cst (.int 1)))) .nil)))) .nil))))) .skp))))
def GmS : Nat → D
  | 0 => .str (tx az)
  | 1 => .int 6
  | 2 => .int 9999
  | 5 => .int 8
  | 7 => .int 16
  | 4 => .tup [.str (tx [97, 115, 105, 100, 101]), .str (tx [107, 101, 112, 116]), .str (tx [102, 114, 101, 101])]
  | 3 => .int 200
  | 9 => .int 4
  | 10 => .int 3
  | 11 => .tup [.str (tx [97, 115, 105, 100, 101]), .str (tx [107, 101, 112, 116])]
  | 12 => .int 4
  | 14 => .int 40
  | _ => .non
def CdS : Nat → Option Ent
  | 0 => some ⟨2, 1, c_is_word, id, none⟩
  | 1 => some ⟨3, 3, c_is_number, id, none⟩
  | 2 => some ⟨1, 1, c_is_date, id, none⟩
  | 3 => some ⟨2, 1, c_is_word, gdF 0 [.k 0] [] [], none⟩
  | 4 => some ⟨1, 1, c_is_date, gdF 0 [.k 0] [] [], none⟩
  | 10 => some ⟨4, 1, c_law_feed, id, none⟩
  | 11 => some ⟨6, 2, c_law_take, id, none⟩
  | 12 => some ⟨2, 2, c_law_of, id, none⟩
  | 13 => some ⟨5, 2, c_law_same, id, none⟩
  | 14 => some ⟨7, 2, c_law_new_names, id, none⟩
  | 108 => some ⟨3, 2, c_law_dates, id, none⟩
  | 110 => some ⟨2, 1, c_law_whys, id, none⟩
  | 111 => some ⟨1, 1, c_is_listed, id, none⟩
  | 112 => some ⟨3, 2, c_law_label, id, none⟩
  | 113 => some ⟨4, 2, c_law_rivals, id, none⟩
  | 114 => some ⟨2, 1, c_law_labels, id, none⟩
  | 115 => some ⟨2, 1, c_law_active, id, none⟩
  | 116 => some ⟨2, 1, c_law_keys, id, none⟩
  | 118 => some ⟨6, 3, c_check_pairs, id, none⟩
  | 119 => some ⟨3, 1, c_check_things, id, none⟩
  | 120 => some ⟨3, 2, c_part_with, id, none⟩
  | 121 => some ⟨3, 2, c_need_things, id, none⟩
  | 122 => some ⟨2, 2, c_is_ruling, id, none⟩
  | 123 => some ⟨6, 2, c_law_other_label_so, id, none⟩
  | 124 => some ⟨1, 1, c_law_made, id, none⟩
  | 125 => some ⟨3, 2, c_law_part, id, none⟩
  | 126 => some ⟨10, 2, c_law_closed, id, none⟩
  | 127 => some ⟨1, 1, c_law_made_facts, id, none⟩
  | 128 => some ⟨4, 3, c_pair_between, id, none⟩
  | 129 => some ⟨1, 1, c_law_classes, id, none⟩
  | 131 => some ⟨1, 1, c_law_odd, id, none⟩
  | 132 => some ⟨5, 2, c_law_fits, id, none⟩
  | 133 => some ⟨10, 3, c_law_facts, id, none⟩
  | 134 => some ⟨11, 3, c_law_turned_groups, id, none⟩
  | 135 => some ⟨6, 2, c_law_plain_groups, id, none⟩
  | 136 => some ⟨5, 2, c_law_some_groups, id, none⟩
  | 137 => some ⟨2, 2, c_need_same, id, none⟩
  | 141 => some ⟨6, 1, c_law_partings, id, none⟩
  | 143 => some ⟨1, 1, c_count_groupings, id, none⟩
  | 144 => some ⟨3, 2, c_is_dating, id, none⟩
  | 145 => some ⟨3, 3, c_age, id, none⟩
  | 146 => some ⟨2, 2, c_need_dating, id, none⟩
  | 147 => some ⟨3, 3, c_law_age, id, none⟩
  | 149 => some ⟨6, 3, c_law_can_be_older, id, none⟩
  | 150 => some ⟨4, 4, c_law_is_older, id, none⟩
  | 151 => some ⟨5, 3, c_can_be_older, id, none⟩
  | 152 => some ⟨5, 4, c_older, id, none⟩
  | 153 => some ⟨2, 2, c_settled, id, none⟩
  | 154 => some ⟨4, 2, c_chain_back, id, none⟩
  | 159 => some ⟨2, 2, c_law_bearer, id, none⟩
  | 160 => some ⟨6, 3, c_law_row, id, none⟩
  | 161 => some ⟨6, 4, c_law_leader, id, none⟩
  | 162 => some ⟨4, 1, c_law_lots, id, none⟩
  | 163 => some ⟨5, 4, c_clause_for, id, none⟩
  | 164 => some ⟨4, 3, c_rivals_in, id, none⟩
  | 165 => some ⟨4, 3, c_law_rivals_in, id, none⟩
  | 166 => some ⟨5, 4, c_law_clause, id, none⟩
  | 167 => some ⟨5, 3, c_chosen_from, id, none⟩
  | 168 => some ⟨7, 3, c_tree_from, id, none⟩
  | 169 => some ⟨5, 3, c_law_all_true, id, none⟩
  | 171 => some ⟨2, 2, c_chosen_pairs, id, none⟩
  | 172 => some ⟨4, 2, c_closed_tree, id, none⟩
  | 173 => some ⟨3, 2, c_law_is_possible, id, none⟩
  | 174 => some ⟨5, 2, c_dates_for, id, none⟩
  | 175 => some ⟨7, 2, c_law_some_rows, id, none⟩
  | 176 => some ⟨15, 4, c_law_spec, id, none⟩
  | 177 => some ⟨7, 4, c_closes, id, none⟩
  | 178 => some ⟨11, 4, c_law_tree_closes, id, none⟩
  | 180 => some ⟨3, 3, c_is_closed, id, none⟩
  | 181 => some ⟨4, 2, c_with_group, id, none⟩
  | 182 => some ⟨6, 4, c_least_group, id, none⟩
  | 183 => some ⟨5, 3, c_law_first_of, id, none⟩
  | 184 => some ⟨2, 1, c_law_all_fitting, id, none⟩
  | 185 => some ⟨5, 2, c_law_is_fitting, id, none⟩
  | 186 => some ⟨7, 3, c_law_apart_fact, id, none⟩
  | 187 => some ⟨8, 4, c_law_clauses, id, none⟩
  | 188 => some ⟨7, 4, c_law_least_group, id, none⟩
  | 189 => some ⟨8, 4, c_lead, id, none⟩
  | 190 => some ⟨10, 2, c_law_possible, id, none⟩
  | 191 => some ⟨6, 5, c_law_scene, id, none⟩
  | 193 => some ⟨2, 2, c_is_thing, id, none⟩
  | 194 => some ⟨3, 3, c_bounds_of, id, none⟩
  | 195 => some ⟨7, 5, c_is_between, id, none⟩
  | 196 => some ⟨3, 3, c_law_bounds, id, none⟩
  | 197 => some ⟨9, 5, c_law_is_reason, id, none⟩
  | 198 => some ⟨7, 4, c_law_always_holds, id, none⟩
  | 199 => some ⟨9, 3, c_surely, id, none⟩
  | 200 => some ⟨8, 2, c_law_sure, id, none⟩
  | 201 => some ⟨8, 3, c_parting_dating, id, none⟩
  | 202 => some ⟨6, 1, c_unions, id, none⟩
  | 203 => some ⟨7, 2, c_law_ruled, id, none⟩
  | 204 => some ⟨10, 1, c_law_unions, id, none⟩
  | 206 => some ⟨6, 3, c_law_least_unlike, id, none⟩
  | 207 => some ⟨4, 2, c_law_near_ruled, id, none⟩
  | 208 => some ⟨5, 4, c_is_parted, id, none⟩
  | 209 => some ⟨7, 2, c_law_key_lots, id, none⟩
  | 211 => some ⟨2, 2, c_is_unlike, id, none⟩
  | 213 => some ⟨4, 3, c_leaders, id, none⟩
  | 214 => some ⟨5, 3, c_leading_keys, id, none⟩
  | 215 => some ⟨7, 4, c_matching, id, none⟩
  | 217 => some ⟨4, 4, c_count_named, id, none⟩
  | 218 => some ⟨4, 2, c_law_mixed, id, none⟩
  | 219 => some ⟨1, 1, c_law_components, id, none⟩
  | 220 => some ⟨4, 2, c_law_things_of, id, none⟩
  | 222 => some ⟨13, 3, c_section_of, id, none⟩
  | 224 => some ⟨9, 3, c_law_sections_fit, id, none⟩
  | 225 => some ⟨5, 3, c_law_scope, id, none⟩
  | 226 => some ⟨8, 4, c_lead_in_sections, id, none⟩
  | 228 => some ⟨4, 1, c_law_all_sections, id, none⟩
  | 229 => some ⟨1, 1, c_law_made_sections, id, none⟩
  | 230 => some ⟨11, 3, c_law_section_facts, id, none⟩
  | 231 => some ⟨4, 1, c_book_text, id, none⟩
  | 233 => some ⟨4, 2, c_law_label_fault, id, none⟩
  | 234 => some ⟨9, 4, c_law_moved, id, none⟩
  | 235 => some ⟨13, 2, c_law_behind_facts, id, none⟩
  | 236 => some ⟨10, 2, c_law_behind_label, id, none⟩
  | 237 => some ⟨2, 2, c_law_behind, id, none⟩
  | 238 => some ⟨4, 2, c_law_words, id, none⟩
  | 241 => some ⟨2, 1, c_listed, id, none⟩
  | 242 => some ⟨4, 3, c_leading, id, none⟩
  | 244 => some ⟨3, 1, c_law_first_dates, id, none⟩
  | 245 => some ⟨2, 1, c_law_listed, id, none⟩
  | 247 => some ⟨3, 2, c_sure_keys, id, none⟩
  | 249 => some ⟨8, 3, c_law_answers, id, none⟩
  | 250 => some ⟨4, 2, c_law_dating, id, none⟩
  | 253 => some ⟨1, 1, c_law_fields, id, none⟩
  | 254 => some ⟨2, 1, c_law_kinds, id, none⟩
  | 255 => some ⟨7, 2, c_law_is_book, id, none⟩
  | 256 => some ⟨5, 2, c_law_pairs_in, id, none⟩
  | 257 => some ⟨3, 3, c_step_over, id, none⟩
  | 258 => some ⟨6, 3, c_is_chain, id, none⟩
  | 259 => some ⟨6, 6, c_law_leads_holds, id, none⟩
  | 260 => some ⟨9, 5, c_law_never_holds, id, none⟩
  | 261 => some ⟨8, 4, c_reason_for, id, none⟩
  | 262 => some ⟨5, 5, c_law_fails_holds, id, none⟩
  | 263 => some ⟨2, 2, c_same_key, id, none⟩
  | 264 => some ⟨4, 2, c_check_wishes, id, none⟩
  | 265 => some ⟨12, 3, c_law_fewest, id, none⟩
  | 266 => some ⟨12, 5, c_parting, id, none⟩
  | 267 => some ⟨7, 3, c_law_leading_keys, id, none⟩
  | 268 => some ⟨7, 3, c_law_outside_fact, id, none⟩
  | 269 => some ⟨7, 7, c_law_section_holds, id, none⟩
  | 270 => some ⟨3, 1, c_law_text, id, none⟩
  | 271 => some ⟨7, 3, c_regrouped, id, none⟩
  | 272 => some ⟨5, 2, c_law_all_behind, id, none⟩
  | 273 => some ⟨11, 3, c_law_deed, id, none⟩
  | 274 => some ⟨6, 4, c_law_ledger, id, none⟩
  | 275 => some ⟨3, 2, c_law_there_and_back, id, none⟩
  | 276 => some ⟨2, 1, c_law_line, id, none⟩
  | 277 => some ⟨15, 2, c_law_question, id, none⟩
  | 278 => some ⟨2, 0, c_law_hand_lines, id, none⟩
  | 279 => some ⟨3, 0, c_law_hand_errors, id, none⟩
  | 280 => some ⟨0, 0, c_law_hand_answers, id, none⟩
  | 281 => some ⟨12, 3, c_law_chain, id, none⟩
  | 283 => some ⟨8, 4, c_law_barring, id, none⟩
  | 284 => some ⟨3, 1, c_law_turned_dict, id, none⟩
  | 285 => some ⟨10, 4, c_changes, id, none⟩
  | 288 => some ⟨15, 5, c_law_bent_reasons, id, none⟩
  | 290 => some ⟨6, 2, c_check_parts, id, none⟩
  | 292 => some ⟨8, 3, c_grown, id, none⟩
  | 293 => some ⟨5, 2, c_law_right_datings, id, none⟩
  | 294 => some ⟨5, 3, c_law_bent_trees, id, none⟩
  | 295 => some ⟨2, 2, c_later_than, id, none⟩
  | 296 => some ⟨7, 2, c_law_rule, id, none⟩
  | 297 => some ⟨4, 1, c_law_made_rule, id, none⟩
  | 298 => some ⟨8, 2, c_law_wrong_lines, id, none⟩
  | 399 => some ⟨5, 2, c_behind, id, none⟩
  | 1000 => some ⟨7, 6, c_Label_init, id, none⟩
  | 1001 => some ⟨6, 4, c_Facts_init, id, none⟩
  | 1002 => some ⟨4, 4, c_Answer_init, id, none⟩
  | 1003 => some ⟨6, 6, c_Unlike_init, id, none⟩
  | 1004 => some ⟨5, 2, c_Reviser_init, id, none⟩
  | 1005 => some ⟨7, 7, c_SectionLeads_init, id, none⟩
  | 1006 => some ⟨1, 1, c_Reader_init, id, none⟩
  | 1007 => some ⟨2, 2, c_Doing_init, id, none⟩
  | 1008 => some ⟨2, 2, c_Desk_init, id, none⟩
  | 1009 => some ⟨8, 5, c_Book_init, id, none⟩
  | 1010 => some ⟨6, 4, c_Sections_init, id, none⟩
  | 2002 => some ⟨0, 0, .nil, gdM 5 [.p 0, .p 1, .p 2, .p 3, .p 4, .d 0] [.non] [], some (0, 1000)⟩
  | 2003 => some ⟨0, 0, .nil, gdM 6 [.p 0, .p 1, .p 2, .p 3, .p 4, .p 5] [.non] [], some (0, 1000)⟩
  | 2004 => some ⟨0, 0, .nil, gdM 1 [.p 0, .k 4, .k 3, .k 2, .k 1, .k 0] [.non] [], some (0, 1000)⟩
  | 2005 => some ⟨2, 2, c_Label_eq, gdF 2 [.p 0, .p 1] [] [], none⟩
  | 2006 => some ⟨2, 2, c_Book_eq, gdF 2 [.p 0, .p 1] [] [], none⟩
  | 2007 => some ⟨2, 2, c_Facts_eq, gdF 2 [.p 0, .p 1] [] [], none⟩
  | 2008 => some ⟨2, 2, c_Grouping_eq, gdF 2 [.p 0, .p 1] [] [], none⟩
  | 2009 => some ⟨2, 2, c_Sectioned_eq, gdF 2 [.p 0, .p 1] [] [], none⟩
  | 2010 => some ⟨2, 2, c_Ledger_eq, gdF 2 [.p 0, .p 1] [] [], none⟩
  | 2011 => some ⟨1, 1, c_Book_len, gdF 1 [.p 0] [] [], none⟩
  | 2012 => some ⟨1, 1, c_Grouping_len, gdF 1 [.p 0] [] [], none⟩
  | 2013 => some ⟨1, 1, c_Ledger_len, gdF 1 [.p 0] [] [], none⟩
  | 2014 => some ⟨1, 1, c_Desk_len, gdF 1 [.p 0] [] [], none⟩
  | 2015 => some ⟨1, 1, c_Book_bool, gdF 1 [.p 0] [] [], none⟩
  | 2016 => some ⟨1, 1, c_Answer_bool, gdF 1 [.p 0] [] [], none⟩
  | 2017 => some ⟨1, 1, c_Leads_bool, gdF 1 [.p 0] [] [], none⟩
  | 2018 => some ⟨1, 1, c_Always_bool, gdF 1 [.p 0] [] [], none⟩
  | 2019 => some ⟨1, 1, c_Fails_bool, gdF 1 [.p 0] [] [], none⟩
  | 2020 => some ⟨1, 1, c_Unlike_bool, gdF 1 [.p 0] [] [], none⟩
  | 2021 => some ⟨1, 1, c_SectionLeads_bool, gdF 1 [.p 0] [] [], none⟩
  | 2022 => some ⟨1, 1, c_Ledger_bool, gdF 1 [.p 0] [] [], none⟩
  | 2023 => some ⟨1, 1, c_Desk_bool, gdF 1 [.p 0] [] [], none⟩
  | 2024 => some ⟨1, 1, c_Label_repr, gdF 1 [.p 0] [] [], none⟩
  | 2025 => some ⟨1, 1, c_Book_repr, gdF 1 [.p 0] [] [], none⟩
  | 2026 => some ⟨1, 1, c_Facts_repr, gdF 1 [.p 0] [] [], none⟩
  | 2027 => some ⟨1, 1, c_Grouping_repr, gdF 1 [.p 0] [] [], none⟩
  | 2028 => some ⟨1, 1, c_Answer_repr, gdF 1 [.p 0] [] [], none⟩
  | 2029 => some ⟨2, 1, c_Unlike_repr, gdF 1 [.p 0] [] [], none⟩
  | 2030 => some ⟨1, 1, c_Rule_repr, gdF 1 [.p 0] [] [], none⟩
  | 2031 => some ⟨1, 1, c_Ledger_repr, gdF 1 [.p 0] [] [], none⟩
  | 2032 => some ⟨1, 1, c_Desk_repr, gdF 1 [.p 0] [] [], none⟩
  | 2033 => some ⟨1, 1, c_Label_is_exact, gdF 1 [.p 0] [] [], none⟩
  | 2034 => some ⟨2, 2, c_Label_may_be, gdF 1 [.p 0, .k 0] [] [], none⟩
  | 2035 => some ⟨1, 1, c_Label_parts, gdF 1 [.p 0] [] [], none⟩
  | 2036 => some ⟨3, 1, c_Book_parts, gdF 1 [.p 0] [] [], none⟩
  | 2037 => some ⟨1, 1, c_Facts_parts, gdF 1 [.p 0] [] [], none⟩
  | 2039 => some ⟨0, 0, .nil, gdM 3 [.p 0, .p 1, .p 2, .k 0, .k 1] [.tup []] [], some (1, 1009)⟩
  | 2040 => some ⟨0, 0, .nil, gdM 2 [.p 0, .p 1, .d 0, .w 0, .w 1] [.tup []] [.tup [], .tup []], some (1, 1009)⟩
  | 2041 => some ⟨0, 0, .nil, gdM 2 [.p 0, .p 1, .k 0, .k 1] [] [], some (2, 1001)⟩
  | 2042 => some ⟨0, 0, .nil, gdM 2 [.p 0, .p 1, .w 0, .w 1] [] [.tup [], .tup []], some (2, 1001)⟩
  | 2044 => some ⟨6, 3, c_barred, gdF 2 [.p 0, .p 1, .w 0] [] [.non], none⟩
  | 2046 => some ⟨7, 4, c_leader, gdF 3 [.p 0, .p 1, .p 2, .w 0] [] [.non], none⟩
  | 2048 => some ⟨7, 4, c_leader, gdF 0 [.k 2, .k 1, .k 0, .k 3] [] [], none⟩
  | 2049 => some ⟨2, 2, c_chosen_pairs, gdF 0 [.k 1, .k 0] [] [], none⟩
  | 2053 => some ⟨4, 3, c_leading, gdF 0 [.k 2, .k 1, .k 0] [] [], none⟩
  | 2055 => some ⟨0, 0, .nil, gdM 6 [.p 0, .p 1, .p 2, .p 3, .p 4, .p 5] [] [], some (9, 1003)⟩
  | 2059 => some ⟨4, 4, c_count_named, gdF 0 [.k 3, .k 2, .k 1, .k 0] [] [], none⟩
  | 2061 => some ⟨0, 0, .nil, gdM 2 [.p 0, .p 1, .k 0, .k 1] [] [], some (13, 1010)⟩
  | 2062 => some ⟨7, 4, c_leader, gdF 3 [.p 0, .p 1, .p 2, .k 0] [] [], none⟩
  | 2063 => some ⟨0, 0, .nil, gdM 7 [.p 0, .p 1, .p 2, .p 3, .p 4, .p 5, .p 6] [] [], some (15, 1005)⟩
  | 2068 => some ⟨0, 0, .nil, gdM 2 [.p 0, .p 1, .w 0, .k 0] [] [.tup []], some (2, 1001)⟩
  | 2069 => some ⟨0, 0, .nil, gdM 2 [.p 0, .p 1] [] [], some (19, 1008)⟩
  | 2070 => some ⟨0, 0, .nil, gdM 2 [.p 0, .p 1, .k 0, .w 0] [] [.tup []], some (13, 1010)⟩
  | 2071 => some ⟨0, 0, .nil, gdM 2 [.p 0, .p 1, .w 0, .w 1] [] [.tup [], .tup []], some (13, 1010)⟩
  | 2072 => some ⟨6, 3, c_barred, gdF 2 [.p 0, .p 1, .k 0] [] [], none⟩
  | 2073 => some ⟨2, 2, c_Label_may_be, gdF 2 [.p 0, .p 1] [] [], none⟩
  | 2074 => some ⟨6, 2, c_Book_rivals, gdF 2 [.p 0, .p 1] [] [], none⟩
  | 2075 => some ⟨2, 2, c_Book_is_kept, gdF 2 [.p 0, .p 1] [] [], none⟩
  | 2076 => some ⟨2, 2, c_Book_is_aside, gdF 2 [.p 0, .p 1] [] [], none⟩
  | 2077 => some ⟨2, 1, c_Book_labels, gdF 1 [.p 0] [] [], none⟩
  | 2078 => some ⟨2, 1, c_Book_active, gdF 1 [.p 0] [] [], none⟩
  | 2079 => some ⟨1, 1, c_Book_kept, gdF 1 [.p 0] [] [], none⟩
  | 2080 => some ⟨1, 1, c_Book_aside, gdF 1 [.p 0] [] [], none⟩
  | 2081 => some ⟨1, 1, c_Book_all_keys, gdF 1 [.p 0] [] [], none⟩
  | 2082 => some ⟨1, 1, c_Book_things, gdF 1 [.p 0] [] [], none⟩
  | 2083 => some ⟨1, 1, c_Facts_things, gdF 1 [.p 0] [] [], none⟩
  | 2084 => some ⟨1, 1, c_Grouping_things, gdF 1 [.p 0] [] [], none⟩
  | 2085 => some ⟨1, 1, c_Unlike_things, gdF 1 [.p 0] [] [], none⟩
  | 2086 => some ⟨2, 2, c_Book_need_key, gdF 2 [.p 0, .p 1] [] [], none⟩
  | 2087 => some ⟨2, 2, c_Facts_class_of, gdF 2 [.p 0, .p 1] [] [], none⟩
  | 2088 => some ⟨6, 2, c_Book_with_labels, gdF 2 [.p 0, .p 1] [] [], none⟩
  | 2089 => some ⟨3, 2, c_Book_exchanged, gdF 2 [.p 0, .p 1] [] [], none⟩
  | 2090 => some ⟨2, 2, c_Book_label, gdF 2 [.p 0, .p 1] [] [], none⟩
  | 2091 => some ⟨3, 3, c_Label_narrowed, gdF 3 [.p 0, .p 1, .p 2] [] [], none⟩
  | 2092 => some ⟨1, 1, c_Facts_classes, gdF 1 [.p 0] [] [], none⟩
  | 2093 => some ⟨4, 2, c_Grouping_fits, gdF 1 [.p 0, .k 0] [] [], none⟩
  | 2095 => some ⟨4, 2, c_Grouping_fits, gdF 2 [.p 0, .p 1] [] [], none⟩
  | 2096 => some ⟨4, 2, c_Sectioned_fits, gdF 2 [.p 0, .p 1] [] [], none⟩
  | 2097 => some ⟨1, 1, c_Grouping_groups, gdF 1 [.p 0] [] [], none⟩
  | 2098 => some ⟨6, 2, c_Grouping_alone, gdF 1 [.p 0, .k 0] [] [], none⟩
  | 2099 => some ⟨3, 3, c_Grouping_moved, gdF 1 [.p 0, .k 0, .k 1] [] [], none⟩
  | 2100 => some ⟨3, 3, c_Grouping_joined, gdF 1 [.p 0, .k 1, .k 0] [] [], none⟩
  | 2101 => some ⟨3, 3, c_Grouping_joined, gdF 3 [.p 0, .p 1, .p 2] [] [], none⟩
  | 2102 => some ⟨1, 1, c_Facts_apart, gdF 1 [.p 0] [] [], none⟩
  | 2103 => some ⟨2, 2, c_Grouping_group_of, gdF 2 [.p 0, .p 1] [] [], none⟩
  | 2104 => some ⟨1, 1, c_Facts_together, gdF 1 [.p 0] [] [], none⟩
  | 2105 => some ⟨8, 3, c_Grouping_placed, gdF 3 [.p 0, .p 1, .p 2] [] [], none⟩
  | 2106 => some ⟨2, 2, c_Book_place, gdF 2 [.p 0, .p 1] [] [], none⟩
  | 2107 => some ⟨3, 3, c_Facts_apart_fact, gdF 3 [.p 0, .p 1, .p 2] [] [], none⟩
  | 2108 => some ⟨1, 1, c_Leads_grouping, gdF 1 [.p 0] [] [], none⟩
  | 2109 => some ⟨1, 1, c_Fails_grouping, gdF 1 [.p 0] [] [], none⟩
  | 2110 => some ⟨1, 1, c_Sectioned_grouping, gdF 1 [.p 0] [] [], none⟩
  | 2111 => some ⟨1, 1, c_Leads_dating, gdF 1 [.p 0] [] [], none⟩
  | 2112 => some ⟨1, 1, c_Fails_dating, gdF 1 [.p 0] [] [], none⟩
  | 2113 => some ⟨1, 1, c_Unlike_dating, gdF 1 [.p 0] [] [], none⟩
  | 2114 => some ⟨1, 1, c_SectionLeads_dating, gdF 1 [.p 0] [] [], none⟩
  | 2115 => some ⟨1, 1, c_Never_tree, gdF 1 [.p 0] [] [], none⟩
  | 2120 => some ⟨1, 1, c_Answer_holds, gdF 1 [.p 0] [] [], none⟩
  | 2121 => some ⟨2, 1, c_Leads_holds, gdF 1 [.p 0] [] [], none⟩
  | 2122 => some ⟨2, 1, c_Never_holds, gdF 1 [.p 0] [] [], none⟩
  | 2123 => some ⟨4, 1, c_Always_holds, gdF 1 [.p 0] [] [], none⟩
  | 2124 => some ⟨2, 1, c_Fails_holds, gdF 1 [.p 0] [] [], none⟩
  | 2125 => some ⟨1, 1, c_Unlike_holds, gdF 1 [.p 0] [] [], none⟩
  | 2126 => some ⟨5, 1, c_SectionLeads_holds, gdF 1 [.p 0] [] [], none⟩
  | 2127 => some ⟨3, 3, c_Answer_is_fitting, gdF 3 [.p 0, .p 1, .p 2] [] [], none⟩
  | 2128 => some ⟨4, 1, c_Never_is_apart, gdF 1 [.p 0] [] [], none⟩
  | 2129 => some ⟨5, 3, c_Always_is_reason, gdF 3 [.p 0, .p 1, .p 2] [] [], none⟩
  | 2130 => some ⟨2, 2, c_Always_bearers, gdF 2 [.p 0, .p 1] [] [], none⟩
  | 2131 => some ⟨1, 1, c_Always_reasons, gdF 1 [.p 0] [] [], none⟩
  | 2132 => some ⟨5, 2, c_Facts_can_join, gdF 2 [.p 0, .p 1] [] [], none⟩
  | 2134 => some ⟨2, 2, c_Rule_pick, gdF 2 [.p 0, .p 1] [] [], none⟩
  | 2137 => some ⟨5, 4, c_Rule_choice, gdF 4 [.p 0, .p 1, .p 2, .p 3] [] [], none⟩
  | 2138 => some ⟨1, 1, c_Sections_outside, gdF 1 [.p 0] [] [], none⟩
  | 2140 => some ⟨1, 1, c_Sections_inside, gdF 1 [.p 0] [] [], none⟩
  | 2141 => some ⟨4, 1, c_Sectioned_sections, gdF 1 [.p 0] [] [], none⟩
  | 2142 => some ⟨1, 1, c_SectionLeads_sectioned, gdF 1 [.p 0] [] [], none⟩
  | 2143 => some ⟨5, 3, c_Sectioned_leaders, gdF 3 [.p 0, .p 1, .p 2] [] [], none⟩
  | 2145 => some ⟨2, 2, c_Reader_takes, gdF 2 [.p 0, .p 1] [] [], none⟩
  | 2149 => some ⟨3, 3, c_Facts_with_apart, gdF 3 [.p 0, .p 1, .p 2] [] [], none⟩
  | 2150 => some ⟨3, 3, c_Facts_with_together, gdF 3 [.p 0, .p 1, .p 2] [] [], none⟩
  | 2151 => some ⟨3, 3, c_Facts_need_two, gdF 3 [.p 0, .p 1, .p 2] [] [], none⟩
  | 2152 => some ⟨2, 2, c_Ledger_become, gdF 2 [.p 0, .p 1] [] [], none⟩
  | 2153 => some ⟨2, 2, c_Ledger_advance, gdF 2 [.p 0, .p 1] [] [], none⟩
  | 2154 => some ⟨1, 1, c_Ledger_history, gdF 1 [.p 0] [] [], none⟩
  | 2158 => some ⟨1, 1, c_Ledger_redo, gdF 1 [.p 0] [] [], none⟩
  | 2159 => some ⟨1, 1, c_Ledger_undo, gdF 1 [.p 0] [] [], none⟩
  | 2161 => some ⟨1, 1, c_Desk_log, gdF 1 [.p 0] [] [], none⟩
  | 2163 => some ⟨5, 4, c_Rule_chosen, gdF 4 [.p 0, .p 1, .p 2, .p 3] [] [], none⟩
  | 2164 => some ⟨1, 1, c_Sections_components, gdF 1 [.p 0] [] [], none⟩
  | 2165 => some ⟨0, 0, .nil, gdM 1 [.p 0, .k 2, .k 1, .k 0] [] [], some (2, 1001)⟩
  | 2166 => some ⟨1, 1, c_count_groupings, gdF 0 [.k 0] [] [], none⟩
  | 2168 => some ⟨10, 4, c_changes, gdF 0 [.k 3, .k 2, .k 1, .k 0] [] [], none⟩
  | 2169 => some ⟨4, 3, c_leaders, gdF 0 [.k 2, .k 1, .k 0] [] [], none⟩
  | 2174 => some ⟨0, 0, .nil, gdM 2 [.p 0, .p 1] [] [], some (12, 1004)⟩
  | 2177 => some ⟨2, 2, c_Book_contains, gdF 2 [.p 0, .p 1] [] [], none⟩
  | 2178 => some ⟨2, 2, c_Book_is_next, gdF 2 [.p 0, .p 1] [] [], none⟩
  | 2179 => some ⟨2, 2, c_Facts_class_of, gdF 1 [.p 0, .k 0] [] [], none⟩
  | _ => none
end En

namespace En
open PySem PySem.Spec L2
def Ints (ds : List D) : Prop := ∀ d ∈ ds, ∃ i : Int, d = .int i
/-- a feed: the cells, how many are read, what is left of one, the mark -/
def FdB (b : MO) : Prop := ∃ (cs : List D) (k d mk : Int), b = .bx [.lst cs, .int k, .int d, .int mk] ∧ Ints cs ∧ 0 ≤ k
section
variable {Cd : Nat → Option Ent} {Gm : Nat → D}
theorem feed_ok (hc : Cd 10 = some ⟨4, 1, c_law_feed, id, none⟩) (n : Nat) (m : List MO) (ns : List Int) (hl : ns.length ≤ 63) : ∃ ds, Pn Cd Gm (n + 1) 10 [.fzl (ns.map D.int)] m = some (.fr (.bx ds), m) ∧ FdB (.bx ds) := by
  have hI : ∀ l : List D, Ints l → l.length ≤ 63 → compL (store (.tn 3)) (ev (Pn Cd Gm n) Gm (.cst (.bl true))) (ev (Pn Cd Gm n) Gm (.bi .int (.cns (.var 3) .nil))) [some (.val (.fzl (ns.map D.int))), none, none, none] l [] m = some (.fr (.bx l), ⟨[some (.val (.fzl (ns.map D.int))), none, none, none], m⟩) := by
    intro l hi hl
    have e := compL_map (st := store (.tn 3)) (cd := ev (Pn Cd Gm n) Gm (.cst (.bl true))) (el := ev (Pn Cd Gm n) Gm (.bi .int (.cns (.var 3) .nil))) (r := [some (.val (.fzl (ns.map D.int))), none, none, none]) (fun _ => true) id l [] m (fun d hd => by
      obtain ⟨i, rfl⟩ := hi d hd
      simp [store]) (by simp; unfold big; omega)
    rw [e]
    simp
  have hcut : Ints (cutD (ns.map D.int) none (some 63)) ∧ (cutD (ns.map D.int) none (some 63)).length ≤ 63 := by
    unfold cutD
    constructor
    · intro d hd
      have := List.mem_of_mem_drop (List.mem_of_mem_take hd)
      obtain ⟨i, _, rfl⟩ := List.mem_map.mp this
      exact ⟨i, rfl⟩
    · simp
      omega
  have hi := hI _ hcut.1 hcut.2
  generalize hL : cutD (ns.map D.int) none (some 63) = l at hi hcut
  rw [Pn_def hc]
  obtain ⟨s', e, _, mk, c3, rfl⟩ := forL_inv (st := store (.tn 3)) (body := ev (Pn Cd Gm n) Gm (.seq (.asg 2 (.bop .mod (.bi .int (.cns (.bop .add (.bop .mul (.var 2) (.cst (.int 8101))) (.var 3)) .nil)) (.cst (.int 2147483269)))) .skp))
    (fun ds s => Ints ds ∧ ∃ (mk : Int) (c3 : Option Cell), s = ⟨[some (.val (.fzl (ns.map D.int))), some (.val (.lst l)), some (.val (.int mk)), c3], m⟩) l ⟨[some (.val (.fzl (ns.map D.int))), some (.val (.lst l)), some (.val (.int (10029 + 71 * l.length))), none], m⟩ ⟨hcut.1, _, _, rfl⟩ (by
      rintro d ds s ⟨h1, mk, c3, rfl⟩
      obtain ⟨i, rfl⟩ := h1 d (List.mem_cons_self ..)
      simp [store]
      exact fun x hx => h1 x (List.mem_cons_of_mem _ hx))
  refine ⟨[.lst l, .int 0, .int 0, .int mk], ?_, l, 0, 0, mk, rfl, hcut.1, by omega⟩
  simp [c_law_feed, ini, hL, valR, wipeR, itemsOf, hi, e, List.replicate]
/-- a draw -/
theorem take_ok (hc : Cd 11 = some ⟨6, 2, c_law_take, id, none⟩) (n : Nat) {m : List MO} {i : Nat} {cs : List D} {k d mk many : Int} (hm : m[i]? = some (.bx [.lst cs, .int k, .int d, .int mk])) (hI : Ints cs) (hk : 0 ≤ k) (h0 : 0 < many) (h1 : many < 1073741824) :
    Sat (Pn Cd Gm (n + 1) 11 [.adr i, .int many] m) fun x m' => ∃ r k' d' : Int, x = .val (.int r) ∧ m' = m.set i (.bx [.lst cs, .int k', .int d', .int mk]) ∧ 0 ≤ r ∧ r < many ∧ 0 ≤ k' := by
  have hi : i < m.length := (List.getElem?_eq_some_iff.mp hm).1
  have hr := fun z : Int => And.intro (Int.emod_nonneg z (show many ≠ 0 by omega)) (Int.emod_lt_of_pos z h0)
  have he := fun z : Int => And.intro (show -18446744073709551616 < z % 2147483647 by omega) (show z % 2147483647 < 18446744073709551616 by omega)
  have hs : ∀ b : MO, (m.set i b)[i]? = some b := fun b => List.getElem?_set_self hi
  clear hi
  rw [Pn_def hc]
  by_cases hd : d < 2
  · by_cases hl : k + 1 ≤ cs.length
    · obtain ⟨c, hcl⟩ := hI cs[k.toNat] (List.getElem_mem (by omega))
      have hkk : k.toNat < cs.length := by omega
      have e2 : cs[k.toNat]? = some (.int c) := by rw [List.getElem?_eq_getElem hkk, hcl]
      have hn : ¬ (cs.length : Int) < k + 1 := by omega
      have hk2 : k < cs.length := by omega
      by_cases hc2 : c < 1000000000000000000
      · simp [c_law_take, ini, hm, atI, ixN, hd, hl, hs, hn, hk, hk2, e2, hcl, hc2, h0, h1, hr, he]
        exact ⟨k + 1, ⟨_, rfl⟩, by omega⟩
      · simp [c_law_take, ini, hm, atI, ixN, hd, hl, hs, hn, hk, hk2, e2, hcl, hc2, h0, h1, hr, he]
        exact ⟨k + 1, ⟨_, rfl⟩, by omega⟩
    · have hn : (cs.length : Int) < k + 1 := by omega
      simp [c_law_take, ini, hm, atI, ixN, hd, hl, hn, hs, h0, h1, hr, he]
      exact ⟨k + 1, ⟨_, rfl⟩, by omega⟩
  · simp [c_law_take, ini, hm, atI, ixN, hd, hs, h0, h1, hr]
    exact ⟨k, ⟨_, rfl⟩, hk⟩
theorem take_b (hc : Cd 11 = some ⟨6, 2, c_law_take, id, none⟩) (n : Nat) (hn : 1 ≤ n) {m : List MO} {i : Nat} {b : MO} {many : Int} (hm : m[i]? = some b) (hb : FdB b) (h0 : 0 < many) (h1 : many < 1073741824) :
    ∃ (r : Int) (b' : MO), Pn Cd Gm n 11 [.adr i, .int many] m = some (.val (.int r), m.set i b') ∧ FdB b' ∧ 0 ≤ r ∧ r < many := by
  obtain ⟨cs, k, d, mk, rfl, hI, hk⟩ := hb
  obtain ⟨n, rfl⟩ : ∃ n', n = n' + 1 := ⟨n - 1, by omega⟩
  obtain ⟨x, m', e, r, k', d', rfl, rfl, q1, q2, q3⟩ := take_ok (Gm := Gm) hc n hm hI hk h0 h1
  exact ⟨r, _, e, ⟨cs, k', d', mk, rfl, hI, q3⟩, q1, q2⟩
theorem of_lst (hc : Cd 12 = some ⟨2, 2, c_law_of, id, none⟩) (ht : Cd 11 = some ⟨6, 2, c_law_take, id, none⟩) (n : Nat) (hn : 2 ≤ n) {m : List MO} {i : Nat} {b : MO} {ds : List D} (hm : m[i]? = some b) (hb : FdB b) (h0 : 0 < ds.length) (h1 : ds.length ≤ 16777216) :
    ∃ (d : D) (b' : MO), Pn Cd Gm n 12 [.adr i, .lst ds] m = some (.val d, m.set i b') ∧ FdB b' ∧ d ∈ ds := by
  obtain ⟨n, rfl⟩ : ∃ n', n = n' + 1 := ⟨n - 1, by omega⟩
  obtain ⟨r, b', e, q1, q2, q3⟩ := take_b (Gm := Gm) ht n (by omega) (many := ds.length) hm hb (by omega) (by omega)
  have hr : r.toNat < ds.length := by omega
  refine ⟨ds[r.toNat], b', ?_, q1, List.getElem_mem hr⟩
  rw [Pn_def hc]
  simp [c_law_of, ini, e, atI, ixN, q2, q3, hr]
theorem of_str (hc : Cd 12 = some ⟨2, 2, c_law_of, id, none⟩) (ht : Cd 11 = some ⟨6, 2, c_law_take, id, none⟩) (n : Nat) (hn : 2 ≤ n) {m : List MO} {i : Nat} {b : MO} {z : List Nat} (hm : m[i]? = some b) (hb : FdB b) (h0 : 0 < z.length) (h1 : z.length ≤ 16777216) :
    ∃ (c : Nat) (b' : MO), Pn Cd Gm n 12 [.adr i, .str (tx z)] m = some (.val (.str (tx [c])), m.set i b') ∧ FdB b' ∧ c ∈ z := by
  obtain ⟨n, rfl⟩ : ∃ n', n = n' + 1 := ⟨n - 1, by omega⟩
  obtain ⟨r, b', e, q1, q2, q3⟩ := take_b (Gm := Gm) ht n (by omega) (many := z.length) hm hb (by omega) (by omega)
  have hr : r.toNat < z.length := by omega
  refine ⟨z[r.toNat], b', ?_, q1, List.getElem_mem hr⟩
  rw [Pn_def hc]
  have q := ix_tx (l := z) (x := r) ⟨[some (.val (.adr i)), some (.val (.str (tx z)))], m.set i b'⟩ q2 q3 h1
  rw [List.getD_eq_getElem?_getD, List.getElem?_eq_getElem hr] at q
  simp [c_law_of, ini, tx_len, e, h1, q]
theorem zip_self (ds : List D) : List.zipWith (fun p q => D.tup [p, q]) ds ds = ds.map fun p => D.tup [p, p] := by
  induction ds with
  | nil => rfl
  | cons d ds ih => simp [ih]
theorem bls_true (l : List D) (h : ∀ d ∈ l, d = .bl true) : ∃ bs, blsOf l = some bs ∧ bs.all id = true := by
  induction l with
  | nil => exact ⟨[], rfl, rfl⟩
  | cons d l ih =>
    obtain ⟨bs, e1, e2⟩ := ih fun x hx => h x (List.mem_cons_of_mem _ hx)
    have e := h d (List.mem_cons_self ..)
    subst e
    exact ⟨true :: bs, by simp [blsOf, e1], by simp [e2]⟩
/-- data of at most so many items in a list, everywhere -/
def smD : Nat → D → Bool
  | n + 1, .lst ds => decide (ds.length ≤ big) && ds.all (smD n)
  | n + 1, .tup ds => decide (ds.length ≤ big) && ds.all (smD n)
  | _, .non => true
  | _, .bl _ => true
  | _, .int _ => true
  | _, .str _ => true
  | _, _ => false
/-- the same data -/
theorem same_refl (hc : Cd 13 = some ⟨5, 2, c_law_same, id, none⟩) : ∀ (k : Nat) (d : D) (m : List MO), smD k d = true → ∀ n, k < n → Pn Cd Gm n 13 [d, d] m = some (.val (.bl true), m) := by
  intro k
  induction k with
  | zero =>
    intro d m hd n hn
    obtain ⟨n, rfl⟩ : ∃ n', n = n' + 1 := ⟨n - 1, by omega⟩
    rw [Pn_def hc]
    cases d <;> first | (cases hd; done) | simp [c_law_same, ini, tyAny, tyIs, kIsn]
  | succ k ih =>
    intro d m hd n hn
    obtain ⟨n, rfl⟩ : ∃ n', n = n' + 1 := ⟨n - 1, by omega⟩
    have key : ∀ (r : List (Option Cell)) (ds : List D), ds.all (smD k) = true → ds.length ≤ big → r.length = 5 → ∃ bs, (compL (store (.tt [3, 4])) (ev (Pn Cd Gm n) Gm (.cst (.bl true))) (ev (Pn Cd Gm n) Gm (.cal 13 (.cns (.var 3) (.cns (.var 4) .nil)))) r (ds.map fun p => D.tup [p, p]) [] m = some (.fr (.bx bs), ⟨r, m⟩)) ∧ ∃ qs, blsOf bs = some qs ∧ qs.all id = true := by
      intro r ds hds hl hr
      match r, hr with
      | [a, b, c, e, f], _ =>
      refine ⟨_, compL_map (fun _ => true) (fun _ => .bl true) _ _ _ (fun d hd => ?_) (by simpa using hl), bls_true _ fun d hd => ?_⟩
      · obtain ⟨p, hp, rfl⟩ := List.mem_map.mp hd
        have e := ih p m (List.all_eq_true.mp hds p hp) n (by omega)
        simp [store, storeAll, e]
      · obtain ⟨_, _, e⟩ := List.mem_map.mp hd
        exact e.symm
    rw [Pn_def hc]
    cases d with
    | lst ds =>
      simp only [smD, Bool.and_eq_true, decide_eq_true_eq] at hd
      obtain ⟨bs, e1, qs, e2, e3⟩ := key [some (.val (.lst ds)), some (.val (.lst ds)), none, none, none] ds hd.2 hd.1 rfl
      simp [c_law_same, ini, tyAny, tyIs, kIsn, zip_self, valR, wipeR, e1, all_l e2, e3]
    | tup ds =>
      simp only [smD, Bool.and_eq_true, decide_eq_true_eq] at hd
      obtain ⟨bs, e1, qs, e2, e3⟩ := key [some (.val (.tup ds)), some (.val (.tup ds)), none, none, none] ds hd.2 hd.1 rfl
      simp [c_law_same, ini, tyAny, tyIs, kIsn, zip_self, valR, wipeR, e1, all_l e2, e3]
    | _ => first | (cases hd; done) | simp [c_law_same, ini, tyAny, tyIs, kIsn]
/-- a new name by a stem, a place, a shift and its number -/
def nmL (w : List Nat) (k r j : Nat) : List Nat := w.take k ++ [az.getD ((r + 7 * j) % 26) 0] ++ w.drop k
/-- a new name: one to five letters -/
def NmD (d : D) : Prop := ∃ l : List Nat, d = .str (tx l) ∧ 1 ≤ l.length ∧ l.length ≤ 5 ∧ ∀ c ∈ l, c ∈ az
theorem store_len {b b' : MO} {m : List MO} {i : Nat} (hm : m[i]? = some b) : (m.set i b')[i]? = some b' := List.getElem?_set_self (List.getElem?_eq_some_iff.mp hm).1
/-- the stores whose box i is a feed, the rest as in m -/
def Fdm (i : Nat) (m m' : List MO) : Prop := ∃ b, m' = m.set i b ∧ FdB b
theorem names_okx (hc : Cd 14 = some ⟨7, 2, c_law_new_names, id, none⟩) (ho : Cd 12 = some ⟨2, 2, c_law_of, id, none⟩) (ht : Cd 11 = some ⟨6, 2, c_law_take, id, none⟩) (n : Nat) (hn : 3 ≤ n) {m : List MO} {i : Nat} {b : MO} {many : Int} (hm : m[i]? = some b) (hb : FdB b) (hm0 : 0 ≤ many) (hmy : many ≤ 1000) :
    ∃ (w : List Nat) (k r : Nat) (b' : MO), Pn Cd Gm n 14 [.adr i, .int many] m = some (.fr (.bx ((List.range many.toNat).map fun j => .str (tx (nmL w k r j)))), m.set i b') ∧ FdB b' ∧ w.length ≤ 4 ∧ k ≤ w.length ∧ (∀ c ∈ w, c ∈ az) ∧ r < 26 := by
  obtain ⟨n, rfl⟩ : ∃ n', n = n' + 1 := ⟨n - 1, by omega⟩
  -- how many letters
  obtain ⟨r1, b1, e1, f1, p1, p2⟩ := take_b (Gm := Gm) ht n (by omega) (many := 5) hm hb (by omega) (by omega)
  -- the stem
  obtain ⟨ys, m2, e2, l2, q2, b2, rfl, f2⟩ := compL_inv (st := store (.tn 6)) (cd := ev (Pn Cd Gm n) Gm (.cst (.bl true))) (el := ev (Pn Cd Gm n) Gm (.cal 12 (.cns (.var 0) (.cns (.var 2) .nil)))) (r := [some (.val (.adr i)), some (.val (.int many)), some (.val (.str (tx az))), none, none, none, none])
    (Fdm i m) (fun d => ∃ c, d = .str (tx [c]) ∧ c ∈ az) ((List.range r1.toNat).map fun (k : Nat) => D.int k) [] (m.set i b1) ⟨b1, rfl, f1⟩ (by
      rintro d hd m' ⟨b2, rfl, f2⟩
      obtain ⟨c, b3, e, g1, g2⟩ := of_str (Gm := Gm) ho ht n (by omega) (z := az) (store_len (b' := b2) hm) f2 (by rw [az_len]; omega) (by rw [az_len]; omega)
      simp [store, e]
      exact ⟨_, _, ⟨rfl, rfl⟩, ⟨b3, rfl, g1⟩, c, rfl, g2⟩) (by simp; unfold big; omega)
  obtain ⟨w, rfl⟩ : ∃ w : List Nat, ys = w.map fun c => .str (tx [c]) := by
    clear e2 l2
    induction ys with
    | nil => exact ⟨[], rfl⟩
    | cons y ys ih =>
      obtain ⟨c, rfl, _⟩ := q2 y (List.mem_cons_self ..)
      obtain ⟨w, rfl⟩ := ih fun z hz => q2 z (List.mem_cons_of_mem _ hz)
      exact ⟨c :: w, rfl⟩
  have hw : ∀ c ∈ w, c ∈ az := fun c hcw => by
    obtain ⟨c', e, h⟩ := q2 _ (List.mem_map.mpr ⟨c, hcw, rfl⟩)
    cases e
    exact h
  have lw : w.length = r1.toNat := by simpa using l2
  rw [Pn_def hc]
  have u1 : -4611686018427387904 ≤ r1 := by omega
  have u2 : r1 < 4611686018427387904 := by omega
  have e3 := join_one w
  -- where, and the first sign
  obtain ⟨r2, b3, e4, f3, p3, p4⟩ := take_b (Gm := Gm) ht n (by omega) (many := w.length + 1) (store_len (b' := b2) hm) f2 (by omega) (by omega)
  obtain ⟨r3, b4, e5, f4, p5, p6⟩ := take_b (Gm := Gm) ht n (by omega) (many := 26) (store_len (b' := b3) hm) f3 (by omega) (by omega)
  rw [List.set_set] at e4
  rw [List.set_set] at e5
  obtain ⟨k, rfl⟩ : ∃ k : Nat, r2 = k := ⟨r2.toNat, by omega⟩
  obtain ⟨r3, rfl⟩ : ∃ r : Nat, r3 = r := ⟨r3.toNat, by omega⟩
  have u3 : w.length ≤ 16777216 := by omega
  have e6 : compL (store (.tn 6)) (ev (Pn Cd Gm n) Gm (.cst (.bl true))) (ev (Pn Cd Gm n) Gm (.bop .add (.bop .add (.sl (.var 3) .abs (.one (.var 4))) (.ix (.var 2) (.bop .mod (.bi .int (.cns (.bop .add (.var 5) (.bop .mul (.cst (.int 7)) (.var 6))) .nil)) (.cst (.int 26))))) (.sl (.var 3) (.one (.var 4)) .abs)))
    [some (.val (.adr i)), some (.val (.int many)), some (.val (.str (tx az))), some (.val (.str (tx w))), some (.val (.int k)), some (.val (.int r3)), none] ((List.range many.toNat).map fun (k : Nat) => D.int k) [] (m.set i b4) = some (.fr (.bx ((List.range many.toNat).map fun j => .str (tx (nmL w k r3 j)))), ⟨[some (.val (.adr i)), some (.val (.int many)), some (.val (.str (tx az))), some (.val (.str (tx w))), some (.val (.int k)), some (.val (.int r3)), none], m.set i b4⟩) := by
    have e := compL_all (st := store (.tn 6)) (cd := ev (Pn Cd Gm n) Gm (.cst (.bl true))) (el := ev (Pn Cd Gm n) Gm (.bop .add (.bop .add (.sl (.var 3) .abs (.one (.var 4))) (.ix (.var 2) (.bop .mod (.bi .int (.cns (.bop .add (.var 5) (.bop .mul (.cst (.int 7)) (.var 6))) .nil)) (.cst (.int 26))))) (.sl (.var 3) (.one (.var 4)) .abs))) (r := [some (.val (.adr i)), some (.val (.int many)), some (.val (.str (tx az))), some (.val (.str (tx w))), some (.val (.int k)), some (.val (.int r3)), none])
        (fun d => match d with
          | .int j => .str (tx (w.take k ++ [az.getD (((r3 : Int) + 7 * j) % 26).toNat 0] ++ w.drop k))
          | _ => .non) ((List.range many.toNat).map fun (k : Nat) => D.int k) [] (m.set i b4) (by
          intro d hd
          obtain ⟨j, _, rfl⟩ := List.mem_map.mp hd
          have q := ix_tx (l := az) (x := ((r3 : Int) + 7 * (j : Int)) % 26) ⟨[some (.val (.adr i)), some (.val (.int many)), some (.val (.str (tx az))), some (.val (.str (tx w))), some (.val (.int k)), some (.val (.int r3)), some (.val (.int j))], m.set i b4⟩ (by omega) (by rw [az_len]; omega) (by rw [az_len]; omega)
          have v1 : min k w.length + 1 ≤ 16777216 := by omega
          have v2 : min k w.length + 1 + (w.length - k) ≤ 16777216 := by omega
          simp [store, tx_len, u3, tx_to, tx_from, q, tx_cat, v1, v2]) (by simp; unfold big; omega)
    rw [e, List.nil_append, List.map_map]
    congr 4
  have u4 : many < 4611686018427387904 := by omega
  have u5 : -4611686018427387904 ≤ many := by omega
  refine ⟨w, k, r3, b4, ?_, f4, by omega, by omega, hw, by omega⟩
  simp [c_law_new_names, store, storeAll, ini, e1, p1, u1, u2, valR, wipeR, e2, e3, u3, tx_len, e4, e5, u4, u5, e6]
theorem nmL_len {w : List Nat} {k r j : Nat} (h : k ≤ w.length) : (nmL w k r j).length = w.length + 1 := by
  unfold nmL
  simp
  omega
theorem nmL_az {w : List Nat} {k r j : Nat} (hw : ∀ c ∈ w, c ∈ az) : ∀ c ∈ nmL w k r j, c ∈ az := by
  intro c hc
  unfold nmL at hc
  simp only [List.mem_append, List.mem_singleton] at hc
  rcases hc with (hc | rfl) | hc
  · exact hw c (List.mem_of_mem_take hc)
  · exact getD_mem (by rw [az_len]; omega)
  · exact hw c (List.mem_of_mem_drop hc)
theorem az_at {i : Nat} (h : i < 26) : az.getD i 0 = 97 + i := by
  have : ∀ i : Fin 26, az.getD i.val 0 = 97 + i.val := by decide
  exact this ⟨i, h⟩
theorem nmL_at {w : List Nat} {k r j : Nat} (h : k ≤ w.length) : (nmL w k r j)[k]? = some (97 + (r + 7 * j) % 26) := by
  unfold nmL
  rw [List.append_assoc, List.getElem?_append_right (by simp; omega)]
  rw [List.length_take, Nat.min_eq_left h, Nat.sub_self, az_at (by omega)]
  rfl
theorem nmL_inj {w : List Nat} {k r i j : Nat} (h : k ≤ w.length) (hi : i < 26) (hj : j < 26) (e : nmL w k r i = nmL w k r j) : i = j := by
  have := nmL_at (r := r) (j := i) h
  rw [e, nmL_at h] at this
  have := Option.some.inj this
  omega
theorem nmL_nm {w : List Nat} {k r j : Nat} (h4 : w.length ≤ 4) (h : k ≤ w.length) (hw : ∀ c ∈ w, c ∈ az) : NmD (.str (tx (nmL w k r j))) :=
  ⟨_, rfl, by rw [nmL_len h]; omega, by rw [nmL_len h]; omega, nmL_az hw⟩
theorem names_ok (hc : Cd 14 = some ⟨7, 2, c_law_new_names, id, none⟩) (ho : Cd 12 = some ⟨2, 2, c_law_of, id, none⟩) (ht : Cd 11 = some ⟨6, 2, c_law_take, id, none⟩) (n : Nat) (hn : 3 ≤ n) {m : List MO} {i : Nat} {b : MO} {many : Int} (hm : m[i]? = some b) (hb : FdB b) (hm0 : 0 ≤ many) (hmy : many ≤ 1000) :
    ∃ (ds : List D) (b' : MO), Pn Cd Gm n 14 [.adr i, .int many] m = some (.fr (.bx ds), m.set i b') ∧ FdB b' ∧ ds.length = many.toNat ∧ ∀ d ∈ ds, NmD d := by
  obtain ⟨w, k, r, b', e, f, h4, hk, hw, _⟩ := names_okx (Gm := Gm) hc ho ht n hn hm hb hm0 hmy
  refine ⟨_, b', e, f, by simp, fun d hd => ?_⟩
  obtain ⟨j, _, rfl⟩ := List.mem_map.mp hd
  exact nmL_nm h4 hk hw
end
end En

namespace En
open PySem PySem.Spec L2
section
variable {Cd : Nat → Option Ent} {Gm : Nat → D}
/-- a word, as the document has it -/
def isWord : D → Bool
  | .str z => decide (1 ≤ z.length ∧ z.length ≤ 6) && z.cps.toList.all fun c => decide (c ∈ az)
  | _ => false
def isDate : D → Bool
  | .int i => decide (0 ≤ i ∧ i ≤ 9999)
  | _ => false
/-- values whose kind is_word can tell -/
def tellD : D → Bool
  | .str z => decide (z.length ≤ 16777216)
  | .obj _ _ _ => false
  | .adr _ => false
  | .fzl _ => false
  | _ => true
theorem word_ok (hc : Cd 0 = some ⟨2, 1, c_is_word, id, none⟩) (g0 : Gm 0 = .str (tx az)) (g1 : Gm 1 = .int 6) (n : Nat) (hn : 1 ≤ n) (d : D) (m : List MO) (hd : tellD d = true) : Pn Cd Gm n 0 [d] m = some (.val (.bl (isWord d)), m) := by
  obtain ⟨n, rfl⟩ : ∃ n', n = n' + 1 := ⟨n - 1, by omega⟩
  rw [Pn_def hc]
  cases d with
  | str z =>
    have hz : z.length ≤ 16777216 := by simpa [tellD] using hd
    by_cases h1 : 1 ≤ z.length
    · by_cases h2 : z.length ≤ 6
      · have e := compL_all (st := store (.tn 1)) (cd := ev (Pn Cd Gm n) Gm (.cst (.bl true))) (el := ev (Pn Cd Gm n) Gm (.cmp .isin (.var 1) (.gv 0))) (r := [some (.val (.str z)), none]) (fun d => match d with
          | .str a => .bl (a.cps.toList.all fun c => decide (c ∈ az))
          | _ => .non) (z.cps.toList.map fun c => D.str ⟨#[c]⟩) [] m (fun d hd => by
            obtain ⟨c, _, rfl⟩ := List.mem_map.mp hd
            simp [store, g0]) (by
            have : z.cps.toList.length = z.length := by simp [Str.length]
            simp only [List.length_nil, List.length_map, Nat.zero_add, this]
            exact hz)
        have e2 : ∀ l : List Nat, blsOf ((l.map fun c => D.str ⟨#[c]⟩).map (fun d => match d with
          | .str a => .bl (a.cps.toList.all fun c => decide (c ∈ az))
          | _ => .non)) = some (l.map fun c => decide (c ∈ az)) := by
          intro l
          induction l with
          | nil => rfl
          | cons c l ih => simp only [List.map_cons, blsOf, ih]; simp
        have e3 := all_l (s := ⟨[some (.val (.str z)), none], m⟩) (e2 z.cps.toList)
        obtain ⟨ws, e, e3⟩ : ∃ ws, compL (store (.tn 1)) (ev (Pn Cd Gm n) Gm (.cst (.bl true))) (ev (Pn Cd Gm n) Gm (.cmp .isin (.var 1) (.gv 0))) [some (.val (.str z)), none] (z.cps.toList.map fun c => D.str ⟨#[c]⟩) [] m = some (.fr (.bx ws), ⟨[some (.val (.str z)), none], m⟩) ∧
          biF .all [.lst ws] ⟨[some (.val (.str z)), none], m⟩ = some (.val (.bl (isWord (.str z))), ⟨[some (.val (.str z)), none], m⟩) := by
          refine ⟨_, e, ?_⟩
          rw [List.nil_append, e3]
          have q : (List.map (fun c => decide (c ∈ az)) z.cps.toList).all id = isWord (.str z) := by
            show _ = (decide (1 ≤ z.length ∧ z.length ≤ 6) && z.cps.toList.all fun c => decide (c ∈ az))
            rw [decide_eq_true (And.intro h1 h2), Bool.true_and, List.all_map]
            rfl
          rw [q]
        have i1 : (1 : Int) ≤ z.length := by omega
        have i2 : (z.length : Int) ≤ 6 := by omega
        simp [c_is_word, ini, tyAny, tyIs, hz, i1, i2, g1, valR, wipeR, itemsOf, e, e3]
      · have i1 : (1 : Int) ≤ z.length := by omega
        have i2 : ¬ (z.length : Int) ≤ 6 := by omega
        have w : isWord (.str z) = false := by simp [isWord, h2]
        simp [c_is_word, ini, tyAny, tyIs, hz, i1, i2, g1, w]
    · have i1 : ¬ (1 : Int) ≤ z.length := by omega
      have w : isWord (.str z) = false := by simp [isWord, h1]
      simp [c_is_word, ini, tyAny, tyIs, hz, i1, g1, w]
  | _ => first | (cases hd; done) | simp [c_is_word, ini, tyAny, tyIs, isWord]
theorem date_ok (hc : Cd 2 = some ⟨1, 1, c_is_date, id, none⟩) (hk : Cd 1 = some ⟨3, 3, c_is_number, id, none⟩) (g2 : Gm 2 = .int 9999) (n : Nat) (hn : 2 ≤ n) (d : D) (m : List MO) (hd : tellD d = true) : Pn Cd Gm n 2 [d] m = some (.val (.bl (isDate d)), m) := by
  obtain ⟨n, rfl⟩ : ∃ n', n = n' + 2 := ⟨n - 2, by omega⟩
  have key : Pn Cd Gm (n + 1) 1 [d, .int 0, .int 9999] m = some (.val (.bl (isDate d)), m) := by
    rw [Pn_def hk]
    cases d with
    | int i =>
      by_cases h1 : 0 ≤ i
      · simp [c_is_number, ini, tyAny, tyIs, h1, isDate]
      · simp [c_is_number, ini, tyAny, tyIs, h1, isDate]
    | _ => first | (cases hd; done) | simp [c_is_number, ini, tyAny, tyIs, isDate]
  rw [Pn_def hc]
  simp [c_is_date, ini, g2, key]
end
end En

namespace En
open PySem PySem.Spec L2
theorem TabS.at {Cd : Nat → Option Ent} {l : List Nat} (T : TabS CdS Cd l) (f : Nat) {e : Ent} (hf : f ∈ l := by decide) (he : CdS f = some e := by rfl) : Cd f = some e := (T f hf).trans he
theorem ints_rp {x : SX} {G : Hp} {io : List Addr} : ∀ ns : List Int, RpL x G io (ns.map D.int) (ns.map V.int)
  | [] => rfl
  | n :: ns => ⟨.int n, _, rfl, rfl, ints_rp ns⟩
/-! ### a for over few things -/
section
variable {st : D → S → Option S} {body : S → Res} {s : S}
def forR2 (st : D → S → Option S) (body : S → Res) (ds : List D) : Res → Res
  | some (.nx, s2) => forL st body ds s2
  | some (.ct, s2) => forL st body ds s2
  | some (.bk, s2) => some (.nx, s2)
  | r => r
def forR1 (st : D → S → Option S) (body : S → Res) (ds : List D) : Option S → Res
  | some s => forR2 st body ds (body s)
  | none => none
theorem forL_nil : forL st body [] s = some (.nx, s) := by rw [forL]
theorem forL_cons {d : D} {ds : List D} : forL st body (d :: ds) s = forR1 st body ds (st d s) := by
  rw [forL]
  unfold forR1 forR2
  cases st d s with
  | none => rfl
  | some s1 =>
    show (match body s1 with
      | some (.nx, s2) => forL st body ds s2
      | some (.ct, s2) => forL st body ds s2
      | some (.bk, s2) => some (.nx, s2)
      | r => r) = forR2 st body ds (body s1)
    unfold forR2
    cases body s1 with
    | none => rfl
    | some p =>
      obtain ⟨o, s2⟩ := p
      cases o <;> rfl
@[simp] theorem forR1_eq {ds : List D} : forR1 st body ds (some s) = forR2 st body ds (body s) := rfl
@[simp] theorem forR2_nx {ds : List D} : forR2 st body ds (some (.nx, s)) = forL st body ds s := rfl
@[simp] theorem forR2_ct {ds : List D} : forR2 st body ds (some (.ct, s)) = forL st body ds s := rfl
@[simp] theorem forR2_bk {ds : List D} : forR2 st body ds (some (.bk, s)) = some (.nx, s) := rfl
@[simp] theorem forR2_rt {ds : List D} {x : D} : forR2 st body ds (some (.rt x, s)) = some (.rt x, s) := rfl
@[simp] theorem forR2_rtf {ds : List D} {x : MO} : forR2 st body ds (some (.rtf x, s)) = some (.rtf x, s) := rfl
@[simp] theorem forR2_exc {ds : List D} {c : Nat} {ns : List Nat} {es : List D} : forR2 st body ds (some (.exc c ns es, s)) = some (.exc c ns es, s) := rfl
def cmpR3 (st : D → S → Option S) (cd el : S → Res) (r : List (Option Cell)) (ds acc : List D) (y : D) (s : S) : Res := if acc.length < big then compL st cd el r ds (acc ++ [y]) s.m else none
def cmpR2 (st : D → S → Option S) (cd el : S → Res) (r : List (Option Cell)) (ds acc : List D) (c : D) (s : S) : Res := match c with
  | .bl true => bnd (el s) (cmpR3 st cd el r ds acc)
  | .bl false => compL st cd el r ds acc s.m
  | _ => none
def cmpR1 (st : D → S → Option S) (cd el : S → Res) (r : List (Option Cell)) (ds acc : List D) : Option S → Res
  | some s => bnd (cd s) (cmpR2 st cd el r ds acc)
  | none => none
variable {cd el : S → Res} {r : List (Option Cell)} {ds acc : List D} {m : List MO}
theorem compL_nil : compL st cd el r [] acc m = some (.fr (.bx acc), ⟨r, m⟩) := by rw [compL]
theorem compL_cons {d : D} : compL st cd el r (d :: ds) acc m = cmpR1 st cd el r ds acc (st d ⟨r, m⟩) := by
  rw [compL]
  unfold cmpR1
  cases st d ⟨r, m⟩ <;> rfl
@[simp] theorem cmpR1_eq : cmpR1 st cd el r ds acc (some s) = bnd (cd s) (cmpR2 st cd el r ds acc) := rfl
@[simp] theorem cmpR2_t : cmpR2 st cd el r ds acc (.bl true) s = bnd (el s) (cmpR3 st cd el r ds acc) := rfl
@[simp] theorem cmpR2_f : cmpR2 st cd el r ds acc (.bl false) s = compL st cd el r ds acc s.m := rfl
@[simp] theorem cmpR3_eq {y : D} (h : acc.length < 16777216) : cmpR3 st cd el r ds acc y s = compL st cd el r ds (acc ++ [y]) s.m := if_pos h
/-- a cell as a comprehension sees it -/
def valC : Option Cell → Option Cell
  | some (.val d) => some (.val d)
  | _ => none
theorem valR_nil : valR [] = [] := rfl
theorem valR_cons {c : Option Cell} {r : List (Option Cell)} : valR (c :: r) = valC c :: valR r := by
  cases c with
  | none => rfl
  | some c => cases c <;> rfl
@[simp] theorem valC_v {d : D} : valC (some (.val d)) = some (.val d) := rfl
@[simp] theorem valC_n : valC none = none := rfl
end
section
variable {Cd : Nat → Option Ent}
@[simp] theorem frz_obl {lk : Bool} {m l : List MO} {n c : Nat} {ns : List Nat} {ds : List D} : frz lk (m ++ (.ob c ns ds :: l)) m.length (n + 1) m.length = (mapDs (frz lk (m ++ (.ob c ns ds :: l)) m.length n) ds).map (D.obj c ns) := frz_ob (Nat.lt_irrefl _) at_last
@[simp] theorem frz_bxl {lk : Bool} {m l : List MO} {n : Nat} {ds : List D} : frz lk (m ++ (.bx ds :: l)) m.length (n + 1) m.length = (mapDs (frz lk (m ++ (.bx ds :: l)) m.length n) ds).map D.lst := frz_bx (Nat.lt_irrefl _) at_last
/-- a label -/
def lab (k w b f l : D) : D := .obj 0 [0, 1, 2, 3, 4] [k, w, b, f, l]
theorem isWord_str {d : D} (h : isWord d = true) : ∃ z : Str, d = .str z ∧ 1 ≤ z.length ∧ z.length ≤ 6 := by
  cases d with
  | str z =>
    simp only [isWord, Bool.and_eq_true, decide_eq_true_eq] at h
    exact ⟨z, rfl, h.1.1, h.1.2⟩
  | _ => cases h
theorem isWord_tell {d : D} (h : isWord d = true) : tellD d = true := by
  obtain ⟨z, rfl, _, h2⟩ := isWord_str h
  show decide (z.length ≤ 16777216) = true
  exact decide_eq_true (by omega)
theorem label_ok (T : TabS CdS Cd [0, 1, 2, 1000]) {fid N0 p0 : Nat} {c0 : E} {g : List D → List D} (hf : Cd fid = some ⟨N0, p0, c0, g, some (0, 1000)⟩) (n : Nat) (hn : 3 ≤ n) {ds : List D} {m : List MO} {k w b l : D} {f : Int}
    (e : g ds = [k, w, b, .int f, l]) (hk : isWord k = true) (hw : isWord w = true) (hb : isWord b = true) (hf0 : 0 ≤ f) (hf1 : f ≤ 9999) {i : Int} (hl : (l = .non ∧ i = f) ∨ (l = .int i ∧ f ≤ i ∧ i ≤ 9999)) :
    Pn Cd GmS n fid ds m = some (.val (lab k w b (.int f) (.int i)), m) := by
  obtain ⟨n, rfl⟩ : ∃ n', n = n' + 1 := ⟨n - 1, by omega⟩
  have w0 := fun (d : D) (m : List MO) (h : isWord d = true) => h ▸ word_ok (Gm := GmS) (T.at 0) rfl rfl n (by omega) d m (isWord_tell h)
  have d0 := fun (i : Int) (m : List MO) => date_ok (Gm := GmS) (T.at 2) (T.at 1) rfl n (by omega) (.int i) m rfl
  have df : isDate (.int f) = true := decide_eq_true ⟨hf0, hf1⟩
  obtain ⟨k, rfl, _⟩ := isWord_str hk
  obtain ⟨w, rfl, _⟩ := isWord_str hw
  obtain ⟨b, rfl, _⟩ := isWord_str hb
  rw [Pn_mk hf (T.at 1000), e]
  rcases hl with ⟨rfl, rfl⟩ | ⟨rfl, h1, h2⟩
  · simp [c_Label_init, ini, itemsOf, forL_cons, forL_nil, store, w0 _ _ hk, w0 _ _ hw, w0 _ _ hb, d0, df, kNin, kIsn, lab]
  · have di : isDate (.int i) = true := decide_eq_true ⟨by omega, h2⟩
    have h3 : ¬ i < f := by omega
    simp [c_Label_init, ini, itemsOf, forL_cons, forL_nil, store, w0 _ _ hk, w0 _ _ hw, w0 _ _ hb, d0, df, di, h3, kNin, kIsn, lab]
@[simp] theorem app_empty (x : Str) : x ++ Str.empty = x := by
  have h := tx_cat x.cps.toList []
  rw [tx_tl, List.append_nil, tx_tl] at h
  exact h
theorem lg_small {i : Int} (h0 : -100000000 ≤ i) (h1 : i ≤ 100000000) : i.natAbs.log2 < 1920 := by
  by_cases h : i.natAbs = 0
  · rw [h]; decide
  · rw [Nat.log2_lt h]
    have : i.natAbs < 2 ^ 27 := by omega
    exact Nat.lt_trans this (Nat.pow_lt_pow_right (by decide) (by decide))
@[simp] theorem str_i {i : Int} {s : S} (h : i.natAbs.log2 < 1920) : biF .str [.int i] s = some (.val (.str (toString i : String)), s) := if_pos h
/-! ### a label's methods -/
theorem exact_ok (T : TabS CdS Cd [2033]) (n : Nat) (hn : 1 ≤ n) {m : List MO} {k w b : D} {f l : Int} : Pn Cd GmS n 2033 [lab k w b (.int f) (.int l)] m = some (.val (.bl (f == l)), m) := by
  obtain ⟨n, rfl⟩ : ∃ n', n = n' + 1 := ⟨n - 1, by omega⟩
  rw [Pn_def (T.at 2033)]
  simp [c_Label_is_exact, ini, gdF, lay, Src.at, lab]
/-- a number in a range -/
def isIn (f l : Int) : D → Bool
  | .int i => decide (f ≤ i ∧ i ≤ l)
  | _ => false
/-- values whose kind can be asked for -/
def tellN : D → Bool
  | .obj _ _ _ => false
  | .adr _ => false
  | .fzl _ => false
  | _ => true
section
variable {b : Bool} {i f l : Int} {z : Str} {ds : List D}
@[simp] theorem tellN_n : tellN .non = true := id rfl
@[simp] theorem tellN_b : tellN (.bl b) = true := id rfl
@[simp] theorem tellN_i : tellN (.int i) = true := id rfl
@[simp] theorem tellN_s : tellN (.str z) = true := id rfl
@[simp] theorem tellN_l : tellN (.lst ds) = true := id rfl
@[simp] theorem tellN_t : tellN (.tup ds) = true := id rfl
@[simp] theorem isIn_n : isIn f l .non = false := id rfl
@[simp] theorem isIn_b : isIn f l (.bl b) = false := id rfl
@[simp] theorem isIn_s : isIn f l (.str z) = false := id rfl
@[simp] theorem isIn_l : isIn f l (.lst ds) = false := id rfl
@[simp] theorem isIn_t : isIn f l (.tup ds) = false := id rfl
end
theorem number_ok (T : TabS CdS Cd [1]) (n : Nat) (hn : 1 ≤ n) (d : D) (m : List MO) (f l : Int) (hd : tellN d = true) : Pn Cd GmS n 1 [d, .int f, .int l] m = some (.val (.bl (isIn f l d)), m) := by
  obtain ⟨n, rfl⟩ : ∃ n', n = n' + 1 := ⟨n - 1, by omega⟩
  rw [Pn_def (T.at 1)]
  cases d with
  | int i =>
    by_cases h1 : f ≤ i
    · simp [c_is_number, ini, tyAny, tyIs, h1, isIn]
    · simp [c_is_number, ini, tyAny, tyIs, h1, isIn]
  | _ => first | (cases hd; done) | simp [c_is_number, ini, tyAny, tyIs, isIn]
theorem maybe_ok (T : TabS CdS Cd [1, 2034]) (n : Nat) (hn : 2 ≤ n) {m : List MO} {k w b d : D} {f l : Int} (hd : tellN d = true) : Pn Cd GmS n 2034 [lab k w b (.int f) (.int l), d] m = some (.val (.bl (isIn f l d)), m) := by
  obtain ⟨n, rfl⟩ : ∃ n', n = n' + 1 := ⟨n - 1, by omega⟩
  have h := fun m => number_ok (T.sub (l' := [1]) rfl) n (by omega) d m f l hd
  rw [Pn_def (T.at 2034)]
  simp [c_Label_may_be, ini, gdF, lay, Src.at, lab, h]
theorem parts_ok (T : TabS CdS Cd [2035]) (n : Nat) (hn : 1 ≤ n) {m : List MO} {k w b f l : D} : Pn Cd GmS n 2035 [lab k w b f l] m = some (.val (.tup [k, w, b, f, l]), m) := by
  obtain ⟨n, rfl⟩ : ∃ n', n = n' + 1 := ⟨n - 1, by omega⟩
  rw [Pn_def (T.at 2035)]
  simp [c_Label_parts, ini, gdF, lay, Src.at, lab]
theorem labEq_ok (T : TabS CdS Cd [2005, 2035]) (n : Nat) (hn : 2 ≤ n) {m : List MO} {k w b k' w' b' : Str} {f l f' l' : Int} : Pn Cd GmS n 2005 [lab (.str k) (.str w) (.str b) (.int f) (.int l), lab (.str k') (.str w') (.str b') (.int f') (.int l')] m =
    some (.val (.bl (k == k' && (w == w' && (b == b' && (f == f' && l == l'))))), m) := by
  obtain ⟨n, rfl⟩ : ∃ n', n = n' + 1 := ⟨n - 1, by omega⟩
  have h := fun {m k w b f l} => parts_ok (T.sub (l' := [2035]) rfl) n (by omega) (m := m) (k := k) (w := w) (b := b) (f := f) (l := l)
  simp only [lab] at h
  rw [Pn_def (T.at 2005)]
  simp [c_Label_eq, ini, gdF, lay, Src.at, lab, h, tyAny, tyIs, subC, t_parts_0]
theorem labNe_ok (T : TabS CdS Cd [2005]) (n : Nat) (hn : 1 ≤ n) {m : List MO} {x d : D} (hd : ∀ s : S, tyAny (s.v d) [.own 0] = some false) : Pn Cd GmS n 2005 [x, d] m = some (.val (.bl false), m) := by
  obtain ⟨n, rfl⟩ : ∃ n', n = n' + 1 := ⟨n - 1, by omega⟩
  rw [Pn_def (T.at 2005)]
  simp [c_Label_eq, ini, gdF, lay, Src.at, hd]
theorem labRepr_ok (T : TabS CdS Cd [2024]) (n : Nat) (hn : 1 ≤ n) {m : List MO} {k w b f l : D} (hk : isWord k = true) (hw : isWord w = true) :
    ∃ k' w', k = .str k' ∧ w = .str w' ∧ Pn Cd GmS n 2024 [lab k w b f l] m = some (.val (.str (tx [76, 97, 98, 101, 108, 40] ++ (k' ++ (tx [32] ++ (w' ++ tx [41]))))), m) := by
  obtain ⟨n, rfl⟩ : ∃ n', n = n' + 1 := ⟨n - 1, by omega⟩
  obtain ⟨k, rfl, _, k2⟩ := isWord_str hk
  obtain ⟨w, rfl, _, w2⟩ := isWord_str hw
  refine ⟨k, w, rfl, rfl, ?_⟩
  have h1 : k.length ≤ 100000 := by omega
  have h2 : w.length ≤ 100000 := by omega
  rw [Pn_def (T.at 2024)]
  simp [c_Label_repr, ini, gdF, lay, Src.at, lab, tx_len, h1, h2]
end
end En

namespace En
open PySem PySem.Spec L2
section
variable {Cd : Nat → Option Ent}
/-- words: each one of three names -/
theorem words_ok (T : TabS CdS Cd [11, 12, 14, 238]) (n : Nat) (hn : 4 ≤ n) {m : List MO} {i : Nat} {b : MO} {many : Int} (hm : m[i]? = some b) (hb : FdB b) (h0 : 0 ≤ many) (h1 : many ≤ 1000) :
    ∃ (ys : List D) (b' : MO), Pn Cd GmS n 238 [.adr i, .int many] m = some (.fr (.bx ys), m.set i b') ∧ FdB b' ∧ ys.length = many.toNat ∧ ∀ y ∈ ys, NmD y := by
  obtain ⟨n, rfl⟩ : ∃ n', n = n' + 1 := ⟨n - 1, by omega⟩
  obtain ⟨w, k, r, b1, e1, f1, w1, w2, w3, w4⟩ := names_okx (Gm := GmS) (T.at 14) (T.at 12) (T.at 11) n (by omega) (many := 3) hm hb (by omega) (by omega)
  obtain ⟨ys, m2, e2, l2, q2, b2, rfl, f2⟩ := compL_inv (st := store (.tn 3)) (cd := ev (Pn Cd GmS n) GmS (.cst (.bl true))) (el := ev (Pn Cd GmS n) GmS (.ix (.var 2) (.cal 11 (.cns (.var 0) (.cns (.cst (.int 3)) .nil))))) (r := [some (.val (.adr i)), some (.val (.int many)), some (.val (.lst ((List.range 3).map fun j => .str (tx (nmL w k r j))))), none])
    (Fdm i m) NmD ((List.range many.toNat).map fun (k : Nat) => D.int k) [] (m.set i b1) ⟨b1, rfl, f1⟩ (by
      rintro d hd m' ⟨b2, rfl, f2⟩
      obtain ⟨q, b3, e3, f3, p1, p2⟩ := take_b (Gm := GmS) (T.at 11) n (by omega) (many := 3) (store_len (b' := b2) hm) f2 (by omega) (by omega)
      rw [List.set_set] at e3
      obtain ⟨j, rfl⟩ : ∃ j : Nat, q = j := ⟨q.toNat, by omega⟩
      have e4 : atI ((List.range 3).map fun j => D.str (tx (nmL w k r j))) (j : Int) = some (.str (tx (nmL w k r j))) := by
        match j, p2 with
        | 0, _ => rfl
        | 1, _ => rfl
        | 2, _ => rfl
      simp [store, e3, e4]
      exact ⟨_, _, ⟨rfl, rfl⟩, ⟨b3, rfl, f3⟩, nmL_nm w1 w2 w3⟩) (by simp; unfold big; omega)
  refine ⟨ys, b2, ?_, f2, by simpa using l2, q2⟩
  rw [Pn_def (T.at 238)]
  have u1 : -4611686018427387904 ≤ many := by omega
  have u2 : many < 4611686018427387904 := by omega
  simp [c_law_words, ini, e1, e2, u1, u2, valR, wipeR]
/-- a row of a book's spec -/
structure Row where
  k : List Nat
  w : List Nat
  b : List Nat
  f : Int
  l : Int
  deriving DecidableEq
def Row.d (r : Row) : D := .tup [.str (tx r.k), .str (tx r.w), .str (tx r.b), .int r.f, .int r.l]
theorem keys_ok (T : TabS CdS Cd [116]) (n : Nat) (hn : 2 ≤ n) {m : List MO} {a c d : D} {R : List Row} (hR : R.length ≤ 1000) :
    Pn Cd GmS n 116 [.tup [a, .lst (R.map Row.d), c, d]] m = some (.fr (.bx (R.map fun r => .str (tx r.k))), m) := by
  obtain ⟨n, rfl⟩ : ∃ n', n = n' + 1 := ⟨n - 1, by omega⟩
  have e := compL_all (st := store (.tn 1)) (cd := ev (Pn Cd GmS n) GmS (.cst (.bl true))) (el := ev (Pn Cd GmS n) GmS (.ix (.var 1) (.cst (.int 0)))) (r := [some (.val (.tup [a, .lst (R.map Row.d), c, d])), none])
    (fun x => match x with
      | .tup (k :: _) => k
      | _ => .non) (R.map Row.d) [] m (by
      intro x hx
      obtain ⟨r, _, rfl⟩ := List.mem_map.mp hx
      simp [store, Row.d, atI, ixN]) (by simp; unfold big; omega)
  rw [Pn_def (T.at 116)]
  simp [c_law_keys, ini, atI, ixN, valR, wipeR, e]
  exact fun r _ => rfl
def Row.lab (r : Row) : D := En.lab (.str (tx r.k)) (.str (tx r.w)) (.str (tx r.b)) (.int r.f) (.int r.l)
/-- what Label takes -/
def Row.ok (r : Row) : Prop := isWord (.str (tx r.k)) = true ∧ isWord (.str (tx r.w)) = true ∧ isWord (.str (tx r.b)) = true ∧ 0 ≤ r.f ∧ r.f ≤ r.l ∧ r.l ≤ 9999
theorem labels_ok (T : TabS CdS Cd [0, 1, 2, 114, 1000, 2003]) (n : Nat) (hn : 4 ≤ n) {m : List MO} {a c d : D} {R : List Row} (hR : R.length ≤ 1000) (ok : ∀ r ∈ R, r.ok) :
    Pn Cd GmS n 114 [.tup [a, .lst (R.map Row.d), c, d]] m = some (.fr (.bx (R.map Row.lab)), m) := by
  obtain ⟨n, rfl⟩ : ∃ n', n = n' + 1 := ⟨n - 1, by omega⟩
  have e := compL_all (st := store (.tn 1)) (cd := ev (Pn Cd GmS n) GmS (.cst (.bl true))) (el := ev (Pn Cd GmS n) GmS (.calk 2003 5 (.cns (.ix (.var 1) (.cst (.int 0))) (.cns (.ix (.var 1) (.cst (.int 1))) (.cns (.ix (.var 1) (.cst (.int 2))) (.cns (.ix (.var 1) (.cst (.int 3))) (.cns (.ix (.var 1) (.cst (.int 4))) .nil))))) 0 .nil)) (r := [some (.val (.tup [a, .lst (R.map Row.d), c, d])), none])
    (fun x => match x with
      | .tup [k, w, b, f, l] => lab k w b f l
      | _ => .non) (R.map Row.d) [] m (by
      intro x hx
      obtain ⟨r, hr, rfl⟩ := List.mem_map.mp hx
      obtain ⟨o1, o2, o3, o4, o5, o6⟩ := ok r hr
      have q := label_ok (T.sub (l' := [0, 1, 2, 1000]) rfl) (T.at 2003) n (by omega) (m := m) (ds := [.str (tx r.k), .str (tx r.w), .str (tx r.b), .int r.f, .int r.l]) rfl o1 o2 o3 o4 (by omega) (.inr ⟨rfl, o5, o6⟩)
      simp [store, Row.d, atI, ixN, q]) (by simp; unfold big; omega)
  rw [Pn_def (T.at 114)]
  simp [c_law_labels, ini, atI, ixN, valR, wipeR, e]
  exact fun r _ => rfl
end
end En

namespace En
open PySem PySem.Spec L2
abbrev sD (l : List Nat) : D := .str (tx l)
abbrev sK (l : List Nat) : Key := .inr (tx l)
theorem sK_inj {a b : List Nat} : (sK a = sK b) ↔ a = b := ⟨fun h => tx_inj.mp (Sum.inr.inj h), fun h => by rw [h]⟩
@[simp] theorem tx_beq {a b : List Nat} : (tx a == tx b) = decide (a = b) := by
  by_cases h : a = b
  · subst h; simp
  · rw [decide_eq_false h]
    exact beq_false_of_ne fun e => h (tx_inj.mp e)
/-! ### stores that a new thing does not touch -/
def Clo (n : Nat) (o : MO) : Prop := ∀ f : Nat → Option D, (∀ j, j < n → f j = some (.adr j)) → mapDs f o.ds = some o.ds
def ClM (m : List MO) : Prop := ∀ o ∈ m, Clo m.length o
theorem Clo.fz {n : Nat} {o : MO} (h : Clo n o) (lk : Bool) (m : List MO) {k : Nat} (hk : n ≤ k) : frzM lk m k o = some o := by
  have e := h (frz lk m k 16) fun j hj => frz_low (by omega)
  cases o with
  | bx ds => show (mapDs _ ds).map MO.bx = _; rw [show mapDs (En.frz lk m k 16) ds = some ds from e]; rfl
  | ob c ns ds => show (mapDs _ ds).map (MO.ob c ns) = _; rw [show mapDs (En.frz lk m k 16) ds = some ds from e]; rfl
  | dx ks ds => show (mapDs _ ds).map (MO.dx ks) = _; rw [show mapDs (En.frz lk m k 16) ds = some ds from e]; rfl
  | dl ks ds => show (mapDs _ ds).map (MO.dl ks) = _; rw [show mapDs (En.frz lk m k 16) ds = some ds from e]; rfl
  | ll ds => show (mapDs _ ds).map MO.ll = _; rw [show mapDs (En.frz lk m k 16) ds = some ds from e]; rfl
theorem mapO_app {α β : Type} {f : α → Option β} : ∀ {as as' : List α} {bs bs' : List β}, mapO f as = some bs → mapO f as' = some bs' → mapO f (as ++ as') = some (bs ++ bs')
  | [], _, _, _, h, h' => by cases h; exact h'
  | a :: as, as', bs, bs', h, h' => by
    simp only [mapO] at h
    split at h
    · cases h
    · rename_i b e1
      split at h
      · cases h
      · rename_i bs2 e2
        cases h
        show (match f a with
          | none => none
          | some b => match mapO f (as ++ as') with
            | none => none
            | some bs => some (b :: bs)) = _
        rw [e1, mapO_app e2 h']
        rfl
theorem mapO_id {α : Type} {f : α → Option α} : ∀ {as : List α}, (∀ a ∈ as, f a = some a) → mapO f as = some as
  | [], _ => rfl
  | a :: as, h => by
    show (match f a with
      | none => none
      | some b => match mapO f as with
        | none => none
        | some bs => some (b :: bs)) = _
    rw [h a (List.mem_cons_self ..), mapO_id fun x hx => h x (List.mem_cons_of_mem _ hx)]
/-- an object at the store's end that was filled, with new things behind it -/
theorem stow_ob {lk : Bool} {m l : List MO} {ob0 ob1 ob2 : MO} {o : Out} (hm : ClM m) (hl : l ≠ []) (hne : ob1 ≠ ob0) (h : frzM lk (m ++ (ob1 :: l)) (m.length + 1) ob1 = some ob2) :
    stow lk (m ++ [ob0]) (some (o, m ++ (ob1 :: l))) = stwR (some (m ++ [ob2])) (frzO lk (m ++ (ob1 :: l)) (m.length + 1) o) := by
  have hlen : (m ++ [ob0]).length = m.length + 1 := by simp
  unfold stow
  dsimp only
  have hlp : 0 < l.length := by
    cases l with
    | nil => exact absurd rfl hl
    | cons _ _ => simp
  rw [if_neg (by simp; omega), hlen]
  have tk : (m ++ (ob1 :: l)).take (m.length + 1) = m ++ [ob1] := by
    rw [List.take_append, List.take_of_length_le (by omega), Nat.add_sub_cancel_left]
    rfl
  have e : keepM lk (m ++ (ob1 :: l)) (m ++ [ob0]) = some (m ++ [ob2]) := by
    unfold keepM
    rw [hlen, tk, if_neg]
    · refine mapO_app (mapO_id fun a ha => (hm a ha).fz lk _ (by omega)) ?_
      simp only [mapO, h]
    · intro z
      have := List.append_cancel_left z
      injection this with z1
      exact hne z1
  rw [e]
  cases frzO lk (m ++ (ob1 :: l)) (m.length + 1) o <;> rfl
theorem Pu.str (z : Str) : Pu (.str z) := fun _ => rfl
theorem Pu.int (i : Int) : Pu (.int i) := fun _ => rfl
theorem Pu.obj {c : Nat} {ns : List Nat} {ds : List D} (h : ∀ d ∈ ds, Pu d) : Pu (.obj c ns ds) := fun f => by rw [mapD_obj, Pu.all h]; rfl
theorem Pu.lst {ds : List D} (h : ∀ d ∈ ds, Pu d) : Pu (.lst ds) := fun f => by rw [mapD_lst, Pu.all h]; rfl
theorem Pu.tup {ds : List D} (h : ∀ d ∈ ds, Pu d) : Pu (.tup ds) := fun f => by rw [mapD_tup, Pu.all h]; rfl
theorem Pu.dct {ks : List Key} {ds : List D} (h : ∀ d ∈ ds, Pu d) : Pu (.dct ks ds) := fun f => by rw [mapD_dct, Pu.all h]; rfl
theorem Pu.clo {n : Nat} {o : MO} (h : ∀ d ∈ o.ds, Pu d) : Clo n o := fun f _ => Pu.all h f
theorem Pu.strs (l : List (List Nat)) : ∀ d ∈ l.map sD, Pu d := fun d hd => by
  obtain ⟨x, _, rfl⟩ := List.mem_map.mp hd
  exact Pu.str _
theorem Row.pu (r : Row) : Pu r.lab := Pu.obj fun d hd => by
  simp only [List.mem_cons, List.not_mem_nil, or_false] at hd
  rcases hd with rfl | rfl | rfl | rfl | rfl <;> first | exact Pu.str _ | exact Pu.int _
theorem Row.pus (R : List Row) : ∀ d ∈ R.map Row.lab, Pu d := fun d hd => by
  obtain ⟨x, _, rfl⟩ := List.mem_map.mp hd
  exact x.pu
theorem FdB.clo {b : MO} (h : FdB b) (n : Nat) : Clo n b := by
  obtain ⟨cs, k, d, mk, rfl, hI, _⟩ := h
  refine Pu.clo fun x hx => ?_
  simp only [MO.ds, List.mem_cons, List.not_mem_nil, or_false] at hx
  rcases hx with rfl | rfl | rfl | rfl
  · exact Pu.lst fun y hy => by
      obtain ⟨i, rfl⟩ := hI y hy
      exact Pu.int i
  all_goals exact Pu.int _
theorem ClM.nil : ClM [] := fun o h => by cases h
theorem ClM.one {b : MO} (h : Clo 1 b) : ClM [b] := fun o ho => by
  cases List.mem_singleton.mp ho
  exact h
section
variable {Cd : Nat → Option Ent}
@[simp] theorem flat_s {z : Str} : flat (.str z) = true := rfl
@[simp] theorem flat_all (l : List (List Nat)) : (l.map sD).all flat = true := List.all_eq_true.mpr fun d hd => by
  obtain ⟨x, _, rfl⟩ := List.mem_map.mp hd
  rfl
theorem any_sD (l : List (List Nat)) (x : List Nat) : ((l.map sD).any fun z => eqD z (sD x)) = decide (x ∈ l) := by
  rw [Bool.eq_iff_iff, List.any_eq_true, decide_eq_true_eq]
  constructor
  · rintro ⟨d, hd, e⟩
    obtain ⟨y, hy, rfl⟩ := List.mem_map.mp hd
    rw [eqD_s, tx_beq, decide_eq_true_eq] at e
    exact e ▸ hy
  · intro h
    exact ⟨sD x, List.mem_map.mpr ⟨x, h, rfl⟩, by rw [eqD_s, tx_beq, decide_eq_true rfl]⟩
theorem any_sK (l : List (List Nat)) (x : List Nat) : ((l.map sK).any fun a => decide (a = sK x)) = decide (x ∈ l) := by
  rw [Bool.eq_iff_iff, List.any_eq_true, decide_eq_true_eq]
  constructor
  · rintro ⟨d, hd, e⟩
    obtain ⟨y, hy, rfl⟩ := List.mem_map.mp hd
    rw [decide_eq_true_eq, sK_inj] at e
    exact e ▸ hy
  · intro h
    exact ⟨sK x, List.mem_map.mpr ⟨x, h, rfl⟩, decide_eq_true rfl⟩
/-- a list or a tuple of so many things -/
def SeqD (d : D) (ds : List D) : Prop := d = .lst ds ∨ d = .tup ds
theorem listed_ok (T : TabS CdS Cd [111]) (n : Nat) (hn : 1 ≤ n) (m : List MO) {d : D} {ds : List D} (h : SeqD d ds) : Pn Cd GmS n 111 [d] m = some (.val (.bl true), m) := by
  obtain ⟨n, rfl⟩ : ∃ n', n = n' + 1 := ⟨n - 1, by omega⟩
  rw [Pn_def (T.at 111)]
  rcases h with rfl | rfl <;> simp [c_is_listed, ini, tyAny, tyIs]
/-- the lists of things that a book may have -/
def okT (th : List (List Nat)) : Prop := th ≠ [] ∧ th.length ≤ 8 ∧ th.Nodup ∧ ∀ t ∈ th, isWord (sD t) = true
theorem enumF_eq : ∀ (n : Nat) (ds : List D), enumF n ds = (ds.zipIdx n).map fun p => D.tup [.int (p.2 : Nat), p.1]
  | _, [] => rfl
  | n, d :: ds => by rw [enumF, enumF_eq (n + 1) ds]; simp
end
end En

namespace En
open PySem PySem.Spec L2
/-! ### walks by place -/
section
variable {st : D → S → Option S} {body : S → Res}
theorem forL_enm (J : Nat → S → Prop) (ds : List D) (s : S) (h0 : J 0 s) (h : ∀ k (hk : k < ds.length) s, J k s → ∃ s1, st (.tup [.int (k : Nat), ds[k]]) s = some s1 ∧ ∃ s2, (body s1 = some (.nx, s2) ∨ body s1 = some (.ct, s2)) ∧ J (k + 1) s2) :
    ∃ s', forL st body (enumF 0 ds) s = some (.nx, s') ∧ J ds.length s' := by
  obtain ⟨s', e, k, hk, hl, hJ⟩ := forL_inv (st := st) (body := body) (fun l s => ∃ k, l = enumF k (ds.drop k) ∧ k ≤ ds.length ∧ J k s) (enumF 0 ds) s ⟨0, rfl, by omega, h0⟩ (by
    rintro d l s ⟨k, e, hk, hJ⟩
    by_cases hlt : k < ds.length
    · rw [List.drop_eq_getElem_cons hlt, enumF] at e
      cases e
      obtain ⟨s1, e1, s2, e2, e3⟩ := h k hlt s hJ
      exact ⟨s1, e1, s2, e2, k + 1, rfl, hlt, e3⟩
    · rw [List.drop_of_length_le (by omega)] at e
      cases e)
  refine ⟨s', e, ?_⟩
  by_cases hlt : k < ds.length
  · rw [List.drop_eq_getElem_cons hlt, enumF] at hk
    cases hk
  · have z : k = ds.length := by omega
    rw [← z]; exact hJ
theorem forL_ix (J : Nat → S → Prop) (ds : List D) (s : S) (h0 : J 0 s) (h : ∀ k (hk : k < ds.length) s, J k s → ∃ s1, st ds[k] s = some s1 ∧ ∃ s2, (body s1 = some (.nx, s2) ∨ body s1 = some (.ct, s2)) ∧ J (k + 1) s2) :
    ∃ s', forL st body ds s = some (.nx, s') ∧ J ds.length s' := by
  obtain ⟨s', e, k, hk, hl, hJ⟩ := forL_inv (st := st) (body := body) (fun l s => ∃ k, l = ds.drop k ∧ k ≤ ds.length ∧ J k s) ds s ⟨0, by simp, by omega, h0⟩ (by
    rintro d l s ⟨k, e, hk, hJ⟩
    by_cases hlt : k < ds.length
    · rw [List.drop_eq_getElem_cons hlt] at e
      cases e
      obtain ⟨s1, e1, s2, e2, e3⟩ := h k hlt s hJ
      exact ⟨s1, e1, s2, e2, k + 1, rfl, hlt, e3⟩
    · rw [List.drop_of_length_le (by omega)] at e
      cases e)
  refine ⟨s', e, ?_⟩
  by_cases hlt : k < ds.length
  · rw [List.drop_eq_getElem_cons hlt] at hk
    cases hk
  · have z : k = ds.length := by omega
    rw [← z]; exact hJ
end
theorem nodup_le {α : Type} [DecidableEq α] : ∀ {l l' : List α}, l.Nodup → (∀ x ∈ l, x ∈ l') → l.length ≤ l'.length
  | [], _, _, _ => Nat.zero_le _
  | a :: l, l', h, s => by
    have h0 := List.nodup_cons.mp h
    have ha := s a (List.mem_cons_self ..)
    have ih := nodup_le (l' := l'.erase a) h0.2 fun x hx => (List.mem_erase_of_ne fun (e : x = a) => h0.1 (by rw [← e]; exact hx)).mpr (s x (List.mem_cons_of_mem _ hx))
    have hl := List.length_pos_of_mem ha
    rw [List.length_erase_of_mem ha] at ih
    rw [List.length_cons]
    omega
theorem iBeq (i j : Int) : (i == j) = decide (i = j) := by
  by_cases h : i = j
  · subst h; simp
  · rw [decide_eq_false h]; exact beq_false_of_ne h
theorem cutD_to (ds : List D) (k : Nat) : cutD ds none (some (k : Int)) = ds.take k := by
  unfold cutD
  rw [HT.sIx_none, HT.sIx_nat, List.drop_zero, Nat.sub_zero]
  by_cases h : k ≤ ds.length
  · rw [Nat.min_eq_left h]
  · rw [Nat.min_eq_right (by omega), List.take_of_length_le (Nat.le_refl _), List.take_of_length_le (by omega)]
theorem cutD_from (ds : List D) (k : Nat) : cutD ds (some (k : Int)) none = ds.drop k := by
  unfold cutD
  rw [HT.sIx_none, HT.sIx_nat]
  by_cases h : k ≤ ds.length
  · rw [Nat.min_eq_left h, List.take_of_length_le (by rw [List.length_drop]; omega)]
  · rw [Nat.min_eq_right (by omega), List.drop_of_length_le (Nat.le_refl _), List.drop_of_length_le (by omega), List.take_nil]
theorem take_sD (l : List (List Nat)) (k : Nat) : (l.map sD).take k = (l.take k).map sD := by rw [List.map_take]
theorem not_mem_take {α : Type} {l : List α} (h : l.Nodup) {k : Nat} (hk : k < l.length) : l[k] ∉ l.take k := by
  intro hm
  obtain ⟨i, hi, e⟩ := List.getElem_of_mem hm
  rw [List.length_take] at hi
  rw [List.getElem_take] at e
  have := (List.getElem_inj h).mp e
  omega
section
variable {Cd : Nat → Option Ent}
@[simp] theorem in_ll {x : List Nat} {l : List (List Nat)} {s : S} : inF (.str (tx x)) (.lst (l.map sD)) s = some (decide (x ∈ l)) := by rw [in_l rfl (flat_all l), any_sD]
@[simp] theorem in_tt {x : List Nat} {l : List (List Nat)} {s : S} : inF (.str (tx x)) (.tup (l.map sD)) s = some (decide (x ∈ l)) := by rw [in_t rfl (flat_all l), any_sD]
theorem check_things_ok (T : TabS CdS Cd [0, 111, 119]) (n : Nat) (hn : 2 ≤ n) (m : List MO) {t : D} {th : List (List Nat)} (ht : SeqD t (th.map sD)) (ok : okT th) : Pn Cd GmS n 119 [t] m = some (.val .non, m) := by
  obtain ⟨n, rfl⟩ : ∃ n', n = n' + 1 := ⟨n - 1, by omega⟩
  obtain ⟨o1, o2, o3, o4⟩ := ok
  have l1 := listed_ok (T.sub (l' := [111]) rfl) n (by omega) m ht
  have w := fun (d : D) (m : List MO) (h : isWord d = true) => h ▸ word_ok (Gm := GmS) (T.at 0) rfl rfl n (by omega) d m (isWord_tell h)
  have hl : ((th.length : Int) == 0) = false := by
    have := List.length_pos_iff.mpr o1
    exact beq_false_of_ne (by omega)
  obtain ⟨s', e, c1, c2, rfl⟩ := forL_enm (st := store (.tt [1, 2])) (body := ev (Pn Cd GmS n) GmS (.seq (.iff (.bor (.nt (.cal 0 (.cns (.var 2) .nil))) (.bor (.cmp .isin (.var 2) (.sl (.var 0) .abs (.one (.var 1)))) (.one (.cmp .eq (.var 1) (.gv 5))))) (.seq .wal .skp) .skp) .skp))
    (fun k s => ∃ c1 c2, s = ⟨[some (.val t), c1, c2], m⟩) (th.map sD) ⟨[some (.val t), none, none], m⟩ ⟨_, _, rfl⟩ (by
      rintro k hk s ⟨c1, c2, rfl⟩
      have hk2 : k < th.length := by simpa using hk
      have hw := w (sD th[k]) m (o4 _ (List.getElem_mem hk2))
      have nm := not_mem_take o3 hk2
      have k8 : ((k : Int) == 8) = false := beq_false_of_ne (by omega)
      have e8 : GmS 5 = .int 8 := rfl
      have il : ∀ s, inF (sD th[k]) (.lst ((th.map sD).take k)) s = some false := fun s => by
        rw [take_sD, in_l rfl (flat_all _), any_sD, decide_eq_false nm]
      have it : ∀ s, inF (sD th[k]) (.tup ((th.map sD).take k)) s = some false := fun s => by
        rw [take_sD, in_t rfl (flat_all _), any_sD, decide_eq_false nm]
      rcases ht with rfl | rfl
      · simp [store, storeAll, hw, cutD_to, il, k8, e8, -List.map_take]
      · simp [store, storeAll, hw, cutD_to, it, k8, e8, -List.map_take])
  rw [Pn_def (T.at 119)]
  rcases ht with rfl | rfl
  · simp [c_check_things, ini, l1, hl, e, List.replicate]
  · simp [c_check_things, ini, l1, hl, e, List.replicate]
/-- may this label stand behind those -/
def nextB (th ks : List (List Nat)) (r : Row) : Bool := decide (ks.length ≠ 16) && (decide (r.k ∉ ks) && decide (r.b ∈ th))
theorem is_next_ok (T : TabS CdS Cd [2178]) (n : Nat) (hn : 1 ≤ n) {M : List MO} {i j : Nat} {ns : List Nat} {es ls : List D} {th ks : List (List Nat)} {r : Row}
    (hi : M[i]? = some (.ob 1 (5 :: 6 :: ns) (.lst (th.map sD) :: .adr j :: es))) (hj : M[j]? = some (.dx (ks.map sK) ls)) :
    Pn Cd GmS n 2178 [.adr i, r.lab] M = some (.val (.bl (nextB th ks r)), M) := by
  obtain ⟨n, rfl⟩ : ∃ n', n = n' + 1 := ⟨n - 1, by omega⟩
  rw [Pn_def (T.at 2178)]
  have e7 : GmS 7 = .int 16 := rfl
  have cl : ∀ r, clsF ⟨r, M⟩ (.adr i) = some (1, (5 :: 6 :: ns), (.lst (th.map sD) :: .adr j :: es)) := fun _ => clsF_adr hi
  have vm : ∀ r, viewM ⟨r, M⟩ (.adr j) = some (ks.map sK, ls) := fun _ => viewM_dx hj
  have ln : ∀ r, biF .len [.adr j] ⟨r, M⟩ = some (.val (.int ks.length), ⟨r, M⟩) := fun r => by
    have := len_m (vm r)
    rw [List.length_map] at this
    exact this
  have isn : ∀ q, inF (.str (tx r.k)) (.adr j) ⟨q, M⟩ = some (decide (r.k ∈ ks)) := fun q => by
    rw [in_m (vm q) rfl, any_sK]
  by_cases h1 : ks.length = 16
  · simp [c_Book_is_next, ini, gdF, lay, Src.at, Row.lab, lab, tyAny, tyIs, subC, cl, ln, e7, nextB, h1]
  · have h1' : ¬ (ks.length : Int) = 16 := by omega
    by_cases h2 : r.k ∈ ks
    · simp [c_Book_is_next, ini, gdF, lay, Src.at, Row.lab, lab, tyAny, tyIs, subC, cl, ln, e7, nextB, h1, h1', isn, h2, iBeq]
    · simp [c_Book_is_next, ini, gdF, lay, Src.at, Row.lab, lab, tyAny, tyIs, subC, cl, ln, e7, nextB, h1, h1', isn, h2, any_sD, iBeq]
theorem contains_at (T : TabS CdS Cd [2177]) (n : Nat) (hn : 1 ≤ n) {M : List MO} {i j : Nat} {t : D} {ns : List Nat} {es ls : List D} {ks : List (List Nat)} {x : List Nat}
    (hi : M[i]? = some (.ob 1 (5 :: 6 :: ns) (t :: .adr j :: es))) (hj : M[j]? = some (.dx (ks.map sK) ls)) :
    Pn Cd GmS n 2177 [.adr i, sD x] M = some (.val (.bl (decide (x ∈ ks))), M) := by
  obtain ⟨n, rfl⟩ : ∃ n', n = n' + 1 := ⟨n - 1, by omega⟩
  rw [Pn_def (T.at 2177)]
  have cl : ∀ r, clsF ⟨r, M⟩ (.adr i) = some (1, (5 :: 6 :: ns), (t :: .adr j :: es)) := fun _ => clsF_adr hi
  have isn : ∀ q, inF (.str (tx x)) (.adr j) ⟨q, M⟩ = some (decide (x ∈ ks)) := fun q => by
    rw [in_m (viewM_dx (s := ⟨q, M⟩) hj) rfl, any_sK]
  simp [c_Book_contains, ini, gdF, lay, Src.at, tyAny, tyIs, cl, isn]
/-- a book as data -/
def bkD (th : List (List Nat)) (R : List Row) (as kp : List (List Nat)) : D := .obj 1 [5, 6, 7, 8] [.lst (th.map sD), .dct (R.map fun r => sK r.k) (R.map Row.lab), .lst (as.map sD), .lst (kp.map sD)]
/-- the labels that a book may have -/
def okR (th : List (List Nat)) (R : List Row) : Prop := R.length ≤ 16 ∧ (R.map Row.k).Nodup ∧ ∀ r ∈ R, r.b ∈ th
theorem keys_sK (R : List Row) : (R.map fun r => sK r.k) = (R.map Row.k).map sK := by rw [List.map_map]; rfl
theorem putL_new {k : Key} {e : D} {ks : List Key} {ds : List D} (h : (ks.any fun a => decide (a = k)) = false) : putL k e ks ds = (ks ++ [k], ds ++ [e]) := by
  unfold putL
  rw [h]
  rfl
theorem seq_it {d : D} {ds : List D} (h : SeqD d ds) (s : S) : itF d s = some ds := by rcases h with rfl | rfl <;> rfl
theorem seq_enm {d : D} {ds : List D} (h : SeqD d ds) (s : S) : kEnm d s = some (.vals (enumF 0 ds), s) := by rcases h with rfl | rfl <;> rfl
theorem seq_list {d : D} {ds : List D} (h : SeqD d ds) (s : S) : biF .list [d] s = some (.fr (.bx ds), s) := by rcases h with rfl | rfl <;> rfl
theorem seq_view {d : D} {ds : List D} (h : SeqD d ds) (s : S) : viewQ s d = some ds := by rcases h with rfl | rfl <;> rfl
theorem seq_in {d : D} {l : List (List Nat)} (h : SeqD d (l.map sD)) (x : List Nat) (s : S) : inF (.str (tx x)) d s = some (decide (x ∈ l)) := by
  rcases h with rfl | rfl
  · rw [in_l rfl (flat_all l), any_sD]
  · rw [in_t rfl (flat_all l), any_sD]
theorem filt_keys (ks l : List (List Nat)) (p : D → Bool) (hp : ∀ x, p (sD x) = decide (x ∈ l)) : ((ks.map sD).filter p) = (ks.filter fun x => decide (x ∈ l)).map sD := by
  rw [List.filter_map]
  congr 1
  refine List.filter_congr fun x _ => ?_
  exact hp x
theorem book_ok (T : TabS CdS Cd [0, 111, 119, 1009, 2177, 2178]) {fid N0 p0 : Nat} {c0 : E} {g : List D → List D} (hf : Cd fid = some ⟨N0, p0, c0, g, some (1, 1009)⟩) (n : Nat) (hn : 4 ≤ n) {ds : List D} {m : List MO} {t l a q : D} {th A Q : List (List Nat)} {R : List Row}
    (e : g ds = [t, l, a, q]) (ht : SeqD t (th.map sD)) (hl : SeqD l (R.map Row.lab)) (ha : SeqD a (A.map sD)) (hq : SeqD q (Q.map sD)) (ok : okT th) (hR : okR th R) (hA : (A ++ Q).Nodup) (hK : ∀ x ∈ A ++ Q, x ∈ R.map Row.k) (hm : ClM m) :
    Pn Cd GmS n fid ds m = some (.val (bkD th R ((R.map Row.k).filter fun x => decide (x ∈ A)) ((R.map Row.k).filter fun x => decide (x ∈ Q))), m) := by
  obtain ⟨n, rfl⟩ : ∃ n', n = n' + 1 := ⟨n - 1, by omega⟩
  obtain ⟨r1, r2, r3⟩ := hR
  have ct := fun m => check_things_ok (T.sub (l' := [0, 111, 119]) rfl) n (by omega) m ht ok
  have ll := fun m => listed_ok (T.sub (l' := [111]) rfl) n (by omega) m hl
  have la := fun m => listed_ok (T.sub (l' := [111]) rfl) n (by omega) m ha
  have lq := fun m => listed_ok (T.sub (l' := [111]) rfl) n (by omega) m hq
  rw [Pn_mk hf (T.at 1009), e]
  -- the labels
  obtain ⟨s', e1, c5, c6, rfl⟩ := forL_enm (st := store (.tt [5, 6])) (body := ev (Pn Cd GmS n) GmS (.seq (.iff (.nt (.met t_is_next_1 (.var 0) 1 (.cns (.var 6) .nil) 0 .nil)) (.seq .wal .skp) .skp) (.seq (.sit (.fld (.var 0) 6 [1]) (.fld (.var 6) 0 [0, 4, 5, 6, 7, 8, 15]) (.var 6)) .skp)))
    (fun k s => ∃ c5 c6, s = ⟨[some (.val (.adr m.length)), some (.val t), some (.val l), some (.val a), some (.val q), c5, c6, none], m ++ [.ob 1 [5, 6] [.lst (th.map sD), .adr (m.length + 1)], .dx ((R.map fun r => sK r.k).take k) ((R.map Row.lab).take k)]⟩) (R.map Row.lab)
    ⟨[some (.val (.adr m.length)), some (.val t), some (.val l), some (.val a), some (.val q), none, none, none], m ++ [.ob 1 [5, 6] [.lst (th.map sD), .adr (m.length + 1)], .dx [] []]⟩ ⟨none, none, by simp⟩ (by
      rintro k hk s ⟨c5, c6, rfl⟩
      have hk2 : k < R.length := by simpa using hk
      have tk1 : (((R.map Row.k).take k).map sK) = (R.map fun r => sK r.k).take k := by rw [List.map_take, List.map_map]; rfl
      have hx := is_next_ok (T.sub (l' := [2178]) rfl) n (by omega) (M := m ++ [.ob 1 [5, 6] [.lst (th.map sD), .adr (m.length + 1)], .dx ((R.map fun r => sK r.k).take k) ((R.map Row.lab).take k)]) (i := m.length) (j := m.length + 1) (ns := []) (es := []) (ls := (R.map Row.lab).take k) (th := th) (ks := (R.map Row.k).take k) (r := R[k]) (by simp) (by rw [tk1]; simp)
      have kn : R[k].k ∉ (R.map Row.k).take k := by
        have := not_mem_take r2 (k := k) (by simpa using hk2)
        rwa [List.getElem_map] at this
      have nb : nextB th ((R.map Row.k).take k) R[k] = true := by
        have h16 : ((R.map Row.k).take k).length ≠ 16 := by rw [List.length_take, List.length_map]; omega
        unfold nextB
        rw [decide_eq_true h16, decide_eq_true kn, decide_eq_true (r3 _ (List.getElem_mem hk2))]
        rfl
      rw [nb] at hx
      have lt : ((R.map fun r => sK r.k).take k).length < 16777216 := by rw [List.length_take, List.length_map]; omega
      have pn := putL_new (k := sK R[k].k) (e := R[k].lab) (ks := (R.map fun r => sK r.k).take k) (ds := (R.map Row.lab).take k) (by rw [← tk1, any_sK, decide_eq_false kn])
      have q1 : (R.map fun r => sK r.k).take (k + 1) = (R.map fun r => sK r.k).take k ++ [sK R[k].k] := by rw [List.take_succ_eq_append_getElem (by simpa using hk2), List.getElem_map]
      have q2 : (R.map Row.lab).take (k + 1) = (R.map Row.lab).take k ++ [R[k].lab] := by rw [List.take_succ_eq_append_getElem (by simpa using hk2), List.getElem_map]
      rw [q1, q2, List.getElem_map]
      generalize (R.map fun r => sK r.k).take k = KS at *
      generalize (R.map Row.lab).take k = LS at *
      have lb : R[k].lab = .obj 0 [0, 1, 2, 3, 4] [.str (tx R[k].k), .str (tx R[k].w), .str (tx R[k].b), .int R[k].f, .int R[k].l] := rfl
      rw [lb] at hx pn ⊢
      have cn : ∀ r, clsN ⟨r, m ++ [MO.ob 1 [5, 6] [D.lst (List.map sD th), D.adr (m.length + 1)], MO.dx KS LS]⟩ (.adr m.length) = some 1 := fun _ => clsN_adr at_last
      have cf : ∀ r, clsF ⟨r, m ++ [MO.ob 1 [5, 6] [D.lst (List.map sD th), D.adr (m.length + 1)], MO.dx KS LS]⟩ (.adr m.length) = some (1, [5, 6], [D.lst (List.map sD th), D.adr (m.length + 1)]) := fun _ => clsF_adr at_last
      simp [store, storeAll, t_is_next_1, cn, cf, hx, pn, lt])
  have tf1 : (R.map fun r => sK r.k).take (R.map Row.lab).length = R.map fun r => sK r.k := List.take_of_length_le (by simp)
  have tf2 : (R.map Row.lab).take (R.map Row.lab).length = R.map Row.lab := List.take_of_length_le (Nat.le_refl _)
  rw [tf1, tf2] at e1
  -- the rulings
  have big1 : A.length + Q.length ≤ 16777216 := by
    have h1 := nodup_le hA hK
    rw [List.length_append, List.length_map] at h1
    omega
  obtain ⟨s', e2, d5, d7, rfl⟩ := forL_enm (st := store (.tt [5, 7])) (body := ev (Pn Cd GmS n) GmS (.seq (.iff (.bor (.con true tIn (.var 7) (.var 0)) (.one (.cmp .isin (.var 7) (.sl (.lst (.spl (.var 3) (.spl (.var 4) .nil))) .abs (.one (.var 5)))))) (.seq .wal .skp) .skp) .skp))
    (fun k s => ∃ d5 d7, s = ⟨[some (.val (.adr m.length)), some (.val t), some (.val l), some (.val a), some (.val q), d5, c6, d7], m ++ [.ob 1 [5, 6] [.lst (th.map sD), .adr (m.length + 1)], .dx (R.map fun r => sK r.k) (R.map Row.lab)]⟩) ((A ++ Q).map sD)
    ⟨[some (.val (.adr m.length)), some (.val t), some (.val l), some (.val a), some (.val q), c5, c6, none], m ++ [.ob 1 [5, 6] [.lst (th.map sD), .adr (m.length + 1)], .dx (R.map fun r => sK r.k) (R.map Row.lab)]⟩ ⟨_, _, rfl⟩ (by
      rintro k hk s ⟨d5, d7, rfl⟩
      have hk2 : k < (A ++ Q).length := by simpa using hk
      have hx := contains_at (T.sub (l' := [2177]) rfl) n (by omega) (M := m ++ [.ob 1 [5, 6] [.lst (th.map sD), .adr (m.length + 1)], .dx (R.map fun r => sK r.k) (R.map Row.lab)]) (i := m.length) (j := m.length + 1) (ns := []) (es := []) (ls := R.map Row.lab) (t := .lst (th.map sD)) (ks := R.map Row.k) (x := (A ++ Q)[k]) (by simp) (by rw [← keys_sK]; simp)
      rw [decide_eq_true (hK _ (List.getElem_mem hk2))] at hx
      have il : ∀ s, inF (sD (A ++ Q)[k]) (.lst ((A.map sD ++ Q.map sD).take k)) s = some false := fun s => by
        rw [← List.map_append, take_sD, in_l rfl (flat_all _), any_sD, decide_eq_false (not_mem_take hA hk2)]
      rw [List.getElem_map]
      generalize (A ++ Q)[k] = y at *
      have cn : ∀ r, clsN ⟨r, m ++ [MO.ob 1 [5, 6] [D.lst (List.map sD th), D.adr (m.length + 1)], MO.dx (R.map fun r => sK r.k) (R.map Row.lab)]⟩ (.adr m.length) = some 1 := fun _ => clsN_adr at_last
      simp [store, storeAll, cn, tIn, hx, seq_view ha, seq_view hq, big1, cutD_to, il, -List.map_take])
  have hc : ∀ (i : Nat) (x : D) (X : List (List Nat)) (r : List (Option Cell)) (M : List MO), SeqD x (X.map sD) → r.length = 8 → i < 7 → r[i]? = some (some (.val x)) →
      compL (store (.tn 7)) (ev (Pn Cd GmS n) GmS (.cmp .isin (.var 7) (.var i))) (ev (Pn Cd GmS n) GmS (.var 7)) r ((R.map Row.k).map sD) [] M = some (.fr (.bx (((R.map Row.k).filter fun y => decide (y ∈ X)).map sD)), ⟨r, M⟩) := by
    intro i x X r M hx hr hi hri
    have z := compL_map (st := store (.tn 7)) (cd := ev (Pn Cd GmS n) GmS (.cmp .isin (.var 7) (.var i))) (el := ev (Pn Cd GmS n) GmS (.var 7)) (r := r) (fun d => (X.map sD).any fun z => eqD z d) id ((R.map Row.k).map sD) [] M (by
      intro d hd
      obtain ⟨y, _, rfl⟩ := List.mem_map.mp hd
      have h7 : (r.set 7 (some (.val (sD y))))[7]? = some (some (.val (sD y))) := List.getElem?_set_self (by omega)
      have hi2 : (r.set 7 (some (.val (sD y))))[i]? = some (some (.val x)) := by rw [List.getElem?_set_ne (by omega)]; exact hri
      refine ⟨_, rfl, ⟨r.set 7 (some (.val (sD y))), M⟩, ?_, rfl, fun _ => ⟨⟨r.set 7 (some (.val (sD y))), M⟩, ?_, rfl⟩⟩
      · rw [any_sD]
        simp [h7, hi2, seq_in hx]
      · simp [h7]) (by simp; unfold big; omega)
    rw [z, filt_keys _ _ _ (fun x => any_sD X x)]
    simp
  have kk : (R.map fun r => sK r.k).map keyV = (R.map Row.k).map sD := by rw [List.map_map, List.map_map]; rfl
  have it1 : ∀ r (o : MO), itF (.adr (m.length + 1)) ⟨r, m ++ [o, .dl (R.map fun r => sK r.k) (R.map Row.lab)]⟩ = some ((R.map Row.k).map sD) := fun r o => by
    rw [itF_a (s := ⟨r, m ++ [o, .dl (R.map fun r => sK r.k) (R.map Row.lab)]⟩) at_last1, kk]
  have ha3 := fun c5 c6 M => hc 3 a A [some (.val (.adr m.length)), some (.val t), some (.val l), some (.val a), some (.val q), c5, c6, none] M ha rfl (by omega) rfl
  have hq4 := fun c5 c6 M => hc 4 q Q [some (.val (.adr m.length)), some (.val t), some (.val l), some (.val a), some (.val q), c5, c6, none] M hq rfl (by omega) rfl
  have cf : ∀ r ns es o, clsF ⟨r, m ++ [MO.ob 1 (5 :: 6 :: ns) (D.lst (List.map sD th) :: D.adr (m.length + 1) :: es), o]⟩ (.adr m.length) = some (1, 5 :: 6 :: ns, D.lst (List.map sD th) :: D.adr (m.length + 1) :: es) := fun _ _ _ _ => clsF_adr at_last
  have ev2 : ev (Pn Cd GmS n) GmS c_Book_init ⟨[some (.val (.adr m.length)), some (.val t), some (.val l), some (.val a), some (.val q), none, none, none], m ++ [.ob 1 [] []]⟩ =
      some (.nx, ⟨[some (.val (.adr m.length)), some (.val t), some (.val l), some (.val a), some (.val q), d5, c6, d7], m ++ [.ob 1 [5, 6, 7, 8] [.lst (th.map sD), .adr (m.length + 1), .lst (((R.map Row.k).filter fun x => decide (x ∈ A)).map sD), .lst (((R.map Row.k).filter fun x => decide (x ∈ Q)).map sD)], .dx (R.map fun r => sK r.k) (R.map Row.lab)]⟩) := by
    rw [List.map_append] at e2
    generalize (((R.map Row.k).filter fun x => decide (x ∈ A)).map sD) = FA at ha3 ⊢
    generalize (((R.map Row.k).filter fun x => decide (x ∈ Q)).map sD) = FQ at hq4 ⊢
    generalize ((R.map Row.k).map sD) = KD at it1 ha3 hq4
    simp [c_Book_init, ct, ll, la, lq, seq_list ht, seq_enm hl, e1, seq_view ha, seq_view hq, big1, e2, cf, it1, valR_cons, valR_nil, wipeR, ha3, hq4]
  have p0 : ∀ d ∈ ([.lst (th.map sD), .lst (((R.map Row.k).filter fun x => decide (x ∈ A)).map sD), .lst (((R.map Row.k).filter fun x => decide (x ∈ Q)).map sD)] : List D), Pu d := fun d hd => by
    simp only [List.mem_cons, List.not_mem_nil, or_false] at hd
    rcases hd with rfl | rfl | rfl <;> exact Pu.lst (Pu.strs _)
  have q1 := p0 _ (List.mem_cons_self ..)
  have q2 := p0 _ (List.mem_cons_of_mem _ (List.mem_cons_self ..))
  have q3 := p0 _ (List.mem_cons_of_mem _ (List.mem_cons_of_mem _ (List.mem_cons_self ..)))
  have q4 : Pu (.dct (R.map fun r => sK r.k) (R.map Row.lab)) := Pu.dct (Row.pus R)
  have q5 := Row.pus R
  unfold bkD
  rw [if_pos (show ([D.adr m.length, t, l, a, q] : List D).length = 5 from rfl), show ini 8 (.adr m.length :: [t, l, a, q]) = [some (.val (.adr m.length)), some (.val t), some (.val l), some (.val a), some (.val q), none, none, none] from rfl, ev2, fin_nx, stowO_val]
  generalize (((R.map Row.k).filter fun x => decide (x ∈ A)).map sD) = FA at q2 ⊢
  generalize (((R.map Row.k).filter fun x => decide (x ∈ Q)).map sD) = FQ at q3 ⊢
  generalize (th.map sD) = TH at q1 ⊢
  generalize (R.map fun r => sK r.k) = KS at q4 ⊢
  generalize (R.map Row.lab) = LS at q4 q5 ⊢
  rw [stow_ob (ob2 := .ob 1 [5, 6, 7, 8] [.lst TH, .dct KS LS, .lst FA, .lst FQ]) hm (by simp) (by simp) (by
    show (mapDs (frz true _ (m.length + 1) 16) _).map (MO.ob 1 [5, 6, 7, 8]) = _
    rw [mapDs_cons, mapDs_cons, mapDs_cons, mapDs_cons, mapDs_nil, q1.at, q2.at, q3.at, mapD_adr, frz_dx (Nat.lt_irrefl _) at_last1, Pu.all q5]
    rfl)]
  rw [frzO_val, mapD_non]
  show mkR m (stwR (some (m ++ [_])) (some (.val .non))) = _
  rw [stwR_eq, mkR_ok, stow_new1, frzO_val, mapD_adr, frz_obl, mapDs_cons, mapDs_cons, mapDs_cons, mapDs_cons, mapDs_nil, q1.at, q2.at, q3.at, q4.at]
  rfl
end
end En

namespace En
open PySem PySem.Spec L2
theorem stow_cl {lk : Bool} {m0 m l : List MO} {o : Out} (hm : ClM m) (hlen : m.length = m0.length) (hl : l ≠ []) : stow lk m0 (some (o, m ++ l)) = stwR (some m) (frzO lk (m ++ l) m0.length o) := by
  unfold stow
  dsimp only
  have hlp : 0 < l.length := by
    cases l with
    | nil => exact absurd rfl hl
    | cons _ _ => simp
  rw [if_neg (by rw [List.length_append]; omega)]
  have tk : (m ++ l).take m0.length = m := by rw [← hlen]; exact List.take_left' rfl
  have e : keepM lk (m ++ l) m0 = some m := by
    unfold keepM
    rw [tk]
    split
    · rename_i h; rw [h]
    · exact mapO_id fun a ha => (hm a ha).fz lk _ (by omega)
  rw [e]
  cases frzO lk (m ++ l) m0.length o <;> rfl
theorem set_app {α : Type} {m l : List α} {i : Nat} {b : α} (h : i < m.length) : (m ++ l).set i b = m.set i b ++ l := by rw [List.set_append_left _ _ h]
theorem get_app {α : Type} {m l : List α} {i : Nat} {b : α} (h : m[i]? = some b) : (m ++ l)[i]? = some b := by
  rw [List.getElem?_append_left (List.getElem?_eq_some_iff.mp h).1]; exact h
theorem ClM.set {m : List MO} {i : Nat} {b : MO} (h : ClM m) (hb : FdB b) : ClM (m.set i b) := fun o ho => by
  rw [List.length_set]
  rcases List.mem_or_eq_of_mem_set ho with h1 | rfl
  · exact h o h1
  · exact hb.clo _
section
variable {a b c d e : D} {l : List D}
theorem at_0 : atI (a :: l) 0 = some a := by simp [atI, ixN]
theorem at_1 : atI (a :: b :: l) 1 = some b := atI_nat (ds := a :: b :: l) (i := 1) (by simp)
theorem at_2 : atI (a :: b :: c :: l) 2 = some c := atI_nat (ds := a :: b :: c :: l) (i := 2) (by simp)
theorem at_3 : atI (a :: b :: c :: d :: l) 3 = some d := atI_nat (ds := a :: b :: c :: d :: l) (i := 3) (by simp)
theorem at_4 : atI (a :: b :: c :: d :: e :: l) 4 = some e := atI_nat (ds := a :: b :: c :: d :: e :: l) (i := 4) (by simp)
end
/-- the law's own book -/
def spD (th : List (List Nat)) (R : List Row) (A Q : List (List Nat)) : D := .tup [.lst (th.map sD), .lst (R.map Row.d), .lst (A.map sD), .lst (Q.map sD)]
def NmL (l : List Nat) : Prop := 1 ≤ l.length ∧ l.length ≤ 5 ∧ ∀ c ∈ l, c ∈ az
theorem NmL.word {l : List Nat} (h : NmL l) : isWord (sD l) = true := by
  obtain ⟨h1, h2, h3⟩ := h
  show (decide (1 ≤ (tx l).length ∧ (tx l).length ≤ 6) && (tx l).cps.toList.all fun c => decide (c ∈ az)) = true
  rw [tx_len, decide_eq_true (And.intro h1 (show l.length ≤ 6 by omega)), Bool.true_and]
  exact List.all_eq_true.mpr fun c hc => decide_eq_true (h3 c (by simpa using hc))
theorem nmL_ok {w : List Nat} {k r j : Nat} (h4 : w.length ≤ 4) (h : k ≤ w.length) (hw : ∀ c ∈ w, c ∈ az) : NmL (nmL w k r j) :=
  ⟨by rw [nmL_len h]; omega, by rw [nmL_len h]; omega, nmL_az hw⟩
/-- a drawn book: so many things, labels, dates -/
structure SpOk (tn ln wd : Nat) (th : List (List Nat)) (R : List Row) (A Q : List (List Nat)) : Prop where
  t0 : th ≠ []
  tl : th.length ≤ tn
  rl : R.length ≤ ln
  nd : (th ++ R.map Row.k).Nodup
  nt : ∀ t ∈ th, NmL t
  row : ∀ r ∈ R, NmL r.k ∧ NmL r.w ∧ r.b ∈ th ∧ 0 ≤ r.f ∧ r.f ≤ 9993 ∧ r.f ≤ r.l ∧ r.l < r.f + wd
  sa : A.Sublist (R.map Row.k)
  sq : Q.Sublist (R.map Row.k)
  dj : ∀ x ∈ A, x ∉ Q
section
variable {Cd : Nat → Option Ent}
theorem pick_sub {R : List Row} {p : Nat → Bool} {n : Nat} (hn : n = R.length) : (((List.range n).filter p).map fun k => (R.map Row.k).getD k []).Sublist (R.map Row.k) := by
  subst hn
  have e : (List.range R.length).map (fun k => (R.map Row.k).getD k []) = R.map Row.k := by
    apply List.ext_getElem
    · simp
    · intro i h1 h2
      simp
      rw [List.getElem?_eq_getElem (by simpa using h2)]
      rfl
  have h : (((List.range R.length).filter p).map fun k => (R.map Row.k).getD k []).Sublist ((List.range R.length).map fun k => (R.map Row.k).getD k []) := List.filter_sublist.map _
  rw [e] at h
  exact h
theorem spec_ok (T : TabS CdS Cd [11, 12, 14, 176, 238]) (n : Nat) (hn : 5 ≤ n) {m : List MO} {i : Nat} {b : MO} {tn ln wd : Nat} (hm : m[i]? = some b) (hb : FdB b) (hcl : ClM m) (t1 : 1 ≤ tn) (t2 : tn + ln ≤ 26) (w1 : 1 ≤ wd) (w2 : wd ≤ 100) :
    ∃ th R A Q b', Pn Cd GmS n 176 [.adr i, .int tn, .int ln, .int wd] m = some (.val (spD th R A Q), m.set i b') ∧ FdB b' ∧ SpOk tn ln wd th R A Q := by
  obtain ⟨n, rfl⟩ : ∃ n', n = n' + 1 := ⟨n - 1, by omega⟩
  have hi : i < m.length := (List.getElem?_eq_some_iff.mp hm).1
  obtain ⟨r1, b1, e1, f1, p1, p2⟩ := take_b (Gm := GmS) (T.at 11) n (by omega) (many := tn) hm hb (by omega) (by omega)
  obtain ⟨r1, rfl⟩ : ∃ r : Nat, r1 = r := ⟨r1.toNat, by omega⟩
  obtain ⟨w, k, r, b2, e2, f2, w4, kw, hw, r26⟩ := names_okx (Gm := GmS) (i := i) (m := m.set i b1) (T.at 14) (T.at 12) (T.at 11) n (by omega) (store_len hm) f1 (many := 1 + (r1 : Int) + ln) (by omega) (by omega)
  rw [List.set_set] at e2
  have hnm : (1 + (r1 : Int) + ln).toNat = 1 + r1 + ln := by omega
  rw [hnm] at e2
  obtain ⟨db, b3, e3, f3, q3⟩ := of_lst (Gm := GmS) (T.at 12) (T.at 11) n (by omega) (ds := [.int 0, .int 7, .int 1753, .int 9990]) (m := m.set i b2 ++ [.bx []]) (get_app (store_len hm)) f2 (by simp) (by simp)
  rw [set_app (by simpa using hi), List.set_set] at e3
  obtain ⟨base, rfl, j0, j1⟩ : ∃ j : Int, db = .int j ∧ 0 ≤ j ∧ j ≤ 9990 := by
    simp only [List.mem_cons, List.not_mem_nil, or_false] at q3
    rcases q3 with h | h | h | h <;> exact ⟨_, h, by omega, by omega⟩
  obtain ⟨ys, b4, e4, f4, ly, hy⟩ := words_ok (T.sub (l' := [11, 12, 14, 238]) rfl) n (by omega) (m := m.set i b3 ++ [.bx []]) (get_app (store_len hm)) f3 (many := ln) (by omega) (by omega)
  rw [set_app (by simpa using hi), List.set_set] at e4
  obtain ⟨W, rfl, hW⟩ : ∃ W : List (List Nat), ys = W.map sD ∧ ∀ x ∈ W, NmL x := by
    clear e4 ly
    induction ys with
    | nil => exact ⟨[], rfl, fun x hx => by cases hx⟩
    | cons y ys ih =>
      obtain ⟨W, rfl, hW⟩ := ih fun z hz => hy z (List.mem_cons_of_mem _ hz)
      obtain ⟨l, rfl, h1, h2, h3⟩ := hy y (List.mem_cons_self ..)
      exact ⟨l :: W, rfl, fun x hx => by
        rcases List.mem_cons.mp hx with rfl | hx
        · exact ⟨h1, h2, h3⟩
        · exact hW x hx⟩
  rw [List.length_map] at ly
  obtain ⟨r2, b5, e5, f5, p3, p4⟩ := take_b (Gm := GmS) (T.at 11) n (by omega) (many := (ln : Int) + 1) (m := m.set i b4 ++ [.bx []]) (get_app (store_len hm)) f4 (by omega) (by omega)
  rw [set_app (by simpa using hi), List.set_set] at e5
  obtain ⟨cnt, rfl⟩ : ∃ r : Nat, r2 = r := ⟨r2.toNat, by omega⟩
  obtain ⟨th, hth⟩ : ∃ th, th = (List.range (1 + r1)).map fun j => nmL w k r j := ⟨_, rfl⟩
  have lth : th.length = 1 + r1 := by rw [hth]; simp
  have cut1 : cutD ((List.range (1 + r1 + ln)).map fun j => sD (nmL w k r j)) none (some (1 + (r1 : Int))) = th.map sD := by
    have z : (1 + (r1 : Int)) = ((1 + r1 : Nat) : Int) := by omega
    rw [z, cutD_to, ← List.map_take, List.take_range, Nat.min_eq_left (by omega), hth, List.map_map]
    rfl
  have name_at : ∀ j, j < ln → atI ((List.range (1 + r1 + ln)).map fun j => sD (nmL w k r j)) (1 + (r1 : Int) + (j : Int)) = some (sD (nmL w k r (1 + r1 + j))) := fun j hj => by
    have z : (1 + (r1 : Int) + (j : Int)) = ((1 + r1 + j : Nat) : Int) := by omega
    rw [z, atI_nat (by simp; omega)]
    simp
  have word_at : ∀ j (hj : j < ln), atI (W.map sD) ((j : Nat) : Int) = some (sD (W[j]'(by omega))) := fun j hj => by
    rw [atI_nat (by rw [List.length_map]; omega)]
    simp
  have wd4 : ∀ j (hj : j < ln), NmL (W[j]'(by omega)) := fun j hj => hW _ (List.getElem_mem _)
  obtain ⟨NL, hNL⟩ : ∃ NL, NL = (List.range (1 + r1 + ln)).map fun j => sD (nmL w k r j) := ⟨_, rfl⟩
  rw [← hNL] at cut1 name_at
  replace e2 : Pn Cd GmS n 14 [.adr i, .int (1 + (r1 : Int) + ln)] (m.set i b1) = some (.fr (.bx NL), m.set i b2) := by rw [hNL]; exact e2
  have hcnt : cnt ≤ ln := by omega
  obtain ⟨s', e6, b6, R, c7, c13, f6, lR, kR, rR, rfl⟩ := forL_ix (st := store (.tn 7)) (body := ev (Pn Cd GmS n) GmS (.seq (.asg 13 (.bop .add (.var 12) (.cal 11 (.cns (.var 0) (.cns (.cst (.int 4)) .nil))))) (.seq (.exp (.bm .append (.var 11) (.cns (.tpl (.cns (.ix (.var 5) (.bop .add (.var 4) (.var 7))) (.cns (.ix (.var 6) (.var 7)) (.cns (.cal 12 (.cns (.var 0) (.cns (.var 10) .nil))) (.cns (.var 13) (.cns (.bop .add (.var 13) (.cal 11 (.cns (.var 0) (.cns (.var 3) .nil)))) .nil)))))) .nil))) .skp)))
    (fun q s => ∃ (b6 : MO) (R : List Row) (c7 c13 : Option Cell), FdB b6 ∧ R.length = q ∧ (∀ j (hj : j < R.length), R[j].k = nmL w k r (1 + r1 + j)) ∧ (∀ x ∈ R, NmL x.k ∧ NmL x.w ∧ x.b ∈ th ∧ 0 ≤ x.f ∧ x.f ≤ 9993 ∧ x.f ≤ x.l ∧ x.l < x.f + wd) ∧
      s = ⟨[some (.val (.adr i)), some (.val (.int tn)), some (.val (.int ln)), some (.val (.int wd)), some (.val (.int (1 + (r1 : Int)))), some (.val (.lst NL)), some (.val (.lst (W.map sD))), c7, none, none, some (.val (.lst (th.map sD))), some (.val (.adr m.length)), some (.val (.int base)), c13, none], m.set i b6 ++ [.bx (R.map Row.d)]⟩)
    ((List.range cnt).map fun (k : Nat) => D.int k)
    ⟨[some (.val (.adr i)), some (.val (.int tn)), some (.val (.int ln)), some (.val (.int wd)), some (.val (.int (1 + (r1 : Int)))), some (.val (.lst NL)), some (.val (.lst (W.map sD))), none, none, none, some (.val (.lst (th.map sD))), some (.val (.adr m.length)), some (.val (.int base)), none, none], m.set i b5 ++ [.bx []]⟩ ⟨b5, [], none, none, f5, rfl, (fun j hj => by cases hj), (fun x hx => by cases hx), rfl⟩ (by
      rintro q hq s ⟨b6, R, c7, c13, f6, rfl, kR, rR, rfl⟩
      have hq2 : R.length < cnt := by simpa using hq
      obtain ⟨v1, b7, g1, f7, u1, u2⟩ := take_b (Gm := GmS) (T.at 11) n (by omega) (many := 4) (m := m.set i b6 ++ [.bx (R.map Row.d)]) (get_app (store_len hm)) f6 (by omega) (by omega)
      rw [set_app (by simpa using hi), List.set_set] at g1
      obtain ⟨dv, b8, g2, f8, u3⟩ := of_lst (Gm := GmS) (T.at 12) (T.at 11) n (by omega) (ds := th.map sD) (m := m.set i b7 ++ [.bx (R.map Row.d)]) (get_app (store_len hm)) f7 (by rw [List.length_map]; omega) (by rw [List.length_map]; omega)
      rw [set_app (by simpa using hi), List.set_set] at g2
      obtain ⟨bb, hbb, rfl⟩ := List.mem_map.mp u3
      obtain ⟨v2, b9, g3, f9, u4, u5⟩ := take_b (Gm := GmS) (T.at 11) n (by omega) (many := wd) (m := m.set i b8 ++ [.bx (R.map Row.d)]) (get_app (store_len hm)) f8 (by omega) (by omega)
      rw [set_app (by simpa using hi), List.set_set] at g3
      have na := name_at R.length (by omega)
      have wa := word_at R.length (by omega)
      have L0 : ∀ b, (m.set i b ++ [MO.bx (R.map Row.d)])[m.length]? = some (.bx (R.map Row.d)) := fun b => by
        rw [List.getElem?_append_right (by simp)]; simp
      have S0 : ∀ b o, (m.set i b ++ [MO.bx (R.map Row.d)]).set m.length o = m.set i b ++ [o] := fun b o => by
        rw [List.set_append_right _ _ (by simp)]; simp
      have big1 : R.length < 16777216 := by omega
      have hW4 := wd4 R.length (by omega)
      have ww : R.length < W.length := by omega
      generalize hww : W[R.length]'ww = ww0 at wa hW4
      refine ⟨_, rfl, ⟨[some (.val (.adr i)), some (.val (.int tn)), some (.val (.int ln)), some (.val (.int wd)), some (.val (.int (1 + (r1 : Int)))), some (.val (.lst NL)), some (.val (.lst (W.map sD))), some (.val (.int R.length)), none, none, some (.val (.lst (th.map sD))), some (.val (.adr m.length)), some (.val (.int base)), some (.val (.int (base + v1))), none], m.set i b9 ++ [.bx ((R ++ [Row.mk (nmL w k r (1 + r1 + R.length)) ww0 bb (base + v1) (base + v1 + v2)]).map Row.d)]⟩, .inl ?_, b9, R ++ [Row.mk (nmL w k r (1 + r1 + R.length)) ww0 bb (base + v1) (base + v1 + v2)], _, _, f9, by simp, ?_, ?_, rfl⟩
      · simp [g1, g2, g3, na, wa, L0, S0, big1, kBm1_a, Row.d]
      · intro j hj
        rw [List.length_append, List.length_singleton] at hj
        by_cases h : j < R.length
        · rw [List.getElem_append_left h]; exact kR j h
        · have z : j = R.length := by omega
          subst z
          simp
      · intro x hx
        rcases List.mem_append.mp hx with hx | hx
        · exact rR x hx
        · cases List.mem_singleton.mp hx
          exact ⟨nmL_ok w4 kw hw, hW4, hbb, by show 0 ≤ base + v1; omega, by show base + v1 ≤ 9993; omega, by show base + v1 ≤ base + v1 + v2; omega, by show base + v1 + v2 < base + v1 + wd; omega⟩)
  have lR2 : R.length = cnt := by simpa using lR
  clear lR
  -- the ways
  obtain ⟨ys, M7, e7, ly7, hy7, b7, f7, rfl⟩ := compL_inv (st := store (.tn 14)) (cd := ev (Pn Cd GmS n) GmS (.cst (.bl true))) (el := ev (Pn Cd GmS n) GmS (.cal 11 (.cns (.var 0) (.cns (.cst (.int 7)) .nil))))
    (r := [some (.val (.adr i)), some (.val (.int tn)), some (.val (.int ln)), some (.val (.int wd)), some (.val (.int (1 + (r1 : Int)))), some (.val (.lst NL)), some (.val (.lst (W.map sD))), valC c7, none, none, some (.val (.lst (th.map sD))), some (.val (.adr m.length)), some (.val (.int base)), valC c13, none])
    (fun M => ∃ b7, FdB b7 ∧ M = m.set i b7 ++ [.ll (R.map Row.d)]) (fun y => ∃ v : Nat, y = .int v) (R.map Row.d) [] (m.set i b6 ++ [.ll (R.map Row.d)]) ⟨b6, f6, rfl⟩ (by
      rintro d hd M ⟨b7, f7, rfl⟩
      obtain ⟨v, b8, g1, f8, u1, u2⟩ := take_b (Gm := GmS) (T.at 11) n (by omega) (many := 7) (m := m.set i b7 ++ [.ll (R.map Row.d)]) (get_app (store_len hm)) f7 (by omega) (by omega)
      rw [set_app (by simpa using hi), List.set_set] at g1
      obtain ⟨v, rfl⟩ : ∃ v' : Nat, v = v' := ⟨v.toNat, by omega⟩
      simp [store, g1]
      exact ⟨_, _, ⟨rfl, rfl⟩, ⟨b8, f8, rfl⟩, v, rfl⟩) (by simp; unfold big; omega)
  obtain ⟨V, rfl⟩ : ∃ V : List Nat, ys = V.map fun (v : Nat) => D.int v := by
    clear e7 ly7
    induction ys with
    | nil => exact ⟨[], rfl⟩
    | cons y ys ih =>
      obtain ⟨v, rfl⟩ := hy7 y (List.mem_cons_self ..)
      obtain ⟨V, rfl⟩ := ih fun z hz => hy7 z (List.mem_cons_of_mem _ hz)
      exact ⟨v :: V, rfl⟩
  have lV : V.length = R.length := by simpa using ly7
  rw [List.nil_append] at e7
  -- the keys of one way
  have hc : ∀ (w0 : Nat) (r : List (Option Cell)), r.length = 15 → r[8]? = some (some (.val (.lst (V.map fun (v : Nat) => D.int v)))) → r[11]? = some (some (.val (.adr m.length))) →
      compL (store (.tn 7)) (ev (Pn Cd GmS n) GmS (.cmp .eq (.ix (.var 8) (.var 7)) (.cst (.int w0)))) (ev (Pn Cd GmS n) GmS (.ix (.ix (.var 11) (.var 7)) (.cst (.int 0)))) r ((List.range R.length).map fun (k : Nat) => D.int k) [] (m.set i b7 ++ [.bx (R.map Row.d)]) =
        some (.fr (.bx ((((List.range R.length).filter fun k => decide (V.getD k 0 = w0)).map fun k => (R.map Row.k).getD k []).map sD)), ⟨r, m.set i b7 ++ [.bx (R.map Row.d)]⟩) := by
    intro w0 r hr h8 h11
    have z := compL_map (st := store (.tn 7)) (cd := ev (Pn Cd GmS n) GmS (.cmp .eq (.ix (.var 8) (.var 7)) (.cst (.int w0)))) (el := ev (Pn Cd GmS n) GmS (.ix (.ix (.var 11) (.var 7)) (.cst (.int 0)))) (r := r)
      (fun d => match d with | .int j => decide (V.getD j.toNat 0 = w0) | _ => false) (fun d => match d with | .int j => sD ((R.map Row.k).getD j.toNat []) | _ => .non) ((List.range R.length).map fun (k : Nat) => D.int k) [] (m.set i b7 ++ [.bx (R.map Row.d)]) (by
      intro d hd
      obtain ⟨j, hj, rfl⟩ := List.mem_map.mp hd
      have hj2 : j < R.length := by simpa using hj
      have h7 : (r.set 7 (some (.val (.int j))))[7]? = some (some (.val (.int (j : Nat)))) := List.getElem?_set_self (by omega)
      have h8' : (r.set 7 (some (.val (.int j))))[8]? = some (some (.val (.lst (V.map fun (v : Nat) => D.int v)))) := by rw [List.getElem?_set_ne (by omega)]; exact h8
      have h11' : (r.set 7 (some (.val (.int j))))[11]? = some (some (.val (.adr m.length))) := by rw [List.getElem?_set_ne (by omega)]; exact h11
      have L0 : (m.set i b7 ++ [MO.bx (R.map Row.d)])[m.length]? = some (.bx (R.map Row.d)) := by rw [List.getElem?_append_right (by simp)]; simp
      have a1 : atI (V.map fun (v : Nat) => D.int v) (j : Int) = some (.int (V.getD j 0)) := by
        rw [atI_nat (by simp; omega)]
        simp [List.getD_eq_getElem?_getD, List.getElem?_eq_getElem (show j < V.length by omega)]
      have a2 : atI (R.map Row.d) (j : Int) = some R[j].d := by
        rw [atI_nat (by simpa using hj2)]
        simp
      have a3 : (R.map Row.k).getD j [] = R[j].k := by
        rw [List.getD_eq_getElem?_getD, List.getElem?_eq_getElem (by simpa using hj2)]
        simp
      refine ⟨_, rfl, ⟨r.set 7 (some (.val (.int j))), m.set i b7 ++ [.bx (R.map Row.d)]⟩, ?_, rfl, fun _ => ⟨⟨r.set 7 (some (.val (.int j))), m.set i b7 ++ [.bx (R.map Row.d)]⟩, ?_, rfl⟩⟩
      · show Yld _ (.bl (decide (V.getD (j : Int).toNat 0 = w0))) _
        rw [Int.toNat_natCast]
        generalize V.getD j 0 = v at a1 ⊢
        have hv : (((v : Nat) : Int) == (w0 : Int)) = decide (v = w0) := by rw [iBeq]; exact decide_eq_decide.mpr (by omega)
        simp [h7, h8', a1, hv]
      · show Yld _ (sD ((R.map Row.k).getD (j : Int).toNat [])) _
        rw [Int.toNat_natCast, a3]
        simp [h7, h11', L0, a2, ix_a, Row.d, at_0]) (by simp; unfold big; omega)
    rw [z, List.nil_append, List.filter_map, List.map_map, List.map_map]
    rfl
  obtain ⟨A, hA⟩ : ∃ A, A = ((List.range R.length).filter fun k => decide (V.getD k 0 = 0)).map fun k => (R.map Row.k).getD k [] := ⟨_, rfl⟩
  obtain ⟨Q, hQ⟩ : ∃ Q, Q = ((List.range R.length).filter fun k => decide (V.getD k 0 = 1)).map fun k => (R.map Row.k).getD k [] := ⟨_, rfl⟩
  have L0 : ∀ b (o : MO), (m.set i b ++ [o])[m.length]? = some o := fun b o => by rw [List.getElem?_append_right (by simp)]; simp
  have S0 : ∀ b (o o' : MO), (m.set i b ++ [o]).set m.length o' = m.set i b ++ [o'] := fun b o o' => by rw [List.set_append_right _ _ (by simp)]; simp
  have hc0 := hc 0 [some (.val (.adr i)), some (.val (.int tn)), some (.val (.int ln)), some (.val (.int wd)), some (.val (.int (1 + (r1 : Int)))), some (.val (.lst NL)), some (.val (.lst (W.map sD))), none, some (.val (.lst (V.map fun (v : Nat) => D.int v))), none, some (.val (.lst (th.map sD))), some (.val (.adr m.length)), some (.val (.int base)), valC c13, none] rfl rfl rfl
  have hc1 := fun d9 => hc 1 [some (.val (.adr i)), some (.val (.int tn)), some (.val (.int ln)), some (.val (.int wd)), some (.val (.int (1 + (r1 : Int)))), some (.val (.lst NL)), some (.val (.lst (W.map sD))), none, some (.val (.lst (V.map fun (v : Nat) => D.int v))), d9, some (.val (.lst (th.map sD))), some (.val (.adr m.length)), some (.val (.int base)), valC c13, none] rfl rfl rfl
  have z0 : ((0 : Nat) : Int) = 0 := rfl
  have z1 : ((1 : Nat) : Int) = 1 := rfl
  rw [← hA, z0] at hc0
  simp only [← hQ, z1] at hc1
  have hlR : (R.length : Int) < 4611686018427387904 := by omega
  have itl : ∀ r, itF (.adr m.length) ⟨r, m.set i b6 ++ [.ll (R.map Row.d)]⟩ = some (R.map Row.d) := fun r => itF_ll (L0 _ _)
  have hln : ∀ r, biF .len [.adr m.length] ⟨r, m.set i b7 ++ [.bx (R.map Row.d)]⟩ = some (.val (.int R.length), ⟨r, m.set i b7 ++ [.bx (R.map Row.d)]⟩) := fun r => by
    rw [len_a (L0 _ _), List.length_map]
  have hrg : ∀ s, kRng (.int R.length) s = some (.vals ((List.range R.length).map fun (k : Nat) => .int k), s) := fun s => kRng_nat hlR
  have c62 : cnt < 4611686018427387904 := by omega
  have k1 : -4611686018427387904 ≤ (cnt : Int) := by omega
  have k2 : (cnt : Int) < 4611686018427387904 := by omega
  have ln1 : ∀ b, (m.set i b).length = m.length := fun b => List.length_set
  generalize hLR : R.map Row.d = LR at *
  refine ⟨th, R, A, Q, b7, ?_, f7, ?_⟩
  · rw [Pn_def (T.at 176)]
    have ev0 : ∃ d9 d7 d14, ev (Pn Cd GmS n) GmS c_law_spec ⟨ini 15 [.adr i, .int tn, .int ln, .int wd], m⟩ =
        some (.rt (.tup [.lst (th.map sD), .adr m.length, .lst (A.map sD), .lst (Q.map sD)]), ⟨[some (.val (.adr i)), some (.val (.int tn)), some (.val (.int ln)), some (.val (.int wd)), some (.val (.int (1 + (r1 : Int)))), some (.val (.lst NL)), some (.val (.lst (W.map sD))), d7, some (.val (.lst (V.map fun (v : Nat) => D.int v))), d9, some (.val (.lst (th.map sD))), some (.val (.adr m.length)), some (.val (.int base)), c13, d14], m.set i b7 ++ [.bx LR]⟩) := by
      simp [c_law_spec, ini, List.replicate, e1, e2, cut1, e3, e4, e5, e6, k1, k2, L0, S0, ln1, storeAll, store, valR_cons, valR_nil, wipeR, itl, e7, hln, hrg, hc0, hc1]
    obtain ⟨d9, d7, d14, ev0⟩ := ev0
    rw [if_pos (show (id [D.adr i, D.int tn, D.int ln, D.int wd] : List D).length = 4 from rfl)]
    show stowO m (fin (ev (Pn Cd GmS n) GmS c_law_spec ⟨ini 15 [.adr i, .int tn, .int ln, .int wd], m⟩)) = _
    rw [ev0, fin_rt, stowO_val, stow_cl (hcl.set f7) (ln1 _) (by simp), frzO_val, mapD_tup, mapDs_cons, mapDs_cons, mapDs_cons, mapDs_cons, mapDs_nil, (Pu.lst (Pu.strs th)).at, (Pu.lst (Pu.strs A)).at, (Pu.lst (Pu.strs Q)).at, mapD_adr, frz_bx (Nat.lt_irrefl _) (L0 _ _), Pu.all (by
      rw [← hLR]
      intro d hd
      obtain ⟨x, _, rfl⟩ := List.mem_map.mp hd
      refine Pu.tup fun y hy => ?_
      simp only [List.mem_cons, List.not_mem_nil, or_false] at hy
      rcases hy with rfl | rfl | rfl | rfl | rfl <;> first | exact Pu.str _ | exact Pu.int _)]
    rw [← hLR]
    rfl
  · have nmI : ∀ a b, a < 26 → b < 26 → nmL w k r a = nmL w k r b → a = b := fun a b ha hb => nmL_inj kw ha hb
    have all : th ++ R.map Row.k = (List.range (1 + r1 + R.length)).map fun j => nmL w k r j := by
      apply List.ext_getElem
      · simp [lth]
      · intro j h1 h2
        by_cases hj : j < th.length
        · rw [List.getElem_append_left hj]
          simp [hth]
        · rw [List.getElem_append_right (by omega)]
          have hj2 : j - th.length < R.length := by
            rw [List.length_append, List.length_map] at h1
            omega
          rw [List.getElem_map, List.getElem_map, List.getElem_range, kR _ hj2]
          congr 1
          omega
    have bnd1 : 1 + r1 + R.length ≤ 26 := by omega
    refine ⟨fun z => by rw [z, List.length_nil] at lth; omega, by omega, by omega, ?_, ?_, rR, ?_, ?_, ?_⟩
    · rw [all, List.nodup_iff_pairwise_ne, List.pairwise_map]
      refine List.Pairwise.imp_of_mem ?_ (List.nodup_iff_pairwise_ne.mp List.nodup_range)
      intro a b ha hb hne he
      exact hne (nmI a b (by have := List.mem_range.mp ha; omega) (by have := List.mem_range.mp hb; omega) he)
    · intro t ht
      rw [hth] at ht
      obtain ⟨j, _, rfl⟩ := List.mem_map.mp ht
      exact nmL_ok w4 kw hw
    · rw [hA]; exact pick_sub rfl
    · rw [hQ]; exact pick_sub rfl
    · intro x hx hxq
      rw [hA] at hx
      rw [hQ] at hxq
      obtain ⟨a, ha, rfl⟩ := List.mem_map.mp hx
      obtain ⟨b, hb, hab⟩ := List.mem_map.mp hxq
      obtain ⟨ha1, ha2⟩ := List.mem_filter.mp ha
      obtain ⟨hb1, hb2⟩ := List.mem_filter.mp hb
      have ha1 := List.mem_range.mp ha1
      have hb1 := List.mem_range.mp hb1
      have ha2 := of_decide_eq_true ha2
      have hb2 := of_decide_eq_true hb2
      have e1 : ∀ j (hj : j < R.length), (R.map Row.k).getD j [] = nmL w k r (1 + r1 + j) := fun j hj => by
        rw [List.getD_eq_getElem?_getD, List.getElem?_eq_getElem (by simpa using hj)]
        simp [kR j hj]
      rw [e1 a ha1, e1 b hb1] at hab
      have z := nmI _ _ (by omega) (by omega) hab
      have : b = a := by omega
      subst this
      omega
end
end En

namespace En
open PySem PySem.Spec L2
section
variable {st : D → S → Option S} {cd el : S → Res} {r : List (Option Cell)}
/-- a comprehension over the images of a list -/
theorem compL_of {α : Type} (f : α → D) (p : α → Bool) (h : α → D) : ∀ (L : List α) (acc : List D) (m : List MO), (∀ x ∈ L, ∃ s1, st (f x) ⟨r, m⟩ = some s1 ∧ ∃ s2, Yld (cd s1) (.bl (p x)) s2 ∧ s2.m = m ∧ (p x = true → ∃ s3, Yld (el s2) (h x) s3 ∧ s3.m = m)) → acc.length + L.length ≤ big →
    compL st cd el r (L.map f) acc m = some (.fr (.bx (acc ++ (L.filter p).map h)), ⟨r, m⟩)
  | [], acc, m, _, _ => by rw [List.map_nil, compL]; simp
  | d :: ds, acc, m, hh, hl => by
    obtain ⟨s1, e1, s2, e2, e3, h3⟩ := hh d (List.mem_cons_self ..)
    have ih := fun acc => compL_of f p h ds acc m (fun x hx => hh x (List.mem_cons_of_mem _ hx))
    rw [List.length_cons] at hl
    rw [List.map_cons, compL, e1]
    show bnd (cd s1) _ = _
    rw [e2.bnd]
    cases hp : p d with
    | true =>
      obtain ⟨s3, e4, e5⟩ := h3 hp
      show bnd (el s2) _ = _
      have hb : acc.length < big := by omega
      rw [e4.bnd, List.filter_cons, hp, if_pos rfl, List.map_cons]
      show (if acc.length < big then compL st cd el r (ds.map f) (acc ++ [h d]) s3.m else none) = _
      rw [if_pos hb, e5, ih _ (by rw [List.length_append, List.length_singleton]; omega), List.append_assoc]
      rfl
    | false =>
      show compL st cd el r (ds.map f) acc s2.m = _
      rw [e3, ih _ (by omega), List.filter_cons, hp]
      rfl
end
theorem eqDs_map {α : Type} [DecidableEq α] {f : α → D} (hf : ∀ a b, eqD (f a) (f b) = decide (a = b)) : ∀ l l' : List α, eqDs (l.map f) (l'.map f) = decide (l = l')
  | [], [] => by simp
  | [], _ :: _ => by simp
  | _ :: _, [] => by simp
  | a :: l, b :: l' => by
    rw [List.map_cons, List.map_cons, eqDs_c, hf, eqDs_map hf l l']
    by_cases h : a = b
    · by_cases h2 : l = l' <;> simp [h, h2]
    · simp [h]
theorem eqD_sD (a b : List Nat) : eqD (sD a) (sD b) = decide (a = b) := by rw [eqD_s, tx_beq]
theorem eqD_row (a b : Row) : eqD a.d b.d = decide (a = b) := by
  obtain ⟨a1, a2, a3, a4, a5⟩ := a
  obtain ⟨b1, b2, b3, b4, b5⟩ := b
  simp only [Row.d, eqD_t, eqDs_c, eqDs_n, eqD_s, eqD_i, tx_beq, iBeq, Row.mk.injEq, Bool.and_true]
  rw [Bool.eq_iff_iff]
  simp [Bool.and_eq_true, and_assoc]
@[simp] theorem eqDs_sD (l l' : List (List Nat)) : eqDs (l.map sD) (l'.map sD) = decide (l = l') := eqDs_map eqD_sD l l'
@[simp] theorem eqDs_row (l l' : List Row) : eqDs (l.map Row.d) (l'.map Row.d) = decide (l = l') := eqDs_map eqD_row l l'
theorem okD_sD (n : Nat) (l : List (List Nat)) : (l.map sD).all (okD n) = true := List.all_eq_true.mpr fun d hd => by
  obtain ⟨x, _, rfl⟩ := List.mem_map.mp hd
  exact okD_s
theorem okD_row (n : Nat) (l : List Row) : (l.map Row.d).all (okD (n + 1)) = true := List.all_eq_true.mpr fun d hd => by
  obtain ⟨x, _, rfl⟩ := List.mem_map.mp hd
  show ([.str (tx x.k), .str (tx x.w), .str (tx x.b), .int x.f, .int x.l] : List D).all (okD n) = true
  simp
theorem look_row : ∀ {R : List Row} {r : Row}, (R.map Row.k).Nodup → r ∈ R → lookK (sK r.k) (R.map fun r => sK r.k) (R.map Row.lab) = some r.lab
  | x :: R, r, h, hr => by
    rw [List.map_cons, List.nodup_cons] at h
    rw [List.map_cons, List.map_cons, lookK]
    rcases List.mem_cons.mp hr with rfl | hr
    · rw [if_pos rfl]
    · rw [if_neg, look_row h.2 hr]
      intro e
      exact h.1 (List.mem_map.mpr ⟨r, hr, (sK_inj.mp e).symm⟩)
section
variable {Cd : Nat → Option Ent}
/-- a right book: things, labels, rulings -/
structure BkOk (th : List (List Nat)) (R : List Row) (A Q : List (List Nat)) : Prop where
  t : okT th
  r : okR th R
  ok : ∀ r ∈ R, r.ok
  nd : (A ++ Q).Nodup
  ke : ∀ x ∈ A ++ Q, x ∈ R.map Row.k
abbrev fk (R : List Row) (A : List (List Nat)) : List (List Nat) := (R.map Row.k).filter fun x => decide (x ∈ A)
theorem made_ok (T : TabS CdS Cd [0, 1, 2, 111, 114, 119, 124, 1000, 1009, 2003, 2039, 2177, 2178]) (n : Nat) (hn : 6 ≤ n) {m : List MO} {th A Q : List (List Nat)} {R : List Row} (h : BkOk th R A Q) (hm : ClM m) :
    Pn Cd GmS n 124 [spD th R A Q] m = some (.val (bkD th R (fk R A) (fk R Q)), m) := by
  obtain ⟨n, rfl⟩ : ∃ n', n = n' + 1 := ⟨n - 1, by omega⟩
  have hl := labels_ok (T.sub (l' := [0, 1, 2, 114, 1000, 2003]) rfl) n (by omega) (m := m) (a := .lst (th.map sD)) (c := .lst (A.map sD)) (d := .lst (Q.map sD)) (R := R) (by have := h.r.1; omega) h.ok
  have hb := book_ok (T.sub (l' := [0, 111, 119, 1009, 2177, 2178]) rfl) (T.at 2039) n (by omega) (ds := [.lst (th.map sD), .lst (R.map Row.lab), .lst (A.map sD), .lst (Q.map sD)]) rfl (.inl rfl) (.inl rfl) (.inl rfl) (.inl rfl) h.t h.r h.nd h.ke hm
  rw [Pn_def (T.at 124)]
  unfold spD
  simp [c_law_made, ini, at_0, at_2, at_3, hl, hb]
theorem bcontains_ok (T : TabS CdS Cd [2177]) (n : Nat) (hn : 1 ≤ n) {m : List MO} {th a q : List (List Nat)} {R : List Row} {x : List Nat} :
    Pn Cd GmS n 2177 [bkD th R a q, sD x] m = some (.val (.bl (decide (x ∈ R.map Row.k))), m) := by
  obtain ⟨n, rfl⟩ : ∃ n', n = n' + 1 := ⟨n - 1, by omega⟩
  rw [Pn_def (T.at 2177)]
  have e : ∀ s, inF (.str (tx x)) (.dct (R.map fun r => sK r.k) (R.map Row.lab)) s = some (decide (x ∈ R.map Row.k)) := fun s => by
    rw [in_ds, keys_sK, any_sK]
  simp [c_Book_contains, ini, gdF, lay, Src.at, bkD, tyAny, tyIs, e]
theorem lparts_ok (T : TabS CdS Cd [2035]) (n : Nat) (hn : 1 ≤ n) {m : List MO} {r : Row} : Pn Cd GmS n 2035 [r.lab] m = some (.val r.d, m) := parts_ok T n hn
theorem bparts_ok (T : TabS CdS Cd [2035, 2036]) (n : Nat) (hn : 2 ≤ n) {m : List MO} {th a q : List (List Nat)} {R : List Row} (hR : okR th R) :
    Pn Cd GmS n 2036 [bkD th R a q] m = some (.val (.tup [.tup (th.map sD), .tup (R.map Row.d), .tup (a.map sD), .tup (q.map sD)]), m) := by
  obtain ⟨n, rfl⟩ : ∃ n', n = n' + 1 := ⟨n - 1, by omega⟩
  have e := compL_of (st := store (.tn 2)) (cd := ev (Pn Cd GmS n) GmS (.cst (.bl true))) (el := ev (Pn Cd GmS n) GmS (.met t_parts_0 (.ix (.fld (.var 0) 6 [1]) (.var 2)) 0 .nil 0 .nil)) (r := [some (.val (bkD th R a q)), none, none]) (fun r : Row => sD r.k) (fun _ => true) Row.d R [] m (by
    intro x hx
    have hp := lparts_ok (T.sub (l' := [2035]) rfl) n (by omega) (m := m) (r := x)
    have hlk := look_row hR.2.1 hx
    generalize hL : x.lab = L at hp hlk
    have cn : ∀ s, clsN s L = some 0 := fun s => by rw [← hL]; rfl
    simp [store, bkD, hlk, t_parts_0, cn, hp]) (by simp; have := hR.1; unfold big; omega)
  have kk : (R.map fun r => sK r.k).map keyV = R.map fun r => sD r.k := by rw [List.map_map]; rfl
  rw [Pn_def (T.at 2036)]
  rw [List.filter_eq_self.mpr fun _ _ => rfl, List.nil_append] at e
  unfold bkD at e
  generalize hLL : R.map (fun r : Row => sD r.k) = LL at e kk
  generalize R.map Row.d = LD at e ⊢
  simp only [bkD]
  simp [c_Book_parts, ini, gdF, lay, Src.at, kk, valR_cons, valR_nil, wipeR, e]
theorem beq_ok (T : TabS CdS Cd [2006, 2035, 2036]) (n : Nat) (hn : 3 ≤ n) {m : List MO} {th a q th' a' q' : List (List Nat)} {R R' : List Row} (hR : okR th R) (hR' : okR th' R') :
    Pn Cd GmS n 2006 [bkD th R a q, bkD th' R' a' q'] m = some (.val (.bl (decide (th = th' ∧ R = R' ∧ a = a' ∧ q = q'))), m) := by
  obtain ⟨n, rfl⟩ : ∃ n', n = n' + 1 := ⟨n - 1, by omega⟩
  have h1 := bparts_ok (T.sub (l' := [2035, 2036]) rfl) n (by omega) (m := m) (a := a) (q := q) hR
  have h2 := bparts_ok (T.sub (l' := [2035, 2036]) rfl) n (by omega) (m := m) (a := a') (q := q') hR'
  rw [Pn_def (T.at 2006)]
  unfold bkD at h1 h2 ⊢
  have o1 := fun n (l : List Row) => okD_row n l
  simp [c_Book_eq, ini, gdF, lay, Src.at, tyAny, tyIs, subC, t_parts_0, h1, h2, okD_sD, okD_row, -List.all_map]
theorem bne_ok (T : TabS CdS Cd [2006]) (n : Nat) (hn : 1 ≤ n) {m : List MO} {x d : D} (hd : ∀ s : S, tyAny (s.v d) [.own 1] = some false) : Pn Cd GmS n 2006 [x, d] m = some (.val (.bl false), m) := by
  obtain ⟨n, rfl⟩ : ∃ n', n = n' + 1 := ⟨n - 1, by omega⟩
  rw [Pn_def (T.at 2006)]
  simp [c_Book_eq, ini, gdF, lay, Src.at, hd]
theorem fk_filter (R : List Row) (a : List (List Nat)) : fk R (a.filter fun x => decide (x ∈ R.map Row.k)) = fk R a := by
  refine List.filter_congr fun x hx => ?_
  simp only [List.mem_filter, decide_eq_decide, decide_eq_true_eq]
  exact ⟨fun h => h.1, fun h => ⟨h, hx⟩⟩
theorem fk_fk (R : List Row) (a : List (List Nat)) : fk R (fk R a) = fk R a := by
  refine List.filter_congr fun x hx => ?_
  simp only [List.mem_filter, decide_eq_decide, decide_eq_true_eq]
  exact ⟨fun h => h.2, fun h => ⟨hx, h⟩⟩
theorem fk_mem {R : List Row} {a : List (List Nat)} {x : List Nat} : x ∈ fk R a ↔ x ∈ R.map Row.k ∧ x ∈ a := by simp [fk, List.mem_filter]
theorem fk_nodup {th : List (List Nat)} {R : List Row} (h : okR th R) (a : List (List Nat)) : (fk R a).Nodup := h.2.1.sublist List.filter_sublist
/-- a made book's parts -/
structure Bk0 (th : List (List Nat)) (R : List Row) (a q : List (List Nat)) : Prop where
  t : okT th
  r : okR th R
  fa : fk R a = a
  fq : fk R q = q
  dj : ∀ x ∈ a, x ∉ q
theorem BkOk.bk0 {th A Q : List (List Nat)} {R : List Row} (h : BkOk th R A Q) : Bk0 th R (fk R A) (fk R Q) :=
  ⟨h.t, h.r, fk_fk R A, fk_fk R Q, fun x h1 h2 => (List.nodup_append.mp h.nd).2.2 x (fk_mem.mp h1).2 x (fk_mem.mp h2).2 rfl⟩
theorem Bk0.nd {th a q : List (List Nat)} {R : List Row} (h : Bk0 th R a q) : (a ++ q).Nodup := by
  refine List.nodup_append.mpr ⟨by rw [← h.fa]; exact fk_nodup h.r a, by rw [← h.fq]; exact fk_nodup h.r q, fun x hx y hy e => h.dj x hx (e ▸ hy)⟩
theorem need_key_ok (T : TabS CdS Cd [2086, 2177]) (n : Nat) (hn : 2 ≤ n) {m : List MO} {th a q : List (List Nat)} {R : List Row} {x : List Nat} (hx : x ∈ R.map Row.k) : Pn Cd GmS n 2086 [bkD th R a q, sD x] m = some (.val .non, m) := by
  obtain ⟨n, rfl⟩ : ∃ n', n = n' + 1 := ⟨n - 1, by omega⟩
  have hc := bcontains_ok (T.sub (l' := [2177]) rfl) n (by omega) (m := m) (th := th) (a := a) (q := q) (R := R) (x := x)
  rw [decide_eq_true hx] at hc
  have cn : ∀ s, clsN s (bkD th R a q) = some 1 := fun _ => rfl
  rw [Pn_def (T.at 2086)]
  generalize bkD th R a q = B at *
  simp [c_Book_need_key, ini, gdF, lay, Src.at, cn, tIn, hc]
theorem blabel_ok (T : TabS CdS Cd [2086, 2090, 2177]) (n : Nat) (hn : 3 ≤ n) {m : List MO} {th a q : List (List Nat)} {R : List Row} {r : Row} (hR : okR th R) (hr : r ∈ R) : Pn Cd GmS n 2090 [bkD th R a q, sD r.k] m = some (.val r.lab, m) := by
  obtain ⟨n, rfl⟩ : ∃ n', n = n' + 1 := ⟨n - 1, by omega⟩
  have hc := need_key_ok (T.sub (l' := [2086, 2177]) rfl) n (by omega) (m := m) (th := th) (a := a) (q := q) (R := R) (x := r.k) (List.mem_map.mpr ⟨r, hr, rfl⟩)
  have hl := look_row hR.2.1 hr
  rw [Pn_def (T.at 2090)]
  unfold bkD at hc ⊢
  generalize r.lab = L at hl ⊢
  simp [c_Book_label, ini, gdF, lay, Src.at, t_need_key_1, hc, hl]
theorem blabels_ok (T : TabS CdS Cd [2077]) (n : Nat) (hn : 1 ≤ n) {m : List MO} {th a q : List (List Nat)} {R : List Row} (hR : okR th R) : Pn Cd GmS n 2077 [bkD th R a q] m = some (.fr (.bx (R.map Row.lab)), m) := by
  obtain ⟨n, rfl⟩ : ∃ n', n = n' + 1 := ⟨n - 1, by omega⟩
  have e := compL_of (st := store (.tn 1)) (cd := ev (Pn Cd GmS n) GmS (.cst (.bl true))) (el := ev (Pn Cd GmS n) GmS (.ix (.fld (.var 0) 6 [1]) (.var 1))) (r := [some (.val (bkD th R a q)), none]) (fun r : Row => sD r.k) (fun _ => true) Row.lab R [] m (by
    intro x hx
    have hlk := look_row hR.2.1 hx
    generalize x.lab = L at hlk ⊢
    simp [store, bkD, hlk]) (by simp; have := hR.1; unfold big; omega)
  have kk : (R.map fun r => sK r.k).map keyV = R.map fun r => sD r.k := by rw [List.map_map]; rfl
  rw [Pn_def (T.at 2077)]
  rw [List.filter_eq_self.mpr fun _ _ => rfl, List.nil_append] at e
  unfold bkD at e
  generalize hLL : R.map (fun r : Row => sD r.k) = LL at e kk
  simp only [bkD]
  generalize R.map Row.lab = LD at e ⊢
  simp [c_Book_labels, ini, gdF, lay, Src.at, kk, valR_cons, valR_nil, wipeR, e]
theorem need_things_ok (T : TabS CdS Cd [121]) (n : Nat) (hn : 1 ≤ n) {m : List MO} {th l : List (List Nat)} {d : D} (hd : SeqD d (l.map sD)) (h : ∀ x ∈ l, x ∈ th) : Pn Cd GmS n 121 [.lst (th.map sD), d] m = some (.val .non, m) := by
  obtain ⟨n, rfl⟩ : ∃ n', n = n' + 1 := ⟨n - 1, by omega⟩
  obtain ⟨s', e, c, rfl⟩ := forL_ix (st := store (.tn 2)) (body := ev (Pn Cd GmS n) GmS (.seq (.iff (.bor (.nt (.isi (.var 2) [.str])) (.one (.cmp .notin (.var 2) (.var 0)))) (.seq .wal .skp) .skp) .skp)) (fun k s => ∃ c, s = ⟨[some (.val (.lst (th.map sD))), some (.val d), c], m⟩) (l.map sD)
    ⟨[some (.val (.lst (th.map sD))), some (.val d), none], m⟩ ⟨none, rfl⟩ (by
      rintro k hk s ⟨c, rfl⟩
      have hk2 : k < l.length := by simpa using hk
      have hm := h _ (List.getElem_mem hk2)
      simp [store, tyAny, tyIs, hm])
  rw [Pn_def (T.at 121)]
  simp [c_need_things, ini, seq_it hd, e]
theorem with_labels_ok (T : TabS CdS Cd [0, 111, 119, 1009, 2039, 2088, 2177, 2178]) (n : Nat) (hn : 5 ≤ n) {m : List MO} {th a q : List (List Nat)} {R R' : List Row} {l : D} (hl : SeqD l (R'.map Row.lab)) (h : Bk0 th R a q) (hR' : okR th R') (hm : ClM m) :
    Pn Cd GmS n 2088 [bkD th R a q, l] m = some (.val (bkD th R' (fk R' a) (fk R' q)), m) := by
  obtain ⟨n, rfl⟩ : ∃ n', n = n' + 1 := ⟨n - 1, by omega⟩
  have r16 := h.r.1
  have r16' := hR'.1
  have e1 := compL_of (st := store (.tn 4)) (cd := ev (Pn Cd GmS n) GmS (.cst (.bl true))) (el := ev (Pn Cd GmS n) GmS (.fld (.var 4) 0 [0, 4, 5, 6, 7, 8, 15])) (r := [some (.val (bkD th R a q)), some (.val l), none, none, none, none]) Row.lab (fun _ => true) (fun r : Row => sD r.k) R' [] m (by
    intro x hx
    simp [store, Row.lab, lab]) (by simp; unfold big; omega)
  have el : ∀ x : List (List Nat), x.length ≤ 16 → ∀ (rr : List (Option Cell)), rr.length = 6 → rr[2]? = some (some (.val (.lst (R'.map fun r => sD r.k)))) →
      compL (store (.tn 5)) (ev (Pn Cd GmS n) GmS (.cmp .isin (.var 5) (.var 2))) (ev (Pn Cd GmS n) GmS (.var 5)) rr (x.map sD) [] m = some (.fr (.bx ((x.filter fun y => decide (y ∈ R'.map Row.k)).map sD)), ⟨rr, m⟩) := by
    intro x hx rr hrr h2
    have z := compL_of (st := store (.tn 5)) (cd := ev (Pn Cd GmS n) GmS (.cmp .isin (.var 5) (.var 2))) (el := ev (Pn Cd GmS n) GmS (.var 5)) (r := rr) sD (fun y => decide (y ∈ R'.map Row.k)) sD x [] m (by
      intro y hy
      have h5 : (rr.set 5 (some (.val (sD y))))[5]? = some (some (.val (sD y))) := List.getElem?_set_self (by omega)
      have h22 : (rr.set 5 (some (.val (sD y))))[2]? = some (some (.val (.lst (R'.map fun r => sD r.k)))) := by rw [List.getElem?_set_ne (by omega)]; exact h2
      have kk : (R'.map fun r => sD r.k) = (R'.map Row.k).map sD := by rw [List.map_map]; rfl
      rw [kk] at h22
      refine ⟨_, rfl, ⟨rr.set 5 (some (.val (sD y))), m⟩, ?_, rfl, fun _ => ⟨⟨rr.set 5 (some (.val (sD y))), m⟩, ?_, rfl⟩⟩
      · generalize R'.map Row.k = K at h22 ⊢
        simp [h5, h22]
      · simp [h5]) (by simp; unfold big; omega)
    rw [z, List.nil_append]
  have ra : a.length ≤ 16 := by
    have z : a.length ≤ (R.map Row.k).length := by rw [← h.fa]; exact List.length_filter_le _ _
    rw [List.length_map] at z; omega
  have rq : q.length ≤ 16 := by
    have z : q.length ≤ (R.map Row.k).length := by rw [← h.fq]; exact List.length_filter_le _ _
    rw [List.length_map] at z; omega
  have hb := book_ok (T.sub (l' := [0, 111, 119, 1009, 2177, 2178]) rfl) (T.at 2039) n (by omega) (m := m) (ds := [.lst (th.map sD), l, .lst ((a.filter fun x => decide (x ∈ R'.map Row.k)).map sD), .lst ((q.filter fun x => decide (x ∈ R'.map Row.k)).map sD)]) rfl (.inl rfl) hl (.inl rfl) (.inl rfl) h.t hR'
    (by
      rw [← List.filter_append]
      exact h.nd.sublist List.filter_sublist) (by
      intro x hx
      rw [← List.filter_append] at hx
      exact of_decide_eq_true (List.mem_filter.mp hx).2) hm
  rw [show ((R'.map Row.k).filter fun x => decide (x ∈ a.filter fun x => decide (x ∈ R'.map Row.k))) = fk R' a from fk_filter R' a, show ((R'.map Row.k).filter fun x => decide (x ∈ q.filter fun x => decide (x ∈ R'.map Row.k))) = fk R' q from fk_filter R' q] at hb
  rw [List.filter_eq_self.mpr fun _ _ => rfl, List.nil_append] at e1
  have ea := el a ra
  have eq := el q rq
  rw [Pn_def (T.at 2088)]
  generalize bkD th R' (fk R' a) (fk R' q) = B' at hb ⊢
  generalize ((a.filter fun x => decide (x ∈ R'.map Row.k)).map sD) = FA at ea hb
  generalize ((q.filter fun x => decide (x ∈ R'.map Row.k)).map sD) = FQ at eq hb
  generalize (R'.map fun r => sD r.k) = KS at e1 ea eq
  generalize hLS : R'.map Row.lab = LS at e1 hl
  unfold bkD at e1 ⊢
  simp [c_Book_with_labels, ini, gdF, lay, Src.at, seq_it hl, valR_cons, valR_nil, wipeR, e1, ea, eq, hb]
/-- the rows with another one for its key -/
def putR (x : Row) (R : List Row) : List Row := R.map fun r => if r.k = x.k then x else r
theorem putR_keys (x : Row) (R : List Row) : (putR x R).map Row.k = R.map Row.k := by
  unfold putR
  rw [List.map_map]
  refine List.map_congr_left fun r _ => ?_
  show (if r.k = x.k then x else r).k = r.k
  split
  · rename_i h; exact h.symm
  · rfl
theorem putR_ok {th : List (List Nat)} {R : List Row} {x : Row} (h : okR th R) (hb : x.b ∈ th) : okR th (putR x R) := by
  refine ⟨by unfold putR; rw [List.length_map]; exact h.1, by rw [putR_keys]; exact h.2.1, fun r hr => ?_⟩
  unfold putR at hr
  obtain ⟨y, hy, rfl⟩ := List.mem_map.mp hr
  split
  · exact hb
  · exact h.2.2 y hy
theorem fk_put (x : Row) (R : List Row) (a : List (List Nat)) : fk (putR x R) a = fk R a := by unfold fk; rw [putR_keys]
theorem Bk0.put {th a q : List (List Nat)} {R : List Row} {x : Row} (h : Bk0 th R a q) (hb : x.b ∈ th) : Bk0 th (putR x R) a q := ⟨h.t, putR_ok h.r hb, by rw [fk_put]; exact h.fa, by rw [fk_put]; exact h.fq, h.dj⟩
theorem exchanged_ok (T : TabS CdS Cd [0, 111, 119, 121, 1009, 2039, 2077, 2086, 2088, 2089, 2177, 2178]) (n : Nat) (hn : 6 ≤ n) {m : List MO} {th a q : List (List Nat)} {R : List Row} {x : Row} (h : Bk0 th R a q) (hk : x.k ∈ R.map Row.k) (hb : x.b ∈ th) (hm : ClM m) :
    Pn Cd GmS n 2089 [bkD th R a q, x.lab] m = some (.val (bkD th (putR x R) a q), m) := by
  obtain ⟨n, rfl⟩ : ∃ n', n = n' + 1 := ⟨n - 1, by omega⟩
  have h1 := need_key_ok (T.sub (l' := [2086, 2177]) rfl) n (by omega) (m := m) (th := th) (a := a) (q := q) hk
  have h2 := need_things_ok (T.sub (l' := [121]) rfl) n (by omega) (m := m) (th := th) (l := [x.b]) (.inl rfl) (fun y hy => by cases List.mem_singleton.mp hy; exact hb)
  have h3 := blabels_ok (T.sub (l' := [2077]) rfl) n (by omega) (m := m) (a := a) (q := q) h.r
  have h4 := with_labels_ok (T.sub (l' := [0, 111, 119, 1009, 2039, 2088, 2177, 2178]) rfl) n (by omega) (m := m) (l := .lst ((putR x R).map Row.lab)) (.inl rfl) h (putR_ok h.r hb) hm
  rw [fk_put, fk_put, h.fa, h.fq] at h4
  have e := compL_of (st := store (.tn 2)) (cd := ev (Pn Cd GmS n) GmS (.cst (.bl true))) (el := ev (Pn Cd GmS n) GmS (.ite (.cmp .eq (.fld (.var 2) 0 [0, 4, 5, 6, 7, 8, 15]) (.fld (.var 1) 0 [0, 4, 5, 6, 7, 8, 15])) (.var 1) (.var 2))) (r := [some (.val (bkD th R a q)), some (.val x.lab), none]) Row.lab (fun _ => true) (fun r : Row => if r.k = x.k then x.lab else r.lab) R [] m (by
    intro y hy
    by_cases hyx : y.k = x.k
    · simp [store, Row.lab, lab, hyx]
    · simp [store, Row.lab, lab, hyx]) (by simp; have := h.r.1; unfold big; omega)
  rw [List.filter_eq_self.mpr fun _ _ => rfl, List.nil_append] at e
  have pe : (R.map fun r : Row => if r.k = x.k then x.lab else r.lab) = (putR x R).map Row.lab := by
    unfold putR
    rw [List.map_map]
    refine List.map_congr_left fun r _ => ?_
    show (if r.k = x.k then x.lab else r.lab) = (if r.k = x.k then x else r).lab
    split <;> rfl
  rw [pe] at e
  rw [Pn_def (T.at 2089)]
  generalize bkD th (putR x R) a q = B' at h4 ⊢
  generalize (putR x R).map Row.lab = LS' at e h4
  generalize hLS : R.map Row.lab = LS at e h3
  have cn : ∀ s, clsN s (bkD th R a q) = some 1 := fun _ => rfl
  have cf : ∀ s, clsF s (bkD th R a q) = some (1, [5, 6, 7, 8], [.lst (th.map sD), .dct (R.map fun r => sK r.k) (R.map Row.lab), .lst (a.map sD), .lst (q.map sD)]) := fun _ => rfl
  generalize bkD th R a q = B at *
  simp only [Row.lab, lab] at *
  simp at h2
  simp [c_Book_exchanged, ini, gdF, lay, Src.at, t_need_key_1, t_labels_0, t_with_labels_1, cn, cf, h1, h2, h3, h4, valR_cons, valR_nil, wipeR, e]
end
end En

namespace En
open PySem PySem.Spec L2
theorem sub_filter {l k : List (List Nat)} (h : l.Sublist k) (nd : k.Nodup) : k.filter (fun x => decide (x ∈ l)) = l := by
  induction h with
  | slnil => rfl
  | @cons l1 l2 a h ih =>
    have n := List.nodup_cons.mp nd
    rw [List.filter_cons, if_neg]
    · exact ih n.2
    · intro z
      exact n.1 (h.subset (of_decide_eq_true z))
  | @cons_cons l1 l2 a h ih =>
    have n := List.nodup_cons.mp nd
    rw [List.filter_cons, if_pos (decide_eq_true (List.mem_cons_self ..))]
    congr 1
    rw [← ih n.2]
    refine List.filter_congr fun x hx => ?_
    rw [ih n.2]
    refine decide_eq_decide.mpr ⟨fun z => ?_, List.mem_cons_of_mem _⟩
    rcases List.mem_cons.mp z with rfl | z
    · exact absurd hx n.1
    · exact z
/-! ### sorted texts -/
theorem strsOf_sD : ∀ l : List (List Nat), strsOf (l.map sD) = some (l.map tx)
  | [] => rfl
  | a :: l => by rw [List.map_cons, strsOf, strsOf_sD l]; rfl
/-- texts, sorted -/
def srtL (l : List (List Nat)) : List Str := srtB leS (l.map tx)
theorem sorted_sD {l : List (List Nat)} {s : S} (h : l.length < 64) : biF .sorted [.lst (l.map sD)] s = some (.fr (.bx ((srtL l).map D.str)), s) := by
  refine sorted_l ?_
  unfold srtD
  rw [strsOf_sD]
  show (if (l.map tx).length < 64 then _ else _) = _
  rw [if_pos (by rw [List.length_map]; exact h)]
  rfl
theorem srtL_eq {l l' : List (List Nat)} (h : l.Nodup) (h' : l'.Nodup) : srtL l = srtL l' ↔ ∀ x, x ∈ l ↔ x ∈ l' := by
  have inj : Function.Injective (fun x : List Nat => tx x) := fun a b e => tx_inj.mp e
  constructor
  · intro e x
    have p : (l.map fun x => tx x).Perm (l'.map fun x => tx x) := (srtB_perm (le := leS) (l.map tx)).symm.trans ((show srtB leS (l.map tx) = srtB leS (l'.map tx) from e) ▸ srtB_perm (le := leS) (l'.map tx))
    have m : ∀ l : List (List Nat), tx x ∈ l.map (fun x => tx x) ↔ x ∈ l := fun l => by
      rw [List.mem_map]
      exact ⟨fun ⟨y, hy, e⟩ => tx_inj.mp e ▸ hy, fun h => ⟨x, h, rfl⟩⟩
    rw [← m l, ← m l']
    exact p.mem_iff
  · intro e
    have p : l.Perm l' := (List.perm_ext_iff_of_nodup h h').mpr e
    exact srt_uniq leS_asy ((srtB_perm _).trans ((p.map _).trans (srtB_perm _).symm)) (srtB_pw leS_tot leS_tr _) (srtB_pw leS_tot leS_tr _)
theorem eqDs_str (l l' : List Str) : eqDs (l.map D.str) (l'.map D.str) = decide (l = l') := eqDs_map (fun a b => by
  rw [eqD_s]
  by_cases h : a = b
  · subst h; simp
  · rw [decide_eq_false h]; exact beq_false_of_ne h) l l'
theorem okD_str (n : Nat) (l : List Str) : (l.map D.str).all (okD n) = true := List.all_eq_true.mpr fun d hd => by
  obtain ⟨x, _, rfl⟩ := List.mem_map.mp hd
  exact okD_s
theorem fk_eq {R : List Row} {A A' : List (List Nat)} : fk R A = fk R A' ↔ ∀ x ∈ R.map Row.k, (x ∈ A ↔ x ∈ A') := by
  constructor
  · intro e x hx
    have h1 : x ∈ fk R A ↔ x ∈ fk R A' := by rw [e]
    rw [fk_mem, fk_mem] at h1
    exact ⟨fun h => (h1.mp ⟨hx, h⟩).2, fun h => (h1.mpr ⟨hx, h⟩).2⟩
  · intro h
    exact List.filter_congr fun x hx => decide_eq_decide.mpr (h x hx)
section
variable {Cd : Nat → Option Ent}
theorem narrowed_ok (T : TabS CdS Cd [0, 1, 2, 1000, 2003, 2073, 2091]) (n : Nat) (hn : 4 ≤ n) {m : List MO} {r : Row} (h : r.ok) {f l : Int} (h1 : r.f ≤ f) (h2 : f ≤ l) (h3 : l ≤ r.l) :
    Pn Cd GmS n 2091 [r.lab, .int f, .int l] m = some (.val (Row.lab ⟨r.k, r.w, r.b, f, l⟩), m) := by
  obtain ⟨n, rfl⟩ : ∃ n', n = n' + 1 := ⟨n - 1, by omega⟩
  obtain ⟨o1, o2, o3, o4, o5, o6⟩ := h
  have mb : ∀ (i : Int), r.f ≤ i → i ≤ r.l → Pn Cd GmS n 2073 [r.lab, .int i] m = some (.val (.bl true), m) := fun i h1 h2 => by
    obtain ⟨n, rfl⟩ : ∃ n', n = n' + 1 := ⟨n - 1, by omega⟩
    have q := number_ok (T.sub (l' := [1]) rfl) n (by omega) (.int i) m r.f r.l rfl
    rw [show isIn r.f r.l (.int i) = true from decide_eq_true ⟨h1, h2⟩] at q
    rw [Pn_def (T.at 2073)]
    simp [c_Label_may_be, ini, gdF, lay, Src.at, Row.lab, lab, q]
  have m1 := mb f h1 (by omega)
  have m2 := mb l (by omega) h3
  have lk := label_ok (T.sub (l' := [0, 1, 2, 1000]) rfl) (T.at 2003) n (by omega) (m := m) (ds := [.str (tx r.k), .str (tx r.w), .str (tx r.b), .int f, .int l]) rfl o1 o2 o3 (by omega) (by omega) (.inr ⟨rfl, h2, by omega⟩)
  have lt : ¬ l < f := by omega
  rw [Pn_def (T.at 2091)]
  simp only [Row.lab, lab] at *
  simp [c_Label_narrowed, ini, gdF, lay, Src.at, t_may_be_1, m1, m2, lt, lk]
/-- a law's book behind a ruling -/
def ruA (R : List Row) (A : List (List Nat)) (word key : List Nat) (w0 : List Nat) : List (List Nat) := (R.map Row.k).filter fun x => decide ((x ∈ A ∧ x ≠ key) ∨ (x = key ∧ word = w0))
def wAside : List Nat := [97, 115, 105, 100, 101]
def wKept : List Nat := [107, 101, 112, 116]
theorem lruled_ok (T : TabS CdS Cd [116, 203]) (n : Nat) (hn : 3 ≤ n) {m : List MO} {th A Q : List (List Nat)} {R : List Row} (hR : R.length ≤ 1000) (hA : A.length ≤ 1000) (hQ : Q.length ≤ 1000) {word key : List Nat} :
    Pn Cd GmS n 203 [spD th R A Q, .tup [sD word, sD key]] m = some (.val (spD th R (ruA R A word key wAside) (ruA R Q word key wKept)), m) := by
  obtain ⟨n, rfl⟩ : ∃ n', n = n' + 1 := ⟨n - 1, by omega⟩
  have hk := keys_ok (T.sub (l' := [116]) rfl) n (by omega) (m := m) (a := .lst (th.map sD)) (c := .lst (A.map sD)) (d := .lst (Q.map sD)) hR
  have kk : (R.map fun r => D.str (tx r.k)) = (R.map Row.k).map sD := by rw [List.map_map]; rfl
  rw [kk] at hk
  have e1 : ∀ (X : List (List Nat)), X.length ≤ 1000 → ∀ (rr : List (Option Cell)), rr.length = 7 → rr[5]? = some (some (.val (sD key))) →
      compL (store (.tn 6)) (ev (Pn Cd GmS n) GmS (.cmp .ne (.var 6) (.var 5))) (ev (Pn Cd GmS n) GmS (.var 6)) rr (X.map sD) [] m = some (.fr (.bx ((X.filter fun y => decide (y ≠ key)).map sD)), ⟨rr, m⟩) := by
    intro X hX rr hrr h5
    have z := compL_of (st := store (.tn 6)) (cd := ev (Pn Cd GmS n) GmS (.cmp .ne (.var 6) (.var 5))) (el := ev (Pn Cd GmS n) GmS (.var 6)) (r := rr) sD (fun y => decide (y ≠ key)) sD X [] m (by
      intro y hy
      have h6 : (rr.set 6 (some (.val (sD y))))[6]? = some (some (.val (sD y))) := List.getElem?_set_self (by omega)
      have h55 : (rr.set 6 (some (.val (sD y))))[5]? = some (some (.val (sD key))) := by rw [List.getElem?_set_ne (by omega)]; exact h5
      refine ⟨_, rfl, ⟨rr.set 6 (some (.val (sD y))), m⟩, ?_, rfl, fun _ => ⟨⟨rr.set 6 (some (.val (sD y))), m⟩, ?_, rfl⟩⟩
      · simp [h6, h55]
      · simp [h6]) (by simp; unfold big; omega)
    rw [z, List.nil_append]
  have e2 : ∀ (X w0 : List (List Nat)) (i : Nat) (wc : List Nat), i = 2 ∨ i = 3 → ∀ (rr : List (Option Cell)), rr.length = 7 → rr[5]? = some (some (.val (sD key))) → rr[4]? = some (some (.val (sD word))) → rr[i]? = some (some (.val (.lst (X.map sD)))) →
      compL (store (.tn 6)) (ev (Pn Cd GmS n) GmS (.bor (.cmp .isin (.var 6) (.var i)) (.one (.band (.cmp .eq (.var 6) (.var 5)) (.one (.cmp .eq (.var 4) (.cst (.str (tx wc))))))))) (ev (Pn Cd GmS n) GmS (.var 6)) rr ((R.map Row.k).map sD) [] m =
        some (.fr (.bx (((R.map Row.k).filter fun y => decide (y ∈ X ∨ (y = key ∧ word = wc))).map sD)), ⟨rr, m⟩) := by
    intro X w0 i wc hi rr hrr h5 h4 hi2
    have z := compL_of (st := store (.tn 6)) (cd := ev (Pn Cd GmS n) GmS (.bor (.cmp .isin (.var 6) (.var i)) (.one (.band (.cmp .eq (.var 6) (.var 5)) (.one (.cmp .eq (.var 4) (.cst (.str (tx wc))))))))) (el := ev (Pn Cd GmS n) GmS (.var 6)) (r := rr) sD (fun y => decide (y ∈ X ∨ (y = key ∧ word = wc))) sD (R.map Row.k) [] m (by
      intro y hy
      have h6 : (rr.set 6 (some (.val (sD y))))[6]? = some (some (.val (sD y))) := List.getElem?_set_self (by omega)
      have h55 : (rr.set 6 (some (.val (sD y))))[5]? = some (some (.val (sD key))) := by rw [List.getElem?_set_ne (by omega)]; exact h5
      have h44 : (rr.set 6 (some (.val (sD y))))[4]? = some (some (.val (sD word))) := by rw [List.getElem?_set_ne (by omega)]; exact h4
      have hii : (rr.set 6 (some (.val (sD y))))[i]? = some (some (.val (.lst (X.map sD)))) := by rw [List.getElem?_set_ne (by omega)]; exact hi2
      refine ⟨_, rfl, ⟨rr.set 6 (some (.val (sD y))), m⟩, ?_, rfl, fun _ => ⟨⟨rr.set 6 (some (.val (sD y))), m⟩, ?_, rfl⟩⟩
      · by_cases c1 : y ∈ X
        · simp [h6, hii, c1]
        · by_cases c2 : y = key
          · subst c2
            simp [h6, hii, h55, h44, c1]
          · simp [h6, hii, h55, h44, c1, c2]
      · simp [h6]) (by simp; unfold big; omega)
    rw [z, List.nil_append]
  have eA := e1 A hA
  have eQ := e1 Q hQ
  have fA := e2 (A.filter fun y => decide (y ≠ key)) [] 2 wAside (.inl rfl)
  have fQ := e2 (Q.filter fun y => decide (y ≠ key)) [] 3 wKept (.inr rfl)
  have rA : ((R.map Row.k).filter fun y => decide (y ∈ (A.filter fun y => decide (y ≠ key)) ∨ (y = key ∧ word = wAside))) = ruA R A word key wAside := List.filter_congr fun x hx => by simp [List.mem_filter]
  have rQ : ((R.map Row.k).filter fun y => decide (y ∈ (Q.filter fun y => decide (y ≠ key)) ∨ (y = key ∧ word = wKept))) = ruA R Q word key wKept := List.filter_congr fun x hx => by simp [List.mem_filter]
  rw [rA] at fA
  rw [rQ] at fQ
  rw [Pn_def (T.at 203)]
  unfold spD
  generalize (ruA R A word key wAside).map sD = GA at fA ⊢
  generalize (ruA R Q word key wKept).map sD = GQ at fQ ⊢
  unfold wAside at fA
  unfold wKept at fQ
  generalize (A.filter fun y => decide (y ≠ key)).map sD = XA at eA fA
  generalize (Q.filter fun y => decide (y ≠ key)).map sD = XQ at eQ fQ
  generalize (R.map Row.k).map sD = KS at hk fA fQ
  simp [c_law_ruled, ini, List.replicate, storeAll, store, at_0, at_1, at_2, at_3, valR_cons, valR_nil, wipeR, eA, eQ, hk, fA, fQ]
theorem ruA_sub {R : List Row} {A : List (List Nat)} {w k w0 : List Nat} : (ruA R A w k w0).Sublist (R.map Row.k) := List.filter_sublist
theorem ruA_dj {R : List Row} {A Q : List (List Nat)} {w k : List Nat} (h : ∀ x ∈ A, x ∉ Q) : ∀ x ∈ ruA R A w k wAside, x ∉ ruA R Q w k wKept := by
  intro x h1 h2
  have a := of_decide_eq_true (List.mem_filter.mp h1).2
  have b := of_decide_eq_true (List.mem_filter.mp h2).2
  rcases a with ⟨a1, a2⟩ | ⟨a1, a2⟩
  · rcases b with ⟨b1, b2⟩ | ⟨b1, b2⟩
    · exact h x a1 b1
    · exact a2 b1
  · rcases b with ⟨b1, b2⟩ | ⟨b1, b2⟩
    · exact b2 a1
    · rw [a2] at b2
      cases b2
end
end En

namespace En
open PySem PySem.Spec L2
def c_law_b0 : E := (.seq (.asg 9 (.cmo .eq tEq (.lst (.cns (.ix (.var 6) (.cst (.int 0))) (.cns (.ix (.var 6) (.cst (.int 1))) (.cns (.bi .sorted (.cns (.ix (.var 6) (.cst (.int 2))) .nil)) (.cns (.bi .sorted (.cns (.ix (.var 6) (.cst (.int 3))) .nil)) .nil))))) (.lst (.cns (.ix (.var 3) (.cst (.int 0))) (.cns (.ix (.var 3) (.cst (.int 1))) (.cns (.bi .sorted (.cns (.ix (.var 3) (.cst (.int 2))) .nil)) (.cns (.bi .sorted (.cns (.ix (.var 3) (.cst (.int 3))) .nil)) .nil))))))) (.seq (.asg 10 (.cal 124 (.cns (.var 6) .nil))) (.seq (.iff (.nt (.cal 13 (.cns (.lst (.cns (.cmo .eq tEq (.var 7) (.var 10)) (.cns (.cmo .eq tEq (.var 10) (.var 7)) (.cns (.cmo .ne tEq (.var 7) (.var 10)) .nil)))) (.cns (.lst (.cns (.var 9) (.cns (.var 9) (.cns (.nt (.var 9)) .nil)))) .nil)))) (.seq (.ret (.cst (.bl false))) .skp) .skp) .skp)))
def c_law_b1 : E := (.seq (.exp (.bm .append (.var 4) (.cns (.cal 203 (.cns (.var 3) (.cns (.tpl (.cns (.cal 12 (.cns (.var 1) (.cns (.lst (.cns (.cst (.str (tx [97, 115, 105, 100, 101]))) (.cns (.cst (.str (tx [107, 101, 112, 116]))) (.cns (.cst (.str (tx [102, 114, 101, 101]))) .nil)))) .nil))) (.cns (.var 5) .nil))) .nil))) .nil))) .skp)
def c_law_b2 : E := (.seq (.asg 3 (.cal 176 (.cns (.var 1) (.cns (.cst (.int 4)) (.cns (.cst (.int 5)) (.cns (.cst (.int 3)) .nil)))))) (.seq (.par 7 8 (.cal 124 (.cns (.var 3) .nil)) (.cal 116 (.cns (.var 3) .nil))) (.seq (.asb 4 (.lst (.cns (.var 3) (.cns (.tpl (.cns (.rev (.ix (.var 3) (.cst (.int 0)))) (.cns (.ix (.var 3) (.cst (.int 1))) (.cns (.ix (.var 3) (.cst (.int 2))) (.cns (.ix (.var 3) (.cst (.int 3))) .nil))))) (.cns (.tpl (.cns (.bop .add (.ix (.var 3) (.cst (.int 0))) (.lst (.cns (.cst (.str (tx [122, 122, 122, 122, 122, 122]))) .nil))) (.cns (.ix (.var 3) (.cst (.int 1))) (.cns (.ix (.var 3) (.cst (.int 2))) (.cns (.ix (.var 3) (.cst (.int 3))) .nil))))) (.cns (.tpl (.cns (.ix (.var 3) (.cst (.int 0))) (.cns (.rev (.ix (.var 3) (.cst (.int 1)))) (.cns (.rev (.ix (.var 3) (.cst (.int 2)))) (.cns (.rev (.ix (.var 3) (.cst (.int 3)))) .nil))))) (.cns (.tpl (.cns (.ix (.var 3) (.cst (.int 0))) (.cns (.bop .add (.ix (.var 3) (.cst (.int 1))) (.lst (.cns (.tpl (.cns (.cst (.str (tx [122, 122, 122, 122, 122, 122]))) (.cns (.cst (.str (tx [97]))) (.cns (.ix (.ix (.var 3) (.cst (.int 0))) (.cst (.int 0))) (.cns (.cst (.int 3)) (.cns (.cst (.int 4)) .nil)))))) .nil))) (.cns (.ix (.var 3) (.cst (.int 2))) (.cns (.ix (.var 3) (.cst (.int 3))) .nil))))) .nil))))))) (.seq (.frr (.tn 5) (.it (.var 8)) c_law_b1) (.seq (.lks (.var 4) (.frr (.tn 6) (.it (.var 4)) c_law_b0)) (.seq (.iff (.band (.cmo .ne tEq (.var 8) (.lst .nil)) (.one (.nt (.cal 123 (.cns (.var 7) (.cns (.var 3) .nil)))))) (.seq (.ret (.cst (.bl false))) .skp) .skp) (.seq (.iff (.bor (.cmo .eq tEq (.var 7) (.var 3)) (.bor (.cmo .eq tEq (.var 7) (.cst .non)) (.one (.cmo .eq tEq (.var 7) (.var 8))))) (.seq (.ret (.cst (.bl false))) .skp) .skp) (.seq (.iff (.band (.cmo .ne tEq (.var 8) (.lst .nil)) (.band (.cmo .eq tEq (.var 7) (.met t_exchanged_1 (.var 7) 1 (.cns (.met t_narrowed_2 (.met t_label_1 (.var 7) 1 (.cns (.ix (.var 8) (.cst (.int 0))) .nil) 0 .nil) 2 (.cns (.ix (.ix (.ix (.var 3) (.cst (.int 1))) (.cst (.int 0))) (.cst (.int 3))) (.cns (.ix (.ix (.ix (.var 3) (.cst (.int 1))) (.cst (.int 0))) (.cst (.int 3))) .nil)) 0 .nil) .nil) 0 .nil)) (.one (.cmo .ne tEq (.ix (.ix (.ix (.var 3) (.cst (.int 1))) (.cst (.int 0))) (.cst (.int 3))) (.ix (.ix (.ix (.var 3) (.cst (.int 1))) (.cst (.int 0))) (.cst (.int 4))))))) (.seq (.ret (.cst (.bl false))) .skp) .skp) .skp))))))))
def c_law : E := (.seq (.asb 1 (.cal 10 (.cns (.var 0) .nil))) (.seq (.frr (.tn 2) (.rng (.cst (.int 4))) c_law_b2) (.seq (.ret (.band (.cmo .eq tEq (.calk 2040 1 (.cns (.lst (.cns (.cst (.str (tx [97]))) .nil)) .nil) 0 .nil) (.calk 2040 1 (.cns (.tpl (.cns (.cst (.str (tx [97]))) .nil)) .nil) 0 .nil)) (.one (.cmo .ne tEq (.calk 2040 1 (.cns (.lst (.cns (.cst (.str (tx [97]))) .nil)) .nil) 0 .nil) (.calk 2040 1 (.cns (.lst (.cns (.cst (.str (tx [98]))) .nil)) .nil) 0 .nil))))) .skp)))
theorem Clo.mono {n k : Nat} {o : MO} (h : Clo n o) (hk : n ≤ k) : Clo k o := fun f hf => h f fun j hj => hf j (by omega)
theorem ClM.snoc {m : List MO} {o : MO} (h : ClM m) (ho : Clo (m.length + 1) o) : ClM (m ++ [o]) := fun x hx => by
  rw [List.length_append, List.length_singleton]
  rcases List.mem_append.mp hx with hx | hx
  · exact (h x hx).mono (by omega)
  · cases List.mem_singleton.mp hx
    exact ho
theorem spD_pu (th : List (List Nat)) (R : List Row) (A Q : List (List Nat)) : Pu (spD th R A Q) := Pu.tup fun d hd => by
  simp only [List.mem_cons, List.not_mem_nil, or_false] at hd
  rcases hd with rfl | rfl | rfl | rfl
  · exact Pu.lst (Pu.strs _)
  · exact Pu.lst fun d hd => by
      obtain ⟨x, _, rfl⟩ := List.mem_map.mp hd
      refine Pu.tup fun y hy => ?_
      simp only [List.mem_cons, List.not_mem_nil, or_false] at hy
      rcases hy with rfl | rfl | rfl | rfl | rfl <;> first | exact Pu.str _ | exact Pu.int _
  · exact Pu.lst (Pu.strs _)
  · exact Pu.lst (Pu.strs _)
theorem SpOk.bk {tn ln wd : Nat} {th A Q : List (List Nat)} {R : List Row} (h : SpOk tn ln wd th R A Q) (ht : tn ≤ 8) (hl : ln ≤ 16) (hw : wd ≤ 7) : BkOk th R A Q where
  t := ⟨h.t0, Nat.le_trans h.tl ht, (List.nodup_append.mp h.nd).1, fun t ht => (h.nt t ht).word⟩
  r := ⟨Nat.le_trans h.rl hl, (List.nodup_append.mp h.nd).2.1, fun r hr => (h.row r hr).2.2.1⟩
  ok := fun r hr => by
    obtain ⟨h1, h2, h3, h4, h5, h6, h7⟩ := h.row r hr
    exact ⟨h1.word, h2.word, (h.nt _ h3).word, h4, h6, by omega⟩
  nd := List.nodup_append.mpr ⟨(List.nodup_append.mp h.nd).2.1.sublist h.sa, (List.nodup_append.mp h.nd).2.1.sublist h.sq, fun x hx y hy e => h.dj x hx (e ▸ hy)⟩
  ke := fun x hx => by
    rcases List.mem_append.mp hx with hx | hx
    · exact h.sa.subset hx
    · exact h.sq.subset hx
def NearOk (d : D) : Prop := ∃ th R A Q, d = spD th R A Q ∧ BkOk th R A Q ∧ A.length ≤ 16 ∧ Q.length ≤ 16
abbrev tabK13 : List Nat := [0, 1, 2, 11, 12, 13, 14, 111, 114, 116, 119, 121, 123, 124, 176, 203, 238, 1000, 1009, 2003, 2006, 2035, 2036, 2039, 2040, 2073, 2077, 2086, 2088, 2089, 2090, 2091, 2177, 2178]
section
variable {Cd : Nat → Option Ent}
theorem BkOk.la {th A Q : List (List Nat)} {R : List Row} (h : BkOk th R A Q) : A.length ≤ 16 ∧ Q.length ≤ 16 := by
  have h1 := nodup_le h.nd h.ke
  rw [List.length_append, List.length_map] at h1
  have := h.r.1
  omega
theorem b0_ok (T : TabS CdS Cd tabK13) (n : Nat) (hn : 8 ≤ n) {th A Q : List (List Nat)} {R : List Row} (h : BkOk th R A Q) {late : D} (hl : NearOk late) {m : List MO} (hm : ClM m) (c0 c1 c2 c4 c5 c8 c9 c10 : Option Cell) :
    ∃ d9 d10, ev (Pn Cd GmS n) GmS c_law_b0 ⟨[c0, c1, c2, some (.val (spD th R A Q)), c4, c5, some (.val late), some (.val (bkD th R (fk R A) (fk R Q))), c8, c9, c10], m⟩ =
      some (.nx, ⟨[c0, c1, c2, some (.val (spD th R A Q)), c4, c5, some (.val late), some (.val (bkD th R (fk R A) (fk R Q))), c8, d9, d10], m⟩) := by
  obtain ⟨th', R', A', Q', rfl, h', la', lq'⟩ := hl
  obtain ⟨la, lq⟩ := h.la
  have hmd := made_ok (T.sub (l' := [0, 1, 2, 111, 114, 119, 124, 1000, 1009, 2003, 2039, 2177, 2178]) rfl) n (by omega) h' hm
  have e1 := beq_ok (T.sub (l' := [2006, 2035, 2036]) rfl) n (by omega) (m := m) (a := fk R A) (q := fk R Q) (a' := fk R' A') (q' := fk R' Q') h.r h'.r
  have e2 := beq_ok (T.sub (l' := [2006, 2035, 2036]) rfl) n (by omega) (m := m) (a' := fk R A) (q' := fk R Q) (a := fk R' A') (q := fk R' Q') h'.r h.r
  have hd : decide (th' = th ∧ R' = R ∧ fk R' A' = fk R A ∧ fk R' Q' = fk R Q) = decide (th' = th ∧ R' = R ∧ srtL A' = srtL A ∧ srtL Q' = srtL Q) := by
    refine decide_eq_decide.mpr ?_
    have hA := (List.nodup_append.mp h.nd).1
    have hQ := (List.nodup_append.mp h.nd).2.1
    have hA' := (List.nodup_append.mp h'.nd).1
    have hQ' := (List.nodup_append.mp h'.nd).2.1
    constructor
    · rintro ⟨rfl, rfl, e3, e4⟩
      refine ⟨rfl, rfl, (srtL_eq hA' hA).mpr fun x => ?_, (srtL_eq hQ' hQ).mpr fun x => ?_⟩
      · exact ⟨fun z => (fk_eq.mp e3 x (h'.ke x (List.mem_append_left _ z))).mp z, fun z => (fk_eq.mp e3 x (h.ke x (List.mem_append_left _ z))).mpr z⟩
      · exact ⟨fun z => (fk_eq.mp e4 x (h'.ke x (List.mem_append_right _ z))).mp z, fun z => (fk_eq.mp e4 x (h.ke x (List.mem_append_right _ z))).mpr z⟩
    · rintro ⟨rfl, rfl, e3, e4⟩
      exact ⟨rfl, rfl, fk_eq.mpr fun x _ => (srtL_eq hA' hA).mp e3 x, fk_eq.mpr fun x _ => (srtL_eq hQ' hQ).mp e4 x⟩
  have hs : decide (th = th' ∧ R = R' ∧ fk R A = fk R' A' ∧ fk R Q = fk R' Q') = decide (th' = th ∧ R' = R ∧ fk R' A' = fk R A ∧ fk R' Q' = fk R Q) :=
    decide_eq_decide.mpr ⟨fun ⟨a, b, c, d⟩ => ⟨a.symm, b.symm, c.symm, d.symm⟩, fun ⟨a, b, c, d⟩ => ⟨a.symm, b.symm, c.symm, d.symm⟩⟩
  rw [hs, hd] at e1
  rw [hd] at e2
  have s1 := fun d m h => same_refl (Gm := GmS) (T.at 13) 2 d m h n (by omega)
  have sA := fun s => sorted_sD (l := A) (s := s) (by omega)
  have sQ := fun s => sorted_sD (l := Q) (s := s) (by omega)
  have sA' := fun s => sorted_sD (l := A') (s := s) (by omega)
  have sQ' := fun s => sorted_sD (l := Q') (s := s) (by omega)
  have cn1 : ∀ s, clsN s (bkD th R (fk R A) (fk R Q)) = some 1 := fun _ => rfl
  have cn2 : ∀ s, clsN s (bkD th' R' (fk R' A') (fk R' Q')) = some 1 := fun _ => rfl
  have nf1 : ∀ s : S, nfD 1 (s.v (bkD th R (fk R A) (fk R Q))) = true := fun _ => rfl
  have nf2 : ∀ s : S, nfD 1 (s.v (bkD th' R' (fk R' A') (fk R' Q'))) = true := fun _ => rfl
  generalize bkD th R (fk R A) (fk R Q) = B at *
  generalize bkD th' R' (fk R' A') (fk R' Q') = B' at *
  have q3 := eqDs_str (srtL A') (srtL A)
  have q4 := eqDs_str (srtL Q') (srtL Q)
  have o3 := fun n => okD_str n (srtL A')
  have o4 := fun n => okD_str n (srtL Q')
  have o5 := fun n => okD_str n (srtL A)
  have o6 := fun n => okD_str n (srtL Q)
  have dq : ((decide (th' = th) && (decide (R' = R) && (decide (srtL A' = srtL A) && decide (srtL Q' = srtL Q)))) : Bool) = decide (th' = th ∧ R' = R ∧ srtL A' = srtL A ∧ srtL Q' = srtL Q) := by
    rw [Bool.eq_iff_iff]; simp
  have ev0 : ∀ c0 c1 c2 c4 c5 c8 c9 c10, ev (Pn Cd GmS n) GmS (.cmo .eq tEq (.lst (.cns (.ix (.var 6) (.cst (.int 0))) (.cns (.ix (.var 6) (.cst (.int 1))) (.cns (.bi .sorted (.cns (.ix (.var 6) (.cst (.int 2))) .nil)) (.cns (.bi .sorted (.cns (.ix (.var 6) (.cst (.int 3))) .nil)) .nil))))) (.lst (.cns (.ix (.var 3) (.cst (.int 0))) (.cns (.ix (.var 3) (.cst (.int 1))) (.cns (.bi .sorted (.cns (.ix (.var 3) (.cst (.int 2))) .nil)) (.cns (.bi .sorted (.cns (.ix (.var 3) (.cst (.int 3))) .nil)) .nil))))))
      ⟨[c0, c1, c2, some (.val (spD th R A Q)), c4, c5, some (.val (spD th' R' A' Q')), some (.val B), c8, c9, c10], m⟩ = some (.val (.bl (decide (th' = th ∧ R' = R ∧ srtL A' = srtL A ∧ srtL Q' = srtL Q))), ⟨[c0, c1, c2, some (.val (spD th R A Q)), c4, c5, some (.val (spD th' R' A' Q')), some (.val B), c8, c9, c10], m⟩) := by
    intro c0 c1 c2 c4 c5 c8 c9 c10
    rw [← dq, ← q3, ← q4]
    unfold spD
    generalize srtL A = SA at *
    generalize srtL Q = SQ at *
    generalize srtL A' = SA' at *
    generalize srtL Q' = SQ' at *
    simp [at_0, at_1, at_2, at_3, sA, sQ, sA', sQ', okD_sD, okD_row, o3, o4, o5, o6, -List.all_map]
  generalize decide (th' = th ∧ R' = R ∧ srtL A' = srtL A ∧ srtL Q' = srtL Q) = dd at *
  have s2 := s1 (.lst [.bl dd, .bl dd, .bl (!dd)]) m (by simp [smD, big])
  have dt : (true != dd) = !dd := by cases dd <;> rfl
  have df : (false != dd) = dd := by cases dd <;> rfl
  simp only [c_law_b0, ev_seq, ev_asg, ev0]
  simp [hmd, tEq, cn1, cn2, nf1, nf2, e1, e2, s2, dt, df]
theorem putR_self {R : List Row} (nd : (R.map Row.k).Nodup) {x : Row} (hx : x ∈ R) : putR x R = R := by
  unfold putR
  conv => rhs; rw [← List.map_id R]
  refine List.map_congr_left fun r hr => ?_
  show (if r.k = x.k then x else r) = r
  split
  · rename_i h
    have inj : ∀ {L : List Row}, (L.map Row.k).Nodup → r ∈ L → x ∈ L → r = x := by
      intro L
      induction L with
      | nil => intro _ h; cases h
      | cons y L ih =>
        intro n1 h1 h2
        rw [List.map_cons, List.nodup_cons] at n1
        rcases List.mem_cons.mp h1 with rfl | g1
        · rcases List.mem_cons.mp h2 with rfl | g2
          · rfl
          · exact absurd (List.mem_map.mpr ⟨x, g2, h.symm⟩) n1.1
        · rcases List.mem_cons.mp h2 with rfl | g2
          · exact absurd (List.mem_map.mpr ⟨r, g1, h⟩) n1.1
          · exact ih n1.2 g1 g2
    exact (inj nd hr hx).symm
  · rfl
theorem putR_ne {R1 : List Row} {r0 x : Row} (hk : x.k = r0.k) (hne : x ≠ r0) : putR x (r0 :: R1) ≠ r0 :: R1 := by
  intro e
  unfold putR at e
  rw [List.map_cons] at e
  injection e with e1 e2
  rw [if_pos hk.symm] at e1
  exact hne e1
theorem putR_mem {R : List Row} {x : Row} (h : x.k ∈ R.map Row.k) : x ∈ putR x R := by
  obtain ⟨r, hr, e⟩ := List.mem_map.mp h
  exact List.mem_map.mpr ⟨r, hr, if_pos e⟩
theorem othl_ok (T : TabS CdS Cd tabK13) (n : Nat) (hn : 8 ≤ n) {th A Q a q : List (List Nat)} {r0 : Row} {R1 : List Row} (h : BkOk th (r0 :: R1) A Q) (hb : Bk0 th (r0 :: R1) a q) (hw : r0.w.length ≤ 5) {m : List MO} (hm : ClM m) :
    Pn Cd GmS n 123 [bkD th (r0 :: R1) a q, spD th (r0 :: R1) A Q] m = some (.val (.bl true), m) := by
  obtain ⟨n, rfl⟩ : ∃ n', n = n' + 1 := ⟨n - 1, by omega⟩
  obtain ⟨o1, o2, o3, o4, o5, o6⟩ := h.ok r0 (List.mem_cons_self ..)
  have hbm := h.r.2.2 r0 (List.mem_cons_self ..)
  have wz : isWord (sD [122, 122, 122, 122, 122, 122]) = true := by decide
  have lk1 := label_ok (T.sub (l' := [0, 1, 2, 1000]) rfl) (T.at 2003) n (by omega) (m := m) (ds := [sD r0.k, sD [122, 122, 122, 122, 122, 122], sD r0.b, .int r0.f, .int r0.l]) rfl o1 wz o3 o4 (by omega) (.inr ⟨rfl, o5, o6⟩)
  obtain ⟨x, hx⟩ : ∃ x : Row, x = ⟨r0.k, [122, 122, 122, 122, 122, 122], r0.b, r0.f, r0.l⟩ := ⟨_, rfl⟩
  have lk1' : Pn Cd GmS n 2003 [sD r0.k, sD [122, 122, 122, 122, 122, 122], sD r0.b, .int r0.f, .int r0.l] m = some (.val x.lab, m) := by rw [hx]; exact lk1
  have xk : x.k = r0.k := by rw [hx]
  have xb : x.b ∈ th := by rw [hx]; exact hbm
  have xm : x.k ∈ (r0 :: R1).map Row.k := by rw [xk]; exact List.mem_cons_self ..
  have ex1 := exchanged_ok (T.sub (l' := [0, 111, 119, 121, 1009, 2039, 2077, 2086, 2088, 2089, 2177, 2178]) rfl) n (by omega) (x := x) hb xm xb hm
  have hb2 := hb.put xb
  have ex2 := exchanged_ok (T.sub (l' := [0, 111, 119, 121, 1009, 2039, 2077, 2086, 2088, 2089, 2177, 2178]) rfl) n (by omega) (x := x) hb xm xb hm
  have bl := blabel_ok (T.sub (l' := [2086, 2090, 2177]) rfl) n (by omega) (m := m) (a := a) (q := q) hb2.r (putR_mem xm)
  rw [xk] at bl
  have xne : x ≠ r0 := fun z => by
    have := congrArg (fun r : Row => r.w.length) z
    rw [hx] at this
    simp at this
    omega
  have eq1 := beq_ok (T.sub (l' := [2006, 2035, 2036]) rfl) n (by omega) (m := m) (a := a) (q := q) (a' := a) (q' := q) hb.r hb2.r
  rw [decide_eq_false (by rintro ⟨_, z, _⟩; exact putR_ne xk xne z.symm)] at eq1
  have eq2 := beq_ok (T.sub (l' := [2006, 2035, 2036]) rfl) n (by omega) (m := m) (a := a) (q := q) (a' := a) (q' := q) hb2.r hb2.r
  rw [decide_eq_true ⟨rfl, rfl, rfl, rfl⟩] at eq2
  have el := compL_of (st := store (.tn 5)) (cd := ev (Pn Cd GmS n) GmS (.cmo .ne tEq (.var 5) (.ix (.var 2) (.cst (.int 2))))) (el := ev (Pn Cd GmS n) GmS (.var 5)) (r := [some (.val (bkD th (r0 :: R1) a q)), some (.val (spD th (r0 :: R1) A Q)), some (.val r0.d), some (.val (bkD th (putR x (r0 :: R1)) a q)), none, none]) sD (fun t => decide (t ≠ r0.b)) sD th [] m (by
    intro t ht
    by_cases hc : t = r0.b
    · simp [store, Row.d, at_2, hc]
    · simp [store, Row.d, at_2, hc]) (by simp; have := h.t.2.1; unfold big; omega)
  rw [List.nil_append] at el
  have cn1 : ∀ s, clsN s (bkD th (r0 :: R1) a q) = some 1 := fun _ => rfl
  have cn2 : ∀ s, clsN s (bkD th (putR x (r0 :: R1)) a q) = some 1 := fun _ => rfl
  have nf1 : ∀ s : S, nfD 1 (s.v (bkD th (r0 :: R1) a q)) = true := fun _ => rfl
  have nf2 : ∀ s : S, nfD 1 (s.v (bkD th (putR x (r0 :: R1)) a q)) = true := fun _ => rfl
  have i0 : ∀ s, ixF (spD th (r0 :: R1) A Q) (.int 0) s = some (.lst (th.map sD)) := fun s => by unfold spD; rw [ix_t, at_0]
  have i1 : ∀ s, ixF (spD th (r0 :: R1) A Q) (.int 1) s = some (.lst (r0.d :: R1.map Row.d)) := fun s => by unfold spD; rw [ix_t, at_1]; rfl
  have rr0 : ∀ s, ixF r0.d (.int 0) s = some (sD r0.k) := fun s => by unfold Row.d; rw [ix_t, at_0]
  have rr1 : ∀ s, ixF r0.d (.int 1) s = some (sD r0.w) := fun s => by unfold Row.d; rw [ix_t, at_1]
  have rr2 : ∀ s, ixF r0.d (.int 2) s = some (sD r0.b) := fun s => by unfold Row.d; rw [ix_t, at_2]
  have rr3 : ∀ s, ixF r0.d (.int 3) s = some (.int r0.f) := fun s => by unfold Row.d; rw [ix_t, at_3]
  have rr4 : ∀ s, ixF r0.d (.int 4) s = some (.int r0.l) := fun s => by unfold Row.d; rw [ix_t, at_4]
  have xcn : ∀ s, clsN s x.lab = some 0 := fun _ => rfl
  -- the other bearers
  have tl : List.lookup 1 tEq = some 2006 := rfl
  have last : ∀ o os, (th.filter fun t => decide (t ≠ r0.b)) = o :: os → ∃ B3, Pn Cd GmS n 2003 [sD r0.k, sD r0.w, sD o, .int r0.f, .int r0.l] m = some (.val (Row.lab ⟨r0.k, r0.w, o, r0.f, r0.l⟩), m) ∧
      Pn Cd GmS n 2089 [bkD th (r0 :: R1) a q, Row.lab ⟨r0.k, r0.w, o, r0.f, r0.l⟩] m = some (.val B3, m) ∧ Pn Cd GmS n 2006 [bkD th (r0 :: R1) a q, B3] m = some (.val (.bl false), m) ∧ ∀ s : S, nfD 1 (s.v B3) = true := by
    intro o os ho
    have hm' : o ∈ th.filter fun t => decide (t ≠ r0.b) := by rw [ho]; exact List.mem_cons_self ..
    obtain ⟨ho1, ho2⟩ := List.mem_filter.mp hm'
    have ho2 := of_decide_eq_true ho2
    have wo := h.t.2.2.2 o ho1
    obtain ⟨y, hy⟩ : ∃ y : Row, y = ⟨r0.k, r0.w, o, r0.f, r0.l⟩ := ⟨_, rfl⟩
    have yb : y.b ∈ th := by rw [hy]; exact ho1
    have yk : y.k = r0.k := by rw [hy]
    have eqy := beq_ok (T.sub (l' := [2006, 2035, 2036]) rfl) n (by omega) (m := m) (a := a) (q := q) (a' := a) (q' := q) hb.r (hb.put yb).r
    rw [decide_eq_false (by rintro ⟨_, z, _⟩; exact putR_ne yk (fun z => ho2 (by have := congrArg Row.b z; rw [hy] at this; exact this)) z.symm)] at eqy
    refine ⟨bkD th (putR y (r0 :: R1)) a q, label_ok (T.sub (l' := [0, 1, 2, 1000]) rfl) (T.at 2003) n (by omega) (m := m) (ds := [sD r0.k, sD r0.w, sD o, .int r0.f, .int r0.l]) rfl o1 o2 wo o4 (by omega) (.inr ⟨rfl, o5, o6⟩), ?_, eqy, fun _ => rfl⟩
    have := exchanged_ok (T.sub (l' := [0, 111, 119, 121, 1009, 2039, 2077, 2086, 2088, 2089, 2177, 2178]) rfl) n (by omega) (x := y) hb (by rw [yk]; exact List.mem_cons_self ..) yb hm
    rw [hy] at this ⊢
    exact this
  have ex3 := exchanged_ok (T.sub (l' := [0, 111, 119, 121, 1009, 2039, 2077, 2086, 2088, 2089, 2177, 2178]) rfl) n (by omega) (x := x) hb2 (by rw [putR_keys]; exact xm) xb hm
  rw [putR_self hb2.r.2.1 (putR_mem xm)] at ex3
  rw [Pn_def (T.at 123)]
  generalize bkD th (putR x (r0 :: R1)) a q = B2 at *
  generalize hB : bkD th (r0 :: R1) a q = B at *
  generalize spD th (r0 :: R1) A Q = SP at *
  generalize x.lab = L at *
  cases ho : th.filter fun t => decide (t ≠ r0.b) with
  | nil =>
    rw [ho] at el
    have cc : ∀ s, cmpF .eq (.lst []) (.lst []) s = some true := fun s => rfl
    simp [cc, c_law_other_label_so, ini, List.replicate, i0, i1, at_0, rr0, rr1, rr2, rr3, rr4, lk1', t_exchanged_1, t_label_1, cn1, cn2, nf1, nf2, tl, ex1, ex3, eq1, eq2, bl, valR_cons, valR_nil, wipeR, el]
  | cons o os =>
    rw [ho] at el
    obtain ⟨B3, z1, z2, z3, z4⟩ := last o os ho
    generalize Row.lab ⟨r0.k, r0.w, o, r0.f, r0.l⟩ = L3 at z1 z2
    have ok0 := okD_sD 7 os
    have cc : ∀ s, cmpF .eq (.lst (sD o :: os.map sD)) (.lst []) s = some false := fun s => by
      rw [cmp_eq (by rw [okD_l8, List.all_cons, ok0]; rfl) rfl]
      rfl
    simp [cc, c_law_other_label_so, ini, List.replicate, i0, i1, at_0, rr0, rr1, rr2, rr3, rr4, lk1', t_exchanged_1, t_label_1, cn1, cn2, nf1, nf2, tl, ex1, ex3, eq1, eq2, bl, valR_cons, valR_nil, wipeR, el, z1, z2, z3, z4, ok0, -List.all_map]
theorem nd_rev {α : Type} {l : List α} (h : l.Nodup) : l.reverse.Nodup := by
  unfold List.Nodup at *
  exact List.pairwise_reverse.mpr (h.imp fun h => Ne.symm h)
theorem BkOk.rev {th A Q : List (List Nat)} {R : List Row} (h : BkOk th R A Q) : BkOk th.reverse R A Q where
  t := ⟨by simpa using h.t.1, by rw [List.length_reverse]; exact h.t.2.1, nd_rev h.t.2.2.1, fun t ht => h.t.2.2.2 t (List.mem_reverse.mp ht)⟩
  r := ⟨h.r.1, h.r.2.1, fun r hr => List.mem_reverse.mpr (h.r.2.2 r hr)⟩
  ok := h.ok
  nd := h.nd
  ke := h.ke
theorem BkOk.thing {th A Q : List (List Nat)} {R : List Row} (h : BkOk th R A Q) (hl : th.length ≤ 7) {z : List Nat} (hz : isWord (sD z) = true) (hn : z ∉ th) : BkOk (th ++ [z]) R A Q where
  t := ⟨by simp, by simp; omega, List.nodup_append.mpr ⟨h.t.2.2.1, by simp, fun x hx y hy e => by simp at hy; rw [hy] at e; exact hn (e ▸ hx)⟩, fun t ht => by
    rcases List.mem_append.mp ht with ht | ht
    · exact h.t.2.2.2 t ht
    · simp at ht; rw [ht]; exact hz⟩
  r := ⟨h.r.1, h.r.2.1, fun r hr => List.mem_append_left _ (h.r.2.2 r hr)⟩
  ok := h.ok
  nd := h.nd
  ke := h.ke
theorem BkOk.turn {th A Q : List (List Nat)} {R : List Row} (h : BkOk th R A Q) : BkOk th R.reverse A.reverse Q.reverse where
  t := h.t
  r := ⟨by rw [List.length_reverse]; exact h.r.1, by rw [List.map_reverse]; exact nd_rev h.r.2.1, fun r hr => h.r.2.2 r (List.mem_reverse.mp hr)⟩
  ok := fun r hr => h.ok r (List.mem_reverse.mp hr)
  nd := by
    have q := List.nodup_append.mp h.nd
    exact List.nodup_append.mpr ⟨nd_rev q.1, nd_rev q.2.1, fun x hx y hy => q.2.2 x (List.mem_reverse.mp hx) y (List.mem_reverse.mp hy)⟩
  ke := fun x hx => by
    rw [List.map_reverse, List.mem_reverse]
    refine h.ke x ?_
    rcases List.mem_append.mp hx with hx | hx
    · exact List.mem_append_left _ (List.mem_reverse.mp hx)
    · exact List.mem_append_right _ (List.mem_reverse.mp hx)
theorem BkOk.more {th A Q : List (List Nat)} {R : List Row} (h : BkOk th R A Q) (hl : R.length ≤ 15) {z : Row} (hz : z.ok) (hb : z.b ∈ th) (hn : z.k ∉ R.map Row.k) : BkOk th (R ++ [z]) A Q where
  t := h.t
  r := ⟨by simp; omega, by
    rw [List.map_append]
    exact List.nodup_append.mpr ⟨h.r.2.1, by simp, fun x hx y hy e => by simp at hy; rw [hy] at e; exact hn (e ▸ hx)⟩, fun r hr => by
    rcases List.mem_append.mp hr with hr | hr
    · exact h.r.2.2 r hr
    · simp at hr; rw [hr]; exact hb⟩
  ok := fun r hr => by
    rcases List.mem_append.mp hr with hr | hr
    · exact h.ok r hr
    · simp at hr; rw [hr]; exact hz
  nd := h.nd
  ke := fun x hx => by rw [List.map_append]; exact List.mem_append_left _ (h.ke x hx)
theorem BkOk.near {th A Q : List (List Nat)} {R : List Row} (h : BkOk th R A Q) : NearOk (spD th R A Q) := ⟨th, R, A, Q, rfl, h, h.la.1, h.la.2⟩
theorem BkOk.ruled {th A Q : List (List Nat)} {R : List Row} (h : BkOk th R A Q) (w k : List Nat) : BkOk th R (ruA R A w k wAside) (ruA R Q w k wKept) where
  t := h.t
  r := h.r
  ok := h.ok
  nd := List.nodup_append.mpr ⟨h.r.2.1.sublist ruA_sub, h.r.2.1.sublist ruA_sub, fun x hx y hy e => ruA_dj (fun x hx hq => (List.nodup_append.mp h.nd).2.2 x hx x hq rfl) x hx (e ▸ hy)⟩
  ke := fun x hx => by
    rcases List.mem_append.mp hx with hx | hx
    · exact ruA_sub.subset hx
    · exact ruA_sub.subset hx
theorem NearOk.pu {d : D} (h : NearOk d) : Pu d := by
  obtain ⟨th, R, A, Q, rfl, _⟩ := h
  exact spD_pu th R A Q
theorem isWord6 {l : List Nat} (h : l.length ≤ 5) : l ≠ [122, 122, 122, 122, 122, 122] := fun e => by rw [e] at h; simp at h
theorem b1_ok (T : TabS CdS Cd tabK13) (n : Nat) (hn : 8 ≤ n) {th A Q : List (List Nat)} {R : List Row} (h : BkOk th R A Q) {b : MO} (hb : FdB b) {M : List MO} (hm : 0 < M.length) {NL : List D} (hNL : NL.length ≤ 1000) {key : List Nat} (c0 c2 c6 c7 c8 c9 c10 : Option Cell) :
    ∃ b' d, FdB b' ∧ NearOk d ∧ ev (Pn Cd GmS n) GmS c_law_b1 ⟨[c0, some (.val (.adr 0)), c2, some (.val (spD th R A Q)), some (.val (.adr M.length)), some (.val (sD key)), c6, c7, c8, c9, c10], M.set 0 b ++ [.bx NL]⟩ =
      some (.nx, ⟨[c0, some (.val (.adr 0)), c2, some (.val (spD th R A Q)), some (.val (.adr M.length)), some (.val (sD key)), c6, c7, c8, c9, c10], M.set 0 b' ++ [.bx (NL ++ [d])]⟩) := by
  have hm0 : ∀ b, (M.set 0 b)[0]? = some b := fun b => List.getElem?_set_self hm
  obtain ⟨dw, b1, e1, f1, q1⟩ := of_lst (Gm := GmS) (T.at 12) (T.at 11) n (by omega) (ds := [sD wAside, sD wKept, sD [102, 114, 101, 101]]) (m := M.set 0 b ++ [.bx NL]) (get_app (hm0 b)) hb (by simp) (by simp)
  rw [set_app (by simpa using hm), List.set_set] at e1
  obtain ⟨w, rfl⟩ : ∃ w, dw = sD w := by
    simp only [List.mem_cons, List.not_mem_nil, or_false] at q1
    rcases q1 with rfl | rfl | rfl <;> exact ⟨_, rfl⟩
  obtain ⟨la, lq⟩ := h.la
  have hr := lruled_ok (T.sub (l' := [116, 203]) rfl) n (by omega) (m := M.set 0 b1 ++ [.bx NL]) (th := th) (A := A) (Q := Q) (R := R) (word := w) (key := key) (by have := h.r.1; omega) (by omega) (by omega)
  have L0 : ∀ b (o : MO), (M.set 0 b ++ [o])[M.length]? = some o := fun b o => by rw [List.getElem?_append_right (by simp)]; simp
  have S0 : ∀ b (o o' : MO), (M.set 0 b ++ [o]).set M.length o' = M.set 0 b ++ [o'] := fun b o o' => by rw [List.set_append_right _ _ (by simp)]; simp
  have lt : NL.length < 16777216 := by omega
  refine ⟨b1, _, f1, (h.ruled w key).near, ?_⟩
  unfold wAside wKept at e1
  generalize spD th R (ruA R A w key wAside) (ruA R Q w key wKept) = SP2 at *
  generalize spD th R A Q = SP at *
  simp [c_law_b1, kBm1_a, L0, S0, e1, hr, lt]
theorem row_ff {r : Row} (h : r.f = r.l) : (⟨r.k, r.w, r.b, r.f, r.f⟩ : Row) = r := by
  obtain ⟨k, w, b, f, l⟩ := r
  have h : f = l := h
  subst h
  rfl
theorem NearOk.pus {NL : List D} (h : ∀ d ∈ NL, NearOk d) : ∀ d ∈ NL, Pu d := fun d hd => (h d hd).pu
theorem b2_ok (T : TabS CdS Cd tabK13) (n : Nat) (hn : 9 ≤ n) {b : MO} (hb : FdB b) {M : List MO} (hm0 : M[0]? = some b) (hcl : ClM M) (c0 c2 c3 c4 c5 c6 c7 c8 c9 c10 : Option Cell) :
    ∃ b' M' d3 d4 d5 d6 d7 d8 d9 d10, FdB b' ∧ M'[0]? = some b' ∧ ClM M' ∧ ev (Pn Cd GmS n) GmS c_law_b2 ⟨[c0, some (.val (.adr 0)), c2, c3, c4, c5, c6, c7, c8, c9, c10], M⟩ =
      some (.nx, ⟨[c0, some (.val (.adr 0)), c2, d3, d4, d5, d6, d7, d8, d9, d10], M'⟩) := by
  have hM : 0 < M.length := (List.getElem?_eq_some_iff.mp hm0).1
  have g0 : ∀ b, (M.set 0 b)[0]? = some b := fun b => List.getElem?_set_self hM
  obtain ⟨th, R, A, Q, b1, e1, f1, hs⟩ := spec_ok (T.sub (l' := [11, 12, 14, 176, 238]) rfl) n (by omega) (tn := 4) (ln := 5) (wd := 3) hm0 hb hcl (by omega) (by omega) (by omega) (by omega)
  have z4 : ((4 : Nat) : Int) = 4 := rfl
  have z5 : ((5 : Nat) : Int) = 5 := rfl
  have z3 : ((3 : Nat) : Int) = 3 := rfl
  rw [z4, z5, z3] at e1
  have h := hs.bk (by omega) (by omega) (by omega)
  have cl1 := hcl.set (i := 0) f1
  have e2 := made_ok (T.sub (l' := [0, 1, 2, 111, 114, 119, 124, 1000, 1009, 2003, 2039, 2177, 2178]) rfl) n (by omega) h cl1
  have e3 := keys_ok (T.sub (l' := [116]) rfl) n (by omega) (m := M.set 0 b1) (a := .lst (th.map sD)) (c := .lst (A.map sD)) (d := .lst (Q.map sD)) (R := R) (by have := h.r.1; omega)
  have kk : (R.map fun r => D.str (tx r.k)) = (R.map Row.k).map sD := by rw [List.map_map]; rfl
  rw [kk] at e3
  replace e3 : Pn Cd GmS n 116 [spD th R A Q] (M.set 0 b1) = some (.fr (.bx ((R.map Row.k).map sD)), M.set 0 b1) := e3
  obtain ⟨t0, th1, hth⟩ : ∃ t0 th1, th = t0 :: th1 := by
    cases th with
    | nil => exact absurd rfl hs.t0
    | cons t0 th1 => exact ⟨t0, th1, rfl⟩
  have ht0 : t0 ∈ th := by rw [hth]; exact List.mem_cons_self ..
  have tl := hs.tl
  have rl := hs.rl
  -- the near ones
  obtain ⟨NL0, hNL0⟩ : ∃ NL0, NL0 = [spD th R A Q, spD th.reverse R A Q, spD (th ++ [[122, 122, 122, 122, 122, 122]]) R A Q, spD th R.reverse A.reverse Q.reverse, spD th (R ++ [⟨[122, 122, 122, 122, 122, 122], [97], t0, 3, 4⟩]) A Q] := ⟨_, rfl⟩
  have hN0 : ∀ d ∈ NL0, NearOk d := by
    rw [hNL0]
    intro d hd
    have wz : isWord (sD [122, 122, 122, 122, 122, 122]) = true := by decide
    have wa : isWord (sD [97]) = true := by decide
    simp only [List.mem_cons, List.not_mem_nil, or_false] at hd
    rcases hd with rfl | rfl | rfl | rfl | rfl
    · exact h.near
    · exact h.rev.near
    · exact (h.thing (by omega) wz fun z => isWord6 (hs.nt _ z).2.1 rfl).near
    · exact h.turn.near
    · refine (h.more (by omega) (z := ⟨[122, 122, 122, 122, 122, 122], [97], t0, 3, 4⟩) ⟨wz, wa, h.t.2.2.2 _ ht0, by show (0 : Int) ≤ 3; omega, by show (3 : Int) ≤ 4; omega, by show (4 : Int) ≤ 9999; omega⟩ ht0 fun z => ?_).near
      obtain ⟨r, hr, e⟩ := List.mem_map.mp z
      exact isWord6 (hs.row r hr).1.2.1 e
  have lN0 : NL0.length = 5 := by rw [hNL0]; rfl
  obtain ⟨s', e4, b4, NL, d5, f4, lNL, hNL, rfl⟩ := forL_ix (st := store (.tn 5)) (body := ev (Pn Cd GmS n) GmS c_law_b1)
    (fun k s => ∃ b4 NL d5, FdB b4 ∧ NL.length = 5 + k ∧ (∀ d ∈ NL, NearOk d) ∧ s = ⟨[c0, some (.val (.adr 0)), c2, some (.val (spD th R A Q)), some (.val (.adr M.length)), d5, c6, some (.val (bkD th R (fk R A) (fk R Q))), some (.val (.lst ((R.map Row.k).map sD))), c9, c10], M.set 0 b4 ++ [.bx NL]⟩) ((R.map Row.k).map sD)
    ⟨[c0, some (.val (.adr 0)), c2, some (.val (spD th R A Q)), some (.val (.adr M.length)), c5, c6, some (.val (bkD th R (fk R A) (fk R Q))), some (.val (.lst ((R.map Row.k).map sD))), c9, c10], M.set 0 b1 ++ [.bx NL0]⟩ ⟨b1, NL0, c5, f1, by rw [lN0], hN0, rfl⟩ (by
      rintro k hk s ⟨b4, NL, d5, f4, lNL, hNL, rfl⟩
      have hk2 : k < R.length := by simpa using hk
      have h16 := h.r.1
      obtain ⟨b5, d, f5, hd, e5⟩ := b1_ok T n (by omega) h f4 hM (NL := NL) (by omega) (key := (R.map Row.k)[k]'(by simpa using hk2)) c0 c2 c6 (some (.val (bkD th R (fk R A) (fk R Q)))) (some (.val (.lst ((R.map Row.k).map sD)))) c9 c10
      refine ⟨_, rfl, _, .inl ?_, b5, NL ++ [d], some (.val (sD ((R.map Row.k)[k]'(by simpa using hk2)))), f5, by rw [List.length_append, lNL]; rfl, fun x hx => ?_, rfl⟩
      · rw [List.getElem_map]; exact e5
      · rcases List.mem_append.mp hx with hx | hx
        · exact hNL x hx
        · cases List.mem_singleton.mp hx
          exact hd)
  have cl4 : ClM (M.set 0 b4 ++ [.ll NL]) := (hcl.set f4).snoc (Pu.clo (NearOk.pus hNL))
  obtain ⟨s', e5, d6, d9, d10, rfl⟩ := forL_ix (st := store (.tn 6)) (body := ev (Pn Cd GmS n) GmS c_law_b0)
    (fun k s => ∃ d6 d9 d10, s = ⟨[c0, some (.val (.adr 0)), c2, some (.val (spD th R A Q)), some (.val (.adr M.length)), d5, d6, some (.val (bkD th R (fk R A) (fk R Q))), some (.val (.lst ((R.map Row.k).map sD))), d9, d10], M.set 0 b4 ++ [.ll NL]⟩) NL
    ⟨[c0, some (.val (.adr 0)), c2, some (.val (spD th R A Q)), some (.val (.adr M.length)), d5, c6, some (.val (bkD th R (fk R A) (fk R Q))), some (.val (.lst ((R.map Row.k).map sD))), c9, c10], M.set 0 b4 ++ [.ll NL]⟩ ⟨c6, c9, c10, rfl⟩ (by
      rintro k hk s ⟨d6, d9, d10, rfl⟩
      obtain ⟨g9, g10, e6⟩ := b0_ok T n (by omega) h (hNL _ (List.getElem_mem hk)) cl4 c0 (some (.val (.adr 0))) c2 (some (.val (.adr M.length))) d5 (some (.val (.lst ((R.map Row.k).map sD)))) d9 d10
      exact ⟨_, rfl, _, .inl e6, some (.val NL[k]), g9, g10, rfl⟩)
  have L0 : ∀ b (o : MO), (M.set 0 b ++ [o])[M.length]? = some o := fun b o => by rw [List.getElem?_append_right (by simp)]; simp
  have S0 : ∀ b (o o' : MO), (M.set 0 b ++ [o]).set M.length o' = M.set 0 b ++ [o'] := fun b o o' => by rw [List.set_append_right _ _ (by simp)]; simp
  have cl5 : ClM (M.set 0 b4 ++ [.bx NL]) := (hcl.set f4).snoc (Pu.clo (NearOk.pus hNL))
  have itn : ∀ r, itF (.adr M.length) ⟨r, M.set 0 b4 ++ [.ll NL]⟩ = some NL := fun r => itF_ll (L0 _ _)
  refine ⟨b4, M.set 0 b4 ++ [.bx NL], some (.val (spD th R A Q)), some (.val (.adr M.length)), d5, d6, some (.val (bkD th R (fk R A) (fk R Q))), some (.val (.lst ((R.map Row.k).map sD))), d9, d10, f4, get_app (g0 b4), cl5, ?_⟩
  have ul : ∀ r, unlkS M.length (some (.nx, ⟨r, M.set 0 b4 ++ [.ll NL]⟩)) = some (.nx, ⟨r, M.set 0 b4 ++ [.bx NL]⟩) := fun r => by
    rw [unlkS_eq (q := .bx NL) rfl (by rw [L0]; rfl), S0]
  have i0 : ∀ s, ixF (spD th R A Q) (.int 0) s = some (.lst (th.map sD)) := fun s => by unfold spD; rw [ix_t, at_0]
  have i1 : ∀ s, ixF (spD th R A Q) (.int 1) s = some (.lst (R.map Row.d)) := fun s => by unfold spD; rw [ix_t, at_1]
  have i2 : ∀ s, ixF (spD th R A Q) (.int 2) s = some (.lst (A.map sD)) := fun s => by unfold spD; rw [ix_t, at_2]
  have i3 : ∀ s, ixF (spD th R A Q) (.int 3) s = some (.lst (Q.map sD)) := fun s => by unfold spD; rw [ix_t, at_3]
  have hNL1 : NL0 = [spD th R A Q, .tup [.lst (th.map sD).reverse, .lst (R.map Row.d), .lst (A.map sD), .lst (Q.map sD)], .tup [.lst (th.map sD ++ [sD [122, 122, 122, 122, 122, 122]]), .lst (R.map Row.d), .lst (A.map sD), .lst (Q.map sD)],
      .tup [.lst (th.map sD), .lst (R.map Row.d).reverse, .lst (A.map sD).reverse, .lst (Q.map sD).reverse], .tup [.lst (th.map sD), .lst (R.map Row.d ++ [.tup [sD [122, 122, 122, 122, 122, 122], sD [97], sD t0, .int 3, .int 4]]), .lst (A.map sD), .lst (Q.map sD)]] := by
    rw [hNL0]
    unfold spD
    simp only [List.map_reverse, List.map_append, List.map_cons, List.map_nil, Row.d]
  have lTH : (th.map sD).length + 1 ≤ 16777216 := by rw [List.length_map]; omega
  have lRD : (R.map Row.d).length + 1 ≤ 16777216 := by rw [List.length_map]; omega
  have aTH : atI (th.map sD) 0 = some (sD t0) := by rw [hth, List.map_cons, at_0]
  have cnB : ∀ s, clsN s (bkD th R (fk R A) (fk R Q)) = some 1 := fun _ => rfl
  have nfS : ∀ s : S, nfD 1 (s.v (spD th R A Q)) = true := fun _ => rfl
  have tl0 : List.lookup 1 tEq = some 2006 := rfl
  have bn1 := bne_ok (T.sub (l' := [2006]) rfl) n (by omega) (m := M.set 0 b4 ++ [.bx NL]) (x := bkD th R (fk R A) (fk R Q)) (d := spD th R A Q) (fun _ => rfl)
  have bn2 := bne_ok (T.sub (l' := [2006]) rfl) n (by omega) (m := M.set 0 b4 ++ [.bx NL]) (x := bkD th R (fk R A) (fk R Q)) (d := .non) (fun _ => rfl)
  have bn3 := bne_ok (T.sub (l' := [2006]) rfl) n (by omega) (m := M.set 0 b4 ++ [.bx NL]) (x := bkD th R (fk R A) (fk R Q)) (d := .lst ((R.map Row.k).map sD)) (fun _ => rfl)
  rw [hNL1] at e4
  have bk := h.bk0
  have ln1 : ∀ b, (M.set 0 b).length = M.length := fun b => List.length_set
  have cn0 : ∀ s, cmpF .ne (.lst []) (.lst []) s = some false := fun s => rfl
  cases hR : R with
  | nil =>
    have ks : (R.map Row.k).map sD = [] := by rw [hR]; rfl
    rw [← hR]
    rw [ks] at e3 e4 e5 bn3 ⊢
    generalize bkD th R (fk R A) (fk R Q) = B at *
    generalize spD th R A Q = SP at *
    generalize th.map sD = TH at *
    generalize R.map Row.d = RD at *
    generalize A.map sD = AD at *
    generalize Q.map sD = QD at *
    simp [c_law_b2, e1, e2, e3, ln1, i0, i1, i2, i3, lTH, lRD, aTH, e4, L0, S0, itn, e5, ul, cn0, cnB, nfS, tl0, bn1, bn2, bn3]
  | cons r0 R1 =>
    have hr0 : r0 ∈ R := by rw [hR]; exact List.mem_cons_self ..
    have hrow := hs.row r0 hr0
    have e6 : Pn Cd GmS n 123 [bkD th R (fk R A) (fk R Q), spD th R A Q] (M.set 0 b4 ++ [.bx NL]) = some (.val (.bl true), M.set 0 b4 ++ [.bx NL]) := by
      have q1 := h
      have q2 := bk
      rw [hR] at q1 q2 ⊢
      exact othl_ok T n (by omega) q1 q2 hrow.2.1.2.1 cl5
    have e7 := blabel_ok (T.sub (l' := [2086, 2090, 2177]) rfl) n (by omega) (m := M.set 0 b4 ++ [.bx NL]) (a := fk R A) (q := fk R Q) h.r hr0
    have e8 := narrowed_ok (T.sub (l' := [0, 1, 2, 1000, 2003, 2073, 2091]) rfl) n (by omega) (m := M.set 0 b4 ++ [.bx NL]) (h.ok r0 hr0) (f := r0.f) (l := r0.f) (Int.le_refl _) (Int.le_refl _) hrow.2.2.2.2.2.1
    obtain ⟨x, hx⟩ : ∃ x : Row, x = ⟨r0.k, r0.w, r0.b, r0.f, r0.f⟩ := ⟨_, rfl⟩
    rw [← hx] at e8
    have xk : x.k = r0.k := by rw [hx]
    have xb : x.b ∈ th := by rw [hx]; exact hrow.2.2.1
    have xm : x.k ∈ R.map Row.k := by rw [xk]; exact List.mem_map.mpr ⟨r0, hr0, rfl⟩
    have e9 := exchanged_ok (T.sub (l' := [0, 111, 119, 121, 1009, 2039, 2077, 2086, 2088, 2089, 2177, 2178]) rfl) n (by omega) (x := x) bk xm xb cl5
    have e10 := beq_ok (T.sub (l' := [2006, 2035, 2036]) rfl) n (by omega) (m := M.set 0 b4 ++ [.bx NL]) (a := fk R A) (q := fk R Q) (a' := fk R A) (q' := fk R Q) h.r (bk.put xb).r
    have hd : decide (th = th ∧ R = putR x R ∧ fk R A = fk R A ∧ fk R Q = fk R Q) = decide (r0.f = r0.l) := by
      refine decide_eq_decide.mpr ⟨fun ⟨_, z, _⟩ => ?_, fun z => ⟨rfl, ?_, rfl, rfl⟩⟩
      · refine Classical.byContradiction fun ne => ?_
        rw [hR] at z
        exact putR_ne xk (fun e => ne (by have := congrArg Row.l e; rw [hx] at this; exact this)) z.symm
      · have : x = r0 := hx.trans (row_ff z)
        rw [this]
        exact (putR_self h.r.2.1 hr0).symm
    rw [hd] at e10
    have ks : (R.map Row.k).map sD = sD r0.k :: (R1.map Row.k).map sD := by rw [hR]; rfl
    have rs : R.map Row.d = r0.d :: R1.map Row.d := by rw [hR]; rfl
    have aRD : atI (R.map Row.d) 0 = some r0.d := by rw [rs, at_0]
    have nfB : ∀ s : S, nfD 1 (s.v (bkD th (putR x R) (fk R A) (fk R Q))) = true := fun _ => rfl
    have cnL : ∀ s, clsN s r0.lab = some 0 := fun _ => rfl
    have rr3 : ∀ s, ixF r0.d (.int 3) s = some (.int r0.f) := fun s => by unfold Row.d; rw [ix_t, at_3]
    have rr4 : ∀ s, ixF r0.d (.int 4) s = some (.int r0.l) := fun s => by unfold Row.d; rw [ix_t, at_4]
    have cn1 : ∀ s, cmpF .ne (.lst (sD r0.k :: (R1.map Row.k).map sD)) (.lst []) s = some true := fun s => by
      rw [cmp_ne (by rw [okD_l8, List.all_cons, okD_sD]; rfl) rfl]; rfl
    rw [← hR]
    rw [ks] at e3 e4 e5 bn3 ⊢
    generalize bkD th (putR x R) (fk R A) (fk R Q) = B3 at *
    generalize bkD th R (fk R A) (fk R Q) = B at *
    generalize spD th R A Q = SP at *
    generalize th.map sD = TH at *
    generalize R.map Row.d = RD at *
    generalize A.map sD = AD at *
    generalize Q.map sD = QD at *
    generalize x.lab = LX at *
    generalize r0.lab = L at *
    generalize r0.d = RR at *
    generalize (R1.map Row.k).map sD = KS at *
    by_cases hfl : r0.f = r0.l
    · rw [decide_eq_true hfl] at e10
      have cfl : ∀ s, cmpF .ne (.int r0.f) (.int r0.l) s = some false := fun s => by
        rw [cmp_ne rfl rfl, eqD_i, iBeq, decide_eq_true hfl]; rfl
      simp [cfl, c_law_b2, e1, e2, e3, ln1, i0, i1, i2, i3, lTH, lRD, aTH, e4, L0, S0, itn, e5, ul, cn1, cnB, nfS, nfB, cnL, tl0, bn1, bn2, bn3, e6, at_0, aRD, rr3, rr4, t_label_1, t_narrowed_2, t_exchanged_1, e7, e8, e9, e10]
    · rw [decide_eq_false hfl] at e10
      simp [c_law_b2, e1, e2, e3, ln1, i0, i1, i2, i3, lTH, lRD, aTH, e4, L0, S0, itn, e5, ul, cn1, cnB, nfS, nfB, cnL, tl0, bn1, bn2, bn3, e6, at_0, aRD, rr3, rr4, t_label_1, t_narrowed_2, t_exchanged_1, e7, e8, e9, e10, hfl, iBeq]
theorem law_ok (T : TabS CdS Cd (10 :: tabK13)) (hc : Cd 299 = some ⟨11, 1, c_law, id, none⟩) (ns : List Int) (hl : ns.length ≤ 63) : ∃ m, Pn Cd GmS 12 299 [.fzl (ns.map D.int)] [] = some (.val (.bl true), m) := by
  obtain ⟨fd, e0, f0⟩ := feed_ok (Gm := GmS) (T.at 10) 10 [] ns hl
  have T' : TabS CdS Cd tabK13 := T.sub rfl
  rw [Pn_def hc]
  obtain ⟨s', e1, b, M, c2, c3, c4, c5, c6, c7, c8, c9, c10, hb, hm, hcl, rfl⟩ := forL_inv (st := store (.tn 2)) (body := ev (Pn Cd GmS 11) GmS c_law_b2) (fun ds s => ∃ b M c2 c3 c4 c5 c6 c7 c8 c9 c10, FdB b ∧ M[0]? = some b ∧ ClM M ∧ s = ⟨[some (.val (.fzl (ns.map D.int))), some (.val (.adr 0)), c2, c3, c4, c5, c6, c7, c8, c9, c10], M⟩) ((List.range 4).map fun (k : Nat) => D.int k)
    ⟨[some (.val (.fzl (ns.map D.int))), some (.val (.adr 0)), none, none, none, none, none, none, none, none, none], [.bx fd]⟩ ⟨.bx fd, [.bx fd], none, none, none, none, none, none, none, none, none, f0, rfl, ClM.one (f0.clo _), rfl⟩ (by
      rintro t ds s ⟨b, M, c2, c3, c4, c5, c6, c7, c8, c9, c10, hb, hm, hcl, rfl⟩
      obtain ⟨b', M', d3, d4, d5, d6, d7, d8, d9, d10, q1, q2, q3, q4⟩ := b2_ok T' 11 (by omega) hb hm hcl (some (.val (.fzl (ns.map D.int)))) (some (.val t)) c3 c4 c5 c6 c7 c8 c9 c10
      exact ⟨_, rfl, _, .inl q4, b', M', _, _, _, _, _, _, _, _, _, q1, q2, q3, rfl⟩)
  have wa : isWord (sD [97]) = true := by decide
  have wb : isWord (sD [98]) = true := by decide
  have oT : ∀ l, isWord (sD l) = true → okT [l] := fun l h => ⟨by simp, by simp, by simp, fun t ht => by cases List.mem_singleton.mp ht; exact h⟩
  have oR : ∀ th, okR th [] := fun th => ⟨by simp, by simp, fun r hr => by cases hr⟩
  have mk := fun (l : List Nat) (t : D) (ht : SeqD t ([l].map sD)) (h : isWord (sD l) = true) => book_ok (T.sub (l' := [0, 111, 119, 1009, 2177, 2178]) rfl) (T.at 2040) 11 (by omega) (m := M) (ds := [t]) (t := t) (l := .tup []) (a := .tup []) (q := .tup []) (th := [l]) (A := []) (Q := []) (R := []) rfl ht (.inr rfl) (.inr rfl) (.inr rfl) (oT l h) (oR _) (by simp) (by simp) hcl
  have m1 := mk [97] (.lst [sD [97]]) (.inl rfl) wa
  have m2 := mk [97] (.tup [sD [97]]) (.inr rfl) wa
  have m3 := mk [98] (.lst [sD [98]]) (.inl rfl) wb
  have b1 := beq_ok (T.sub (l' := [2006, 2035, 2036]) rfl) 11 (by omega) (m := M) (th := [[97]]) (th' := [[97]]) (R := []) (R' := []) (a := []) (q := []) (a' := []) (q' := []) (oR _) (oR _)
  have b2 := beq_ok (T.sub (l' := [2006, 2035, 2036]) rfl) 11 (by omega) (m := M) (th := [[97]]) (th' := [[98]]) (R := []) (R' := []) (a := []) (q := []) (a' := []) (q' := []) (oR _) (oR _)
  rw [decide_eq_true ⟨rfl, rfl, rfl, rfl⟩] at b1
  rw [decide_eq_false (by decide)] at b2
  have cn : ∀ s l, clsN s (bkD l [] [] []) = some 1 := fun _ _ => rfl
  have nf : ∀ (s : S) l, nfD 1 (s.v (bkD l [] [] [])) = true := fun _ _ => rfl
  have tl0 : List.lookup 1 tEq = some 2006 := rfl
  have m1 : Pn Cd GmS 11 2040 [.lst [sD [97]]] M = some (.val (bkD [[97]] [] [] []), M) := m1
  have m2 : Pn Cd GmS 11 2040 [.tup [sD [97]]] M = some (.val (bkD [[97]] [] [] []), M) := m2
  have m3 : Pn Cd GmS 11 2040 [.lst [sD [98]]] M = some (.val (bkD [[98]] [] [] []), M) := m3
  have cnA : ∀ s, clsN s (bkD [[97]] [] [] []) = some 1 := fun _ => rfl
  have nfA : ∀ (s : S), nfD 1 (s.v (bkD [[97]] [] [] [])) = true := fun _ => rfl
  have nfB : ∀ (s : S), nfD 1 (s.v (bkD [[98]] [] [] [])) = true := fun _ => rfl
  have fin0 : ev (Pn Cd GmS 11) GmS c_law ⟨ini 11 [.fzl (ns.map D.int)], []⟩ = some (.rt (.bl true), ⟨[some (.val (.fzl (ns.map D.int))), some (.val (.adr 0)), c2, c3, c4, c5, c6, c7, c8, c9, c10], M⟩) := by
    generalize bkD [[97]] [] [] [] = B1 at *
    generalize bkD [[98]] [] [] [] = B2 at *
    have rg : (List.range 4).map (fun (k : Nat) => D.int k) = [.int 0, .int 1, .int 2, .int 3] := rfl
    rw [rg] at e1
    simp [c_law, ini, List.replicate, e0, rg, e1, m1, m2, m3, cnA, nfA, nfB, tl0, b1, b2]
  refine ⟨[], ?_⟩
  rw [if_pos (show (id [D.fzl (ns.map D.int)] : List D).length = 1 from rfl)]
  show stowO [] (fin (ev (Pn Cd GmS 11) GmS c_law ⟨ini 11 [.fzl (ns.map D.int)], []⟩)) = _
  rw [fin0, fin_rt, stowO_val, show M = [] ++ M from rfl, stow_new (by intro z; rw [z] at hm; cases hm)]
  rfl
end
end En

namespace En
open PySem PySem.Spec L2
/-! the law's own tables -/
def top (i : Nat) : Stmt := PySem.Challenge.pw_namehold_k13_books_equal.main.body.getD i (.Pass ⟨0, 0, 0, 0⟩)
def mem (i j : Nat) : Stmt := (C8.clsBody (top i)).getD j (.Pass ⟨0, 0, 0, 0⟩)
def fnmL : Nat → Str
  | 0 => "is_word"
  | 1 => "is_number"
  | 2 => "is_date"
  | 111 => "is_listed"
  | 119 => "check_things"
  | 121 => "need_things"
  | 10 => "_law_feed"
  | 11 => "_law_take"
  | 12 => "_law_of"
  | 13 => "_law_same"
  | 14 => "_law_new_names"
  | 238 => "_law_words"
  | 176 => "_law_spec"
  | 114 => "_law_labels"
  | 124 => "_law_made"
  | 116 => "_law_keys"
  | 203 => "_law_ruled"
  | 123 => "_law_other_label_so"
  | 299 => "law"
  | 3 => "is_word"
  | 4 => "is_date"
  | 2002 => "Label"
  | 2003 => "Label"
  | 2004 => "Label"
  | 2039 => "Book"
  | 2040 => "Book"
  | _ => ""
def gvnL : Nat → Str
  | 0 => "LETTERS"
  | 1 => "MOST_LETTERS"
  | 2 => "MOST_DATE"
  | 5 => "MOST_THINGS"
  | 7 => "MOST_LABELS_books"
  | _ => ""
def knL : Nat → Nat
  | 3 => 0
  | 4 => 0
  | 2002 => 4
  | 2003 => 5
  | 2004 => 0
  | 2039 => 2
  | 2040 => 1
  | _ => 0
def kkL : Nat → List Str
  | 3 => ["value"]
  | 4 => ["value"]
  | 2002 => []
  | 2003 => []
  | 2004 => ["last", "first", "bearer", "word", "key"]
  | 2039 => ["aside", "kept"]
  | 2040 => []
  | _ => []
def flL : List Str := (["key", "word", "bearer", "first", "last", "own_things", "own_labels", "own_aside", "own_kept", "own_together", "own_apart", "own_classes"] : List Str) ++ (["own_groups", "book", "facts", "thing", "own_dating", "own_grouping", "own_tree", "own_reasons", "one", "other", "own_group", "own_counts"] : List Str) ++ (["own_pairs", "own_inside", "own_outside", "own_components", "own_sections", "own_sectioned", "stage", "made", "away", "host", "state", "past"] : List Str) ++ (["future", "answers", "many_asked", "working", "own_limit", "ledger", "lines", "code", "value", "at", "name", "line"] : List Str) ++ (["most", "subject"] : List Str)
def lvL : List Nat := [0, 1]
def faL : List (Nat × Nat) := [(0, 0), (0, 1), (0, 2), (0, 3), (0, 4), (1, 5), (1, 6), (1, 7), (1, 8)]
def meL : List ((Nat × Nat) × (Str × Nat × List Str)) := [((0, 2005), ("__eq__", 1, [])), ((1, 2006), ("__eq__", 1, [])), ((1, 2011), ("__len__", 0, [])), ((1, 2015), ("__bool__", 0, [])), ((0, 2024), ("__repr__", 0, [])), ((1, 2025), ("__repr__", 0, [])), ((0, 2034), ("may_be", 0, ["date"])), ((0, 2035), ("parts", 0, [])), ((1, 2036), ("parts", 0, [])), ((0, 2073), ("may_be", 1, [])), ((1, 2077), ("labels", 0, [])), ((1, 2079), ("kept", 0, [])), ((1, 2080), ("aside", 0, [])), ((1, 2082), ("things", 0, [])), ((1, 2086), ("need_key", 1, [])), ((1, 2088), ("with_labels", 1, [])), ((1, 2089), ("exchanged", 1, [])), ((1, 2090), ("label", 1, [])), ((0, 2091), ("narrowed", 2, [])), ((1, 2177), ("__contains__", 1, [])), ((1, 2178), ("is_next", 1, []))]
def cnL : Nat → Str
  | 0 => "Label"
  | 1 => "Book"
  | _ => ""
def liveL : List Nat := [0, 1, 2, 3, 4, 10, 11, 12, 13, 14, 111, 114, 116, 119, 121, 123, 124, 176, 203, 238, 1000, 1009, 2002, 2003, 2004, 2005, 2006, 2011, 2015, 2024, 2025, 2034, 2035, 2036, 2039, 2040, 2073, 2077, 2079, 2080, 2082, 2086, 2088, 2089, 2090, 2091, 2177, 2178]
def ntL : NT := { fnm := fnmL, gvn := gvnL, isF := fun f => decide (f ∈ ([0, 1, 2, 111, 119, 121, 10, 11, 12, 13, 14, 238, 176, 114, 124, 116, 203, 123, 299] : List Nat)), isK := fun f => decide (f ∈ ([3, 4] : List Nat)), isM := fun f => decide (f ∈ ([2002, 2003, 2004, 2039, 2040] : List Nat)), fl := flL, fa := fun c f => decide ((c, f) ∈ faL), me := fun c i => meL.lookup (c, i), gone := fun i => goneOf liveL i, live := fun c => decide (c ∈ lvL), cn := cnL, kn := knL, kk := kkL }
def CdL : Nat → Option Ent := CdOf CdS liveL ⟨11, 1, c_law, id, none⟩
theorem sc_is_word : FnScope ["value", "letter"] ["value"] (defScope (top 15)) := ⟨rfl, rfl, rfl, by decide +kernel, rfl, by decide +kernel, by decide +kernel⟩
theorem ck_is_word : chk ntL c_is_word (CC.fn ["value", "letter"] (defScope (top 15))) (.blk (defBody (top 15))) = true := by decide +kernel
theorem sc_is_number : FnScope ["value", "least", "most"] ["value", "least", "most"] (defScope (top 16)) := ⟨rfl, rfl, rfl, by decide +kernel, rfl, by decide +kernel, by decide +kernel⟩
theorem ck_is_number : chk ntL c_is_number (CC.fn ["value", "least", "most"] (defScope (top 16))) (.blk (defBody (top 16))) = true := by decide +kernel
theorem sc_is_date : FnScope ["value"] ["value"] (defScope (top 17)) := ⟨rfl, rfl, rfl, by decide +kernel, rfl, by decide +kernel, by decide +kernel⟩
theorem ck_is_date : chk ntL c_is_date (CC.fn ["value"] (defScope (top 17))) (.blk (defBody (top 17))) = true := by decide +kernel
theorem sc_is_listed : FnScope ["value"] ["value"] (defScope (top 18)) := ⟨rfl, rfl, rfl, by decide +kernel, rfl, by decide +kernel, by decide +kernel⟩
theorem ck_is_listed : chk ntL c_is_listed (CC.fn ["value"] (defScope (top 18))) (.blk (defBody (top 18))) = true := by decide +kernel
theorem sc_check_things : FnScope ["things", "at", "thing"] ["things"] (defScope (top 23)) := ⟨rfl, rfl, rfl, by decide +kernel, rfl, by decide +kernel, by decide +kernel⟩
theorem ck_check_things : chk ntL c_check_things (CC.fn ["things", "at", "thing"] (defScope (top 23))) (.blk (defBody (top 23))) = true := by decide +kernel
theorem sc_need_things : FnScope ["known", "things", "thing"] ["known", "things"] (defScope (top 24)) := ⟨rfl, rfl, rfl, by decide +kernel, rfl, by decide +kernel, by decide +kernel⟩
theorem ck_need_things : chk ntL c_need_things (CC.fn ["known", "things", "thing"] (defScope (top 24))) (.blk (defBody (top 24))) = true := by decide +kernel
theorem sc_law_feed : FnScope ["_law_script", "_law_cells", "_law_mark", "_law_cell"] ["_law_script"] (defScope (top 27)) := ⟨rfl, rfl, rfl, by decide +kernel, rfl, by decide +kernel, by decide +kernel⟩
theorem ck_law_feed : chk ntL c_law_feed (CC.fn ["_law_script", "_law_cells", "_law_mark", "_law_cell"] (defScope (top 27))) (.blk (defBody (top 27))) = true := by decide +kernel
theorem sc_law_take : FnScope ["_law_feed_here", "_law_many", "_law_drawn", "_law_cell", "_law_early", "_law_late"] ["_law_feed_here", "_law_many"] (defScope (top 28)) := ⟨rfl, rfl, rfl, by decide +kernel, rfl, by decide +kernel, by decide +kernel⟩
theorem ck_law_take : chk ntL c_law_take (CC.fn ["_law_feed_here", "_law_many", "_law_drawn", "_law_cell", "_law_early", "_law_late"] (defScope (top 28))) (.blk (defBody (top 28))) = true := by decide +kernel
theorem sc_law_of : FnScope ["_law_feed_here", "_law_items"] ["_law_feed_here", "_law_items"] (defScope (top 29)) := ⟨rfl, rfl, rfl, by decide +kernel, rfl, by decide +kernel, by decide +kernel⟩
theorem ck_law_of : chk ntL c_law_of (CC.fn ["_law_feed_here", "_law_items"] (defScope (top 29))) (.blk (defBody (top 29))) = true := by decide +kernel
theorem sc_law_same : FnScope ["_law_found", "_law_due", "_law_key", "_law_one", "_law_two"] ["_law_found", "_law_due"] (defScope (top 30)) := ⟨rfl, rfl, rfl, by decide +kernel, rfl, by decide +kernel, by decide +kernel⟩
theorem ck_law_same : chk ntL c_law_same (CC.fn ["_law_found", "_law_due", "_law_key", "_law_one", "_law_two"] (defScope (top 30))) (.blk (defBody (top 30))) = true := by decide +kernel
theorem sc_law_new_names : FnScope ["_law_feed_here", "_law_many", "_law_letters", "_law_stem", "_law_at", "_law_first", "_law_k"] ["_law_feed_here", "_law_many"] (defScope (top 31)) := ⟨rfl, rfl, rfl, by decide +kernel, rfl, by decide +kernel, by decide +kernel⟩
theorem ck_law_new_names : chk ntL c_law_new_names (CC.fn ["_law_feed_here", "_law_many", "_law_letters", "_law_stem", "_law_at", "_law_first", "_law_k"] (defScope (top 31))) (.blk (defBody (top 31))) = true := by decide +kernel
theorem sc_law_words : FnScope ["_law_feed_here", "_law_many", "_law_names", "_law_k"] ["_law_feed_here", "_law_many"] (defScope (top 32)) := ⟨rfl, rfl, rfl, by decide +kernel, rfl, by decide +kernel, by decide +kernel⟩
theorem ck_law_words : chk ntL c_law_words (CC.fn ["_law_feed_here", "_law_many", "_law_names", "_law_k"] (defScope (top 32))) (.blk (defBody (top 32))) = true := by decide +kernel
theorem sc_law_spec : FnScope ["_law_feed_here", "_law_things", "_law_labels_here", "_law_wide", "_law_many", "_law_names", "_law_words_here", "_law_k", "_law_ways", "_law_aside_z", "_law_row", "_law_found", "_law_base", "_law_first", "_law_label"] ["_law_feed_here", "_law_things", "_law_labels_here", "_law_wide"] (defScope (top 33)) := ⟨rfl, rfl, rfl, by decide +kernel, rfl, by decide +kernel, by decide +kernel⟩
theorem ck_law_spec : chk ntL c_law_spec (CC.fn ["_law_feed_here", "_law_things", "_law_labels_here", "_law_wide", "_law_many", "_law_names", "_law_words_here", "_law_k", "_law_ways", "_law_aside_z", "_law_row", "_law_found", "_law_base", "_law_first", "_law_label"] (defScope (top 33))) (.blk (defBody (top 33))) = true := by decide +kernel
theorem sc_law_labels : FnScope ["_law_spec_here", "_law_row"] ["_law_spec_here"] (defScope (top 34)) := ⟨rfl, rfl, rfl, by decide +kernel, rfl, by decide +kernel, by decide +kernel⟩
theorem ck_law_labels : chk ntL c_law_labels (CC.fn ["_law_spec_here", "_law_row"] (defScope (top 34))) (.blk (defBody (top 34))) = true := by decide +kernel
theorem sc_law_made : FnScope ["_law_spec_here"] ["_law_spec_here"] (defScope (top 35)) := ⟨rfl, rfl, rfl, by decide +kernel, rfl, by decide +kernel, by decide +kernel⟩
theorem ck_law_made : chk ntL c_law_made (CC.fn ["_law_spec_here"] (defScope (top 35))) (.blk (defBody (top 35))) = true := by decide +kernel
theorem sc_law_keys : FnScope ["_law_spec_here", "_law_row"] ["_law_spec_here"] (defScope (top 36)) := ⟨rfl, rfl, rfl, by decide +kernel, rfl, by decide +kernel, by decide +kernel⟩
theorem ck_law_keys : chk ntL c_law_keys (CC.fn ["_law_spec_here", "_law_row"] (defScope (top 36))) (.blk (defBody (top 36))) = true := by decide +kernel
theorem sc_law_ruled : FnScope ["_law_spec_here", "_law_ruling", "_law_aside_z", "_law_kept_z", "_law_word", "_law_key", "_law_late"] ["_law_spec_here", "_law_ruling"] (defScope (top 37)) := ⟨rfl, rfl, rfl, by decide +kernel, rfl, by decide +kernel, by decide +kernel⟩
theorem ck_law_ruled : chk ntL c_law_ruled (CC.fn ["_law_spec_here", "_law_ruling", "_law_aside_z", "_law_kept_z", "_law_word", "_law_key", "_law_late"] (defScope (top 37))) (.blk (defBody (top 37))) = true := by decide +kernel
theorem sc_law_other_label_so : FnScope ["_law_made_here", "_law_spec_here", "_law_row", "_law_late", "_law_others", "_law_thing"] ["_law_made_here", "_law_spec_here"] (defScope (top 38)) := ⟨rfl, rfl, rfl, by decide +kernel, rfl, by decide +kernel, by decide +kernel⟩
theorem ck_law_other_label_so : chk ntL c_law_other_label_so (CC.fn ["_law_made_here", "_law_spec_here", "_law_row", "_law_late", "_law_others", "_law_thing"] (defScope (top 38))) (.blk (defBody (top 38))) = true := by decide +kernel
theorem sc_law : FnScope ["_law_script", "_law_feed_here", "_law_turn", "_law_spec_here", "_law_near", "_law_key", "_law_late", "_law_made_here", "_law_keys_here", "_law_due", "_law_other"] ["_law_script"] (defScope (top 39)) := ⟨rfl, rfl, rfl, by decide +kernel, rfl, by decide +kernel, by decide +kernel⟩
theorem ck_law : chk ntL c_law (CC.fn ["_law_script", "_law_feed_here", "_law_turn", "_law_spec_here", "_law_near", "_law_key", "_law_late", "_law_made_here", "_law_keys_here", "_law_due", "_law_other"] (defScope (top 39))) (.blk (defBody (top 39))) = true := by decide +kernel
theorem sc_Label__init : FnScope ["self", "key", "word", "bearer", "first", "last", "value"] ["self", "key", "word", "bearer", "first", "last"] (defScope (mem 19 0)) := ⟨rfl, rfl, rfl, by decide +kernel, rfl, by decide +kernel, by decide +kernel⟩
theorem ck_Label__init : chk ntL c_Label_init (CC.fn ["self", "key", "word", "bearer", "first", "last", "value"] (defScope (mem 19 0))) (.blk (defBody (mem 19 0))) = true := by decide +kernel
theorem sc_Label_may_be : FnScope ["self", "date"] ["self", "date"] (defScope (mem 19 2)) := ⟨rfl, rfl, rfl, by decide +kernel, rfl, by decide +kernel, by decide +kernel⟩
theorem ck_Label_may_be : chk ntL c_Label_may_be (CC.fn ["self", "date"] (defScope (mem 19 2))) (.blk (defBody (mem 19 2))) = true := by decide +kernel
theorem sc_Label_narrowed : FnScope ["self", "first", "last"] ["self", "first", "last"] (defScope (mem 19 3)) := ⟨rfl, rfl, rfl, by decide +kernel, rfl, by decide +kernel, by decide +kernel⟩
theorem ck_Label_narrowed : chk ntL c_Label_narrowed (CC.fn ["self", "first", "last"] (defScope (mem 19 3))) (.blk (defBody (mem 19 3))) = true := by decide +kernel
theorem sc_Label_parts : FnScope ["self"] ["self"] (defScope (mem 19 4)) := ⟨rfl, rfl, rfl, by decide +kernel, rfl, by decide +kernel, by decide +kernel⟩
theorem ck_Label_parts : chk ntL c_Label_parts (CC.fn ["self"] (defScope (mem 19 4))) (.blk (defBody (mem 19 4))) = true := by decide +kernel
theorem sc_Label__eq : FnScope ["self", "other"] ["self", "other"] (defScope (mem 19 5)) := ⟨rfl, rfl, rfl, by decide +kernel, rfl, by decide +kernel, by decide +kernel⟩
theorem ck_Label__eq : chk ntL c_Label_eq (CC.fn ["self", "other"] (defScope (mem 19 5))) (.blk (defBody (mem 19 5))) = true := by decide +kernel
theorem sc_Label__repr : FnScope ["self"] ["self"] (defScope (mem 19 6)) := ⟨rfl, rfl, rfl, by decide +kernel, rfl, by decide +kernel, by decide +kernel⟩
theorem ck_Label__repr : chk ntL c_Label_repr (CC.fn ["self"] (defScope (mem 19 6))) (.blk (defBody (mem 19 6))) = true := by decide +kernel
theorem sc_Book__init : FnScope ["self", "things", "labels", "aside", "kept", "at", "label", "key"] ["self", "things", "labels", "aside", "kept"] (defScope (mem 25 2)) := ⟨rfl, rfl, rfl, by decide +kernel, rfl, by decide +kernel, by decide +kernel⟩
theorem ck_Book__init : chk ntL c_Book_init (CC.fn ["self", "things", "labels", "aside", "kept", "at", "label", "key"] (defScope (mem 25 2))) (.blk (defBody (mem 25 2))) = true := by decide +kernel
theorem sc_Book_is_next : FnScope ["self", "label"] ["self", "label"] (defScope (mem 25 3)) := ⟨rfl, rfl, rfl, by decide +kernel, rfl, by decide +kernel, by decide +kernel⟩
theorem ck_Book_is_next : chk ntL c_Book_is_next (CC.fn ["self", "label"] (defScope (mem 25 3))) (.blk (defBody (mem 25 3))) = true := by decide +kernel
theorem sc_Book_things : FnScope ["self"] ["self"] (defScope (mem 25 5)) := ⟨rfl, rfl, rfl, by decide +kernel, rfl, by decide +kernel, by decide +kernel⟩
theorem ck_Book_things : chk ntL c_Book_things (CC.fn ["self"] (defScope (mem 25 5))) (.blk (defBody (mem 25 5))) = true := by decide +kernel
theorem sc_Book_labels : FnScope ["self", "key"] ["self"] (defScope (mem 25 6)) := ⟨rfl, rfl, rfl, by decide +kernel, rfl, by decide +kernel, by decide +kernel⟩
theorem ck_Book_labels : chk ntL c_Book_labels (CC.fn ["self", "key"] (defScope (mem 25 6))) (.blk (defBody (mem 25 6))) = true := by decide +kernel
theorem sc_Book_aside : FnScope ["self"] ["self"] (defScope (mem 25 8)) := ⟨rfl, rfl, rfl, by decide +kernel, rfl, by decide +kernel, by decide +kernel⟩
theorem ck_Book_aside : chk ntL c_Book_aside (CC.fn ["self"] (defScope (mem 25 8))) (.blk (defBody (mem 25 8))) = true := by decide +kernel
theorem sc_Book_kept : FnScope ["self"] ["self"] (defScope (mem 25 9)) := ⟨rfl, rfl, rfl, by decide +kernel, rfl, by decide +kernel, by decide +kernel⟩
theorem ck_Book_kept : chk ntL c_Book_kept (CC.fn ["self"] (defScope (mem 25 9))) (.blk (defBody (mem 25 9))) = true := by decide +kernel
theorem sc_Book_need_key : FnScope ["self", "key"] ["self", "key"] (defScope (mem 25 11)) := ⟨rfl, rfl, rfl, by decide +kernel, rfl, by decide +kernel, by decide +kernel⟩
theorem ck_Book_need_key : chk ntL c_Book_need_key (CC.fn ["self", "key"] (defScope (mem 25 11))) (.blk (defBody (mem 25 11))) = true := by decide +kernel
theorem sc_Book_label : FnScope ["self", "key"] ["self", "key"] (defScope (mem 25 12)) := ⟨rfl, rfl, rfl, by decide +kernel, rfl, by decide +kernel, by decide +kernel⟩
theorem ck_Book_label : chk ntL c_Book_label (CC.fn ["self", "key"] (defScope (mem 25 12))) (.blk (defBody (mem 25 12))) = true := by decide +kernel
theorem sc_Book_with_labels : FnScope ["self", "labels", "keys", "aside", "label", "key"] ["self", "labels"] (defScope (mem 25 18)) := ⟨rfl, rfl, rfl, by decide +kernel, rfl, by decide +kernel, by decide +kernel⟩
theorem ck_Book_with_labels : chk ntL c_Book_with_labels (CC.fn ["self", "labels", "keys", "aside", "label", "key"] (defScope (mem 25 18))) (.blk (defBody (mem 25 18))) = true := by decide +kernel
theorem sc_Book_exchanged : FnScope ["self", "label", "late"] ["self", "label"] (defScope (mem 25 21)) := ⟨rfl, rfl, rfl, by decide +kernel, rfl, by decide +kernel, by decide +kernel⟩
theorem ck_Book_exchanged : chk ntL c_Book_exchanged (CC.fn ["self", "label", "late"] (defScope (mem 25 21))) (.blk (defBody (mem 25 21))) = true := by decide +kernel
theorem sc_Book_parts : FnScope ["self", "rows", "key"] ["self"] (defScope (mem 25 23)) := ⟨rfl, rfl, rfl, by decide +kernel, rfl, by decide +kernel, by decide +kernel⟩
theorem ck_Book_parts : chk ntL c_Book_parts (CC.fn ["self", "rows", "key"] (defScope (mem 25 23))) (.blk (defBody (mem 25 23))) = true := by decide +kernel
theorem sc_Book__contains : FnScope ["self", "key"] ["self", "key"] (defScope (mem 25 24)) := ⟨rfl, rfl, rfl, by decide +kernel, rfl, by decide +kernel, by decide +kernel⟩
theorem ck_Book__contains : chk ntL c_Book_contains (CC.fn ["self", "key"] (defScope (mem 25 24))) (.blk (defBody (mem 25 24))) = true := by decide +kernel
theorem sc_Book__eq : FnScope ["self", "other"] ["self", "other"] (defScope (mem 25 25)) := ⟨rfl, rfl, rfl, by decide +kernel, rfl, by decide +kernel, by decide +kernel⟩
theorem ck_Book__eq : chk ntL c_Book_eq (CC.fn ["self", "other"] (defScope (mem 25 25))) (.blk (defBody (mem 25 25))) = true := by decide +kernel
theorem sc_Book__len : FnScope ["self"] ["self"] (defScope (mem 25 26)) := ⟨rfl, rfl, rfl, by decide +kernel, rfl, by decide +kernel, by decide +kernel⟩
theorem ck_Book__len : chk ntL c_Book_len (CC.fn ["self"] (defScope (mem 25 26))) (.blk (defBody (mem 25 26))) = true := by decide +kernel
theorem sc_Book__bool : FnScope ["self"] ["self"] (defScope (mem 25 27)) := ⟨rfl, rfl, rfl, by decide +kernel, rfl, by decide +kernel, by decide +kernel⟩
theorem ck_Book__bool : chk ntL c_Book_bool (CC.fn ["self"] (defScope (mem 25 27))) (.blk (defBody (mem 25 27))) = true := by decide +kernel
theorem sc_Book__repr : FnScope ["self"] ["self"] (defScope (mem 25 28)) := ⟨rfl, rfl, rfl, by decide +kernel, rfl, by decide +kernel, by decide +kernel⟩
theorem ck_Book__repr : chk ntL c_Book_repr (CC.fn ["self"] (defScope (mem 25 28))) (.blk (defBody (mem 25 28))) = true := by decide +kernel
def spLaw (K : PySem.W.Frag) : Sp := fun vs H Q _ => ∃ (a : Addr) (ns : List Int), vs = [.ref a] ∧ SqL K H a (ns.map V.int) ∧ ns.length ≤ 63 ∧ ∀ H', Q (.bl true) H'
theorem all_mk {l : PySem.W.OpenLaw} {w : World} {K : PySem.W.Frag} {h : Heap} {mg : Str → Option Value} {fa f0 f1 f2 f3 f4 f5 f6 f7 f8 f9 f10 f11 f12 f13 f14 f15 f16 f17 f18 f19 f20 f21 f22 f23 f24 f25 f26 f27 f28 f29 f30 f31 f32 f33 f34 f35 f36 f37 f38 f39 f40 C0 C1 : Addr} (X : K.In h) (G : h.Ns mainGlobals mg) (hfa : mg "law" = some (.ref fa))
    {od0 an0 od1 an1 od2 an2 od3 an3 od4 an4 od5 an5 od6 an6 od7 an7 od8 an8 od9 an9 od10 an10 od11 an11 od12 an12 od13 an13 od14 an14 od15 an15 od16 an16 od17 an17 od18 an18 od19 an19 od20 an20 od21 an21 od22 an22 od23 an23 od24 an24 od25 an25 od26 an26 od27 an27 od28 an28 od29 an29 od30 an30 od31 an31 od32 an32 od33 an33 od34 an34 od35 an35 od36 an36 od37 an37 od38 an38 od39 an39 od40 an40 : Option Addr} {sl0 sl1 sl2 sl3 sl4 sl5 sl6 sl7 sl8 sl9 sl10 sl11 sl12 sl13 sl14 sl15 sl16 sl17 sl18 sl19 sl20 sl21 sl22 sl23 sl24 sl25 sl26 sl27 sl28 sl29 sl30 sl31 sl32 sl33 sl34 sl35 sl36 sl37 sl38 sl39 sl40 : Array (Option Value)} {oc0 kV0 dc0 pm0 cd0 ct0 oc1 kV1 dc1 pm1 cd1 ct1 oc2 kV2 dc2 pm2 cd2 ct2 oc3 kV3 dc3 pm3 cd3 ct3 oc4 kV4 dc4 pm4 cd4 ct4 oc5 kV5 dc5 pm5 cd5 ct5 oc6 kV6 dc6 pm6 cd6 ct6 oc7 kV7 dc7 pm7 cd7 ct7 oc8 kV8 dc8 pm8 cd8 ct8 oc9 kV9 dc9 pm9 cd9 ct9 oc10 kV10 dc10 pm10 cd10 ct10 oc11 kV11 dc11 pm11 cd11 ct11 oc12 kV12 dc12 pm12 cd12 ct12 oc13 kV13 dc13 pm13 cd13 ct13 oc14 kV14 dc14 pm14 cd14 ct14 oc15 kV15 dc15 pm15 cd15 ct15 oc16 kV16 dc16 pm16 cd16 ct16 oc17 kV17 dc17 pm17 cd17 ct17 oc18 kV18 dc18 pm18 cd18 ct18 oc19 kV19 dc19 pm19 cd19 ct19 oc20 kV20 dc20 pm20 cd20 ct20 oc21 kV21 dc21 pm21 cd21 ct21 oc22 kV22 dc22 pm22 cd22 ct22 oc23 kV23 dc23 pm23 cd23 ct23 oc24 kV24 dc24 pm24 cd24 ct24 oc25 kV25 dc25 pm25 cd25 ct25 oc26 kV26 dc26 pm26 cd26 ct26 oc27 kV27 dc27 pm27 cd27 ct27 oc28 kV28 dc28 pm28 cd28 ct28 oc29 kV29 dc29 pm29 cd29 ct29 oc30 kV30 dc30 pm30 cd30 ct30 oc31 kV31 dc31 pm31 cd31 ct31 oc32 kV32 dc32 pm32 cd32 ct32 oc33 kV33 dc33 pm33 cd33 ct33 oc34 kV34 dc34 pm34 cd34 ct34 oc35 kV35 dc35 pm35 cd35 ct35 oc36 kV36 dc36 pm36 cd36 ct36 oc37 kV37 dc37 pm37 cd37 ct37 oc38 kV38 dc38 pm38 cd38 ct38 oc39 kV39 dc39 pm39 cd39 ct39 oc40 kV40 dc40 pm40 cd40 ct40 : Value} {t0 : Tok} {t1 : Tok} {t2 : Tok} {t3 : Tok} {t4 : Tok}
    {dV19 dV25 : Value}
    (cC0 : PySem.W.nsIn K mainGlobals "Label" = some (some (.ref C0)))
    (cC1 : PySem.W.nsIn K mainGlobals "Book" = some (some (.ref C1)))
    (a0 : PySem.W.nsIn K mainGlobals "is_word" = some (some (.ref f0)))
      (l0 : K.lookup f0 = some ⟨oc0, od0, .func (PySem.W.fnOf "is_word" "is_word" (defArgs (top 15)) (defBody (top 15)) (defScope (top 15)) .none kV0 dc0 pm0 an0 cd0 ct0), sl0⟩) (c0 : PySem.W.codeIn K cd0 "is_word" = true) (k0 : PySem.W.keepIn K (.ref f0) = true)
    (a1 : PySem.W.nsIn K mainGlobals "is_number" = some (some (.ref f1)))
      (l1 : K.lookup f1 = some ⟨oc1, od1, .func (PySem.W.fnOf "is_number" "is_number" (defArgs (top 16)) (defBody (top 16)) (defScope (top 16)) .none kV1 dc1 pm1 an1 cd1 ct1), sl1⟩) (c1 : PySem.W.codeIn K cd1 "is_number" = true) (k1 : PySem.W.keepIn K (.ref f1) = true)
    (a2 : PySem.W.nsIn K mainGlobals "is_date" = some (some (.ref f2)))
      (l2 : K.lookup f2 = some ⟨oc2, od2, .func (PySem.W.fnOf "is_date" "is_date" (defArgs (top 17)) (defBody (top 17)) (defScope (top 17)) .none kV2 dc2 pm2 an2 cd2 ct2), sl2⟩) (c2 : PySem.W.codeIn K cd2 "is_date" = true) (k2 : PySem.W.keepIn K (.ref f2) = true)
    (a3 : PySem.W.nsIn K mainGlobals "is_listed" = some (some (.ref f3)))
      (l3 : K.lookup f3 = some ⟨oc3, od3, .func (PySem.W.fnOf "is_listed" "is_listed" (defArgs (top 18)) (defBody (top 18)) (defScope (top 18)) .none kV3 dc3 pm3 an3 cd3 ct3), sl3⟩) (c3 : PySem.W.codeIn K cd3 "is_listed" = true) (k3 : PySem.W.keepIn K (.ref f3) = true)
    (a4 : PySem.W.nsIn K mainGlobals "check_things" = some (some (.ref f4)))
      (l4 : K.lookup f4 = some ⟨oc4, od4, .func (PySem.W.fnOf "check_things" "check_things" (defArgs (top 23)) (defBody (top 23)) (defScope (top 23)) .none kV4 dc4 pm4 an4 cd4 ct4), sl4⟩) (c4 : PySem.W.codeIn K cd4 "check_things" = true) (k4 : PySem.W.keepIn K (.ref f4) = true)
    (a5 : PySem.W.nsIn K mainGlobals "need_things" = some (some (.ref f5)))
      (l5 : K.lookup f5 = some ⟨oc5, od5, .func (PySem.W.fnOf "need_things" "need_things" (defArgs (top 24)) (defBody (top 24)) (defScope (top 24)) .none kV5 dc5 pm5 an5 cd5 ct5), sl5⟩) (c5 : PySem.W.codeIn K cd5 "need_things" = true) (k5 : PySem.W.keepIn K (.ref f5) = true)
    (a6 : PySem.W.nsIn K mainGlobals "_law_feed" = some (some (.ref f6)))
      (l6 : K.lookup f6 = some ⟨oc6, od6, .func (PySem.W.fnOf "_law_feed" "_law_feed" (defArgs (top 27)) (defBody (top 27)) (defScope (top 27)) .none kV6 dc6 pm6 an6 cd6 ct6), sl6⟩) (c6 : PySem.W.codeIn K cd6 "_law_feed" = true) (k6 : PySem.W.keepIn K (.ref f6) = true)
    (a7 : PySem.W.nsIn K mainGlobals "_law_take" = some (some (.ref f7)))
      (l7 : K.lookup f7 = some ⟨oc7, od7, .func (PySem.W.fnOf "_law_take" "_law_take" (defArgs (top 28)) (defBody (top 28)) (defScope (top 28)) .none kV7 dc7 pm7 an7 cd7 ct7), sl7⟩) (c7 : PySem.W.codeIn K cd7 "_law_take" = true) (k7 : PySem.W.keepIn K (.ref f7) = true)
    (a8 : PySem.W.nsIn K mainGlobals "_law_of" = some (some (.ref f8)))
      (l8 : K.lookup f8 = some ⟨oc8, od8, .func (PySem.W.fnOf "_law_of" "_law_of" (defArgs (top 29)) (defBody (top 29)) (defScope (top 29)) .none kV8 dc8 pm8 an8 cd8 ct8), sl8⟩) (c8 : PySem.W.codeIn K cd8 "_law_of" = true) (k8 : PySem.W.keepIn K (.ref f8) = true)
    (a9 : PySem.W.nsIn K mainGlobals "_law_same" = some (some (.ref f9)))
      (l9 : K.lookup f9 = some ⟨oc9, od9, .func (PySem.W.fnOf "_law_same" "_law_same" (defArgs (top 30)) (defBody (top 30)) (defScope (top 30)) .none kV9 dc9 pm9 an9 cd9 ct9), sl9⟩) (c9 : PySem.W.codeIn K cd9 "_law_same" = true) (k9 : PySem.W.keepIn K (.ref f9) = true)
    (a10 : PySem.W.nsIn K mainGlobals "_law_new_names" = some (some (.ref f10)))
      (l10 : K.lookup f10 = some ⟨oc10, od10, .func (PySem.W.fnOf "_law_new_names" "_law_new_names" (defArgs (top 31)) (defBody (top 31)) (defScope (top 31)) .none kV10 dc10 pm10 an10 cd10 ct10), sl10⟩) (c10 : PySem.W.codeIn K cd10 "_law_new_names" = true) (k10 : PySem.W.keepIn K (.ref f10) = true)
    (a11 : PySem.W.nsIn K mainGlobals "_law_words" = some (some (.ref f11)))
      (l11 : K.lookup f11 = some ⟨oc11, od11, .func (PySem.W.fnOf "_law_words" "_law_words" (defArgs (top 32)) (defBody (top 32)) (defScope (top 32)) .none kV11 dc11 pm11 an11 cd11 ct11), sl11⟩) (c11 : PySem.W.codeIn K cd11 "_law_words" = true) (k11 : PySem.W.keepIn K (.ref f11) = true)
    (a12 : PySem.W.nsIn K mainGlobals "_law_spec" = some (some (.ref f12)))
      (l12 : K.lookup f12 = some ⟨oc12, od12, .func (PySem.W.fnOf "_law_spec" "_law_spec" (defArgs (top 33)) (defBody (top 33)) (defScope (top 33)) .none kV12 dc12 pm12 an12 cd12 ct12), sl12⟩) (c12 : PySem.W.codeIn K cd12 "_law_spec" = true) (k12 : PySem.W.keepIn K (.ref f12) = true)
    (a13 : PySem.W.nsIn K mainGlobals "_law_labels" = some (some (.ref f13)))
      (l13 : K.lookup f13 = some ⟨oc13, od13, .func (PySem.W.fnOf "_law_labels" "_law_labels" (defArgs (top 34)) (defBody (top 34)) (defScope (top 34)) .none kV13 dc13 pm13 an13 cd13 ct13), sl13⟩) (c13 : PySem.W.codeIn K cd13 "_law_labels" = true) (k13 : PySem.W.keepIn K (.ref f13) = true)
    (a14 : PySem.W.nsIn K mainGlobals "_law_made" = some (some (.ref f14)))
      (l14 : K.lookup f14 = some ⟨oc14, od14, .func (PySem.W.fnOf "_law_made" "_law_made" (defArgs (top 35)) (defBody (top 35)) (defScope (top 35)) .none kV14 dc14 pm14 an14 cd14 ct14), sl14⟩) (c14 : PySem.W.codeIn K cd14 "_law_made" = true) (k14 : PySem.W.keepIn K (.ref f14) = true)
    (a15 : PySem.W.nsIn K mainGlobals "_law_keys" = some (some (.ref f15)))
      (l15 : K.lookup f15 = some ⟨oc15, od15, .func (PySem.W.fnOf "_law_keys" "_law_keys" (defArgs (top 36)) (defBody (top 36)) (defScope (top 36)) .none kV15 dc15 pm15 an15 cd15 ct15), sl15⟩) (c15 : PySem.W.codeIn K cd15 "_law_keys" = true) (k15 : PySem.W.keepIn K (.ref f15) = true)
    (a16 : PySem.W.nsIn K mainGlobals "_law_ruled" = some (some (.ref f16)))
      (l16 : K.lookup f16 = some ⟨oc16, od16, .func (PySem.W.fnOf "_law_ruled" "_law_ruled" (defArgs (top 37)) (defBody (top 37)) (defScope (top 37)) .none kV16 dc16 pm16 an16 cd16 ct16), sl16⟩) (c16 : PySem.W.codeIn K cd16 "_law_ruled" = true) (k16 : PySem.W.keepIn K (.ref f16) = true)
    (a17 : PySem.W.nsIn K mainGlobals "_law_other_label_so" = some (some (.ref f17)))
      (l17 : K.lookup f17 = some ⟨oc17, od17, .func (PySem.W.fnOf "_law_other_label_so" "_law_other_label_so" (defArgs (top 38)) (defBody (top 38)) (defScope (top 38)) .none kV17 dc17 pm17 an17 cd17 ct17), sl17⟩) (c17 : PySem.W.codeIn K cd17 "_law_other_label_so" = true) (k17 : PySem.W.keepIn K (.ref f17) = true)
    (a18 : PySem.W.nsIn K mainGlobals "law" = some (some (.ref f18)))
      (l18 : K.lookup f18 = some ⟨oc18, od18, .func (PySem.W.fnOf "law" "law" (defArgs (top 39)) (defBody (top 39)) (defScope (top 39)) .none kV18 dc18 pm18 an18 cd18 ct18), sl18⟩) (c18 : PySem.W.codeIn K cd18 "law" = true) (k18 : PySem.W.keepIn K (.ref f18) = true)
    (a19 : PySem.W.findIn K (.ref C0) "__init__" = some (some (.ref f19)))
      (l19 : K.lookup f19 = some ⟨oc19, od19, .func (PySem.W.fnOf "__init__" "Label.__init__" (defArgs (mem 19 0)) (defBody (mem 19 0)) (defScope (mem 19 0)) dV19 kV19 dc19 pm19 an19 cd19 ct19), sl19⟩) (c19 : PySem.W.codeIn K cd19 "Label.__init__" = true) (k19 : PySem.W.keepIn K (.ref f19) = true)
    (a20 : PySem.W.findIn K (.ref C0) "may_be" = some (some (.ref f20)))
      (l20 : K.lookup f20 = some ⟨oc20, od20, .func (PySem.W.fnOf "may_be" "Label.may_be" (defArgs (mem 19 2)) (defBody (mem 19 2)) (defScope (mem 19 2)) .none kV20 dc20 pm20 an20 cd20 ct20), sl20⟩) (c20 : PySem.W.codeIn K cd20 "Label.may_be" = true) (k20 : PySem.W.keepIn K (.ref f20) = true)
    (a21 : PySem.W.findIn K (.ref C0) "narrowed" = some (some (.ref f21)))
      (l21 : K.lookup f21 = some ⟨oc21, od21, .func (PySem.W.fnOf "narrowed" "Label.narrowed" (defArgs (mem 19 3)) (defBody (mem 19 3)) (defScope (mem 19 3)) .none kV21 dc21 pm21 an21 cd21 ct21), sl21⟩) (c21 : PySem.W.codeIn K cd21 "Label.narrowed" = true) (k21 : PySem.W.keepIn K (.ref f21) = true)
    (a22 : PySem.W.findIn K (.ref C0) "parts" = some (some (.ref f22)))
      (l22 : K.lookup f22 = some ⟨oc22, od22, .func (PySem.W.fnOf "parts" "Label.parts" (defArgs (mem 19 4)) (defBody (mem 19 4)) (defScope (mem 19 4)) .none kV22 dc22 pm22 an22 cd22 ct22), sl22⟩) (c22 : PySem.W.codeIn K cd22 "Label.parts" = true) (k22 : PySem.W.keepIn K (.ref f22) = true)
    (a23 : PySem.W.findIn K (.ref C0) "__eq__" = some (some (.ref f23)))
      (l23 : K.lookup f23 = some ⟨oc23, od23, .func (PySem.W.fnOf "__eq__" "Label.__eq__" (defArgs (mem 19 5)) (defBody (mem 19 5)) (defScope (mem 19 5)) .none kV23 dc23 pm23 an23 cd23 ct23), sl23⟩) (c23 : PySem.W.codeIn K cd23 "Label.__eq__" = true) (k23 : PySem.W.keepIn K (.ref f23) = true)
    (a24 : PySem.W.findIn K (.ref C0) "__repr__" = some (some (.ref f24)))
      (l24 : K.lookup f24 = some ⟨oc24, od24, .func (PySem.W.fnOf "__repr__" "Label.__repr__" (defArgs (mem 19 6)) (defBody (mem 19 6)) (defScope (mem 19 6)) .none kV24 dc24 pm24 an24 cd24 ct24), sl24⟩) (c24 : PySem.W.codeIn K cd24 "Label.__repr__" = true) (k24 : PySem.W.keepIn K (.ref f24) = true)
    (a25 : PySem.W.findIn K (.ref C1) "__init__" = some (some (.ref f25)))
      (l25 : K.lookup f25 = some ⟨oc25, od25, .func (PySem.W.fnOf "__init__" "Book.__init__" (defArgs (mem 25 2)) (defBody (mem 25 2)) (defScope (mem 25 2)) dV25 kV25 dc25 pm25 an25 cd25 ct25), sl25⟩) (c25 : PySem.W.codeIn K cd25 "Book.__init__" = true) (k25 : PySem.W.keepIn K (.ref f25) = true)
    (a26 : PySem.W.findIn K (.ref C1) "is_next" = some (some (.ref f26)))
      (l26 : K.lookup f26 = some ⟨oc26, od26, .func (PySem.W.fnOf "is_next" "Book.is_next" (defArgs (mem 25 3)) (defBody (mem 25 3)) (defScope (mem 25 3)) .none kV26 dc26 pm26 an26 cd26 ct26), sl26⟩) (c26 : PySem.W.codeIn K cd26 "Book.is_next" = true) (k26 : PySem.W.keepIn K (.ref f26) = true)
    (a27 : PySem.W.findIn K (.ref C1) "things" = some (some (.ref f27)))
      (l27 : K.lookup f27 = some ⟨oc27, od27, .func (PySem.W.fnOf "things" "Book.things" (defArgs (mem 25 5)) (defBody (mem 25 5)) (defScope (mem 25 5)) .none kV27 dc27 pm27 an27 cd27 ct27), sl27⟩) (c27 : PySem.W.codeIn K cd27 "Book.things" = true) (k27 : PySem.W.keepIn K (.ref f27) = true)
    (a28 : PySem.W.findIn K (.ref C1) "labels" = some (some (.ref f28)))
      (l28 : K.lookup f28 = some ⟨oc28, od28, .func (PySem.W.fnOf "labels" "Book.labels" (defArgs (mem 25 6)) (defBody (mem 25 6)) (defScope (mem 25 6)) .none kV28 dc28 pm28 an28 cd28 ct28), sl28⟩) (c28 : PySem.W.codeIn K cd28 "Book.labels" = true) (k28 : PySem.W.keepIn K (.ref f28) = true)
    (a29 : PySem.W.findIn K (.ref C1) "aside" = some (some (.ref f29)))
      (l29 : K.lookup f29 = some ⟨oc29, od29, .func (PySem.W.fnOf "aside" "Book.aside" (defArgs (mem 25 8)) (defBody (mem 25 8)) (defScope (mem 25 8)) .none kV29 dc29 pm29 an29 cd29 ct29), sl29⟩) (c29 : PySem.W.codeIn K cd29 "Book.aside" = true) (k29 : PySem.W.keepIn K (.ref f29) = true)
    (a30 : PySem.W.findIn K (.ref C1) "kept" = some (some (.ref f30)))
      (l30 : K.lookup f30 = some ⟨oc30, od30, .func (PySem.W.fnOf "kept" "Book.kept" (defArgs (mem 25 9)) (defBody (mem 25 9)) (defScope (mem 25 9)) .none kV30 dc30 pm30 an30 cd30 ct30), sl30⟩) (c30 : PySem.W.codeIn K cd30 "Book.kept" = true) (k30 : PySem.W.keepIn K (.ref f30) = true)
    (a31 : PySem.W.findIn K (.ref C1) "need_key" = some (some (.ref f31)))
      (l31 : K.lookup f31 = some ⟨oc31, od31, .func (PySem.W.fnOf "need_key" "Book.need_key" (defArgs (mem 25 11)) (defBody (mem 25 11)) (defScope (mem 25 11)) .none kV31 dc31 pm31 an31 cd31 ct31), sl31⟩) (c31 : PySem.W.codeIn K cd31 "Book.need_key" = true) (k31 : PySem.W.keepIn K (.ref f31) = true)
    (a32 : PySem.W.findIn K (.ref C1) "label" = some (some (.ref f32)))
      (l32 : K.lookup f32 = some ⟨oc32, od32, .func (PySem.W.fnOf "label" "Book.label" (defArgs (mem 25 12)) (defBody (mem 25 12)) (defScope (mem 25 12)) .none kV32 dc32 pm32 an32 cd32 ct32), sl32⟩) (c32 : PySem.W.codeIn K cd32 "Book.label" = true) (k32 : PySem.W.keepIn K (.ref f32) = true)
    (a33 : PySem.W.findIn K (.ref C1) "with_labels" = some (some (.ref f33)))
      (l33 : K.lookup f33 = some ⟨oc33, od33, .func (PySem.W.fnOf "with_labels" "Book.with_labels" (defArgs (mem 25 18)) (defBody (mem 25 18)) (defScope (mem 25 18)) .none kV33 dc33 pm33 an33 cd33 ct33), sl33⟩) (c33 : PySem.W.codeIn K cd33 "Book.with_labels" = true) (k33 : PySem.W.keepIn K (.ref f33) = true)
    (a34 : PySem.W.findIn K (.ref C1) "exchanged" = some (some (.ref f34)))
      (l34 : K.lookup f34 = some ⟨oc34, od34, .func (PySem.W.fnOf "exchanged" "Book.exchanged" (defArgs (mem 25 21)) (defBody (mem 25 21)) (defScope (mem 25 21)) .none kV34 dc34 pm34 an34 cd34 ct34), sl34⟩) (c34 : PySem.W.codeIn K cd34 "Book.exchanged" = true) (k34 : PySem.W.keepIn K (.ref f34) = true)
    (a35 : PySem.W.findIn K (.ref C1) "parts" = some (some (.ref f35)))
      (l35 : K.lookup f35 = some ⟨oc35, od35, .func (PySem.W.fnOf "parts" "Book.parts" (defArgs (mem 25 23)) (defBody (mem 25 23)) (defScope (mem 25 23)) .none kV35 dc35 pm35 an35 cd35 ct35), sl35⟩) (c35 : PySem.W.codeIn K cd35 "Book.parts" = true) (k35 : PySem.W.keepIn K (.ref f35) = true)
    (a36 : PySem.W.findIn K (.ref C1) "__contains__" = some (some (.ref f36)))
      (l36 : K.lookup f36 = some ⟨oc36, od36, .func (PySem.W.fnOf "__contains__" "Book.__contains__" (defArgs (mem 25 24)) (defBody (mem 25 24)) (defScope (mem 25 24)) .none kV36 dc36 pm36 an36 cd36 ct36), sl36⟩) (c36 : PySem.W.codeIn K cd36 "Book.__contains__" = true) (k36 : PySem.W.keepIn K (.ref f36) = true)
    (a37 : PySem.W.findIn K (.ref C1) "__eq__" = some (some (.ref f37)))
      (l37 : K.lookup f37 = some ⟨oc37, od37, .func (PySem.W.fnOf "__eq__" "Book.__eq__" (defArgs (mem 25 25)) (defBody (mem 25 25)) (defScope (mem 25 25)) .none kV37 dc37 pm37 an37 cd37 ct37), sl37⟩) (c37 : PySem.W.codeIn K cd37 "Book.__eq__" = true) (k37 : PySem.W.keepIn K (.ref f37) = true)
    (a38 : PySem.W.findIn K (.ref C1) "__len__" = some (some (.ref f38)))
      (l38 : K.lookup f38 = some ⟨oc38, od38, .func (PySem.W.fnOf "__len__" "Book.__len__" (defArgs (mem 25 26)) (defBody (mem 25 26)) (defScope (mem 25 26)) .none kV38 dc38 pm38 an38 cd38 ct38), sl38⟩) (c38 : PySem.W.codeIn K cd38 "Book.__len__" = true) (k38 : PySem.W.keepIn K (.ref f38) = true)
    (a39 : PySem.W.findIn K (.ref C1) "__bool__" = some (some (.ref f39)))
      (l39 : K.lookup f39 = some ⟨oc39, od39, .func (PySem.W.fnOf "__bool__" "Book.__bool__" (defArgs (mem 25 27)) (defBody (mem 25 27)) (defScope (mem 25 27)) .none kV39 dc39 pm39 an39 cd39 ct39), sl39⟩) (c39 : PySem.W.codeIn K cd39 "Book.__bool__" = true) (k39 : PySem.W.keepIn K (.ref f39) = true)
    (a40 : PySem.W.findIn K (.ref C1) "__repr__" = some (some (.ref f40)))
      (l40 : K.lookup f40 = some ⟨oc40, od40, .func (PySem.W.fnOf "__repr__" "Book.__repr__" (defArgs (mem 25 28)) (defBody (mem 25 28)) (defScope (mem 25 28)) .none kV40 dc40 pm40 an40 cd40 ct40), sl40⟩) (c40 : PySem.W.codeIn K cd40 "Book.__repr__" = true) (k40 : PySem.W.keepIn K (.ref f40) = true)
    (gv0 : PySem.W.nsIn K mainGlobals "LETTERS" = some (some (.str "abcdefghijklmnopqrstuvwxyz" t0)))
    (gv1 : PySem.W.nsIn K mainGlobals "MOST_LETTERS" = some (some (.int 6 t1)))
    (gv2 : PySem.W.nsIn K mainGlobals "MOST_DATE" = some (some (.int 9999 t2)))
    (gv3 : PySem.W.nsIn K mainGlobals "MOST_THINGS" = some (some (.int 8 t3)))
    (gv4 : PySem.W.nsIn K mainGlobals "MOST_LABELS_books" = some (some (.int 16 t4)))
    (z0 : PySem.W.nsIn K mainGlobals "len" = some none)
    (z1 : PySem.W.nsIn K mainGlobals "int" = some none)
    (z2 : PySem.W.nsIn K mainGlobals "all" = some none)
    (z3 : PySem.W.nsIn K mainGlobals "any" = some none)
    (z4 : PySem.W.nsIn K mainGlobals "list" = some none)
    (z5 : PySem.W.nsIn K mainGlobals "tuple" = some none)
    (z6 : PySem.W.nsIn K mainGlobals "str" = some none)
    (z7 : PySem.W.nsIn K mainGlobals "bool" = some none)
    (z8 : PySem.W.nsIn K mainGlobals "isinstance" = some none)
    (z9 : PySem.W.nsIn K mainGlobals "dict" = some none)
    (z10 : PySem.W.nsIn K mainGlobals "range" = some none)
    (z11 : PySem.W.nsIn K mainGlobals "enumerate" = some none)
    (z12 : PySem.W.nsIn K mainGlobals "zip" = some none)
    (z13 : PySem.W.nsIn K mainGlobals "sorted" = some none)
    (z14 : PySem.W.nsIn K mainGlobals "min" = some none)
    (z15 : PySem.W.nsIn K mainGlobals "max" = some none)
    (z16 : PySem.W.nsIn K mainGlobals "repr" = some none)
    (z17 : PySem.W.nsIn K mainGlobals "sum" = some none)
    (q0 : clChk K C0 = true)
    (q1 : clChk K C1 = true)
    (q2 : ccChk K C0 C0 true = true)
    (q3 : ccChk K C0 C1 false = true)
    (q4 : ccChk K C1 C0 false = true)
    (q5 : ccChk K C1 C1 true = true)
    (q6 : obChk K = true)
    (q7 : naChk K C0 "key" = true)
    (q8 : naChk K C0 "word" = true)
    (q9 : naChk K C0 "bearer" = true)
    (q10 : naChk K C0 "first" = true)
    (q11 : naChk K C0 "last" = true)
    (q12 : naChk K C1 "own_things" = true)
    (q13 : naChk K C1 "own_labels" = true)
    (q14 : naChk K C1 "own_aside" = true)
    (q15 : naChk K C1 "own_kept" = true)
    (q16 : mkChk K C0 f19 = true)
    (q17 : mkChk K C1 f25 = true)
    (q18 : meChk K C0 "__eq__" f23 = true)
    (q19 : meChk K C1 "__eq__" f37 = true)
    (q20 : meChk K C1 "__len__" f38 = true)
    (q21 : meChk K C1 "__bool__" f39 = true)
    (q22 : meChk K C0 "__repr__" f24 = true)
    (q23 : meChk K C1 "__repr__" f40 = true)
    (q24 : meChk K C0 "may_be" f20 = true)
    (q25 : meChk K C0 "parts" f22 = true)
    (q26 : meChk K C1 "parts" f35 = true)
    (q27 : meChk K C1 "labels" f28 = true)
    (q28 : meChk K C1 "kept" f30 = true)
    (q29 : meChk K C1 "aside" f29 = true)
    (q30 : meChk K C1 "things" f27 = true)
    (q31 : meChk K C1 "need_key" f31 = true)
    (q32 : meChk K C1 "with_labels" f33 = true)
    (q33 : meChk K C1 "exchanged" f34 = true)
    (q34 : meChk K C1 "label" f32 = true)
    (q35 : meChk K C0 "narrowed" f21 = true)
    (q36 : meChk K C1 "__contains__" f36 = true)
    (q37 : meChk K C1 "is_next" f26 = true)
    (q38 : dvChk K dV19 [.non] = true)
    (q39 : kvChk K kV19 [] [] = true)
    (q40 : dvChk K dV25 [.tup []] = true)
    (q41 : kvChk K kV25 ["aside", "kept"] [.tup [], .tup []] = true)
    : ∃ fd : FuncData, (∀ (s : Shared) (v : Value), BindsTo s fd ⟨[v], []⟩ [("_law_script", v)]) ∧ ∀ base : Heap, K.In base → base.Ns mainGlobals mg → FnOk l.prog w K mg base (L2.CX l.prog w) 49 fa fd ["_law_script"] (spLaw K) := by
  have e := hfa.symm.trans (PySem.W.mg_of X G a18)
  cases e
  refine ⟨PySem.W.fnOf "law" "law" (defArgs (top 39)) (defBody (top 39)) (defScope (top 39)) .none kV18 dc18 pm18 an18 cd18 ct18, fun s v => .of_eq rfl, fun base hK hN => ?_⟩
  let caL : Nat → Addr := fun c => match c with | 0 => C0 | 1 => C1 | _ => 0
  let L : Ld := { x := ⟨K, caL, ntL.nm, ntL.live⟩, nt := ntL, prog := l.prog, w := w, mg := mg, base := base, Gm := GmS, Cd := CdL }
  have F0 : FunD K "is_word" "is_word" (defArgs (top 15)) (defBody (top 15)) (defScope (top 15)) [] [] f0 (PySem.W.fnOf "is_word" "is_word" (defArgs (top 15)) (defBody (top 15)) (defScope (top 15)) .none kV0 dc0 pm0 an0 cd0 ct0) := fund_0 l0 c0 k0
  have D0 : FnD L "is_word" "is_word" (top 15) f0 _ ["value", "letter"] ["value"] c_is_word := ⟨⟨_, _, F0⟩, sc_is_word, ck_is_word⟩
  have F1 : FunD K "is_number" "is_number" (defArgs (top 16)) (defBody (top 16)) (defScope (top 16)) [] [] f1 (PySem.W.fnOf "is_number" "is_number" (defArgs (top 16)) (defBody (top 16)) (defScope (top 16)) .none kV1 dc1 pm1 an1 cd1 ct1) := fund_0 l1 c1 k1
  have D1 : FnD L "is_number" "is_number" (top 16) f1 _ ["value", "least", "most"] ["value", "least", "most"] c_is_number := ⟨⟨_, _, F1⟩, sc_is_number, ck_is_number⟩
  have F2 : FunD K "is_date" "is_date" (defArgs (top 17)) (defBody (top 17)) (defScope (top 17)) [] [] f2 (PySem.W.fnOf "is_date" "is_date" (defArgs (top 17)) (defBody (top 17)) (defScope (top 17)) .none kV2 dc2 pm2 an2 cd2 ct2) := fund_0 l2 c2 k2
  have D2 : FnD L "is_date" "is_date" (top 17) f2 _ ["value"] ["value"] c_is_date := ⟨⟨_, _, F2⟩, sc_is_date, ck_is_date⟩
  have F3 : FunD K "is_listed" "is_listed" (defArgs (top 18)) (defBody (top 18)) (defScope (top 18)) [] [] f3 (PySem.W.fnOf "is_listed" "is_listed" (defArgs (top 18)) (defBody (top 18)) (defScope (top 18)) .none kV3 dc3 pm3 an3 cd3 ct3) := fund_0 l3 c3 k3
  have D3 : FnD L "is_listed" "is_listed" (top 18) f3 _ ["value"] ["value"] c_is_listed := ⟨⟨_, _, F3⟩, sc_is_listed, ck_is_listed⟩
  have F4 : FunD K "check_things" "check_things" (defArgs (top 23)) (defBody (top 23)) (defScope (top 23)) [] [] f4 (PySem.W.fnOf "check_things" "check_things" (defArgs (top 23)) (defBody (top 23)) (defScope (top 23)) .none kV4 dc4 pm4 an4 cd4 ct4) := fund_0 l4 c4 k4
  have D4 : FnD L "check_things" "check_things" (top 23) f4 _ ["things", "at", "thing"] ["things"] c_check_things := ⟨⟨_, _, F4⟩, sc_check_things, ck_check_things⟩
  have F5 : FunD K "need_things" "need_things" (defArgs (top 24)) (defBody (top 24)) (defScope (top 24)) [] [] f5 (PySem.W.fnOf "need_things" "need_things" (defArgs (top 24)) (defBody (top 24)) (defScope (top 24)) .none kV5 dc5 pm5 an5 cd5 ct5) := fund_0 l5 c5 k5
  have D5 : FnD L "need_things" "need_things" (top 24) f5 _ ["known", "things", "thing"] ["known", "things"] c_need_things := ⟨⟨_, _, F5⟩, sc_need_things, ck_need_things⟩
  have F6 : FunD K "_law_feed" "_law_feed" (defArgs (top 27)) (defBody (top 27)) (defScope (top 27)) [] [] f6 (PySem.W.fnOf "_law_feed" "_law_feed" (defArgs (top 27)) (defBody (top 27)) (defScope (top 27)) .none kV6 dc6 pm6 an6 cd6 ct6) := fund_0 l6 c6 k6
  have D6 : FnD L "_law_feed" "_law_feed" (top 27) f6 _ ["_law_script", "_law_cells", "_law_mark", "_law_cell"] ["_law_script"] c_law_feed := ⟨⟨_, _, F6⟩, sc_law_feed, ck_law_feed⟩
  have F7 : FunD K "_law_take" "_law_take" (defArgs (top 28)) (defBody (top 28)) (defScope (top 28)) [] [] f7 (PySem.W.fnOf "_law_take" "_law_take" (defArgs (top 28)) (defBody (top 28)) (defScope (top 28)) .none kV7 dc7 pm7 an7 cd7 ct7) := fund_0 l7 c7 k7
  have D7 : FnD L "_law_take" "_law_take" (top 28) f7 _ ["_law_feed_here", "_law_many", "_law_drawn", "_law_cell", "_law_early", "_law_late"] ["_law_feed_here", "_law_many"] c_law_take := ⟨⟨_, _, F7⟩, sc_law_take, ck_law_take⟩
  have F8 : FunD K "_law_of" "_law_of" (defArgs (top 29)) (defBody (top 29)) (defScope (top 29)) [] [] f8 (PySem.W.fnOf "_law_of" "_law_of" (defArgs (top 29)) (defBody (top 29)) (defScope (top 29)) .none kV8 dc8 pm8 an8 cd8 ct8) := fund_0 l8 c8 k8
  have D8 : FnD L "_law_of" "_law_of" (top 29) f8 _ ["_law_feed_here", "_law_items"] ["_law_feed_here", "_law_items"] c_law_of := ⟨⟨_, _, F8⟩, sc_law_of, ck_law_of⟩
  have F9 : FunD K "_law_same" "_law_same" (defArgs (top 30)) (defBody (top 30)) (defScope (top 30)) [] [] f9 (PySem.W.fnOf "_law_same" "_law_same" (defArgs (top 30)) (defBody (top 30)) (defScope (top 30)) .none kV9 dc9 pm9 an9 cd9 ct9) := fund_0 l9 c9 k9
  have D9 : FnD L "_law_same" "_law_same" (top 30) f9 _ ["_law_found", "_law_due", "_law_key", "_law_one", "_law_two"] ["_law_found", "_law_due"] c_law_same := ⟨⟨_, _, F9⟩, sc_law_same, ck_law_same⟩
  have F10 : FunD K "_law_new_names" "_law_new_names" (defArgs (top 31)) (defBody (top 31)) (defScope (top 31)) [] [] f10 (PySem.W.fnOf "_law_new_names" "_law_new_names" (defArgs (top 31)) (defBody (top 31)) (defScope (top 31)) .none kV10 dc10 pm10 an10 cd10 ct10) := fund_0 l10 c10 k10
  have D10 : FnD L "_law_new_names" "_law_new_names" (top 31) f10 _ ["_law_feed_here", "_law_many", "_law_letters", "_law_stem", "_law_at", "_law_first", "_law_k"] ["_law_feed_here", "_law_many"] c_law_new_names := ⟨⟨_, _, F10⟩, sc_law_new_names, ck_law_new_names⟩
  have F11 : FunD K "_law_words" "_law_words" (defArgs (top 32)) (defBody (top 32)) (defScope (top 32)) [] [] f11 (PySem.W.fnOf "_law_words" "_law_words" (defArgs (top 32)) (defBody (top 32)) (defScope (top 32)) .none kV11 dc11 pm11 an11 cd11 ct11) := fund_0 l11 c11 k11
  have D11 : FnD L "_law_words" "_law_words" (top 32) f11 _ ["_law_feed_here", "_law_many", "_law_names", "_law_k"] ["_law_feed_here", "_law_many"] c_law_words := ⟨⟨_, _, F11⟩, sc_law_words, ck_law_words⟩
  have F12 : FunD K "_law_spec" "_law_spec" (defArgs (top 33)) (defBody (top 33)) (defScope (top 33)) [] [] f12 (PySem.W.fnOf "_law_spec" "_law_spec" (defArgs (top 33)) (defBody (top 33)) (defScope (top 33)) .none kV12 dc12 pm12 an12 cd12 ct12) := fund_0 l12 c12 k12
  have D12 : FnD L "_law_spec" "_law_spec" (top 33) f12 _ ["_law_feed_here", "_law_things", "_law_labels_here", "_law_wide", "_law_many", "_law_names", "_law_words_here", "_law_k", "_law_ways", "_law_aside_z", "_law_row", "_law_found", "_law_base", "_law_first", "_law_label"] ["_law_feed_here", "_law_things", "_law_labels_here", "_law_wide"] c_law_spec := ⟨⟨_, _, F12⟩, sc_law_spec, ck_law_spec⟩
  have F13 : FunD K "_law_labels" "_law_labels" (defArgs (top 34)) (defBody (top 34)) (defScope (top 34)) [] [] f13 (PySem.W.fnOf "_law_labels" "_law_labels" (defArgs (top 34)) (defBody (top 34)) (defScope (top 34)) .none kV13 dc13 pm13 an13 cd13 ct13) := fund_0 l13 c13 k13
  have D13 : FnD L "_law_labels" "_law_labels" (top 34) f13 _ ["_law_spec_here", "_law_row"] ["_law_spec_here"] c_law_labels := ⟨⟨_, _, F13⟩, sc_law_labels, ck_law_labels⟩
  have F14 : FunD K "_law_made" "_law_made" (defArgs (top 35)) (defBody (top 35)) (defScope (top 35)) [] [] f14 (PySem.W.fnOf "_law_made" "_law_made" (defArgs (top 35)) (defBody (top 35)) (defScope (top 35)) .none kV14 dc14 pm14 an14 cd14 ct14) := fund_0 l14 c14 k14
  have D14 : FnD L "_law_made" "_law_made" (top 35) f14 _ ["_law_spec_here"] ["_law_spec_here"] c_law_made := ⟨⟨_, _, F14⟩, sc_law_made, ck_law_made⟩
  have F15 : FunD K "_law_keys" "_law_keys" (defArgs (top 36)) (defBody (top 36)) (defScope (top 36)) [] [] f15 (PySem.W.fnOf "_law_keys" "_law_keys" (defArgs (top 36)) (defBody (top 36)) (defScope (top 36)) .none kV15 dc15 pm15 an15 cd15 ct15) := fund_0 l15 c15 k15
  have D15 : FnD L "_law_keys" "_law_keys" (top 36) f15 _ ["_law_spec_here", "_law_row"] ["_law_spec_here"] c_law_keys := ⟨⟨_, _, F15⟩, sc_law_keys, ck_law_keys⟩
  have F16 : FunD K "_law_ruled" "_law_ruled" (defArgs (top 37)) (defBody (top 37)) (defScope (top 37)) [] [] f16 (PySem.W.fnOf "_law_ruled" "_law_ruled" (defArgs (top 37)) (defBody (top 37)) (defScope (top 37)) .none kV16 dc16 pm16 an16 cd16 ct16) := fund_0 l16 c16 k16
  have D16 : FnD L "_law_ruled" "_law_ruled" (top 37) f16 _ ["_law_spec_here", "_law_ruling", "_law_aside_z", "_law_kept_z", "_law_word", "_law_key", "_law_late"] ["_law_spec_here", "_law_ruling"] c_law_ruled := ⟨⟨_, _, F16⟩, sc_law_ruled, ck_law_ruled⟩
  have F17 : FunD K "_law_other_label_so" "_law_other_label_so" (defArgs (top 38)) (defBody (top 38)) (defScope (top 38)) [] [] f17 (PySem.W.fnOf "_law_other_label_so" "_law_other_label_so" (defArgs (top 38)) (defBody (top 38)) (defScope (top 38)) .none kV17 dc17 pm17 an17 cd17 ct17) := fund_0 l17 c17 k17
  have D17 : FnD L "_law_other_label_so" "_law_other_label_so" (top 38) f17 _ ["_law_made_here", "_law_spec_here", "_law_row", "_law_late", "_law_others", "_law_thing"] ["_law_made_here", "_law_spec_here"] c_law_other_label_so := ⟨⟨_, _, F17⟩, sc_law_other_label_so, ck_law_other_label_so⟩
  have F18 : FunD K "law" "law" (defArgs (top 39)) (defBody (top 39)) (defScope (top 39)) [] [] fa (PySem.W.fnOf "law" "law" (defArgs (top 39)) (defBody (top 39)) (defScope (top 39)) .none kV18 dc18 pm18 an18 cd18 ct18) := fund_0 l18 c18 k18
  have D18 : FnD L "law" "law" (top 39) fa _ ["_law_script", "_law_feed_here", "_law_turn", "_law_spec_here", "_law_near", "_law_key", "_law_late", "_law_made_here", "_law_keys_here", "_law_due", "_law_other"] ["_law_script"] c_law := ⟨⟨_, _, F18⟩, sc_law, ck_law⟩
  obtain ⟨dv19, mv19, F19, dl19, ml19, dr19⟩ := fund_g (dD := [.non]) (mD := []) (names := []) l19 c19 k19 q38 q39
  have D19 : FnD L "__init__" "Label.__init__" (mem 19 0) f19 _ ["self", "key", "word", "bearer", "first", "last", "value"] ["self", "key", "word", "bearer", "first", "last"] c_Label_init := ⟨⟨_, _, F19⟩, sc_Label__init, ck_Label__init⟩
  have F20 : FunD K "may_be" "Label.may_be" (defArgs (mem 19 2)) (defBody (mem 19 2)) (defScope (mem 19 2)) [] [] f20 (PySem.W.fnOf "may_be" "Label.may_be" (defArgs (mem 19 2)) (defBody (mem 19 2)) (defScope (mem 19 2)) .none kV20 dc20 pm20 an20 cd20 ct20) := fund_0 l20 c20 k20
  have D20 : FnD L "may_be" "Label.may_be" (mem 19 2) f20 _ ["self", "date"] ["self", "date"] c_Label_may_be := ⟨⟨_, _, F20⟩, sc_Label_may_be, ck_Label_may_be⟩
  have F21 : FunD K "narrowed" "Label.narrowed" (defArgs (mem 19 3)) (defBody (mem 19 3)) (defScope (mem 19 3)) [] [] f21 (PySem.W.fnOf "narrowed" "Label.narrowed" (defArgs (mem 19 3)) (defBody (mem 19 3)) (defScope (mem 19 3)) .none kV21 dc21 pm21 an21 cd21 ct21) := fund_0 l21 c21 k21
  have D21 : FnD L "narrowed" "Label.narrowed" (mem 19 3) f21 _ ["self", "first", "last"] ["self", "first", "last"] c_Label_narrowed := ⟨⟨_, _, F21⟩, sc_Label_narrowed, ck_Label_narrowed⟩
  have F22 : FunD K "parts" "Label.parts" (defArgs (mem 19 4)) (defBody (mem 19 4)) (defScope (mem 19 4)) [] [] f22 (PySem.W.fnOf "parts" "Label.parts" (defArgs (mem 19 4)) (defBody (mem 19 4)) (defScope (mem 19 4)) .none kV22 dc22 pm22 an22 cd22 ct22) := fund_0 l22 c22 k22
  have D22 : FnD L "parts" "Label.parts" (mem 19 4) f22 _ ["self"] ["self"] c_Label_parts := ⟨⟨_, _, F22⟩, sc_Label_parts, ck_Label_parts⟩
  have F23 : FunD K "__eq__" "Label.__eq__" (defArgs (mem 19 5)) (defBody (mem 19 5)) (defScope (mem 19 5)) [] [] f23 (PySem.W.fnOf "__eq__" "Label.__eq__" (defArgs (mem 19 5)) (defBody (mem 19 5)) (defScope (mem 19 5)) .none kV23 dc23 pm23 an23 cd23 ct23) := fund_0 l23 c23 k23
  have D23 : FnD L "__eq__" "Label.__eq__" (mem 19 5) f23 _ ["self", "other"] ["self", "other"] c_Label_eq := ⟨⟨_, _, F23⟩, sc_Label__eq, ck_Label__eq⟩
  have F24 : FunD K "__repr__" "Label.__repr__" (defArgs (mem 19 6)) (defBody (mem 19 6)) (defScope (mem 19 6)) [] [] f24 (PySem.W.fnOf "__repr__" "Label.__repr__" (defArgs (mem 19 6)) (defBody (mem 19 6)) (defScope (mem 19 6)) .none kV24 dc24 pm24 an24 cd24 ct24) := fund_0 l24 c24 k24
  have D24 : FnD L "__repr__" "Label.__repr__" (mem 19 6) f24 _ ["self"] ["self"] c_Label_repr := ⟨⟨_, _, F24⟩, sc_Label__repr, ck_Label__repr⟩
  obtain ⟨dv25, mv25, F25, dl25, ml25, dr25⟩ := fund_g (dD := [.tup []]) (mD := [.tup [], .tup []]) (names := ["aside", "kept"]) l25 c25 k25 q40 q41
  have D25 : FnD L "__init__" "Book.__init__" (mem 25 2) f25 _ ["self", "things", "labels", "aside", "kept", "at", "label", "key"] ["self", "things", "labels", "aside", "kept"] c_Book_init := ⟨⟨_, _, F25⟩, sc_Book__init, ck_Book__init⟩
  have F26 : FunD K "is_next" "Book.is_next" (defArgs (mem 25 3)) (defBody (mem 25 3)) (defScope (mem 25 3)) [] [] f26 (PySem.W.fnOf "is_next" "Book.is_next" (defArgs (mem 25 3)) (defBody (mem 25 3)) (defScope (mem 25 3)) .none kV26 dc26 pm26 an26 cd26 ct26) := fund_0 l26 c26 k26
  have D26 : FnD L "is_next" "Book.is_next" (mem 25 3) f26 _ ["self", "label"] ["self", "label"] c_Book_is_next := ⟨⟨_, _, F26⟩, sc_Book_is_next, ck_Book_is_next⟩
  have F27 : FunD K "things" "Book.things" (defArgs (mem 25 5)) (defBody (mem 25 5)) (defScope (mem 25 5)) [] [] f27 (PySem.W.fnOf "things" "Book.things" (defArgs (mem 25 5)) (defBody (mem 25 5)) (defScope (mem 25 5)) .none kV27 dc27 pm27 an27 cd27 ct27) := fund_0 l27 c27 k27
  have D27 : FnD L "things" "Book.things" (mem 25 5) f27 _ ["self"] ["self"] c_Book_things := ⟨⟨_, _, F27⟩, sc_Book_things, ck_Book_things⟩
  have F28 : FunD K "labels" "Book.labels" (defArgs (mem 25 6)) (defBody (mem 25 6)) (defScope (mem 25 6)) [] [] f28 (PySem.W.fnOf "labels" "Book.labels" (defArgs (mem 25 6)) (defBody (mem 25 6)) (defScope (mem 25 6)) .none kV28 dc28 pm28 an28 cd28 ct28) := fund_0 l28 c28 k28
  have D28 : FnD L "labels" "Book.labels" (mem 25 6) f28 _ ["self", "key"] ["self"] c_Book_labels := ⟨⟨_, _, F28⟩, sc_Book_labels, ck_Book_labels⟩
  have F29 : FunD K "aside" "Book.aside" (defArgs (mem 25 8)) (defBody (mem 25 8)) (defScope (mem 25 8)) [] [] f29 (PySem.W.fnOf "aside" "Book.aside" (defArgs (mem 25 8)) (defBody (mem 25 8)) (defScope (mem 25 8)) .none kV29 dc29 pm29 an29 cd29 ct29) := fund_0 l29 c29 k29
  have D29 : FnD L "aside" "Book.aside" (mem 25 8) f29 _ ["self"] ["self"] c_Book_aside := ⟨⟨_, _, F29⟩, sc_Book_aside, ck_Book_aside⟩
  have F30 : FunD K "kept" "Book.kept" (defArgs (mem 25 9)) (defBody (mem 25 9)) (defScope (mem 25 9)) [] [] f30 (PySem.W.fnOf "kept" "Book.kept" (defArgs (mem 25 9)) (defBody (mem 25 9)) (defScope (mem 25 9)) .none kV30 dc30 pm30 an30 cd30 ct30) := fund_0 l30 c30 k30
  have D30 : FnD L "kept" "Book.kept" (mem 25 9) f30 _ ["self"] ["self"] c_Book_kept := ⟨⟨_, _, F30⟩, sc_Book_kept, ck_Book_kept⟩
  have F31 : FunD K "need_key" "Book.need_key" (defArgs (mem 25 11)) (defBody (mem 25 11)) (defScope (mem 25 11)) [] [] f31 (PySem.W.fnOf "need_key" "Book.need_key" (defArgs (mem 25 11)) (defBody (mem 25 11)) (defScope (mem 25 11)) .none kV31 dc31 pm31 an31 cd31 ct31) := fund_0 l31 c31 k31
  have D31 : FnD L "need_key" "Book.need_key" (mem 25 11) f31 _ ["self", "key"] ["self", "key"] c_Book_need_key := ⟨⟨_, _, F31⟩, sc_Book_need_key, ck_Book_need_key⟩
  have F32 : FunD K "label" "Book.label" (defArgs (mem 25 12)) (defBody (mem 25 12)) (defScope (mem 25 12)) [] [] f32 (PySem.W.fnOf "label" "Book.label" (defArgs (mem 25 12)) (defBody (mem 25 12)) (defScope (mem 25 12)) .none kV32 dc32 pm32 an32 cd32 ct32) := fund_0 l32 c32 k32
  have D32 : FnD L "label" "Book.label" (mem 25 12) f32 _ ["self", "key"] ["self", "key"] c_Book_label := ⟨⟨_, _, F32⟩, sc_Book_label, ck_Book_label⟩
  have F33 : FunD K "with_labels" "Book.with_labels" (defArgs (mem 25 18)) (defBody (mem 25 18)) (defScope (mem 25 18)) [] [] f33 (PySem.W.fnOf "with_labels" "Book.with_labels" (defArgs (mem 25 18)) (defBody (mem 25 18)) (defScope (mem 25 18)) .none kV33 dc33 pm33 an33 cd33 ct33) := fund_0 l33 c33 k33
  have D33 : FnD L "with_labels" "Book.with_labels" (mem 25 18) f33 _ ["self", "labels", "keys", "aside", "label", "key"] ["self", "labels"] c_Book_with_labels := ⟨⟨_, _, F33⟩, sc_Book_with_labels, ck_Book_with_labels⟩
  have F34 : FunD K "exchanged" "Book.exchanged" (defArgs (mem 25 21)) (defBody (mem 25 21)) (defScope (mem 25 21)) [] [] f34 (PySem.W.fnOf "exchanged" "Book.exchanged" (defArgs (mem 25 21)) (defBody (mem 25 21)) (defScope (mem 25 21)) .none kV34 dc34 pm34 an34 cd34 ct34) := fund_0 l34 c34 k34
  have D34 : FnD L "exchanged" "Book.exchanged" (mem 25 21) f34 _ ["self", "label", "late"] ["self", "label"] c_Book_exchanged := ⟨⟨_, _, F34⟩, sc_Book_exchanged, ck_Book_exchanged⟩
  have F35 : FunD K "parts" "Book.parts" (defArgs (mem 25 23)) (defBody (mem 25 23)) (defScope (mem 25 23)) [] [] f35 (PySem.W.fnOf "parts" "Book.parts" (defArgs (mem 25 23)) (defBody (mem 25 23)) (defScope (mem 25 23)) .none kV35 dc35 pm35 an35 cd35 ct35) := fund_0 l35 c35 k35
  have D35 : FnD L "parts" "Book.parts" (mem 25 23) f35 _ ["self", "rows", "key"] ["self"] c_Book_parts := ⟨⟨_, _, F35⟩, sc_Book_parts, ck_Book_parts⟩
  have F36 : FunD K "__contains__" "Book.__contains__" (defArgs (mem 25 24)) (defBody (mem 25 24)) (defScope (mem 25 24)) [] [] f36 (PySem.W.fnOf "__contains__" "Book.__contains__" (defArgs (mem 25 24)) (defBody (mem 25 24)) (defScope (mem 25 24)) .none kV36 dc36 pm36 an36 cd36 ct36) := fund_0 l36 c36 k36
  have D36 : FnD L "__contains__" "Book.__contains__" (mem 25 24) f36 _ ["self", "key"] ["self", "key"] c_Book_contains := ⟨⟨_, _, F36⟩, sc_Book__contains, ck_Book__contains⟩
  have F37 : FunD K "__eq__" "Book.__eq__" (defArgs (mem 25 25)) (defBody (mem 25 25)) (defScope (mem 25 25)) [] [] f37 (PySem.W.fnOf "__eq__" "Book.__eq__" (defArgs (mem 25 25)) (defBody (mem 25 25)) (defScope (mem 25 25)) .none kV37 dc37 pm37 an37 cd37 ct37) := fund_0 l37 c37 k37
  have D37 : FnD L "__eq__" "Book.__eq__" (mem 25 25) f37 _ ["self", "other"] ["self", "other"] c_Book_eq := ⟨⟨_, _, F37⟩, sc_Book__eq, ck_Book__eq⟩
  have F38 : FunD K "__len__" "Book.__len__" (defArgs (mem 25 26)) (defBody (mem 25 26)) (defScope (mem 25 26)) [] [] f38 (PySem.W.fnOf "__len__" "Book.__len__" (defArgs (mem 25 26)) (defBody (mem 25 26)) (defScope (mem 25 26)) .none kV38 dc38 pm38 an38 cd38 ct38) := fund_0 l38 c38 k38
  have D38 : FnD L "__len__" "Book.__len__" (mem 25 26) f38 _ ["self"] ["self"] c_Book_len := ⟨⟨_, _, F38⟩, sc_Book__len, ck_Book__len⟩
  have F39 : FunD K "__bool__" "Book.__bool__" (defArgs (mem 25 27)) (defBody (mem 25 27)) (defScope (mem 25 27)) [] [] f39 (PySem.W.fnOf "__bool__" "Book.__bool__" (defArgs (mem 25 27)) (defBody (mem 25 27)) (defScope (mem 25 27)) .none kV39 dc39 pm39 an39 cd39 ct39) := fund_0 l39 c39 k39
  have D39 : FnD L "__bool__" "Book.__bool__" (mem 25 27) f39 _ ["self"] ["self"] c_Book_bool := ⟨⟨_, _, F39⟩, sc_Book__bool, ck_Book__bool⟩
  have F40 : FunD K "__repr__" "Book.__repr__" (defArgs (mem 25 28)) (defBody (mem 25 28)) (defScope (mem 25 28)) [] [] f40 (PySem.W.fnOf "__repr__" "Book.__repr__" (defArgs (mem 25 28)) (defBody (mem 25 28)) (defScope (mem 25 28)) .none kV40 dc40 pm40 an40 cd40 ct40) := fund_0 l40 c40 k40
  have D40 : FnD L "__repr__" "Book.__repr__" (mem 25 28) f40 _ ["self"] ["self"] c_Book_repr := ⟨⟨_, _, F40⟩, sc_Book__repr, ck_Book__repr⟩
  have CO : ClO L.x := {
    hn := (obChk_of q6).1, ht := (obChk_of q6).2,
    cl := fun c hc => by
      have hc : c ∈ ([0, 1] : List Nat) := of_decide_eq_true hc
      simp only [List.mem_cons, List.not_mem_nil, or_false] at hc
      rcases hc with hc | hc
      · subst hc; exact clChk_of q0
      · subst hc; exact clChk_of q1
    cc := fun c k hc hk => by
      have hc : c ∈ ([0, 1] : List Nat) := of_decide_eq_true hc
      have hk : k ∈ ([0, 1] : List Nat) := of_decide_eq_true hk
      simp only [List.mem_cons, List.not_mem_nil, or_false] at hc hk
      rcases hc with hc | hc <;> rcases hk with hk | hk <;> subst hc <;> subst hk
      · exact ccChk_of q2
      · exact ccChk_of q3
      · exact ccChk_of q4
      · exact ccChk_of q5
    }
  have B3 := kbn_0 (ks := ["value"]) (n := 0) (L := [.k 0]) F0 (ps := ["value"]) fun kV doc pm an cdv ct us ws l1 l2 => match us, ws, l1, l2 with | [], [_], _, _ => rfl
  have B4 := kbn_0 (ks := ["value"]) (n := 0) (L := [.k 0]) F2 (ps := ["value"]) fun kV doc pm an cdv ct us ws l1 l2 => match us, ws, l1, l2 with | [], [_], _, _ => rfl
  obtain ⟨iv2002, B2002⟩ := kbn_d (ks := []) (n := 5) (L := [.p 0, .p 1, .p 2, .p 3, .p 4, .d 0]) F19 (by intro z; rw [z] at dl19; cases dl19) (ps := ["self", "key", "word", "bearer", "first", "last"]) fun T kV doc pm an cdv ct us its ws l1 l2 l3 => match us, its, ws, l1, l2.trans dl19, l3 with | [_, _, _, _, _], [_], [], _, _, _ => ⟨_, rfl, rfl⟩
  obtain ⟨iv2003, B2003⟩ := kbn_d (ks := []) (n := 6) (L := [.p 0, .p 1, .p 2, .p 3, .p 4, .p 5]) F19 (by intro z; rw [z] at dl19; cases dl19) (ps := ["self", "key", "word", "bearer", "first", "last"]) fun T kV doc pm an cdv ct us its ws l1 l2 l3 => match us, its, ws, l1, l2.trans dl19, l3 with | [_, _, _, _, _, _], [_], [], _, _, _ => ⟨_, rfl, rfl⟩
  obtain ⟨iv2004, B2004⟩ := kbn_d (ks := ["last", "first", "bearer", "word", "key"]) (n := 1) (L := [.p 0, .k 4, .k 3, .k 2, .k 1, .k 0]) F19 (by intro z; rw [z] at dl19; cases dl19) (ps := ["self", "key", "word", "bearer", "first", "last"]) fun T kV doc pm an cdv ct us its ws l1 l2 l3 => match us, its, ws, l1, l2.trans dl19, l3 with | [_], [_], [_, _, _, _, _], _, _, _ => ⟨_, rfl, rfl⟩
  have B2005 := kbn_0 (ks := []) (n := 2) (L := [.p 0, .p 1]) F23 (ps := ["self", "other"]) fun kV doc pm an cdv ct us ws l1 l2 => match us, ws, l1, l2 with | [_, _], [], _, _ => rfl
  have B2006 := kbn_0 (ks := []) (n := 2) (L := [.p 0, .p 1]) F37 (ps := ["self", "other"]) fun kV doc pm an cdv ct us ws l1 l2 => match us, ws, l1, l2 with | [_, _], [], _, _ => rfl
  have B2011 := kbn_0 (ks := []) (n := 1) (L := [.p 0]) F38 (ps := ["self"]) fun kV doc pm an cdv ct us ws l1 l2 => match us, ws, l1, l2 with | [_], [], _, _ => rfl
  have B2015 := kbn_0 (ks := []) (n := 1) (L := [.p 0]) F39 (ps := ["self"]) fun kV doc pm an cdv ct us ws l1 l2 => match us, ws, l1, l2 with | [_], [], _, _ => rfl
  have B2024 := kbn_0 (ks := []) (n := 1) (L := [.p 0]) F24 (ps := ["self"]) fun kV doc pm an cdv ct us ws l1 l2 => match us, ws, l1, l2 with | [_], [], _, _ => rfl
  have B2025 := kbn_0 (ks := []) (n := 1) (L := [.p 0]) F40 (ps := ["self"]) fun kV doc pm an cdv ct us ws l1 l2 => match us, ws, l1, l2 with | [_], [], _, _ => rfl
  have B2034 := kbn_0 (ks := ["date"]) (n := 1) (L := [.p 0, .k 0]) F20 (ps := ["self", "date"]) fun kV doc pm an cdv ct us ws l1 l2 => match us, ws, l1, l2 with | [_], [_], _, _ => rfl
  have B2035 := kbn_0 (ks := []) (n := 1) (L := [.p 0]) F22 (ps := ["self"]) fun kV doc pm an cdv ct us ws l1 l2 => match us, ws, l1, l2 with | [_], [], _, _ => rfl
  have B2036 := kbn_0 (ks := []) (n := 1) (L := [.p 0]) F35 (ps := ["self"]) fun kV doc pm an cdv ct us ws l1 l2 => match us, ws, l1, l2 with | [_], [], _, _ => rfl
  obtain ⟨iv2039, jv2039, B2039⟩ := kbn_b (ks := ["aside", "kept"]) (n := 3) (L := [.p 0, .p 1, .p 2, .k 0, .k 1]) [] F25 (by intro z; rw [z] at dl25; cases dl25) ml25 (by decide) (by decide) (ps := ["self", "things", "labels", "aside", "kept"]) fun T D0 doc pm an cdv ct us its mv ws l1 l2 l3 l4 => match us, its, mv, ws, l1, l2.trans dl25, l3, l4 with | [_, _, _], [_], [], [_, _], _, _, _, _ => ⟨_, rfl, rfl⟩
  obtain ⟨iv2040, jv2040, B2040⟩ := kbn_b (ks := []) (n := 2) (L := [.p 0, .p 1, .d 0, .w 0, .w 1]) [0, 1] F25 (by intro z; rw [z] at dl25; cases dl25) ml25 (by decide) (by decide) (ps := ["self", "things", "labels", "aside", "kept"]) fun T D0 doc pm an cdv ct us its mv ws l1 l2 l3 l4 => match us, its, mv, ws, l1, l2.trans dl25, l3, l4 with | [_, _], [_], [_, _], [], _, _, _, _ => ⟨_, rfl, ⟨_, _, _, _, _, _, rfl, rfl, ⟨_, _, _, _, _, _, rfl, rfl, rfl⟩⟩⟩
  have B2073 := kbn_0 (ks := []) (n := 2) (L := [.p 0, .p 1]) F20 (ps := ["self", "date"]) fun kV doc pm an cdv ct us ws l1 l2 => match us, ws, l1, l2 with | [_, _], [], _, _ => rfl
  have B2077 := kbn_0 (ks := []) (n := 1) (L := [.p 0]) F28 (ps := ["self"]) fun kV doc pm an cdv ct us ws l1 l2 => match us, ws, l1, l2 with | [_], [], _, _ => rfl
  have B2079 := kbn_0 (ks := []) (n := 1) (L := [.p 0]) F30 (ps := ["self"]) fun kV doc pm an cdv ct us ws l1 l2 => match us, ws, l1, l2 with | [_], [], _, _ => rfl
  have B2080 := kbn_0 (ks := []) (n := 1) (L := [.p 0]) F29 (ps := ["self"]) fun kV doc pm an cdv ct us ws l1 l2 => match us, ws, l1, l2 with | [_], [], _, _ => rfl
  have B2082 := kbn_0 (ks := []) (n := 1) (L := [.p 0]) F27 (ps := ["self"]) fun kV doc pm an cdv ct us ws l1 l2 => match us, ws, l1, l2 with | [_], [], _, _ => rfl
  have B2086 := kbn_0 (ks := []) (n := 2) (L := [.p 0, .p 1]) F31 (ps := ["self", "key"]) fun kV doc pm an cdv ct us ws l1 l2 => match us, ws, l1, l2 with | [_, _], [], _, _ => rfl
  have B2088 := kbn_0 (ks := []) (n := 2) (L := [.p 0, .p 1]) F33 (ps := ["self", "labels"]) fun kV doc pm an cdv ct us ws l1 l2 => match us, ws, l1, l2 with | [_, _], [], _, _ => rfl
  have B2089 := kbn_0 (ks := []) (n := 2) (L := [.p 0, .p 1]) F34 (ps := ["self", "label"]) fun kV doc pm an cdv ct us ws l1 l2 => match us, ws, l1, l2 with | [_, _], [], _, _ => rfl
  have B2090 := kbn_0 (ks := []) (n := 2) (L := [.p 0, .p 1]) F32 (ps := ["self", "key"]) fun kV doc pm an cdv ct us ws l1 l2 => match us, ws, l1, l2 with | [_, _], [], _, _ => rfl
  have B2091 := kbn_0 (ks := []) (n := 3) (L := [.p 0, .p 1, .p 2]) F21 (ps := ["self", "first", "last"]) fun kV doc pm an cdv ct us ws l1 l2 => match us, ws, l1, l2 with | [_, _, _], [], _, _ => rfl
  have B2177 := kbn_0 (ks := []) (n := 2) (L := [.p 0, .p 1]) F36 (ps := ["self", "key"]) fun kV doc pm an cdv ct us ws l1 l2 => match us, ws, l1, l2 with | [_, _], [], _, _ => rfl
  have B2178 := kbn_0 (ks := []) (n := 2) (L := [.p 0, .p 1]) F26 (ps := ["self", "label"]) fun kV doc pm an cdv ct us ws l1 l2 => match us, ws, l1, l2 with | [_, _], [], _, _ => rfl
  have ok : LdOk L := {
    fn := fun f hf => by
      have hf : f ∈ ([0, 1, 2, 111, 119, 121, 10, 11, 12, 13, 14, 238, 176, 114, 124, 116, 203, 123, 299] : List Nat) := of_decide_eq_true hf
      simp only [List.mem_cons, List.not_mem_nil, or_false] at hf
      rcases hf with h | h | h | h | h | h | h | h | h | h | h | h | h | h | h | h | h | h | h
      · subst h; exact ⟨_, _, _, _, _, _, _, _, D0, PySem.W.mg_of X G a0, F0.bindsN (ps := ["value"]) (fun _ _ _ _ _ _ us hl => match us, hl with | [_], _ => rfl), rfl⟩
      · subst h; exact ⟨_, _, _, _, _, _, _, _, D1, PySem.W.mg_of X G a1, F1.bindsN (ps := ["value", "least", "most"]) (fun _ _ _ _ _ _ us hl => match us, hl with | [_, _, _], _ => rfl), rfl⟩
      · subst h; exact ⟨_, _, _, _, _, _, _, _, D2, PySem.W.mg_of X G a2, F2.bindsN (ps := ["value"]) (fun _ _ _ _ _ _ us hl => match us, hl with | [_], _ => rfl), rfl⟩
      · subst h; exact ⟨_, _, _, _, _, _, _, _, D3, PySem.W.mg_of X G a3, F3.bindsN (ps := ["value"]) (fun _ _ _ _ _ _ us hl => match us, hl with | [_], _ => rfl), rfl⟩
      · subst h; exact ⟨_, _, _, _, _, _, _, _, D4, PySem.W.mg_of X G a4, F4.bindsN (ps := ["things"]) (fun _ _ _ _ _ _ us hl => match us, hl with | [_], _ => rfl), rfl⟩
      · subst h; exact ⟨_, _, _, _, _, _, _, _, D5, PySem.W.mg_of X G a5, F5.bindsN (ps := ["known", "things"]) (fun _ _ _ _ _ _ us hl => match us, hl with | [_, _], _ => rfl), rfl⟩
      · subst h; exact ⟨_, _, _, _, _, _, _, _, D6, PySem.W.mg_of X G a6, F6.bindsN (ps := ["_law_script"]) (fun _ _ _ _ _ _ us hl => match us, hl with | [_], _ => rfl), rfl⟩
      · subst h; exact ⟨_, _, _, _, _, _, _, _, D7, PySem.W.mg_of X G a7, F7.bindsN (ps := ["_law_feed_here", "_law_many"]) (fun _ _ _ _ _ _ us hl => match us, hl with | [_, _], _ => rfl), rfl⟩
      · subst h; exact ⟨_, _, _, _, _, _, _, _, D8, PySem.W.mg_of X G a8, F8.bindsN (ps := ["_law_feed_here", "_law_items"]) (fun _ _ _ _ _ _ us hl => match us, hl with | [_, _], _ => rfl), rfl⟩
      · subst h; exact ⟨_, _, _, _, _, _, _, _, D9, PySem.W.mg_of X G a9, F9.bindsN (ps := ["_law_found", "_law_due"]) (fun _ _ _ _ _ _ us hl => match us, hl with | [_, _], _ => rfl), rfl⟩
      · subst h; exact ⟨_, _, _, _, _, _, _, _, D10, PySem.W.mg_of X G a10, F10.bindsN (ps := ["_law_feed_here", "_law_many"]) (fun _ _ _ _ _ _ us hl => match us, hl with | [_, _], _ => rfl), rfl⟩
      · subst h; exact ⟨_, _, _, _, _, _, _, _, D11, PySem.W.mg_of X G a11, F11.bindsN (ps := ["_law_feed_here", "_law_many"]) (fun _ _ _ _ _ _ us hl => match us, hl with | [_, _], _ => rfl), rfl⟩
      · subst h; exact ⟨_, _, _, _, _, _, _, _, D12, PySem.W.mg_of X G a12, F12.bindsN (ps := ["_law_feed_here", "_law_things", "_law_labels_here", "_law_wide"]) (fun _ _ _ _ _ _ us hl => match us, hl with | [_, _, _, _], _ => rfl), rfl⟩
      · subst h; exact ⟨_, _, _, _, _, _, _, _, D13, PySem.W.mg_of X G a13, F13.bindsN (ps := ["_law_spec_here"]) (fun _ _ _ _ _ _ us hl => match us, hl with | [_], _ => rfl), rfl⟩
      · subst h; exact ⟨_, _, _, _, _, _, _, _, D14, PySem.W.mg_of X G a14, F14.bindsN (ps := ["_law_spec_here"]) (fun _ _ _ _ _ _ us hl => match us, hl with | [_], _ => rfl), rfl⟩
      · subst h; exact ⟨_, _, _, _, _, _, _, _, D15, PySem.W.mg_of X G a15, F15.bindsN (ps := ["_law_spec_here"]) (fun _ _ _ _ _ _ us hl => match us, hl with | [_], _ => rfl), rfl⟩
      · subst h; exact ⟨_, _, _, _, _, _, _, _, D16, PySem.W.mg_of X G a16, F16.bindsN (ps := ["_law_spec_here", "_law_ruling"]) (fun _ _ _ _ _ _ us hl => match us, hl with | [_, _], _ => rfl), rfl⟩
      · subst h; exact ⟨_, _, _, _, _, _, _, _, D17, PySem.W.mg_of X G a17, F17.bindsN (ps := ["_law_made_here", "_law_spec_here"]) (fun _ _ _ _ _ _ us hl => match us, hl with | [_, _], _ => rfl), rfl⟩
      · subst h; exact ⟨_, _, _, _, _, _, _, _, D18, PySem.W.mg_of X G a18, F18.bindsN (ps := ["_law_script"]) (fun _ _ _ _ _ _ us hl => match us, hl with | [_], _ => rfl), rfl⟩
    fk := fun f hf => by
      have hf : f ∈ ([3, 4] : List Nat) := of_decide_eq_true hf
      simp only [List.mem_cons, List.not_mem_nil, or_false] at hf
      rcases hf with hf | hf
      · subst hf; exact ⟨_, PySem.W.mg_of X G a0, k0, ⟨_, _, _, _, _, _, _, _, _, _, D0, B3, rfl, fun G io ds es vs zs l1 l2 r1 r2 => ⟨rfl, lay_rp (L := [.k 0]) l1 r1 r2 .nil .nil⟩⟩⟩
      · subst hf; exact ⟨_, PySem.W.mg_of X G a2, k2, ⟨_, _, _, _, _, _, _, _, _, _, D2, B4, rfl, fun G io ds es vs zs l1 l2 r1 r2 => ⟨rfl, lay_rp (L := [.k 0]) l1 r1 r2 .nil .nil⟩⟩⟩
    fm := fun f hf => by
      have hf : f ∈ ([2002, 2003, 2004, 2039, 2040] : List Nat) := of_decide_eq_true hf
      simp only [List.mem_cons, List.not_mem_nil, or_false] at hf
      rcases hf with hf | hf | hf | hf | hf
      · subst hf; exact ⟨_, _, _, _, _, _, _, _, _, _, _, 0, 1000, rfl, D19, PySem.W.mg_of X G cC0, mkChk_of q16, B2002, ⟨_, _, _, rfl⟩, rfl, fun G io ds es v vs zs d l1 l2 r0 r1 r2 => ⟨rfl, layM_rp (L := [.p 1, .p 2, .p 3, .p 4, .d 0]) l1 r0 r1 r2 (dr19 _ G io rfl).1 (rpl_sel (dr19 _ G io rfl).2 [])⟩⟩
      · subst hf; exact ⟨_, _, _, _, _, _, _, _, _, _, _, 0, 1000, rfl, D19, PySem.W.mg_of X G cC0, mkChk_of q16, B2003, ⟨_, _, _, rfl⟩, rfl, fun G io ds es v vs zs d l1 l2 r0 r1 r2 => ⟨rfl, layM_rp (L := [.p 1, .p 2, .p 3, .p 4, .p 5]) l1 r0 r1 r2 (dr19 _ G io rfl).1 (rpl_sel (dr19 _ G io rfl).2 [])⟩⟩
      · subst hf; exact ⟨_, _, _, _, _, _, _, _, _, _, _, 0, 1000, rfl, D19, PySem.W.mg_of X G cC0, mkChk_of q16, B2004, ⟨_, _, _, rfl⟩, rfl, fun G io ds es v vs zs d l1 l2 r0 r1 r2 => ⟨rfl, layM_rp (L := [.k 4, .k 3, .k 2, .k 1, .k 0]) l1 r0 r1 r2 (dr19 _ G io rfl).1 (rpl_sel (dr19 _ G io rfl).2 [])⟩⟩
      · subst hf; exact ⟨_, _, _, _, _, _, _, _, _, _, _, 1, 1009, rfl, D25, PySem.W.mg_of X G cC1, mkChk_of q17, B2039, ⟨_, _, _, rfl⟩, rfl, fun G io ds es v vs zs d l1 l2 r0 r1 r2 => ⟨rfl, layM_rp (L := [.p 1, .p 2, .k 0, .k 1]) l1 r0 r1 r2 (dr25 _ G io rfl).1 (rpl_sel (dr25 _ G io rfl).2 [])⟩⟩
      · subst hf; exact ⟨_, _, _, _, _, _, _, _, _, _, _, 1, 1009, rfl, D25, PySem.W.mg_of X G cC1, mkChk_of q17, B2040, ⟨_, _, _, rfl⟩, rfl, fun G io ds es v vs zs d l1 l2 r0 r1 r2 => ⟨rfl, layM_rp (L := [.p 1, .d 0, .w 0, .w 1]) l1 r0 r1 r2 (dr25 _ G io rfl).1 (rpl_sel (dr25 _ G io rfl).2 [0, 1])⟩⟩
    nm := rfl, nd := (show flL.Nodup by decide +kernel), lv := rfl, ko := CO,
    fa := fun c f h => by
      have h : (c, f) ∈ faL := of_decide_eq_true h
      simp only [faL, List.mem_cons, List.not_mem_nil, or_false, Prod.mk.injEq] at h
      rcases h with ⟨rfl, rfl⟩ | ⟨rfl, rfl⟩ | ⟨rfl, rfl⟩ | ⟨rfl, rfl⟩ | ⟨rfl, rfl⟩ | ⟨rfl, rfl⟩ | ⟨rfl, rfl⟩ | ⟨rfl, rfl⟩ | ⟨rfl, rfl⟩
      · exact naChk_of q7
      · exact naChk_of q8
      · exact naChk_of q9
      · exact naChk_of q10
      · exact naChk_of q11
      · exact naChk_of q12
      · exact naChk_of q13
      · exact naChk_of q14
      · exact naChk_of q15
    me := fun c i m n kk h => by
      have h := mem_lookP h
      simp only [meL, List.mem_cons, List.not_mem_nil, or_false, Prod.mk.injEq] at h
      rcases h with ⟨⟨rfl, rfl⟩, rfl, rfl, rfl⟩ | ⟨⟨rfl, rfl⟩, rfl, rfl, rfl⟩ | ⟨⟨rfl, rfl⟩, rfl, rfl, rfl⟩ | ⟨⟨rfl, rfl⟩, rfl, rfl, rfl⟩ | ⟨⟨rfl, rfl⟩, rfl, rfl, rfl⟩ | ⟨⟨rfl, rfl⟩, rfl, rfl, rfl⟩ | ⟨⟨rfl, rfl⟩, rfl, rfl, rfl⟩ | ⟨⟨rfl, rfl⟩, rfl, rfl, rfl⟩ | ⟨⟨rfl, rfl⟩, rfl, rfl, rfl⟩ | ⟨⟨rfl, rfl⟩, rfl, rfl, rfl⟩ | ⟨⟨rfl, rfl⟩, rfl, rfl, rfl⟩ | ⟨⟨rfl, rfl⟩, rfl, rfl, rfl⟩ | ⟨⟨rfl, rfl⟩, rfl, rfl, rfl⟩ | ⟨⟨rfl, rfl⟩, rfl, rfl, rfl⟩ | ⟨⟨rfl, rfl⟩, rfl, rfl, rfl⟩ | ⟨⟨rfl, rfl⟩, rfl, rfl, rfl⟩ | ⟨⟨rfl, rfl⟩, rfl, rfl, rfl⟩ | ⟨⟨rfl, rfl⟩, rfl, rfl, rfl⟩ | ⟨⟨rfl, rfl⟩, rfl, rfl, rfl⟩ | ⟨⟨rfl, rfl⟩, rfl, rfl, rfl⟩ | ⟨⟨rfl, rfl⟩, rfl, rfl, rfl⟩
      · exact ⟨f23, meChk_of q18, ⟨_, _, _, _, _, _, _, _, _, _, D23, B2005, rfl, fun G io ds es vs zs l1 l2 r1 r2 => ⟨rfl, lay_rp (L := [.p 0, .p 1]) l1 r1 r2 .nil .nil⟩⟩⟩
      · exact ⟨f37, meChk_of q19, ⟨_, _, _, _, _, _, _, _, _, _, D37, B2006, rfl, fun G io ds es vs zs l1 l2 r1 r2 => ⟨rfl, lay_rp (L := [.p 0, .p 1]) l1 r1 r2 .nil .nil⟩⟩⟩
      · exact ⟨f38, meChk_of q20, ⟨_, _, _, _, _, _, _, _, _, _, D38, B2011, rfl, fun G io ds es vs zs l1 l2 r1 r2 => ⟨rfl, lay_rp (L := [.p 0]) l1 r1 r2 .nil .nil⟩⟩⟩
      · exact ⟨f39, meChk_of q21, ⟨_, _, _, _, _, _, _, _, _, _, D39, B2015, rfl, fun G io ds es vs zs l1 l2 r1 r2 => ⟨rfl, lay_rp (L := [.p 0]) l1 r1 r2 .nil .nil⟩⟩⟩
      · exact ⟨f24, meChk_of q22, ⟨_, _, _, _, _, _, _, _, _, _, D24, B2024, rfl, fun G io ds es vs zs l1 l2 r1 r2 => ⟨rfl, lay_rp (L := [.p 0]) l1 r1 r2 .nil .nil⟩⟩⟩
      · exact ⟨f40, meChk_of q23, ⟨_, _, _, _, _, _, _, _, _, _, D40, B2025, rfl, fun G io ds es vs zs l1 l2 r1 r2 => ⟨rfl, lay_rp (L := [.p 0]) l1 r1 r2 .nil .nil⟩⟩⟩
      · exact ⟨f20, meChk_of q24, ⟨_, _, _, _, _, _, _, _, _, _, D20, B2034, rfl, fun G io ds es vs zs l1 l2 r1 r2 => ⟨rfl, lay_rp (L := [.p 0, .k 0]) l1 r1 r2 .nil .nil⟩⟩⟩
      · exact ⟨f22, meChk_of q25, ⟨_, _, _, _, _, _, _, _, _, _, D22, B2035, rfl, fun G io ds es vs zs l1 l2 r1 r2 => ⟨rfl, lay_rp (L := [.p 0]) l1 r1 r2 .nil .nil⟩⟩⟩
      · exact ⟨f35, meChk_of q26, ⟨_, _, _, _, _, _, _, _, _, _, D35, B2036, rfl, fun G io ds es vs zs l1 l2 r1 r2 => ⟨rfl, lay_rp (L := [.p 0]) l1 r1 r2 .nil .nil⟩⟩⟩
      · exact ⟨f20, meChk_of q24, ⟨_, _, _, _, _, _, _, _, _, _, D20, B2073, rfl, fun G io ds es vs zs l1 l2 r1 r2 => ⟨rfl, lay_rp (L := [.p 0, .p 1]) l1 r1 r2 .nil .nil⟩⟩⟩
      · exact ⟨f28, meChk_of q27, ⟨_, _, _, _, _, _, _, _, _, _, D28, B2077, rfl, fun G io ds es vs zs l1 l2 r1 r2 => ⟨rfl, lay_rp (L := [.p 0]) l1 r1 r2 .nil .nil⟩⟩⟩
      · exact ⟨f30, meChk_of q28, ⟨_, _, _, _, _, _, _, _, _, _, D30, B2079, rfl, fun G io ds es vs zs l1 l2 r1 r2 => ⟨rfl, lay_rp (L := [.p 0]) l1 r1 r2 .nil .nil⟩⟩⟩
      · exact ⟨f29, meChk_of q29, ⟨_, _, _, _, _, _, _, _, _, _, D29, B2080, rfl, fun G io ds es vs zs l1 l2 r1 r2 => ⟨rfl, lay_rp (L := [.p 0]) l1 r1 r2 .nil .nil⟩⟩⟩
      · exact ⟨f27, meChk_of q30, ⟨_, _, _, _, _, _, _, _, _, _, D27, B2082, rfl, fun G io ds es vs zs l1 l2 r1 r2 => ⟨rfl, lay_rp (L := [.p 0]) l1 r1 r2 .nil .nil⟩⟩⟩
      · exact ⟨f31, meChk_of q31, ⟨_, _, _, _, _, _, _, _, _, _, D31, B2086, rfl, fun G io ds es vs zs l1 l2 r1 r2 => ⟨rfl, lay_rp (L := [.p 0, .p 1]) l1 r1 r2 .nil .nil⟩⟩⟩
      · exact ⟨f33, meChk_of q32, ⟨_, _, _, _, _, _, _, _, _, _, D33, B2088, rfl, fun G io ds es vs zs l1 l2 r1 r2 => ⟨rfl, lay_rp (L := [.p 0, .p 1]) l1 r1 r2 .nil .nil⟩⟩⟩
      · exact ⟨f34, meChk_of q33, ⟨_, _, _, _, _, _, _, _, _, _, D34, B2089, rfl, fun G io ds es vs zs l1 l2 r1 r2 => ⟨rfl, lay_rp (L := [.p 0, .p 1]) l1 r1 r2 .nil .nil⟩⟩⟩
      · exact ⟨f32, meChk_of q34, ⟨_, _, _, _, _, _, _, _, _, _, D32, B2090, rfl, fun G io ds es vs zs l1 l2 r1 r2 => ⟨rfl, lay_rp (L := [.p 0, .p 1]) l1 r1 r2 .nil .nil⟩⟩⟩
      · exact ⟨f21, meChk_of q35, ⟨_, _, _, _, _, _, _, _, _, _, D21, B2091, rfl, fun G io ds es vs zs l1 l2 r1 r2 => ⟨rfl, lay_rp (L := [.p 0, .p 1, .p 2]) l1 r1 r2 .nil .nil⟩⟩⟩
      · exact ⟨f36, meChk_of q36, ⟨_, _, _, _, _, _, _, _, _, _, D36, B2177, rfl, fun G io ds es vs zs l1 l2 r1 r2 => ⟨rfl, lay_rp (L := [.p 0, .p 1]) l1 r1 r2 .nil .nil⟩⟩⟩
      · exact ⟨f26, meChk_of q37, ⟨_, _, _, _, _, _, _, _, _, _, D26, B2178, rfl, fun G io ds es vs zs l1 l2 r1 r2 => ⟨rfl, lay_rp (L := [.p 0, .p 1]) l1 r1 r2 .nil .nil⟩⟩⟩
    cn := fun c hc => by
      match c, hc with
      | 0, _ => exact ⟨PySem.W.mg_of X G cC0, rfl⟩
      | 1, _ => exact ⟨PySem.W.mg_of X G cC1, rfl⟩
      | n + 2, hc => exact absurd rfl hc
    go := fun i hi => gone_ok hi
    gv := fun g hg => by
      match g, hg with
      | 0, _ => exact ⟨_, .str "abcdefghijklmnopqrstuvwxyz", PySem.W.mg_of X G gv0, ⟨_, rfl⟩, fun _ _ => (by show V.str "abcdefghijklmnopqrstuvwxyz" = V.str (tx az); exact congrArg V.str (by decide +kernel))⟩
      | 1, _ => exact ⟨_, .int 6, PySem.W.mg_of X G gv1, ⟨_, rfl⟩, fun _ _ => rfl⟩
      | 2, _ => exact ⟨_, .int 9999, PySem.W.mg_of X G gv2, ⟨_, rfl⟩, fun _ _ => rfl⟩
      | 5, _ => exact ⟨_, .int 8, PySem.W.mg_of X G gv3, ⟨_, rfl⟩, fun _ _ => rfl⟩
      | 7, _ => exact ⟨_, .int 16, PySem.W.mg_of X G gv4, ⟨_, rfl⟩, fun _ _ => rfl⟩
      | 3, hg => exact absurd rfl hg
      | 4, hg => exact absurd rfl hg
      | 6, hg => exact absurd rfl hg
      | n + 8, hg => exact absurd rfl hg
    bl := fun n hn => by
      simp only [bltNames, List.mem_cons, List.not_mem_nil, or_false] at hn
      rcases hn with h | h | h | h | h | h | h | h | h | h | h | h | h | h | h | h | h | h
      · subst h; exact PySem.W.mg_none_of X G z0
      · subst h; exact PySem.W.mg_none_of X G z1
      · subst h; exact PySem.W.mg_none_of X G z2
      · subst h; exact PySem.W.mg_none_of X G z3
      · subst h; exact PySem.W.mg_none_of X G z4
      · subst h; exact PySem.W.mg_none_of X G z5
      · subst h; exact PySem.W.mg_none_of X G z6
      · subst h; exact PySem.W.mg_none_of X G z7
      · subst h; exact PySem.W.mg_none_of X G z8
      · subst h; exact PySem.W.mg_none_of X G z9
      · subst h; exact PySem.W.mg_none_of X G z10
      · subst h; exact PySem.W.mg_none_of X G z11
      · subst h; exact PySem.W.mg_none_of X G z12
      · subst h; exact PySem.W.mg_none_of X G z13
      · subst h; exact PySem.W.mg_none_of X G z14
      · subst h; exact PySem.W.mg_none_of X G z15
      · subst h; exact PySem.W.mg_none_of X G z16
      · subst h; exact PySem.W.mg_none_of X G z17
    }
  refine (ld_ok ok 12 D18).imp fun vs H Q E hs => ?_
  obtain ⟨a, ns, rfl, hS, hl, k⟩ := hs
  obtain ⟨m, hm⟩ := law_ok (Cd := CdL) (TabS.of (live := liveL) (by decide +kernel)) rfl ns hl
  refine ⟨rfl, [.fzl (ns.map D.int)], [], H, [], Same.refl _, ⟨rfl, .nil, fun _ _ _ h => by simp at h⟩, .cons ⟨a, _, rfl, hS, ints_rp ns⟩ .nil, ?_⟩
  have e : PfC L 12 11 1 c_law [.fzl (ns.map D.int)] [] = some (.val (.bl true), m) := (Pn_eq (L := L) (f := 299) (gd := id) rfl _ _).symm.trans hm
  show PostF L.x H H [] (PfC L 12 11 1 c_law [.fzl (ns.map D.int)] []) Q E
  rw [e]
  intro v H' G' io' _ r
  rw [show v = .bl true from r]
  exact k H'
theorem walk {l : PySem.W.OpenLaw} {q : Program} {loose : List Str} {XP : (Str → Option Value) → Heap → Prop} {YP : World → Heap → Prop} {d : DefRec} {K : Params → PySem.W.Frag} (hn : l.most = some 63) (hdf : d.params.defaults = [])
    (hY : ∀ (w : World) (h : Heap), YP w h → (K w.params).In h)
    (F : ∀ (w : World) (mg : Str → Option Value) (fa : Addr) (h : Heap), (K w.params).In h → h.Ns mainGlobals mg → mg d.name = some (.ref fa) →
      ∃ fd : FuncData, (∀ (s : Shared) (u : Value), BindsTo s fd ⟨[u], []⟩ [("_law_script", u)]) ∧ ∀ base : Heap, (K w.params).In base → base.Ns mainGlobals mg → FnOk l.prog w (K w.params) mg base (L2.CX l.prog w) 49 fa fd ["_law_script"] (spLaw (K w.params))) :
    PySem.W.WalkO q loose XP YP l.row.toRowW d [] (fun f vs => PySem.call f vs) :=
  L2.walk_of (n := 63) (k := 49) (x := "_law_script") (CX := fun w => L2.CX l.prog w) (sp := fun w => spLaw (K w.params)) hn (by decide) hdf ⟨rfl, by decide, by decide⟩ hY F (fun _ _ a ns hl _ hS => ⟨a, ns, rfl, hS, hl, fun _ => rfl⟩) fun _ _ _ _ _ z => by obtain ⟨_, _, _, _, _, _, _, _, _, _, _, _, z⟩ := z; exact z
end En
open PySem PySem.W PyProof.Rows
set_option maxRecDepth 100000 in
set_option maxHeartbeats 0 in
theorem PySem.Challenge.cw_namehold_k13_books_equal_holds : PySem.Challenge.rw_namehold_k13_books_equal.Holds := by
  w_on; o_law; k_head; (case hw => w_witness2)
  k_fill
  refine En.walk (l := PySem.Challenge.rw_namehold_k13_books_equal) rfl rfl (fun w h Y => PySem.W.kIn_of Y) ?F
  case F =>
    intro w mg fa h KX G hmg
    refine' En.all_mk KX G hmg ?cC0 ?cC1 ?a0 ?l0 ?c0 ?k0 ?a1 ?l1 ?c1 ?k1 ?a2 ?l2 ?c2 ?k2 ?a3 ?l3 ?c3 ?k3 ?a4 ?l4 ?c4 ?k4 ?a5 ?l5 ?c5 ?k5 ?a6 ?l6 ?c6 ?k6 ?a7 ?l7 ?c7 ?k7 ?a8 ?l8 ?c8 ?k8 ?a9 ?l9 ?c9 ?k9 ?a10 ?l10 ?c10 ?k10 ?a11 ?l11 ?c11 ?k11 ?a12 ?l12 ?c12 ?k12 ?a13 ?l13 ?c13 ?k13 ?a14 ?l14 ?c14 ?k14 ?a15 ?l15 ?c15 ?k15 ?a16 ?l16 ?c16 ?k16 ?a17 ?l17 ?c17 ?k17 ?a18 ?l18 ?c18 ?k18 ?a19 ?l19 ?c19 ?k19 ?a20 ?l20 ?c20 ?k20 ?a21 ?l21 ?c21 ?k21 ?a22 ?l22 ?c22 ?k22 ?a23 ?l23 ?c23 ?k23 ?a24 ?l24 ?c24 ?k24 ?a25 ?l25 ?c25 ?k25 ?a26 ?l26 ?c26 ?k26 ?a27 ?l27 ?c27 ?k27 ?a28 ?l28 ?c28 ?k28 ?a29 ?l29 ?c29 ?k29 ?a30 ?l30 ?c30 ?k30 ?a31 ?l31 ?c31 ?k31 ?a32 ?l32 ?c32 ?k32 ?a33 ?l33 ?c33 ?k33 ?a34 ?l34 ?c34 ?k34 ?a35 ?l35 ?c35 ?k35 ?a36 ?l36 ?c36 ?k36 ?a37 ?l37 ?c37 ?k37 ?a38 ?l38 ?c38 ?k38 ?a39 ?l39 ?c39 ?k39 ?a40 ?l40 ?c40 ?k40 ?gv0 ?gv1 ?gv2 ?gv3 ?gv4 ?z0 ?z1 ?z2 ?z3 ?z4 ?z5 ?z6 ?z7 ?z8 ?z9 ?z10 ?z11 ?z12 ?z13 ?z14 ?z15 ?z16 ?z17 ?q0 ?q1 ?q2 ?q3 ?q4 ?q5 ?q6 ?q7 ?q8 ?q9 ?q10 ?q11 ?q12 ?q13 ?q14 ?q15 ?q16 ?q17 ?q18 ?q19 ?q20 ?q21 ?q22 ?q23 ?q24 ?q25 ?q26 ?q27 ?q28 ?q29 ?q30 ?q31 ?q32 ?q33 ?q34 ?q35 ?q36 ?q37 ?q38 ?q39 ?q40 ?q41
    (case cC0 => k_is)
    (case cC1 => k_is)
    (case a0 => k_is)
    (case l0 => k_is)
    (case c0 => k_is)
    (case k0 => k_is)
    (case a1 => k_is)
    (case l1 => k_is)
    (case c1 => k_is)
    (case k1 => k_is)
    (case a2 => k_is)
    (case l2 => k_is)
    (case c2 => k_is)
    (case k2 => k_is)
    (case a3 => k_is)
    (case l3 => k_is)
    (case c3 => k_is)
    (case k3 => k_is)
    (case a4 => k_is)
    (case l4 => k_is)
    (case c4 => k_is)
    (case k4 => k_is)
    (case a5 => k_is)
    (case l5 => k_is)
    (case c5 => k_is)
    (case k5 => k_is)
    (case a6 => k_is)
    (case l6 => k_is)
    (case c6 => k_is)
    (case k6 => k_is)
    (case a7 => k_is)
    (case l7 => k_is)
    (case c7 => k_is)
    (case k7 => k_is)
    (case a8 => k_is)
    (case l8 => k_is)
    (case c8 => k_is)
    (case k8 => k_is)
    (case a9 => k_is)
    (case l9 => k_is)
    (case c9 => k_is)
    (case k9 => k_is)
    (case a10 => k_is)
    (case l10 => k_is)
    (case c10 => k_is)
    (case k10 => k_is)
    (case a11 => k_is)
    (case l11 => k_is)
    (case c11 => k_is)
    (case k11 => k_is)
    (case a12 => k_is)
    (case l12 => k_is)
    (case c12 => k_is)
    (case k12 => k_is)
    (case a13 => k_is)
    (case l13 => k_is)
    (case c13 => k_is)
    (case k13 => k_is)
    (case a14 => k_is)
    (case l14 => k_is)
    (case c14 => k_is)
    (case k14 => k_is)
    (case a15 => k_is)
    (case l15 => k_is)
    (case c15 => k_is)
    (case k15 => k_is)
    (case a16 => k_is)
    (case l16 => k_is)
    (case c16 => k_is)
    (case k16 => k_is)
    (case a17 => k_is)
    (case l17 => k_is)
    (case c17 => k_is)
    (case k17 => k_is)
    (case a18 => k_is)
    (case l18 => k_is)
    (case c18 => k_is)
    (case k18 => k_is)
    (case a19 => k_is)
    (case l19 => k_is)
    (case c19 => k_is)
    (case k19 => k_is)
    (case a20 => k_is)
    (case l20 => k_is)
    (case c20 => k_is)
    (case k20 => k_is)
    (case a21 => k_is)
    (case l21 => k_is)
    (case c21 => k_is)
    (case k21 => k_is)
    (case a22 => k_is)
    (case l22 => k_is)
    (case c22 => k_is)
    (case k22 => k_is)
    (case a23 => k_is)
    (case l23 => k_is)
    (case c23 => k_is)
    (case k23 => k_is)
    (case a24 => k_is)
    (case l24 => k_is)
    (case c24 => k_is)
    (case k24 => k_is)
    (case a25 => k_is)
    (case l25 => k_is)
    (case c25 => k_is)
    (case k25 => k_is)
    (case a26 => k_is)
    (case l26 => k_is)
    (case c26 => k_is)
    (case k26 => k_is)
    (case a27 => k_is)
    (case l27 => k_is)
    (case c27 => k_is)
    (case k27 => k_is)
    (case a28 => k_is)
    (case l28 => k_is)
    (case c28 => k_is)
    (case k28 => k_is)
    (case a29 => k_is)
    (case l29 => k_is)
    (case c29 => k_is)
    (case k29 => k_is)
    (case a30 => k_is)
    (case l30 => k_is)
    (case c30 => k_is)
    (case k30 => k_is)
    (case a31 => k_is)
    (case l31 => k_is)
    (case c31 => k_is)
    (case k31 => k_is)
    (case a32 => k_is)
    (case l32 => k_is)
    (case c32 => k_is)
    (case k32 => k_is)
    (case a33 => k_is)
    (case l33 => k_is)
    (case c33 => k_is)
    (case k33 => k_is)
    (case a34 => k_is)
    (case l34 => k_is)
    (case c34 => k_is)
    (case k34 => k_is)
    (case a35 => k_is)
    (case l35 => k_is)
    (case c35 => k_is)
    (case k35 => k_is)
    (case a36 => k_is)
    (case l36 => k_is)
    (case c36 => k_is)
    (case k36 => k_is)
    (case a37 => k_is)
    (case l37 => k_is)
    (case c37 => k_is)
    (case k37 => k_is)
    (case a38 => k_is)
    (case l38 => k_is)
    (case c38 => k_is)
    (case k38 => k_is)
    (case a39 => k_is)
    (case l39 => k_is)
    (case c39 => k_is)
    (case k39 => k_is)
    (case a40 => k_is)
    (case l40 => k_is)
    (case c40 => k_is)
    (case k40 => k_is)
    (case gv0 => k_is)
    (case gv1 => k_is)
    (case gv2 => k_is)
    (case gv3 => k_is)
    (case gv4 => k_is)
    (case z0 => k_is)
    (case z1 => k_is)
    (case z2 => k_is)
    (case z3 => k_is)
    (case z4 => k_is)
    (case z5 => k_is)
    (case z6 => k_is)
    (case z7 => k_is)
    (case z8 => k_is)
    (case z9 => k_is)
    (case z10 => k_is)
    (case z11 => k_is)
    (case z12 => k_is)
    (case z13 => k_is)
    (case z14 => k_is)
    (case z15 => k_is)
    (case z16 => k_is)
    (case z17 => k_is)
    (case q0 => kernel_rfl)
    (case q1 => kernel_rfl)
    (case q2 => kernel_rfl)
    (case q3 => kernel_rfl)
    (case q4 => kernel_rfl)
    (case q5 => kernel_rfl)
    (case q6 => kernel_rfl)
    (case q7 => kernel_rfl)
    (case q8 => kernel_rfl)
    (case q9 => kernel_rfl)
    (case q10 => kernel_rfl)
    (case q11 => kernel_rfl)
    (case q12 => kernel_rfl)
    (case q13 => kernel_rfl)
    (case q14 => kernel_rfl)
    (case q15 => kernel_rfl)
    (case q16 => kernel_rfl)
    (case q17 => kernel_rfl)
    (case q18 => kernel_rfl)
    (case q19 => kernel_rfl)
    (case q20 => kernel_rfl)
    (case q21 => kernel_rfl)
    (case q22 => kernel_rfl)
    (case q23 => kernel_rfl)
    (case q24 => kernel_rfl)
    (case q25 => kernel_rfl)
    (case q26 => kernel_rfl)
    (case q27 => kernel_rfl)
    (case q28 => kernel_rfl)
    (case q29 => kernel_rfl)
    (case q30 => kernel_rfl)
    (case q31 => kernel_rfl)
    (case q32 => kernel_rfl)
    (case q33 => kernel_rfl)
    (case q34 => kernel_rfl)
    (case q35 => kernel_rfl)
    (case q36 => kernel_rfl)
    (case q37 => kernel_rfl)
    (case q38 => kernel_rfl)
    (case q39 => kernel_rfl)
    (case q40 => kernel_rfl)
    (case q41 => kernel_rfl)
