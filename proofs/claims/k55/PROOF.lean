import PyProof.Rows.All
import Wide.All
import OpenK.AllK
import Wide.FinOn
import HandS.ForMost
import HandS.ForExc
import HandS.Wide
import HandS.IsInst
import HandS.ExcIs
import HandS.CallSlots
import HandS.TupAny
import HandS.Defaults
import HandS.Style
import HandS.TupMul
import HandS.TupLe
import HandS.Conv
import HandS.Flow
import HandS.Rev
import HandS.Star
import HandS.TryMany
import HandS.EndBits
import PySem.Challenge.RW_pathschosen_k55_endless_rows_in_least_fo
set_option Elab.async false
set_option linter.all false
set_option maxRecDepth 100000
set_option maxRecDepth 100000
/-! The layer G, part 0: plain data, a store of cells, how they stand in the abstract heap. -/
namespace G
open PySem PySem.Spec PyProof.Rows L2

/-- plain data: an atom, a tuple, a list that nobody writes, a cell of the store -/
inductive D where
  | a (v : V)
  | tup (ds : List D)
  | ils (ds : List D)
  | cel (n : Nat)

/-- what a cell holds -/
inductive Cell where
  | lst (ds : List D)
  | dic (kvs : List (Key × D))
  | dit (kvs : List (List Key × D))
  | ins (c : Str) (fs : List (Str × D))

abbrev Sto := List Cell
abbrev Slots := List (Option D)
/-- an exception: the name of its class, its own fields -/
structure Exn where
  cls : Str
  fs : List (Str × D)

inductive R (α : Type) where
  | ok (x : α) (S : Sto)
  | exc (e : Exn) (S : Sto)
  | bad

def R.bind {α β : Type} (r : R α) (k : α → Sto → R β) : R β := match r with
  | .ok x S => k x S
  | .exc e S => .exc e S
  | .bad => .bad
@[simp] theorem R.bind_ok {α β : Type} (x : α) (S : Sto) (k : α → Sto → R β) : (R.ok x S).bind k = k x S := rfl
@[simp] theorem R.bind_exc {α β : Type} (e : Exn) (S : Sto) (k : α → Sto → R β) : (R.exc e S : R α).bind k = .exc e S := rfl
@[simp] theorem R.bind_bad {α β : Type} (k : α → Sto → R β) : (R.bad : R α).bind k = .bad := rfl

/-- a list that is only read: frozen, or of the written part -/
def ILs (K : PySem.W.Frag) (H : Hp) (p : Addr) (vs : List V) : Prop :=
  (∃ o, H p = some (.frz o (.lst vs))) ∨
    ∃ (o : Obj) (its : Array Value) (n : Nat), K.lookup p = some o ∧ o.cls = .type "list" ∧ o.dict = none ∧ o.data = .seq its n ∧ its.size ≤ sizeLine ∧ Vals vs its.toList

mutual
def Rep (K : PySem.W.Frag) (m : Nat → Addr) (N : Nat) (H : Hp) : D → V → Prop
  | .a v, w => w = v
  | .tup ds, w => ∃ p vs, w = .ref p ∧ SqT K H p vs ∧ vs.length ≤ sizeLine ∧ RepL K m N H ds vs
  | .ils ds, w => ∃ p vs, w = .ref p ∧ ILs K H p vs ∧ vs.length ≤ sizeLine ∧ RepL K m N H ds vs
  | .cel n, w => n < N ∧ w = .ref (m n)
def RepL (K : PySem.W.Frag) (m : Nat → Addr) (N : Nat) (H : Hp) : List D → List V → Prop
  | [], vs => vs = []
  | d :: ds, vs => ∃ v r, vs = v :: r ∧ Rep K m N H d v ∧ RepL K m N H ds r
end
def RepP {κ : Type} (K : PySem.W.Frag) (m : Nat → Addr) (N : Nat) (H : Hp) : List (κ × D) → List (κ × V) → Prop
  | [], ws => ws = []
  | (k, d) :: r, ws => ∃ v r', ws = (k, v) :: r' ∧ Rep K m N H d v ∧ RepP K m N H r r'

/-- the address of a class, by its name in the module -/
def clsAt (mg : Str → Option Value) (c : Str) : Option Addr := match mg c with
  | some (.ref C) => some C
  | _ => none

def CellOk (K : PySem.W.Frag) (mg : Str → Option Value) (m : Nat → Addr) (N : Nat) (H : Hp) (p : Addr) : Cell → Prop
  | .lst ds => ∃ vs, H p = some (.lst vs) ∧ vs.length ≤ sizeLine ∧ RepL K m N H ds vs
  | .dic kvs => ∃ ws, H p = some (.dK ws) ∧ ws.length ≤ sizeLine ∧ RepP K m N H kvs ws
  | .dit kvs => ∃ ws, H p = some (.dT ws) ∧ ws.length ≤ sizeLine ∧ RepP K m N H kvs ws
  | .ins c fs => ∃ C dx ws, clsAt mg c = some C ∧ H p = some (.ins C dx ws) ∧ H dx = some (.own p) ∧ RepP K m N H fs ws

structure SRel (K : PySem.W.Frag) (mg : Str → Option Value) (m : Nat → Addr) (S : Sto) (H : Hp) : Prop where
  at_ : ∀ n c, S[n]? = some c → CellOk K mg m S.length H (m n) c
  inj : ∀ i j, i < S.length → j < S.length → m i = m j → i = j

/-- what is between two states: the store grows, the old cells stay where they are, what is no cell stays -/
structure Post (K : PySem.W.Frag) (mg : Str → Option Value) (m : Nat → Addr) (S : Sto) (H : Hp) (m' : Nat → Addr) (S' : Sto) (H' : Hp) : Prop where
  rel : SRel K mg m' S' H'
  len : S.length ≤ S'.length
  ext : ∀ i, i < S.length → m' i = m i
  frame : ∀ p o, H p = some o → (∀ i, i < S.length → m i ≠ p) → H' p = some o
  fresh : ∀ i, S.length ≤ i → i < S'.length → H (m' i) = none

/-- a cell's object is of a kind that may be written -/
def cellish : HO → Bool
  | .lst _ | .dK _ | .dT _ | .ins _ _ _ => true
  | _ => false

section
variable {K : PySem.W.Frag} {mg : Str → Option Value} {m m' m'' : Nat → Addr} {S S' S'' : Sto} {H H' H'' : Hp} {N N' : Nat}

theorem CellOk.there {p : Addr} {c : Cell} (h : CellOk K mg m N H p c) : ∃ o, H p = some o ∧ cellish o = true := by
  cases c with
  | lst ds => obtain ⟨vs, e, _⟩ := h; exact ⟨_, e, rfl⟩
  | dic kvs => obtain ⟨vs, e, _⟩ := h; exact ⟨_, e, rfl⟩
  | dit kvs => obtain ⟨vs, e, _⟩ := h; exact ⟨_, e, rfl⟩
  | ins c fs => obtain ⟨C, dx, ws, _, e, _⟩ := h; exact ⟨_, e, rfl⟩
theorem SRel.there (r : SRel K mg m S H) {i : Nat} (hi : i < S.length) : ∃ o, H (m i) = some o ∧ cellish o = true :=
  (r.at_ i _ (List.getElem?_eq_getElem hi)).there
/-- what is no cell's kind stands apart from the cells -/
theorem SRel.apart (r : SRel K mg m S H) {p : Addr} {o : HO} (h : H p = some o) (hc : cellish o = false) : ∀ i, i < S.length → m i ≠ p := fun i hi e => by
  obtain ⟨u, hu, cu⟩ := r.there hi
  rw [e, h] at hu
  cases hu
  rw [hc] at cu
  cases cu
theorem SRel.apart0 (r : SRel K mg m S H) {p : Addr} (h : H p = none) : ∀ i, i < S.length → m i ≠ p := fun i hi e => by
  obtain ⟨u, hu, cu⟩ := r.there hi
  rw [e, h] at hu
  cases hu

/-- what data leans on: the places of the cells, the tuples, the frozen things -/
structure Keep (m : Nat → Addr) (N : Nat) (H : Hp) (m' : Nat → Addr) (N' : Nat) (H' : Hp) : Prop where
  len : N ≤ N'
  ext : ∀ i, i < N → m' i = m i
  keep : ∀ p o, H p = some o → cellish o = false → H' p = some o
theorem Keep.sqT (k : Keep m N H m' N' H') {p : Addr} {vs : List V} (h : SqT K H p vs) : SqT K H' p vs := by
  rcases h with (h | ⟨o, h⟩) | h
  · exact .inl (.inl (k.keep _ _ h rfl))
  · exact .inl (.inr ⟨o, k.keep _ _ h rfl⟩)
  · exact .inr h
theorem Keep.ils (k : Keep m N H m' N' H') {p : Addr} {vs : List V} (h : ILs K H p vs) : ILs K H' p vs := by
  rcases h with ⟨o, h⟩ | h
  · exact .inl ⟨o, k.keep _ _ h rfl⟩
  · exact .inr h
mutual
theorem Keep.rep (k : Keep m N H m' N' H') : ∀ (d : D) (v : V), Rep K m N H d v → Rep K m' N' H' d v
  | .a _, _, h => h
  | .tup ds, _, ⟨p, vs, e, s, z, r⟩ => ⟨p, vs, e, k.sqT s, z, Keep.repL k ds vs r⟩
  | .ils ds, _, ⟨p, vs, e, s, z, r⟩ => ⟨p, vs, e, k.ils s, z, Keep.repL k ds vs r⟩
  | .cel n, _, ⟨h, e⟩ => ⟨Nat.lt_of_lt_of_le h k.len, by rw [k.ext n h]; exact e⟩
theorem Keep.repL (k : Keep m N H m' N' H') : ∀ (ds : List D) (vs : List V), RepL K m N H ds vs → RepL K m' N' H' ds vs
  | [], _, h => h
  | d :: ds, _, ⟨v, r, e, h1, h2⟩ => ⟨v, r, e, Keep.rep k d v h1, Keep.repL k ds r h2⟩
end
theorem Keep.repP {κ : Type} (k : Keep m N H m' N' H') : ∀ (ds : List (κ × D)) (vs : List (κ × V)), RepP K m N H ds vs → RepP K m' N' H' ds vs
  | [], _, h => h
  | (x, d) :: ds, _, ⟨v, r, e, h1, h2⟩ => ⟨v, r, e, Keep.rep k d v h1, Keep.repP k ds r h2⟩
theorem Post.keep (r : SRel K mg m S H) (p : Post K mg m S H m' S' H') : Keep m S.length H m' S'.length H' :=
  ⟨p.len, p.ext, fun q o h hc => p.frame q o h (r.apart h hc)⟩
theorem Post.refl (r : SRel K mg m S H) : Post K mg m S H m S H :=
  ⟨r, Nat.le_refl _, fun _ _ => rfl, fun _ _ h _ => h, fun i h1 h2 => absurd h2 (Nat.not_lt.mpr h1)⟩
theorem Post.trans (a : Post K mg m S H m' S' H') (b : Post K mg m' S' H' m'' S'' H'') : Post K mg m S H m'' S'' H'' := by
  refine ⟨b.rel, Nat.le_trans a.len b.len, fun i hi => (b.ext i (Nat.lt_of_lt_of_le hi a.len)).trans (a.ext i hi), fun p o h hn => ?_, fun i h1 h2 => ?_⟩
  · refine b.frame p o (a.frame p o h hn) fun i hi e => ?_
    by_cases hl : i < S.length
    · exact hn i hl ((a.ext i hl).symm.trans e)
    · have z := a.fresh i (Nat.le_of_not_lt hl) hi
      rw [e, h] at z
      cases z
  · by_cases hl : i < S'.length
    · rw [b.ext i hl]
      exact a.fresh i h1 hl
    · have z := b.fresh i (Nat.le_of_not_lt hl) h2
      cases q : H (m'' i) with
      | none => rfl
      | some o =>
        have q' := a.frame _ o q fun j hj e => by
          have e1 : m'' j = m j := (b.ext j (Nat.lt_of_lt_of_le hj a.len)).trans (a.ext j hj)
          have e2 := b.rel.inj j i (Nat.lt_of_lt_of_le hj (Nat.le_trans a.len b.len)) h2 (e1.trans e)
          subst e2
          exact hl (Nat.lt_of_lt_of_le hj a.len)
        rw [z] at q'
        cases q'

/-! ### lengths, places -/
theorem RepL.len : ∀ {ds : List D} {vs : List V}, RepL K m N H ds vs → vs.length = ds.length
  | [], _, h => by rw [show _ = [] from h]; rfl
  | d :: ds, _, ⟨v, r, e, _, h⟩ => by rw [e, List.length_cons, List.length_cons, RepL.len h]
theorem RepP.len {κ : Type} : ∀ {ds : List (κ × D)} {vs : List (κ × V)}, RepP K m N H ds vs → vs.length = ds.length
  | [], _, h => by rw [show _ = [] from h]; rfl
  | (k, d) :: ds, _, ⟨v, r, e, _, h⟩ => by rw [e, List.length_cons, List.length_cons, RepP.len h]
theorem RepL.get : ∀ {ds : List D} {vs : List V} {i : Nat} {d : D}, RepL K m N H ds vs → ds[i]? = some d → ∃ v, vs[i]? = some v ∧ Rep K m N H d v
  | [], _, _, _, _, e => by simp at e
  | x :: ds, _, 0, d, ⟨v, r, rfl, h, _⟩, e => by
    have e' : x = d := by simpa using e
    subst e'
    exact ⟨v, by simp, h⟩
  | x :: ds, _, i + 1, d, ⟨v, r, rfl, _, h⟩, e => by
    obtain ⟨w, h1, h2⟩ := RepL.get (i := i) h (by simpa using e)
    exact ⟨w, by simpa using h1, h2⟩
theorem RepL.append : ∀ {ds es : List D} {vs ws : List V}, RepL K m N H ds vs → RepL K m N H es ws → RepL K m N H (ds ++ es) (vs ++ ws)
  | [], es, _, ws, h, q => by rw [show _ = [] from h]; exact q
  | d :: ds, es, _, ws, ⟨v, r, rfl, h1, h2⟩, q => ⟨v, r ++ ws, rfl, h1, RepL.append h2 q⟩
theorem RepL.set : ∀ {ds : List D} {vs : List V} {d : D} {v : V} (i : Nat), RepL K m N H ds vs → Rep K m N H d v → RepL K m N H (ds.set i d) (vs.set i v)
  | [], _, _, _, _, h, _ => by rw [show _ = [] from h]; exact rfl
  | x :: ds, _, d, v, 0, ⟨u, r, rfl, _, h⟩, q => ⟨v, r, rfl, q, h⟩
  | x :: ds, _, d, v, i + 1, ⟨u, r, rfl, h1, h⟩, q => ⟨u, r.set i v, rfl, h1, RepL.set i h q⟩
theorem RepL.take : ∀ {ds : List D} {vs : List V} (i : Nat), RepL K m N H ds vs → RepL K m N H (ds.take i) (vs.take i)
  | _, _, 0, h => by rw [List.take_zero, List.take_zero]; exact rfl
  | [], _, i + 1, h => by rw [show _ = [] from h]; exact rfl
  | x :: ds, _, i + 1, ⟨u, r, rfl, h1, h⟩ => ⟨u, r.take i, rfl, h1, RepL.take i h⟩
theorem RepL.drop : ∀ {ds : List D} {vs : List V} (i : Nat), RepL K m N H ds vs → RepL K m N H (ds.drop i) (vs.drop i)
  | _, _, 0, h => h
  | [], _, i + 1, h => by rw [show _ = [] from h]; exact rfl
  | x :: ds, _, i + 1, ⟨u, r, rfl, h1, h⟩ => RepL.drop i h
theorem RepL.one {d : D} {v : V} (h : Rep K m N H d v) : RepL K m N H [d] [v] := ⟨v, [], rfl, h, rfl⟩
theorem RepL.reverse : ∀ {ds : List D} {vs : List V}, RepL K m N H ds vs → RepL K m N H ds.reverse vs.reverse
  | [], _, h => by rw [show _ = [] from h]; exact rfl
  | x :: ds, _, ⟨u, r, rfl, h1, h⟩ => by
    rw [List.reverse_cons, List.reverse_cons]
    exact (RepL.reverse h).append (RepL.one h1)
theorem RepP.get {κ : Type} [BEq κ] [LawfulBEq κ] : ∀ {ds : List (κ × D)} {vs : List (κ × V)} {k : κ}, RepP K m N H ds vs →
    (ds.lookup k = none ∧ vs.lookup k = none) ∨ ∃ d v, ds.lookup k = some d ∧ vs.lookup k = some v ∧ Rep K m N H d v
  | [], _, _, h => by rw [show _ = [] from h]; exact .inl ⟨rfl, rfl⟩
  | (x, d) :: ds, _, k, ⟨u, r, rfl, h1, h⟩ => by
    by_cases e : k = x
    · subst e
      exact .inr ⟨d, u, by simp [List.lookup], by simp [List.lookup], h1⟩
    · have e' : (k == x) = false := by simpa using e
      simp only [List.lookup, e']
      exact RepP.get h

/-! ### allocation -/
theorem Same.keep (s : Same H H') : Keep m N H m N H' := ⟨Nat.le_refl _, fun _ _ => rfl, fun p o h _ => s p o h⟩
theorem CellOk.mono {p : Addr} {c : Cell} (k : Keep m N H m' N' H') (hp : ∀ o, H p = some o → H' p = some o) (h : CellOk K mg m N H p c) : CellOk K mg m' N' H' p c := by
  cases c with
  | lst ds => obtain ⟨vs, e, z, r⟩ := h; exact ⟨vs, hp _ e, z, k.repL _ _ r⟩
  | dic kvs => obtain ⟨vs, e, z, r⟩ := h; exact ⟨vs, hp _ e, z, k.repP _ _ r⟩
  | dit kvs => obtain ⟨vs, e, z, r⟩ := h; exact ⟨vs, hp _ e, z, k.repP _ _ r⟩
  | ins c fs => obtain ⟨C, dx, ws, h1, e, h2, r⟩ := h; exact ⟨C, dx, ws, h1, hp _ e, k.keep _ _ h2 rfl, k.repP _ _ r⟩
/-- things that are new and no cells -/
theorem Post.same (r : SRel K mg m S H) (s : Same H H') : Post K mg m S H m S H' :=
  ⟨⟨fun n c e => (r.at_ n c e).mono (Same.keep s) fun o h => s _ _ h, r.inj⟩, Nat.le_refl _, fun _ _ => rfl, fun p o h _ => s p o h, fun i h1 h2 => absurd h2 (Nat.not_lt.mpr h1)⟩
theorem same_upd {p : Addr} {o : HO} (h : H p = none) : Same H (upd H p o) := fun b u e => by
  rw [upd_ne (ne_of_none e h)]
  exact e
/-- the places with one more -/
def mAt (m : Nat → Addr) (n : Nat) (p : Addr) : Nat → Addr := fun i => if i = n then p else m i
theorem mAt_self {n : Nat} {p : Addr} : mAt m n p n = p := if_pos rfl
theorem mAt_lt {n i : Nat} {p : Addr} (h : i < n) : mAt m n p i = m i := if_neg (Nat.ne_of_lt h)
/-- a new cell -/
theorem Post.push {p : Addr} {c : Cell} (r : SRel K mg m S H) (s : Same H H') (hn : H p = none) (hc : CellOk K mg (mAt m S.length p) (S.length + 1) H' p c) :
    Post K mg m S H (mAt m S.length p) (S ++ [c]) H' := by
  have k : Keep m S.length H (mAt m S.length p) (S.length + 1) H' := ⟨Nat.le_succ _, fun i hi => mAt_lt hi, fun q o h _ => s q o h⟩
  refine ⟨⟨fun n c' e => ?_, fun i j hi hj e => ?_⟩, by simp, fun i hi => mAt_lt hi, fun q o h _ => s q o h, fun i h1 h2 => ?_⟩
  · rw [List.length_append, List.length_singleton]
    by_cases hl : n < S.length
    · rw [List.getElem?_append_left hl] at e
      rw [mAt_lt hl]
      exact (r.at_ n c' e).mono k fun o h => s _ _ h
    · have hn' : n = S.length := by
        have := (List.getElem?_eq_some_iff.mp e).1
        rw [List.length_append, List.length_singleton] at this
        omega
      subst hn'
      rw [List.getElem?_append_right (Nat.le_refl _), Nat.sub_self] at e
      have e' : c = c' := by simpa using e
      subst e'
      rw [mAt_self]
      exact hc
  · rw [List.length_append, List.length_singleton] at hi hj
    by_cases h1 : i < S.length
    · by_cases h2 : j < S.length
      · rw [mAt_lt h1, mAt_lt h2] at e
        exact r.inj i j h1 h2 e
      · have : j = S.length := by omega
        subst this
        rw [mAt_lt h1, mAt_self] at e
        exact absurd e (r.apart0 hn i h1)
    · have : i = S.length := by omega
      subst this
      by_cases h2 : j < S.length
      · rw [mAt_lt h2, mAt_self] at e
        exact absurd e.symm (r.apart0 hn j h2)
      · omega
  · rw [List.length_append, List.length_singleton] at h2
    have : i = S.length := by omega
    subst this
    rw [mAt_self]
    exact hn
/-- a cell written -/
theorem Post.write {n : Nat} {c : Cell} {o : HO} (r : SRel K mg m S H) (hn : n < S.length) (hc : CellOk K mg m S.length (upd H (m n) o) (m n) c) : Post K mg m S H m (S.set n c) (upd H (m n) o) := by
  have k : Keep m S.length H m S.length (upd H (m n) o) := ⟨Nat.le_refl _, fun _ _ => rfl, fun q u h hc => by
    rw [upd_ne fun e => r.apart h hc n hn e.symm]
    exact h⟩
  refine ⟨⟨fun i c' e => ?_, fun i j hi hj e => ?_⟩, by simp, fun _ _ => rfl, fun q u h hq => ?_, fun i h1 h2 => ?_⟩
  · rw [List.length_set]
    by_cases hi : i = n
    · subst hi
      rw [List.getElem?_set_self hn] at e
      have e' : c = c' := by simpa using e
      subst e'
      exact hc
    · rw [List.getElem?_set_ne (Ne.symm hi)] at e
      refine (r.at_ i c' e).mono k fun u h => ?_
      rw [upd_ne fun z => hi (r.inj i n (List.getElem?_eq_some_iff.mp e).1 hn z)]
      exact h
  · rw [List.length_set] at hi hj
    exact r.inj i j hi hj e
  · rw [upd_ne fun e => hq n hn e.symm]
    exact h
  · rw [List.length_set] at h2
    exact absurd h2 (Nat.not_lt.mpr h1)
end
end G
set_option maxRecDepth 100000
/-! The layer G, part 1: the judgements, how they are put together. -/
namespace G
open PySem PySem.Spec PyProof.Rows L2

/-- the slots hold the data; a slot of which nothing is known may hold anything. pin: a slot that holds the exception of a suite -/
structure SlotsOk (K : PySem.W.Frag) (pin : Option (Nat × Addr)) (m : Nat → Addr) (N : Nat) (H : Hp) (env : Slots) (σ : L2.St) : Prop where
  len : env.length = σ.length
  at_ : ∀ (i : Nat) (d : D), env[i]? = some (some d) → ∃ v, σ[i]? = some (some v) ∧ Rep K m N H d v
  pin : ∀ i p, pin = some (i, p) → σ[i]? = some (some (.ref p))

/-- an exception in the air -/
def ExR (K : PySem.W.Frag) (mg : Str → Option Value) (m : Nat → Addr) (N : Nat) (H : Hp) (e : Exn) (cls : Value) (d : Option Addr) : Prop :=
  ∃ C, clsAt mg e.cls = some C ∧ cls = .ref C ∧ match e.fs with
    | [] => d = none
    | f :: fs => ∃ q ws, d = some q ∧ H q = some (.xd ws) ∧ RepP K m N H (f :: fs) ws

section
variable (K : PySem.W.Frag) (mg : Str → Option Value)
/-- what an expression's result promises of what follows -/
def Sat {α β : Type} (W : WX) (σ : L2.St) (m : Nat → Addr) (S : Sto) (H : Hp) (Rl : (Nat → Addr) → Nat → Hp → α → β → Prop) (Q : β → Hp → Prop) : R α → Prop
  | .ok x S' => ∀ m' H' y, Post K mg m S H m' S' H' → Rl m' S'.length H' x y → Q y H'
  | .exc e S' => ∀ m' H' cls d, Post K mg m S H m' S' H' → ExR K mg m' S'.length H' e cls d → W cls d σ H'
  | .bad => False
def relB : (Nat → Addr) → Nat → Hp → Bool → Bool → Prop := fun _ _ _ x y => y = x
end
section
variable {K : PySem.W.Frag} {mg : Str → Option Value} {m m' m1 : Nat → Addr} {S S' S1 : Sto} {H H' H1 : Hp} {W : WX} {σ : L2.St} {env : Slots} {pin : Option (Nat × Addr)} {N N' : Nat}
theorem SlotsOk.keep (e : SlotsOk K pin m N H env σ) (k : Keep m N H m' N' H') : SlotsOk K pin m' N' H' env σ :=
  ⟨e.len, fun i d h => let ⟨v, h1, h2⟩ := e.at_ i d h; ⟨v, h1, k.rep d v h2⟩, e.pin⟩
theorem SlotsOk.set (e : SlotsOk K pin m N H env σ) {i : Nat} {d : D} {v : V} (r : Rep K m N H d v) (hp : ∀ p, pin ≠ some (i, p)) : SlotsOk K pin m N H (env.set i (some d)) (σ.set i (some v)) := by
  refine ⟨by rw [List.length_set, List.length_set]; exact e.len, fun j x h => ?_, fun j p h => ?_⟩
  · by_cases hj : i = j
    · subst hj
      by_cases hl : i < env.length
      · rw [List.getElem?_set_self hl] at h
        have h' : d = x := by simpa using h
        subst h'
        exact ⟨v, List.getElem?_set_self (e.len ▸ hl), r⟩
      · rw [List.getElem?_eq_none (by rw [List.length_set]; omega)] at h
        cases h
    · rw [List.getElem?_set_ne hj] at h ⊢
      exact e.at_ j x h
  · have hj : i ≠ j := fun z => hp p (by rw [z]; exact h)
    rw [List.getElem?_set_ne hj]
    exact e.pin j p h
theorem SlotsOk.forget (e : SlotsOk K pin m N H env σ) (i : Nat) (w : Option V) (hp : ∀ p, pin ≠ some (i, p)) : SlotsOk K pin m N H (env.set i none) (σ.set i w) := by
  refine ⟨by rw [List.length_set, List.length_set]; exact e.len, fun j x h => ?_, fun j p h => ?_⟩
  · by_cases hj : i = j
    · subst hj
      by_cases hl : i < env.length
      · rw [List.getElem?_set_self hl] at h
        cases h
      · rw [List.getElem?_eq_none (by rw [List.length_set]; omega)] at h
        cases h
    · rw [List.getElem?_set_ne hj] at h ⊢
      exact e.at_ j x h
  · have hj : i ≠ j := fun z => hp p (by rw [z]; exact h)
    rw [List.getElem?_set_ne hj]
    exact e.pin j p h

theorem Sat.mono {α β : Type} {Rl : (Nat → Addr) → Nat → Hp → α → β → Prop} {Q Q' : β → Hp → Prop} {r : R α} (h : Sat K mg W σ m S H Rl Q r) (hq : ∀ y H', Q y H' → Q' y H') : Sat K mg W σ m S H Rl Q' r := by
  cases r with
  | ok x S' => exact fun m' H' y p q => hq _ _ (h m' H' y p q)
  | exc e S' => exact h
  | bad => exact h
/-- from a later state -/
theorem Sat.step {α β : Type} {Rl : (Nat → Addr) → Nat → Hp → α → β → Prop} {Q : β → Hp → Prop} {r : R α} (p : Post K mg m S H m1 S1 H1) (h : Sat K mg W σ m S H Rl Q r) : Sat K mg W σ m1 S1 H1 Rl Q r := by
  cases r with
  | ok x S' => exact fun m' H' y p' q => h m' H' y (p.trans p') q
  | exc e S' => exact fun m' H' c d p' q => h m' H' c d (p.trans p') q
  | bad => exact h
/-- one after the other -/
theorem Sat.bind {α α' β β' : Type} {Rl : (Nat → Addr) → Nat → Hp → α → β → Prop} {Rl' : (Nat → Addr) → Nat → Hp → α' → β' → Prop} {Q : β → Hp → Prop} {r : R α'} {k : α' → Sto → R α} (h : Sat K mg W σ m S H Rl Q (r.bind k)) :
    Sat K mg W σ m S H Rl' (fun y H1 => ∃ m1 S1 x, Post K mg m S H m1 S1 H1 ∧ Rl' m1 S1.length H1 x y ∧ Sat K mg W σ m1 S1 H1 Rl Q (k x S1)) r := by
  cases r with
  | ok x S' => exact fun m' H' y p q => ⟨m', S', x, p, q, Sat.step p h⟩
  | exc e S' => exact h
  | bad => exact h
theorem Sat.ok {α β : Type} {Rl : (Nat → Addr) → Nat → Hp → α → β → Prop} {Q : β → Hp → Prop} {x : α} {y : β} (h : Sat K mg W σ m S H Rl Q (.ok x S')) (p : Post K mg m S H m' S' H') (r : Rl m' S'.length H' x y) : Q y H' := h m' H' y p r
/-- the state as it is -/
theorem Sat.here {α β : Type} {Rl : (Nat → Addr) → Nat → Hp → α → β → Prop} {Q : β → Hp → Prop} {x : α} {y : β} (h : Sat K mg W σ m S H Rl Q (.ok x S)) (r : SRel K mg m S H) (q : Rl m S.length H x y) : Q y H := h m H y (Post.refl r) q
/-- no exception: the wish does not matter -/
theorem Sat.wish {α β : Type} {Rl : (Nat → Addr) → Nat → Hp → α → β → Prop} {Q : β → Hp → Prop} {W' : WX} {σ' : L2.St} {r : R α} (hr : ∀ e S', r ≠ .exc e S') (h : Sat K mg W σ m S H Rl Q r) : Sat K mg W' σ' m S H Rl Q r := by
  cases r with
  | ok x S' => exact h
  | exc e S' => exact absurd rfl (hr e S')
  | bad => exact h
end

/-! ### expressions -/
abbrev EX := Slots → Sto → R D
abbrev BX := Slots → Sto → R Bool
abbrev AX := Slots → Sto → R (List D)
def rdE (K : PySem.W.Frag) (mg : Str → Option Value) (W : WX) (pin : Option (Nat × Addr)) (f : EX) : TE := fun σ H Q => ∃ m env S, SlotsOk K pin m S.length H env σ ∧ SRel K mg m S H ∧ Sat K mg W σ m S H (Rep K) Q (f env S)
def rdT (K : PySem.W.Frag) (mg : Str → Option Value) (W : WX) (pin : Option (Nat × Addr)) (f : BX) : TT := fun σ H Q => ∃ m env S, SlotsOk K pin m S.length H env σ ∧ SRel K mg m S H ∧ Sat K mg W σ m S H relB Q (f env S)
def rdA (K : PySem.W.Frag) (mg : Str → Option Value) (W : WX) (pin : Option (Nat × Addr)) (f : AX) : TA := fun σ H Q => ∃ m env S, SlotsOk K pin m S.length H env σ ∧ SRel K mg m S H ∧ Sat K mg W σ m S H (RepL K) Q (f env S)
/-- the expression e computes f -/
def GE (X : Cx) (W : WX) (pin : Option (Nat × Addr)) (e : Expr) (f : EX) : Prop := PE X e (rdE X.K X.mg W pin f)
def GT (X : Cx) (W : WX) (pin : Option (Nat × Addr)) (e : Expr) (f : BX) : Prop := PT X e (rdT X.K X.mg W pin f)
def GW (X : Cx) (W : WX) (pin : Option (Nat × Addr)) (e : Expr) (f : BX) : Prop := PW X e (rdT X.K X.mg W pin f)
structure GA (X : Cx) (W : WX) (pin : Option (Nat × Addr)) (es : List Expr) (f : AX) : Prop where
  run : PA X es (rdA X.K X.mg W pin f)
  len : ∀ env S ds S', f env S = .ok ds S' → ds.length = es.length

theorem PE.weak {X : Cx} {e : Expr} {t t' : TE} (h : PE X e t) (w : ∀ σ H Q, t' σ H Q → t σ H Q) : PE X e t' := ⟨fun pins s σ H Q I q => h.run pins s σ H Q I (w _ _ _ q)⟩
theorem PT.weak {X : Cx} {e : Expr} {t t' : TT} (h : PT X e t) (w : ∀ σ H Q, t' σ H Q → t σ H Q) : PT X e t' := ⟨fun pins s σ H Q I q => h.run pins s σ H Q I (w _ _ _ q)⟩
theorem PW.weak {X : Cx} {e : Expr} {t t' : TT} (h : PW X e t) (w : ∀ σ H Q, t' σ H Q → t σ H Q) : PW X e t' := ⟨fun wh pins s σ H Q I q => h.run wh pins s σ H Q I (w _ _ _ q)⟩
theorem PA.weak {X : Cx} {e : List Expr} {t t' : TA} (h : PA X e t) (w : ∀ σ H Q, t' σ H Q → t σ H Q) : PA X e t' := ⟨fun p pins s σ H Q I q => h.run p pins s σ H Q I (w _ _ _ q)⟩
theorem PS.weak {X : Cx} {e : Stmt} {t t' : TS} (h : PS X e t) (w : ∀ D σ H, t' D σ H → t D σ H) : PS X e t' := ⟨fun pins s σ H D I q => h.run pins s σ H D I (w _ _ _ q)⟩
theorem PSs.weak {X : Cx} {e : List Stmt} {t t' : TS} (h : PSs X e t) (w : ∀ D σ H, t' D σ H → t D σ H) : PSs X e t' := ⟨fun pins s σ H D I q => h.run pins s σ H D I (w _ _ _ q)⟩

section
variable {X : Cx} {W : WX} {pin : Option (Nat × Addr)} {e : Expr} {es : List Expr} {f : EX} {fb : BX} {fa : AX} {m : Nat → Addr} {S : Sto} {H : Hp} {σ : L2.St} {env : Slots}
variable {α : Type} {β : Type} {Rl : (Nat → Addr) → Nat → Hp → α → β → Prop} {Q : β → Hp → Prop}
/-- an expression, then the rest -/
theorem rdE_bind {k : D → Sto → R α} (E : SlotsOk X.K pin m S.length H env σ) (r : SRel X.K X.mg m S H) (s : Sat X.K X.mg W σ m S H Rl Q ((f env S).bind k)) {T : VK}
    (hT : ∀ v H1 m1 S1 d, Post X.K X.mg m S H m1 S1 H1 → SlotsOk X.K pin m1 S1.length H1 env σ → SRel X.K X.mg m1 S1 H1 → Rep X.K m1 S1.length H1 d v → Sat X.K X.mg W σ m1 S1 H1 Rl Q (k d S1) → T v H1) : rdE X.K X.mg W pin f σ H T :=
  ⟨m, env, S, E, r, s.bind.mono fun v H1 ⟨m1, S1, d, p, rd, q⟩ => hT v H1 m1 S1 d p (E.keep (p.keep r)) p.rel rd q⟩
theorem rdT_bind {k : Bool → Sto → R α} (E : SlotsOk X.K pin m S.length H env σ) (r : SRel X.K X.mg m S H) (s : Sat X.K X.mg W σ m S H Rl Q ((fb env S).bind k)) {T : Bool → Hp → Prop}
    (hT : ∀ b H1 m1 S1, Post X.K X.mg m S H m1 S1 H1 → SlotsOk X.K pin m1 S1.length H1 env σ → SRel X.K X.mg m1 S1 H1 → Sat X.K X.mg W σ m1 S1 H1 Rl Q (k b S1) → T b H1) : rdT X.K X.mg W pin fb σ H T :=
  ⟨m, env, S, E, r, s.bind.mono fun v H1 ⟨m1, S1, d, p, rd, q⟩ => hT v H1 m1 S1 p (E.keep (p.keep r)) p.rel (by rw [show v = d from rd]; exact q)⟩
theorem rdA_bind {k : List D → Sto → R α} (E : SlotsOk X.K pin m S.length H env σ) (r : SRel X.K X.mg m S H) (s : Sat X.K X.mg W σ m S H Rl Q ((fa env S).bind k)) {T : List V → Hp → Prop}
    (hT : ∀ vs H1 m1 S1 ds, Post X.K X.mg m S H m1 S1 H1 → SlotsOk X.K pin m1 S1.length H1 env σ → SRel X.K X.mg m1 S1 H1 → RepL X.K m1 S1.length H1 ds vs → Sat X.K X.mg W σ m1 S1 H1 Rl Q (k ds S1) → T vs H1) : rdA X.K X.mg W pin fa σ H T :=
  ⟨m, env, S, E, r, s.bind.mono fun v H1 ⟨m1, S1, d, p, rd, q⟩ => hT v H1 m1 S1 d p (E.keep (p.keep r)) p.rel rd q⟩
end

/-! ### statements -/
inductive SR where
  | nx (env : Slots) (S : Sto)
  | rt (d : D) (S : Sto)
  | bk (env : Slots) (S : Sto)
  | ct (env : Slots) (S : Sto)
  | ex (e : Exn) (env : Slots) (S : Sto)
  | bad
abbrev SX := Slots → Sto → SR

def SSat (K : PySem.W.Frag) (mg : Str → Option Value) (W : WX) (pin : Option (Nat × Addr)) (E : Ends) (m : Nat → Addr) (S : Sto) (H : Hp) : SR → Prop
  | .nx env' S' => ∀ m' H' σ', Post K mg m S H m' S' H' → SlotsOk K pin m' S'.length H' env' σ' → E.nx σ' H'
  | .rt d S' => ∀ m' H' v, Post K mg m S H m' S' H' → Rep K m' S'.length H' d v → E.rt v H'
  | .bk env' S' => ∀ m' H' σ', Post K mg m S H m' S' H' → SlotsOk K pin m' S'.length H' env' σ' → E.bk σ' H'
  | .ct env' S' => ∀ m' H' σ', Post K mg m S H m' S' H' → SlotsOk K pin m' S'.length H' env' σ' → E.ct σ' H'
  | .ex e env' S' => ∀ m' H' σ' cls d, Post K mg m S H m' S' H' → SlotsOk K pin m' S'.length H' env' σ' → ExR K mg m' S'.length H' e cls d → W cls d σ' H'
  | .bad => False
def rdS (K : PySem.W.Frag) (mg : Str → Option Value) (W : WX) (pin : Option (Nat × Addr)) (f : SX) : TS := fun E σ H => ∃ m env S, SlotsOk K pin m S.length H env σ ∧ SRel K mg m S H ∧ SSat K mg W pin E m S H (f env S)
def GS (X : Cx) (W : WX) (pin : Option (Nat × Addr)) (st : Stmt) (f : SX) : Prop := PS X st (rdS X.K X.mg W pin f)
def GSs (X : Cx) (W : WX) (pin : Option (Nat × Addr)) (st : List Stmt) (f : SX) : Prop := PSs X st (rdS X.K X.mg W pin f)

/-- an expression's result, then a statement's rest -/
def R.then {α : Type} (r : R α) (env : Slots) (k : α → Sto → SR) : SR := match r with
  | .ok x S => k x S
  | .exc e S => .ex e env S
  | .bad => .bad
@[simp] theorem R.then_ok {α : Type} (x : α) (S : Sto) (env : Slots) (k : α → Sto → SR) : (R.ok x S).then env k = k x S := rfl
@[simp] theorem R.then_exc {α : Type} (e : Exn) (S : Sto) (env : Slots) (k : α → Sto → SR) : (R.exc e S : R α).then env k = .ex e env S := rfl
@[simp] theorem R.then_bad {α : Type} (env : Slots) (k : α → Sto → SR) : (R.bad : R α).then env k = .bad := rfl

section
variable {K : PySem.W.Frag} {mg : Str → Option Value} {m m' m1 : Nat → Addr} {S S' S1 : Sto} {H H' H1 : Hp} {W : WX} {σ : L2.St} {env : Slots} {pin : Option (Nat × Addr)} {E E' : Ends}
theorem SSat.step {r : SR} (p : Post K mg m S H m1 S1 H1) (h : SSat K mg W pin E m S H r) : SSat K mg W pin E m1 S1 H1 r := by
  cases r with
  | nx env' S' => exact fun m' H' σ' p' q => h m' H' σ' (p.trans p') q
  | rt d S' => exact fun m' H' v p' q => h m' H' v (p.trans p') q
  | bk env' S' => exact fun m' H' σ' p' q => h m' H' σ' (p.trans p') q
  | ct env' S' => exact fun m' H' σ' p' q => h m' H' σ' (p.trans p') q
  | ex e env' S' => exact fun m' H' σ' c d p' q => h m' H' σ' c d (p.trans p') q
  | bad => exact h
theorem SSat.then {α β : Type} {Rl : (Nat → Addr) → Nat → Hp → α → β → Prop} {r : R α} {k : α → Sto → SR} (e : SlotsOk K pin m S.length H env σ) (rl : SRel K mg m S H) (h : SSat K mg W pin E m S H (r.then env k)) :
    Sat K mg W σ m S H Rl (fun y H1 => ∃ m1 S1 x, Post K mg m S H m1 S1 H1 ∧ SlotsOk K pin m1 S1.length H1 env σ ∧ Rl m1 S1.length H1 x y ∧ SSat K mg W pin E m1 S1 H1 (k x S1)) r := by
  cases r with
  | ok x S' => exact fun m' H' y p q => ⟨m', S', x, p, e.keep (p.keep rl), q, SSat.step p h⟩
  | exc x S' => exact fun m' H' c d p q => h m' H' σ c d p (e.keep (p.keep rl)) q
  | bad => exact h
end

/-! ### names, constants, sequences of statements -/
def eVar (i : Nat) : EX := fun env S => match env[i]? with
  | some (some d) => .ok d S
  | _ => .bad
def eC (d : D) : EX := fun _ S => .ok d S
/-- a value that needs no place -/
def sNil : SX := fun env S => .nx env S
def sSeq (f g : SX) : SX := fun env S => match f env S with
  | .nx env' S' => g env' S'
  | r => r
def sIf (c : BX) (f g : SX) : SX := fun env S => (c env S).then env fun b S1 => bif b then f env S1 else g env S1
def sSet (i : Nat) (f : EX) : SX := fun env S => (f env S).then env fun d S1 => .nx (env.set i (some d)) S1
def sRet (f : EX) : SX := fun env S => (f env S).then env fun d S1 => .rt d S1
def sDo (f : EX) : SX := fun env S => (f env S).then env fun _ S1 => .nx env S1

section
variable {X : Cx} {W : WX} {pin : Option (Nat × Addr)} {pos : Pos}
theorem ge_var {i : Nat} {x : Str} (h : PE X (.Name x pos) (tVar i)) : GE X W pin (.Name x pos) (eVar i) := PE.weak h fun σ H Q ⟨m, env, S, E, r, s⟩ => by
  unfold eVar at s
  split at s
  · rename_i d hd
    obtain ⟨v, h1, h2⟩ := E.at_ i d hd
    exact ⟨v, h1, s.here r h2⟩
  · exact s.elim
/-- what gives one value, whatever the state is -/
theorem ge_const {e : Expr} {v : V} (h : PE X e (tC v)) : GE X W pin e (eC (.a v)) := PE.weak h fun σ H Q ⟨m, env, S, E, r, s⟩ => s.here r (show v = v from rfl)
theorem ge_int {i : Int} {j} : GE X W pin (.Constant (.int i) j pos) (eC (.a (.int i))) := ge_const pe_int
theorem ge_str {x : String} {j} : GE X W pin (.Constant (.str x) j pos) (eC (.a (.str x))) := ge_const pe_str
theorem ge_bl {b : Bool} {j} : GE X W pin (.Constant (.bool b) j pos) (eC (.a (.bl b))) := ge_const pe_bl
theorem ge_non {j} : GE X W pin (.Constant .none j pos) (eC (.a .non)) := ge_const pe_non

theorem gs_nil : GSs X W pin [] sNil := PSs.weak pss_nil fun E σ H ⟨m, env, S, e, r, s⟩ => s m H σ (Post.refl r) e
theorem gs_cons {st : Stmt} {rest : List Stmt} {f g : SX} (h1 : GS X W pin st f) (h2 : GSs X W pin rest g) : GSs X W pin (st :: rest) (sSeq f g) := PSs.weak (pss_cons h1 h2) fun E σ H ⟨m, env, S, e, r, s⟩ => by
  refine ⟨m, env, S, e, r, ?_⟩
  unfold sSeq at s
  cases hf : f env S with
  | nx env' S' =>
    rw [hf] at s
    exact fun m' H' σ' p e' => ⟨m', env', S', e', p.rel, s.step p⟩
  | rt d S' => rw [hf] at s; exact s
  | bk env' S' => rw [hf] at s; exact s
  | ct env' S' => rw [hf] at s; exact s
  | ex x env' S' => rw [hf] at s; exact s
  | bad => rw [hf] at s; exact s
theorem gs_if {c : Expr} {body orelse : List Stmt} {fc : BX} {f g : SX} (hc : GT X W pin c fc) (hb : GSs X W pin body f) (ho : GSs X W pin orelse g) : GS X W pin (.If c body orelse pos) (sIf fc f g) :=
  PS.weak (ps_if hc hb ho) fun E σ H ⟨m, env, S, e, r, s⟩ => by
    refine ⟨m, env, S, e, r, (SSat.then (Rl := relB) e r s).mono fun y H1 ⟨m1, S1, b, p, e1, eb, s1⟩ => ?_⟩
    obtain rfl : y = b := eb
    cases y with
    | true => exact ⟨m1, env, S1, e1, p.rel, s1⟩
    | false => exact ⟨m1, env, S1, e1, p.rel, s1⟩
theorem gs_set {i : Nat} {x : Str} {px : Pos} {e : Expr} {f : EX} (hN : X.N.Nodup) (hi : X.N[i]? = some x) (hx : Loc X.env.scope x) (he : GE X W pin e f) (hp : ∀ p, pin ≠ some (i, p) := by first | exact fun _ z => nomatch z | (intro p z; injection z with z; injection z with z _; revert z; decide))
    (hf : X.fn x = true ∨ X.env.scope.names.lookup x = some .local := by first | exact .inl rfl | exact .inr rfl) (hs : swapsWithSole [.Name x px] e pos.line X.env = pure false := by rfl) (hw : swappedStores [.Name x px] e X.env = pure none := by rfl) : GS X W pin (.Assign [.Name x px] e pos) (sSet i f) :=
  PS.weak (ps_asg he (pg_name hN hi hx hf) hs hw) fun E σ H ⟨m, env, S, E0, r, s⟩ => by
    refine ⟨m, env, S, E0, r, (SSat.then (Rl := Rep X.K) E0 r s).mono fun y H1 ⟨m1, S1, d, p, e1, rd, s1⟩ => ?_⟩
    exact s1 m1 H1 _ (Post.refl p.rel) (e1.set rd hp)
theorem gs_ret {e : Expr} {f : EX} (he : GE X W pin e f) : GS X W pin (.Return (some e) pos) (sRet f) := PS.weak (ps_ret he) fun E σ H ⟨m, env, S, E0, r, s⟩ => by
  refine ⟨m, env, S, E0, r, (SSat.then (Rl := Rep X.K) E0 r s).mono fun y H1 ⟨m1, S1, d, p, e1, rd, s1⟩ => ?_⟩
  exact s1 m1 H1 y (Post.refl p.rel) rd
theorem gs_do {e : Expr} {f : EX} (he : GE X W pin e f) (hs : swapsWith e none pos.line X.env = pure false := by rfl) : GS X W pin (.Expr e pos) (sDo f) := PS.weak (ps_expr he hs) fun E σ H ⟨m, env, S, E0, r, s⟩ => by
  refine ⟨m, env, S, E0, r, (SSat.then (Rl := Rep X.K) E0 r s).mono fun y H1 ⟨m1, S1, d, p, e1, rd, s1⟩ => ?_⟩
  exact s1 m1 H1 σ (Post.refl p.rel) e1
end
end G
set_option maxRecDepth 100000
set_option exponentiation.threshold 600
/-! The layer G, part 2: operators, comparisons, truth, tuples, lists. -/
namespace G
open PySem PySem.Spec PyProof.Rows L2

/-- an operator on two data; none: not served -/
abbrev Op2 := D → D → Sto → Option (D × Sto)
def ofO {α : Type} : Option (α × Sto) → R α
  | some (x, S) => .ok x S
  | none => .bad
@[simp] theorem ofO_some {α : Type} (x : α) (S : Sto) : ofO (some (x, S)) = .ok x S := rfl
@[simp] theorem ofO_none {α : Type} : ofO (none : Option (α × Sto)) = .bad := rfl
def wNo : WX := fun _ _ _ _ => False
/-- the reading of an operator -/
def rdO (K : PySem.W.Frag) (mg : Str → Option Value) (g : Op2) : R2 := fun x y H Q => ∃ m S d e, SRel K mg m S H ∧ Rep K m S.length H d x ∧ Rep K m S.length H e y ∧ Sat K mg wNo [] m S H (Rep K) Q (ofO (g d e S))
def rdO1 (K : PySem.W.Frag) (mg : Str → Option Value) (g : D → Sto → Option (D × Sto)) : V → Hp → VK → Prop := fun x H Q => ∃ m S d, SRel K mg m S H ∧ Rep K m S.length H d x ∧ Sat K mg wNo [] m S H (Rep K) Q (ofO (g d S))
theorem ofO_exc {α : Type} {o : Option (α × Sto)} (e : Exn) (S' : Sto) : ofO o ≠ .exc e S' := by
  cases o with
  | none => exact fun h => nomatch h
  | some p => exact fun h => nomatch h
def eBin (g : Op2) (fa fb : EX) : EX := fun env S => (fa env S).bind fun d S1 => (fb env S1).bind fun e S2 => ofO (g d e S2)
def eUn (g : D → Sto → Option (D × Sto)) (fa : EX) : EX := fun env S => (fa env S).bind fun d S1 => ofO (g d S1)
def tBin (g : Op2) (fa fb : EX) : BX := fun env S => (fa env S).bind fun d S1 => (fb env S1).bind fun e S2 => (ofO (g d e S2)).bind fun r S3 => match r with
  | .a (.bl b) => .ok b S3
  | _ => .bad

section
variable {X : Cx} {W : WX} {pin : Option (Nat × Addr)} {pos : Pos} {a b : Expr} {fa fb : EX}
theorem rdO_mk {K : PySem.W.Frag} {mg : Str → Option Value} {g : Op2} {m : Nat → Addr} {S : Sto} {H : Hp} {d e : D} {x y : V} {Q : VK} {σ : L2.St} (r : SRel K mg m S H) (h1 : Rep K m S.length H d x) (h2 : Rep K m S.length H e y)
    (s : Sat K mg W σ m S H (Rep K) Q (ofO (g d e S))) : rdO K mg g x y H Q := ⟨m, S, d, e, r, h1, h2, s.wish ofO_exc⟩
theorem ge_op {op : Operator} {g : Op2} (ho : OpR X (binaryOp op) (rdO X.K X.mg g)) (ha : GE X W pin a fa) (hb : GE X W pin b fb) : GE X W pin (.BinOp a op b pos) (eBin g fa fb) :=
  PE.weak (pe_op ho ha hb) fun σ H Q ⟨m, env, S, E, r, s⟩ => rdE_bind E r s fun x H1 m1 S1 d p1 E1 r1 rd s1 => rdE_bind E1 r1 s1 fun y H2 m2 S2 e p2 E2 r2 re s2 => rdO_mk r2 ((p2.keep r1).rep _ _ rd) re s2
theorem ge_un {op : UnaryOp} {g : D → Sto → Option (D × Sto)} (ho : UnR X (unaryOp op) (rdO1 X.K X.mg g)) (ha : GE X W pin a fa) : GE X W pin (.UnaryOp op a pos) (eUn g fa) :=
  PE.weak (pe_un ho ha) fun σ H Q ⟨m, env, S, E, r, s⟩ => rdE_bind E r s fun x H1 m1 S1 d p1 E1 r1 rd s1 => ⟨m1, S1, d, r1, rd, s1.wish ofO_exc⟩
theorem ge_cmp {op : CmpOp} {g : Op2} (ho : OpR X (compareOp op) (rdO X.K X.mg g)) (ha : GE X W pin a fa) (hb : GE X W pin b fb) (hm : behindInMarks op b = false) : GE X W pin (.Compare a [op] [b] pos) (eBin g fa fb) :=
  PE.weak (pe_cmpR ho ha hb hm) fun σ H Q ⟨m, env, S, E, r, s⟩ => rdE_bind E r s fun x H1 m1 S1 d p1 E1 r1 rd s1 => rdE_bind E1 r1 s1 fun y H2 m2 S2 e p2 E2 r2 re s2 => rdO_mk r2 ((p2.keep r1).rep _ _ rd) re s2
theorem gt_cmp {op : CmpOp} {g : Op2} (ho : OpR X (compareOp op) (rdO X.K X.mg g)) (ha : GE X W pin a fa) (hb : GE X W pin b fb) (hm : behindInMarks op b = false) : GT X W pin (.Compare a [op] [b] pos) (tBin g fa fb) :=
  PT.weak (pt_cmpR ho ha hb hm) fun σ H Q ⟨m, env, S, E, r, s⟩ => rdE_bind E r s fun x H1 m1 S1 d p1 E1 r1 rd s1 => rdE_bind E1 r1 s1 fun y H2 m2 S2 e p2 E2 r2 re s2 => by
    refine rdO_mk r2 ((p2.keep r1).rep _ _ rd) re ((s2.bind (Rl' := Rep X.K)).mono fun z H3 ⟨m3, S3, d3, p3, rz, s3⟩ => ?_)
    cases d3 with
    | a v =>
      cases v with
      | bl c =>
        obtain rfl : z = .bl c := rz
        exact ⟨c, rfl, s3.here p3.rel rfl⟩
      | _ => exact s3.elim
    | _ => exact s3.elim

instance decMul (i j : Int) : Decidable (CMul i j) := by unfold CMul; exact inferInstance
instance decPow (i j : Int) : Decidable (CPow i j) := by unfold CPow; exact inferInstance
/-! ### numbers, texts, tuples, lists by + -/
def dSub : Op2 := fun x y S => match x, y with
  | .a (.int i), .a (.int j) => some (.a (.int (i - j)), S)
  | _, _ => none
def dAdd : Op2 := fun x y S => match x, y with
  | .a (.int i), .a (.int j) => some (.a (.int (i + j)), S)
  | .a (.str s), .a (.str t) => if s.length + t.length ≤ sizeLine then some (.a (.str (s ++ t)), S) else none
  | .tup xs, .tup ys => if xs.length + ys.length ≤ sizeLine then some (.tup (xs ++ ys), S) else none
  | .cel i, .cel j => match S[i]?, S[j]? with
    | some (.lst xs), some (.lst ys) => if xs.length + ys.length ≤ sizeLine then some (.cel S.length, S ++ [.lst (xs ++ ys)]) else none
    | _, _ => none
  | _, _ => none
def dMul : Op2 := fun x y S => match x, y with
  | .a (.int i), .a (.int j) => if CMul i j then some (.a (.int (i * j)), S) else none
  | .tup xs, .a (.int k) => if xs ≠ [] ∧ 2 ≤ k ∧ k ≤ 1000 ∧ xs.length ≤ 1000 then some (.tup (List.replicate k.toNat xs).flatten, S) else if k = 1 then some (.tup xs, S) else none
  | .cel i, .a (.int k) => match S[i]? with
    | some (.lst xs) => if -(2 ^ 63) ≤ k ∧ k < 2 ^ 63 ∧ xs.length * k.toNat ≤ sizeLine then some (.cel S.length, S ++ [.lst (List.replicate k.toNat xs).flatten]) else none
    | _ => none
  | _, _ => none
def dDiv : Op2 := fun x y S => match x, y with
  | .a (.int i), .a (.int j) => if 0 < j ∧ j < 2 ^ 300 then some (.a (.int (i / j)), S) else none
  | _, _ => none
def dMod : Op2 := fun x y S => match x, y with
  | .a (.int i), .a (.int j) => if 0 < j then some (.a (.int (i % j)), S) else none
  | _, _ => none
def dPow : Op2 := fun x y S => match x, y with
  | .a (.int i), .a (.int j) => if CPow i j then some (.a (.int (i ^ j.toNat)), S) else none
  | _, _ => none
def dNeg : D → Sto → Option (D × Sto) := fun x S => match x with
  | .a (.int i) => some (.a (.int (-i)), S)
  | _ => none
/-- two ints to a truth -/
def dInts (p : Int → Int → Bool) : Op2 := fun x y S => match x, y with
  | .a (.int i), .a (.int j) => some (.a (.bl (p i j)), S)
  | _, _ => none
def dLt : Op2 := dInts fun i j => decide (i < j)
def dLe : Op2 := dInts fun i j => decide (i ≤ j)
def dGt : Op2 := dInts fun i j => decide (j < i)
def dGe : Op2 := dInts fun i j => decide (j ≤ i)

section
variable {K : PySem.W.Frag} {mg : Str → Option Value} {m : Nat → Addr} {S : Sto} {H : Hp} {N : Nat}
theorem rep_int {i : Int} {v : V} (h : Rep K m N H (.a (.int i)) v) : v = .int i := h
/-- two ints with a pure answer -/
theorem op_ints {f : Value → Value → Sem Value} {C : Int → Int → Prop} {gv : Int → Int → V} {g : Op2} (ho : OpR X f (rI C gv))
    (hg : ∀ d e S r, g d e S = some r → ∃ i j, d = .a (.int i) ∧ e = .a (.int j) ∧ C i j ∧ r = (.a (gv i j), S)) : OpR X f (rdO X.K X.mg g) := by
  intro pins s σ H x y v u Q I rx ry ⟨m, S, d, e, r, h1, h2, sa⟩
  cases hq : g d e S with
  | none => rw [hq] at sa; exact sa.elim
  | some w =>
    rw [hq] at sa
    obtain ⟨i, j, rfl, rfl, hc, rfl⟩ := hg d e S w hq
    obtain rfl : x = .int i := h1
    obtain rfl : y = .int j := h2
    exact ho pins s σ H _ _ v u Q I rx ry ⟨i, j, rfl, rfl, hc, sa.here r rfl⟩
theorem op_ints0 {f : Value → Value → Sem Value} {gv : Int → Int → V} {g : Op2} (ho : OpR X f (rI0 gv))
    (hg : ∀ d e S r, g d e S = some r → ∃ i j, d = .a (.int i) ∧ e = .a (.int j) ∧ r = (.a (gv i j), S)) : OpR X f (rdO X.K X.mg g) := by
  intro pins s σ H x y v u Q I rx ry ⟨m, S, d, e, r, h1, h2, sa⟩
  cases hq : g d e S with
  | none => rw [hq] at sa; exact sa.elim
  | some w =>
    rw [hq] at sa
    obtain ⟨i, j, rfl, rfl, rfl⟩ := hg d e S w hq
    obtain rfl : x = .int i := h1
    obtain rfl : y = .int j := h2
    exact ho pins s σ H _ _ v u Q I rx ry ⟨i, j, rfl, rfl, sa.here r rfl⟩
end
theorem o_sub : OpR X (binaryOp .Sub) (rdO X.K X.mg dSub) := op_ints0 op_sub fun d e S r h => by
  unfold dSub at h
  split at h
  · exact ⟨_, _, rfl, rfl, (Option.some.inj h).symm⟩
  · cases h
theorem o_div : OpR X (binaryOp .FloorDiv) (rdO X.K X.mg dDiv) := op_ints op_fdivW fun d e S r h => by
  unfold dDiv at h
  split at h
  · split at h
    · rename_i i j hc
      refine ⟨i, j, rfl, rfl, wide_div (b := 300) hc.1 ?_ (by decide) (by decide), (Option.some.inj h).symm⟩
      have h2 : (j.natAbs : Int) = j := Int.natAbs_of_nonneg (Int.le_of_lt hc.1)
      have h3 : (j.natAbs : Int) < ((2 ^ 300 : Nat) : Int) := by rw [h2]; exact hc.2
      exact Int.ofNat_lt.mp h3
    · cases h
  · cases h
theorem o_mod : OpR X (binaryOp .Mod) (rdO X.K X.mg dMod) := op_ints op_mod fun d e S r h => by
  unfold dMod at h
  split at h
  · split at h
    · rename_i i j hc
      exact ⟨_, _, rfl, rfl, hc, (Option.some.inj h).symm⟩
    · cases h
  · cases h
theorem o_pow : OpR X (binaryOp .Pow) (rdO X.K X.mg dPow) := op_ints op_pow fun d e S r h => by
  unfold dPow at h
  split at h
  · split at h
    · rename_i i j hc
      exact ⟨_, _, rfl, rfl, hc, (Option.some.inj h).symm⟩
    · cases h
  · cases h
theorem ints_of {p : Int → Int → Bool} : ∀ d e S r, dInts p d e S = some r → ∃ i j, d = .a (.int i) ∧ e = .a (.int j) ∧ r = (.a (.bl (p i j)), S) := fun d e S r h => by
  unfold dInts at h
  split at h
  · exact ⟨_, _, rfl, rfl, (Option.some.inj h).symm⟩
  · cases h
theorem o_lt : OpR X (compareOp .Lt) (rdO X.K X.mg dLt) := op_ints0 op_lt ints_of
theorem o_le : OpR X (compareOp .LtE) (rdO X.K X.mg dLe) := op_ints0 op_le ints_of
theorem o_gt : OpR X (compareOp .Gt) (rdO X.K X.mg dGt) := op_ints0 op_gt ints_of
theorem o_ge : OpR X (compareOp .GtE) (rdO X.K X.mg dGe) := op_ints0 op_ge ints_of
theorem u_neg : UnR X (unaryOp .USub) (rdO1 X.K X.mg dNeg) := by
  intro pins s σ H x v Q I rx ⟨m, S, d, r, h1, sa⟩
  unfold dNeg at sa
  split at sa
  · obtain rfl := rep_int h1
    exact un_neg pins s σ H _ v Q I rx ⟨_, rfl, sa.here r rfl⟩
  · exact sa.elim
theorem o_add (hu : True := trivial) : OpR X (binaryOp .Add) (rdO X.K X.mg dAdd) := by
  intro pins s σ H x y v u Q I rx ry ⟨m, S, d, e, r, h1, h2, sa⟩
  unfold dAdd at sa
  split at sa
  · rename_i i j
    obtain rfl := rep_int h1
    obtain rfl := rep_int h2
    exact op_add pins s σ H _ _ v u Q I rx ry ⟨i, j, rfl, rfl, sa.here r rfl⟩
  · rename_i i j
    obtain rfl : x = .str i := h1
    obtain rfl : y = .str j := h2
    split at sa
    · rename_i hz
      exact op_add_str pins s σ H _ _ v u Q I rx ry ⟨i, j, rfl, rfl, hz, sa.here r rfl⟩
    · exact sa.elim
  · rename_i xs ys
    obtain ⟨p, vs, rfl, hp, zp, rp⟩ := h1
    obtain ⟨q, ws, rfl, hq, zq, rq⟩ := h2
    split at sa
    · rename_i hz
      have hz' : vs.length + ws.length ≤ sizeLine := by rw [rp.len, rq.len]; exact hz
      refine op_catA pins s σ H _ _ v u Q I rx ry ⟨p, q, vs, ws, rfl, rfl, hp, hq, hz', fun e => ?_, fun _ e => ?_, fun _ _ t ht => ?_⟩
      · subst e
        refine sa.here r ⟨q, ws, rfl, hq, zq, ?_⟩
        have : xs = [] := by cases xs with
          | nil => rfl
          | cons z zs => have := rp.len; simp at this
        subst this
        exact rq
      · subst e
        refine sa.here r ⟨p, vs, rfl, hp, zp, ?_⟩
        have : ys = [] := by cases ys with
          | nil => rfl
          | cons z zs => have := rq.len; simp at this
        subst this
        rw [List.append_nil]
        exact rp
      · have p1 := Post.same r (same_upd (o := .tup (vs ++ ws)) ht)
        have k1 := p1.keep r
        exact sa.ok p1 ⟨t, vs ++ ws, rfl, SqT.of upd_same, by rw [List.length_append]; exact hz', (k1.repL _ _ rp).append (k1.repL _ _ rq)⟩
    · exact sa.elim
  · rename_i i j
    obtain ⟨hi, rfl⟩ := h1
    obtain ⟨hj, rfl⟩ := h2
    split at sa
    · rename_i xs ys hx hy
      obtain ⟨vs, ev, zv, rv⟩ := r.at_ _ _ hx
      obtain ⟨ws, ew, zw, rw'⟩ := r.at_ _ _ hy
      split at sa
      · rename_i hz
        have hz' : vs.length + ws.length ≤ sizeLine := by rw [rv.len, rw'.len]; exact hz
        refine op_cat pins s σ H _ _ v u Q I rx ry ⟨_, _, vs, ws, rfl, rfl, ev, ew, hz', fun t ht => ?_⟩
        have k1 : Keep m S.length H (mAt m S.length t) (S.length + 1) (upd H t (.lst (vs ++ ws))) := ⟨Nat.le_succ _, fun i hi => mAt_lt hi, fun q o h _ => same_upd ht q o h⟩
        have p1 := Post.push (c := .lst (xs ++ ys)) r (same_upd (o := .lst (vs ++ ws)) ht) ht ⟨vs ++ ws, upd_same, by rw [List.length_append]; exact hz', (k1.repL _ _ rv).append (k1.repL _ _ rw')⟩
        exact sa.ok p1 ⟨by simp, by rw [mAt_self]⟩
      · exact sa.elim
    · exact sa.elim
  · exact sa.elim
theorem flat_rep {K : PySem.W.Frag} {m : Nat → Addr} {N : Nat} {H : Hp} {xs : List D} {vs : List V} (r : RepL K m N H xs vs) : ∀ k : Nat, RepL K m N H (List.replicate k xs).flatten (List.replicate k vs).flatten
  | 0 => rfl
  | k + 1 => by
    rw [List.replicate_succ, List.replicate_succ, List.flatten_cons, List.flatten_cons]
    exact r.append (flat_rep r k)
theorem flat_len {α : Type} (xs : List α) : ∀ k : Nat, (List.replicate k xs).flatten.length = xs.length * k
  | 0 => rfl
  | k + 1 => by rw [List.replicate_succ, List.flatten_cons, List.length_append, flat_len xs k, Nat.mul_succ]; omega
set_option maxHeartbeats 4000000 in
theorem tuple_mul1 (l : Addr) (items : Array Value) (n : Nat) (dd : Option Addr) (sl : Array (Option Value)) (u : Tok) :
    Meets (Builtin.«tuple.__mul__» ⟨[.ref l, .int 1 u], []⟩) (fun _ R s => s.heap.get? l = some { cls := .type "tuple", dict := dd, data := .seq items n, slots := sl } ∧
      R (.ok (.ret (Value.ref l))) s) :=
  .of_wp fun prog w A R s h => by
    obtain ⟨hp, g, d, tk, os⟩ := s
    obtain ⟨hl, h⟩ := h
    have f1 := AutoSeq1.idx_int
    wp_walk using wpAny_loadPart' hl
    exact ⟨_, rfl, h⟩
/-- a tuple by 1: the same tuple -/
theorem op_rep1 : OpR X (binaryOp .Mult) (fun x y H Q => ∃ l xs, x = .ref l ∧ y = .int 1 ∧ SqT X.K H l xs ∧ Q (.ref l) H) := by
  intro pins s σ H x y v u Q I rx ry h
  obtain ⟨l, xs, rfl, rfl, hT, q⟩ := h
  cases rx
  obtain ⟨t, rfl⟩ := ry
  obtain ⟨its, r, ⟨⟨cls, dd, data, sl⟩, ho, hc, n, hd⟩, hs⟩ := I.tuple hT
  simp only at hc hd
  subst hc hd
  refine wpAny_binaryOp_repeat_ref (T := "tuple") (U := "int") (by decide) ⟨_, ho, rfl⟩ (fun s' => typeIs_int s' 1 t) noFill_tuple_mul F.fills_int_mul F.slot_int_rmul repeat_tuple F.slot_int_index.lookup
    (call_meets F.slot_int_rmul (typeIs_int s 1 t) F.entry_int_rmul (F.args_int_rmul_2 _ _) (int_rmul_tuple 1 t l its.toArray n dd sl)
      ⟨ho, rfl, ⟨_, ho, rfl⟩, call_meets F.slot_tuple_mul ⟨_, ho, rfl⟩ F.entry_tuple_mul (F.args_tuple_mul_2 _ _) (tuple_mul1 l its.toArray n dd sl t) ⟨ho, ?_⟩⟩)
  exact ⟨.ref l, H, I, rfl, q⟩
theorem o_mul : OpR X (binaryOp .Mult) (rdO X.K X.mg dMul) := by
  intro pins s σ H x y v u Q I rx ry ⟨m, S, d, e, r, h1, h2, sa⟩
  unfold dMul at sa
  split at sa
  · rename_i i j
    obtain rfl := rep_int h1
    obtain rfl := rep_int h2
    split at sa
    · rename_i hz
      exact op_mul pins s σ H _ _ v u Q I rx ry ⟨i, j, rfl, rfl, hz, sa.here r rfl⟩
    · exact sa.elim
  · rename_i xs k
    obtain ⟨p, vs, rfl, hp, zp, rp⟩ := h1
    obtain rfl := rep_int h2
    split at sa
    · rename_i hc
      obtain ⟨c1, c2, c3, c4⟩ := hc
      have hl := rp.len
      refine op_repT pins s σ H _ _ v u Q I rx ry ⟨p, k, vs, rfl, rfl, hp, fun e => c1 ?_, c2, c3, by rw [hl]; exact c4, fun t ht => ?_⟩
      · rw [e] at hl
        exact List.eq_nil_of_length_eq_zero hl.symm
      · have p1 := Post.same r (same_upd (o := .tup (List.replicate k.toNat vs).flatten) ht)
        refine sa.ok p1 ⟨t, _, rfl, SqT.of upd_same, ?_, flat_rep ((p1.keep r).repL _ _ rp) _⟩
        rw [flat_len]
        have h3 : k.toNat ≤ 1000 := by omega
        have h4 : vs.length * k.toNat ≤ 1000 * 1000 := Nat.mul_le_mul (by omega) h3
        have h5 : 1000 * 1000 ≤ sizeLine := by decide
        omega
    · split at sa
      · rename_i hk
        subst hk
        exact op_rep1 pins s σ H _ _ v u Q I rx ry ⟨p, vs, rfl, rfl, hp, sa.here r ⟨p, vs, rfl, hp, zp, rp⟩⟩
      · exact sa.elim
  · rename_i i k
    obtain ⟨hi, rfl⟩ := h1
    obtain rfl := rep_int h2
    split at sa
    · rename_i xs hx
      obtain ⟨vs, ev, zv, rv⟩ := r.at_ _ _ hx
      split at sa
      · rename_i hc
        obtain ⟨c1, c2, c3⟩ := hc
        have hl := rv.len
        refine op_rep pins s σ H _ _ v u Q I rx ry ⟨_, k, vs, rfl, rfl, ev, c1, c2, by rw [hl]; exact c3, fun t ht => ?_⟩
        have k1 : Keep m S.length H (mAt m S.length t) (S.length + 1) (upd H t (.lst (List.replicate k.toNat vs).flatten)) := ⟨Nat.le_succ _, fun i hi => mAt_lt hi, fun q o h _ => same_upd ht q o h⟩
        have p1 := Post.push (c := .lst (List.replicate k.toNat xs).flatten) r (same_upd (o := .lst (List.replicate k.toNat vs).flatten) ht) ht ⟨_, upd_same, by rw [flat_len, hl]; exact c3, flat_rep (k1.repL _ _ rv) _⟩
        exact sa.ok p1 ⟨by simp, by rw [mAt_self]⟩
      · exact sa.elim
    · exact sa.elim
  · exact sa.elim
end
end G
set_option maxRecDepth 100000
/-! The layer G, part 3: truth, and, or, not; comparisons; displays; subscripts; calls of built-ins. -/
namespace G
open PySem PySem.Spec PyProof.Rows L2

/-! ### truth -/
def dTruth : D → Sto → Option Bool := fun d S => match d with
  | .a .non => some false
  | .a (.bl b) => some b
  | .a (.int i) => some (i != 0)
  | .a (.str y) => if y.length ≤ sizeLine then some (y.length != 0) else none
  | .tup ds => some (!ds.isEmpty)
  | .ils ds => some (!ds.isEmpty)
  | .cel n => match S[n]? with
    | some (.lst ds) => some (!ds.isEmpty)
    | some (.dic kvs) => some (!kvs.isEmpty)
    | _ => none
  | _ => none
def ofB : Option Bool → Sto → R Bool
  | some b, S => .ok b S
  | none, _ => .bad
@[simp] theorem ofB_some (b : Bool) (S : Sto) : ofB (some b) S = .ok b S := rfl
@[simp] theorem ofB_none (S : Sto) : ofB none S = .bad := rfl
def tOf (f : EX) : BX := fun env S => (f env S).bind fun d S1 => ofB (dTruth d S1) S1
def tAnd (f g : BX) : BX := fun env S => (f env S).bind fun b S1 => bif b then g env S1 else .ok false S1
def tOr (f g : BX) : BX := fun env S => (f env S).bind fun b S1 => bif b then .ok true S1 else g env S1
def tNot (f : BX) : BX := fun env S => (f env S).bind fun b S1 => .ok (!b) S1
def eAnd (f g : EX) : EX := fun env S => (f env S).bind fun d S1 => match d with
  | .a (.bl true) => g env S1
  | .a (.bl false) => .ok (.a (.bl false)) S1
  | _ => .bad
def eOr (f g : EX) : EX := fun env S => (f env S).bind fun d S1 => match d with
  | .a (.bl false) => g env S1
  | .a (.bl true) => .ok (.a (.bl true)) S1
  | _ => .bad
def eNot (f : EX) : EX := fun env S => (f env S).bind fun d S1 => match d with
  | .a (.bl b) => .ok (.a (.bl (!b))) S1
  | _ => .bad
def eIf (c : BX) (f g : EX) : EX := fun env S => (c env S).bind fun b S1 => bif b then f env S1 else g env S1

section
variable {X : Cx} {W : WX} {pin : Option (Nat × Addr)} {pos : Pos} {a b c : Expr} {fa fb : EX} {ta tb tc : BX} {rest : List Expr}
theorem repL_emp {K : PySem.W.Frag} {m : Nat → Addr} {N : Nat} {H : Hp} {ds : List D} {vs : List V} (h : RepL K m N H ds vs) : (!ds.isEmpty) = !vs.isEmpty := by
  cases ds with
  | nil => rw [show vs = [] from h]; rfl
  | cons d ds => obtain ⟨v, r, rfl, _⟩ := h; rfl
theorem truth_rep {K : PySem.W.Frag} {mg : Str → Option Value} {m : Nat → Addr} {S : Sto} {H : Hp} {d : D} {v : V} {k : Bool} (r : SRel K mg m S H) (h : Rep K m S.length H d v) (e : dTruth d S = some k) : TruV K v H k := by
  unfold dTruth at e
  cases d with
  | a w =>
    obtain rfl : v = w := h
    cases v with
    | non => exact (Option.some.inj e).symm
    | bl b => exact (Option.some.inj e).symm
    | int i => exact (Option.some.inj e).symm
    | str y =>
      dsimp only at e
      split at e
      · rename_i hz
        refine ⟨hz, ?_⟩
        rw [← Option.some.inj e]
        by_cases h0 : y.length = 0
        · rw [h0]; rfl
        · have h1 : ((y.length : Int) != 0) = true := by simp; omega
          rw [h1]; simpa using h0
      · cases e
    | _ => cases e
  | tup ds =>
    obtain ⟨p, vs, rfl, hp, _, rp⟩ := h
    exact .inr (.inl ⟨vs, hp, by rw [← Option.some.inj e, repL_emp rp]⟩)
  | ils ds =>
    obtain ⟨p, vs, rfl, hp, _, rp⟩ := h
    refine .inl ⟨vs, ?_, by rw [← Option.some.inj e, repL_emp rp]⟩
    rcases hp with ⟨o, h⟩ | h
    · exact .inl (.inr ⟨o, h⟩)
    · exact .inr h
  | cel n =>
    obtain ⟨hn, rfl⟩ := h
    dsimp only at e
    split at e
    · rename_i ds hS
      obtain ⟨vs, ev, _, rv⟩ := r.at_ _ _ hS
      exact .inl ⟨vs, SqL.of ev, by rw [← Option.some.inj e, repL_emp rv]⟩
    · rename_i kvs hS
      obtain ⟨ws, ev, _, rv⟩ := r.at_ _ _ hS
      refine .inr (.inr ⟨ws, ev, ?_⟩)
      rw [← Option.some.inj e]
      cases kvs with
      | nil => rw [show ws = [] from rv]; rfl
      | cons d ds => obtain ⟨v, r, rfl, _⟩ := rv; rfl
    · cases e
theorem gt_of (he : GE X W pin a fa) (ht : ∀ whole, isTrue a X.env whole = (do let v ← whole; standAt a.pos; holding [v] (truthy v)) := by intro _; rfl) : GT X W pin a (tOf fa) :=
  PT.weak (pt_truth he ht) fun σ H Q ⟨m, env, S, E, r, s⟩ => rdE_bind E r s fun x H1 m1 S1 d p1 E1 r1 rd s1 => by
    cases e : dTruth d S1 with
    | none => rw [e] at s1; exact s1.elim
    | some k =>
      rw [e] at s1
      exact ⟨k, truth_rep r1 rd e, s1.here r1 rfl⟩
theorem gw_and1 (ha : GT X W pin a ta) : GW X W pin (.BoolOp .And [a] pos) ta := pw_and1 ha
theorem gw_or1 (ha : GT X W pin a ta) : GW X W pin (.BoolOp .Or [a] pos) ta := pw_or1 ha
theorem gw_and (ha : GT X W pin a ta) (hb : GW X W pin (.BoolOp .And (b :: rest) pos) tb) : GW X W pin (.BoolOp .And (a :: b :: rest) pos) (tAnd ta tb) :=
  PW.weak (pw_and ha hb) fun σ H Q ⟨m, env, S, E, r, s⟩ => rdT_bind E r s fun k H1 m1 S1 p1 E1 r1 s1 => by
    cases k with
    | true => exact ⟨m1, env, S1, E1, r1, s1⟩
    | false => exact s1.here r1 rfl
theorem gw_or (ha : GT X W pin a ta) (hb : GW X W pin (.BoolOp .Or (b :: rest) pos) tb) : GW X W pin (.BoolOp .Or (a :: b :: rest) pos) (tOr ta tb) :=
  PW.weak (pw_or ha hb) fun σ H Q ⟨m, env, S, E, r, s⟩ => rdT_bind E r s fun k H1 m1 S1 p1 E1 r1 s1 => by
    cases k with
    | false => exact ⟨m1, env, S1, E1, r1, s1⟩
    | true => exact s1.here r1 rfl
theorem gt_w (h : GW X W pin a ta) : GT X W pin a ta := PW.pt h
theorem gt_not (ha : GT X W pin a ta) : GT X W pin (.UnaryOp .Not a pos) (tNot ta) :=
  PT.weak (pt_not ha) fun σ H Q ⟨m, env, S, E, r, s⟩ => rdT_bind E r s fun k H1 m1 S1 p1 E1 r1 s1 => s1.here r1 rfl
theorem ge_one {op} (h : GE X W pin a fa) : GE X W pin (.BoolOp op [a] pos) fa := pe_one h
theorem ge_and (ha : GE X W pin a fa) (hb : GE X W pin (.BoolOp .And (b :: rest) pos) fb) : GE X W pin (.BoolOp .And (a :: b :: rest) pos) (eAnd fa fb) :=
  PE.weak (pe_and ha hb) fun σ H Q ⟨m, env, S, E, r, s⟩ => rdE_bind E r s fun x H1 m1 S1 d p1 E1 r1 rd s1 => by
    cases d with
    | a v =>
      cases v with
      | bl k =>
        obtain rfl : x = .bl k := rd
        cases k with
        | true => exact ⟨true, rfl, m1, env, S1, E1, r1, s1⟩
        | false => exact ⟨false, rfl, s1.here r1 rfl⟩
      | _ => exact s1.elim
    | _ => exact s1.elim
theorem ge_or (ha : GE X W pin a fa) (hb : GE X W pin (.BoolOp .Or (b :: rest) pos) fb) : GE X W pin (.BoolOp .Or (a :: b :: rest) pos) (eOr fa fb) :=
  PE.weak (pe_or ha hb) fun σ H Q ⟨m, env, S, E, r, s⟩ => rdE_bind E r s fun x H1 m1 S1 d p1 E1 r1 rd s1 => by
    cases d with
    | a v =>
      cases v with
      | bl k =>
        obtain rfl : x = .bl k := rd
        cases k with
        | false => exact ⟨false, rfl, m1, env, S1, E1, r1, s1⟩
        | true => exact ⟨true, rfl, s1.here r1 rfl⟩
      | _ => exact s1.elim
    | _ => exact s1.elim
theorem ge_not (ha : GE X W pin a fa) : GE X W pin (.UnaryOp .Not a pos) (eNot fa) :=
  PE.weak (pe_not ha) fun σ H Q ⟨m, env, S, E, r, s⟩ => rdE_bind E r s fun x H1 m1 S1 d p1 E1 r1 rd s1 => by
    cases d with
    | a v =>
      cases v with
      | bl k =>
        obtain rfl : x = .bl k := rd
        exact ⟨k, rfl, s1.here r1 rfl⟩
      | _ => exact s1.elim
    | _ => exact s1.elim
theorem ge_if (hc : GT X W pin c tc) (ha : GE X W pin a fa) (hb : GE X W pin b fb) : GE X W pin (.IfExp c a b pos) (eIf tc fa fb) :=
  PE.weak (pe_ifExp hc ha hb) fun σ H Q ⟨m, env, S, E, r, s⟩ => rdT_bind E r s fun k H1 m1 S1 p1 E1 r1 s1 => by
    cases k with
    | true => exact ⟨m1, env, S1, E1, r1, s1⟩
    | false => exact ⟨m1, env, S1, E1, r1, s1⟩
end

/-! ### equality, is -/
mutual
def pd : D → Option PyData
  | .a .non => some .none
  | .a (.bl b) => some (.bool b)
  | .a (.int i) => some (.int i)
  | .a (.str x) => some (.str x)
  | .tup ds => (pdL ds).map .tuple
  | .ils ds => (pdL ds).map .list
  | _ => none
def pdL : List D → Option (List PyData)
  | [] => some []
  | d :: ds => match pd d, pdL ds with
    | some x, some xs => some (x :: xs)
    | _, _ => none
end
/-- lists of cells at one depth -/
def pdS (S : Sto) : D → Option PyData
  | .cel n => match S[n]? with
    | some (.lst ds) => (pdL ds).map .list
    | _ => none
  | d => pd d
def eqD (S : Sto) (x y : D) : Option Bool := match x, y with
  | .a (.int i), .a (.int j) => some (decide (i = j))
  | .a (.str i), .a (.str j) => some (decide (i = j))
  | .a (.bl i), .a (.bl j) => some (decide (i = j))
  | x, y => match pdS S x, pdS S y with
    | some d, some e => if SeqAt.shaped d = true ∧ SeqAt.shaped e = true then some (PyData.eqv d e) else none
    | _, _ => none
def dEq : Op2 := fun x y S => (eqD S x y).map fun b => (.a (.bl b), S)
def dNe : Op2 := fun x y S => (eqD S x y).map fun b => (.a (.bl (!b)), S)
/-- is, is not: None, truths -/
def isD (x y : D) : Option Bool := match x, y with
  | .a (.bl i), .a (.bl j) => some (decide (i = j))
  | .a .non, .a .non => some true
  | _, .a .non => some false
  | _, _ => none
def dIs : Op2 := fun x y S => (isD x y).map fun b => (.a (.bl b), S)
def dIsNot : Op2 := fun x y S => (isD x y).map fun b => (.a (.bl (!b)), S)

section
variable {K : PySem.W.Frag} {mg : Str → Option Value} {m : Nat → Addr} {S : Sto} {H : Hp} {N : Nat}
mutual
theorem pd_rep : ∀ (d : D) (v : V) (x : PyData), Rep K m N H d v → pd d = some x → Dp K H v x
  | .a w, v, x, h, e => by
    obtain rfl : v = w := h
    cases v with
    | non => cases e; exact .non
    | bl b => cases e; exact .bl b
    | int i => cases e; exact .int i
    | str y => cases e; exact .str y
    | _ => cases e
  | .tup ds, v, x, ⟨p, vs, hv, hp, _, rp⟩, e => by
    subst hv
    unfold pd at e
    cases q : pdL ds with
    | none => rw [q] at e; cases e
    | some xs =>
      rw [q] at e
      cases e
      exact .tup hp (pdL_rep ds vs xs rp q)
  | .ils ds, v, x, ⟨p, vs, hv, hp, _, rp⟩, e => by
    subst hv
    unfold pd at e
    cases q : pdL ds with
    | none => rw [q] at e; cases e
    | some xs =>
      rw [q] at e
      cases e
      refine .lst ?_ (pdL_rep ds vs xs rp q)
      rcases hp with ⟨o, h⟩ | h
      · exact .inl (.inr ⟨o, h⟩)
      · exact .inr h
  | .cel n, v, x, _, e => by
    unfold pd at e
    cases e
theorem pdL_rep : ∀ (ds : List D) (vs : List V) (xs : List PyData), RepL K m N H ds vs → pdL ds = some xs → DpAll K H vs xs
  | [], vs, xs, h, e => by
    rw [show vs = [] from h]
    unfold pdL at e
    cases e
    exact .nil
  | d :: ds, vs, xs, ⟨v, r, hv, h1, h2⟩, e => by
    subst hv
    unfold pdL at e
    split at e
    · rename_i y ys h3 h4
      cases e
      exact .cons (pd_rep d v y h1 h3) (pdL_rep ds r ys h2 h4)
    · cases e
end
theorem pdS_rep (r : SRel K mg m S H) {d : D} {v : V} {x : PyData} (h : Rep K m S.length H d v) (e : pdS S d = some x) : Dp K H v x := by
  unfold pdS at e
  split at e
  · rename_i n
    obtain ⟨hn, rfl⟩ := h
    split at e
    · rename_i ds hS
      obtain ⟨vs, ev, _, rv⟩ := r.at_ _ _ hS
      cases q : pdL ds with
      | none => rw [q] at e; cases e
      | some xs =>
        rw [q] at e
        cases e
        exact .lst (SqL.of ev) (pdL_rep ds vs xs rv q)
    · cases e
  · exact pd_rep _ _ _ h e
end
section
variable {X : Cx}
theorem o_eqG {op : CmpOp} {rs : R2} {rp : R2} {neg : Bool → Bool} (h1 : OpR X (compareOp op) (fun x y H Q => scal x y = true ∧ Q (.bl (neg (decide (x = y)))) H))
    (h2 : OpR X (compareOp op) (fun x y H Q => ∃ d e, Dp X.K H x d ∧ Dp X.K H y e ∧ SeqAt.shaped d = true ∧ SeqAt.shaped e = true ∧ Q (.bl (neg (PyData.eqv d e))) H)) :
    OpR X (compareOp op) (rdO X.K X.mg fun x y S => (eqD S x y).map fun b => (.a (.bl (neg b)), S)) := by
  intro pins s σ H x y v u Q I rx ry ⟨m, S, d, e, r, hd, he, sa⟩
  dsimp only at sa
  cases hq : eqD S d e with
  | none => rw [hq] at sa; exact sa.elim
  | some k =>
    rw [hq] at sa
    have q : Q (.bl (neg k)) H := sa.here r rfl
    unfold eqD at hq
    split at hq
    · rename_i i j
      obtain rfl := rep_int hd
      obtain rfl := rep_int he
      refine h1 pins s σ H _ _ v u Q I rx ry ⟨rfl, ?_⟩
      rw [← Option.some.inj hq] at q
      rw [show decide ((V.int i) = V.int j) = decide (i = j) by simp]
      exact q
    · rename_i i j
      obtain rfl : x = .str i := hd
      obtain rfl : y = .str j := he
      refine h1 pins s σ H _ _ v u Q I rx ry ⟨rfl, ?_⟩
      rw [← Option.some.inj hq] at q
      rw [show decide ((V.str i) = V.str j) = decide (i = j) by simp]
      exact q
    · rename_i i j
      obtain rfl : x = .bl i := hd
      obtain rfl : y = .bl j := he
      refine h1 pins s σ H _ _ v u Q I rx ry ⟨rfl, ?_⟩
      rw [← Option.some.inj hq] at q
      rw [show decide ((V.bl i) = V.bl j) = decide (i = j) by simp]
      exact q
    · split at hq
      · rename_i d' e' hd' he'
        split at hq
        · rename_i hs
          refine h2 pins s σ H _ _ v u Q I rx ry ⟨d', e', pdS_rep r hd hd', pdS_rep r he he', hs.1, hs.2, ?_⟩
          rw [← Option.some.inj hq] at q
          exact q
        · cases hq
      · cases hq
theorem o_eq (hu : X.A.units + 64 < cLine) : OpR X (compareOp .Eq) (rdO X.K X.mg dEq) := o_eqG (rs := rEq) (rp := rEqD X.K) (neg := id) op_eq (op_eqD hu)
theorem o_ne (hu : X.A.units + 64 < cLine) : OpR X (compareOp .NotEq) (rdO X.K X.mg dNe) := o_eqG (rs := rNe) (rp := rNeD X.K) (neg := not) op_ne (op_neD hu)
theorem o_isG {op : CmpOp} {neg : Bool → Bool} (h1 : OpR X (compareOp op) (fun x y H Q => y = .non ∧ Q (.bl (neg (decide (x = .non)))) H))
    (h2 : OpR X (compareOp op) (fun x y H Q => ∃ a b : Bool, x = .bl a ∧ y = .bl b ∧ Q (.bl (neg (decide (a = b)))) H)) :
    OpR X (compareOp op) (rdO X.K X.mg fun x y S => (isD x y).map fun b => (.a (.bl (neg b)), S)) := by
  intro pins s σ H x y v u Q I rx ry ⟨m, S, d, e, r, hd, he, sa⟩
  dsimp only at sa
  cases hq : isD d e with
  | none => rw [hq] at sa; exact sa.elim
  | some k =>
    rw [hq] at sa
    have q : Q (.bl (neg k)) H := sa.here r rfl
    unfold isD at hq
    split at hq
    · rename_i i j
      obtain rfl : x = .bl i := hd
      obtain rfl : y = .bl j := he
      refine h2 pins s σ H _ _ v u Q I rx ry ⟨i, j, rfl, rfl, ?_⟩
      rw [← Option.some.inj hq] at q
      exact q
    · obtain rfl : x = .non := hd
      obtain rfl : y = .non := he
      refine h1 pins s σ H _ _ v u Q I rx ry ⟨rfl, ?_⟩
      rw [← Option.some.inj hq] at q
      exact q
    · rename_i hne
      obtain rfl : y = .non := he
      refine h1 pins s σ H _ _ v u Q I rx ry ⟨rfl, ?_⟩
      rw [← Option.some.inj hq] at q
      have hx : decide (x = V.non) = false := decide_eq_false fun z => by
        subst z
        cases d with
        | a w =>
          obtain rfl : V.non = w := hd
          exact hne rfl
        | tup ds => obtain ⟨_, _, e, _⟩ := hd; cases e
        | ils ds => obtain ⟨_, _, e, _⟩ := hd; cases e
        | cel n => obtain ⟨_, e⟩ := hd; cases e
      rw [hx]
      exact q
    · cases hq
theorem o_is : OpR X (compareOp .Is) (rdO X.K X.mg dIs) := o_isG (neg := id) op_isN op_isBl
theorem o_isnot : OpR X (compareOp .IsNot) (rdO X.K X.mg dIsNot) := o_isG (neg := not) op_notN op_notBl
end

/-! ### arguments, displays -/
def aNil : AX := fun _ S => .ok [] S
def aCons (f : EX) (g : AX) : AX := fun env S => (f env S).bind fun d S1 => (g env S1).bind fun ds S2 => .ok (d :: ds) S2
def eTup (f : AX) : EX := fun env S => (f env S).bind fun ds S1 => .ok (.tup ds) S1
section
variable {X : Cx} {W : WX} {pin : Option (Nat × Addr)} {pos : Pos} {e : Expr} {es : List Expr} {f : EX} {fa : AX}
theorem ga_nil : GA X W pin [] aNil := ⟨PA.weak pa_nil fun σ H Q ⟨m, env, S, E, r, s⟩ => s.here r (show RepL X.K m S.length H [] [] from rfl), fun _ _ _ _ h => by cases h; rfl⟩
theorem ga_cons (he : GE X W pin e f) (hr : GA X W pin es fa) (hs : starEach (e :: es) X.env = (false, eval e X.env) :: starEach es X.env := by rfl) : GA X W pin (e :: es) (aCons f fa) :=
  ⟨PA.weak (pa_cons he hr.run hs) fun σ H Q ⟨m, env, S, E, r, s⟩ => rdE_bind E r s fun x H1 m1 S1 d p1 E1 r1 rd s1 => rdA_bind E1 r1 s1 fun xs H2 m2 S2 ds p2 E2 r2 rs s2 =>
    s2.here r2 (show RepL X.K m2 S2.length H2 (d :: ds) (x :: xs) from ⟨x, xs, rfl, (p2.keep r1).rep _ _ rd, rs⟩), fun env S ds S' h => by
    unfold aCons at h
    cases h1 : f env S with
    | bad => rw [h1] at h; cases h
    | exc e S' => rw [h1] at h; cases h
    | ok d S1 =>
      rw [h1, R.bind_ok] at h
      cases h2 : fa env S1 with
      | bad => rw [h2] at h; cases h
      | exc e S' => rw [h2] at h; cases h
      | ok es S2 =>
        rw [h2, R.bind_ok] at h
        cases h
        rw [List.length_cons, List.length_cons, hr.len env S1 es _ h2]⟩
/-- the arguments, with their number -/
theorem ga_len {α : Type} {β : Type} {Rl : (Nat → Addr) → Nat → Hp → α → β → Prop} {Q : β → Hp → Prop} {m : Nat → Addr} {S : Sto} {H : Hp} {σ : L2.St} {env : Slots} {k : List D → Sto → R α} (h : GA X W pin es fa) (E : SlotsOk X.K pin m S.length H env σ) (r : SRel X.K X.mg m S H) (s : Sat X.K X.mg W σ m S H Rl Q ((fa env S).bind k)) {T : List V → Hp → Prop}
    (hT : ∀ vs H1 m1 S1 ds, ds.length = es.length → Post X.K X.mg m S H m1 S1 H1 → SlotsOk X.K pin m1 S1.length H1 env σ → SRel X.K X.mg m1 S1 H1 → RepL X.K m1 S1.length H1 ds vs → Sat X.K X.mg W σ m1 S1 H1 Rl Q (k ds S1) → T vs H1) : rdA X.K X.mg W pin fa σ H T := by
  refine ⟨m, env, S, E, r, ?_⟩
  have hl := h.len env S
  cases hf : fa env S with
  | bad => rw [hf] at s; exact s.elim
  | exc e S' => rw [hf] at s; exact s
  | ok ds S' =>
    rw [hf] at s
    intro m1 H1 vs p1 rx
    exact hT vs H1 m1 S' ds (hl ds S' hf) p1 (E.keep (p1.keep r)) p1.rel rx (Sat.step p1 s)
theorem ge_tup {x1} (h : GA X W pin es fa) (hz : es.length ≤ sizeLine := by decide) : GE X W pin (.Tuple es x1 pos) (eTup fa) :=
  PE.weak (pe_tup h.run) fun σ H Q ⟨m, env, S, E, r, s⟩ => ga_len h E r s fun xs H1 m1 S1 ds hn p1 E1 r1 rx s1 => by
    have hl : xs.length ≤ sizeLine := by rw [rx.len, hn]; exact hz
    refine ⟨hl, fun t ht => ?_⟩
    have p2 := Post.same r1 (same_upd (o := .tup xs) ht)
    exact s1.ok p2 ⟨t, xs, rfl, SqT.of upd_same, hl, (p2.keep r1).repL _ _ rx⟩
end
end G
set_option maxRecDepth 100000
/-! The layer G, part 4: subscripts, slices, temporary lists, calls of built-ins. -/
namespace G
open PySem PySem.Spec PyProof.Rows L2

theorem Post.none_back {K : PySem.W.Frag} {mg : Str → Option Value} {m m' : Nat → Addr} {S S' : Sto} {H H' : Hp} (p : Post K mg m S H m' S' H') {q : Addr} (h : H' q = none) : H q = none := by
  cases e : H q with
  | none => rfl
  | some o =>
    have z := p.frame q o e fun i hi e2 => by
      have h1 := p.ext i hi
      exact p.rel.apart0 h i (Nat.lt_of_lt_of_le hi p.len) (h1.trans e2)
    rw [h] at z
    cases z
/-- a new thing becomes a cell -/
theorem Post.adopt {K : PySem.W.Frag} {mg : Str → Option Value} {m m' : Nat → Addr} {S S' : Sto} {H H' : Hp} (p1 : Post K mg m S H m' S' H') {p : Addr} {c : Cell} (hn : H p = none) (ap : ∀ i, i < S'.length → m' i ≠ p)
    (hc : CellOk K mg (mAt m' S'.length p) (S'.length + 1) H' p c) : Post K mg m S H (mAt m' S'.length p) (S' ++ [c]) H' := by
  have k : Keep m' S'.length H' (mAt m' S'.length p) (S'.length + 1) H' := ⟨Nat.le_succ _, fun i hi => mAt_lt hi, fun q o h _ => h⟩
  refine ⟨⟨fun n c' e => ?_, fun i j hi hj e => ?_⟩, ?_, fun i hi => ?_, p1.frame, fun i h1 h2 => ?_⟩
  · rw [List.length_append, List.length_singleton]
    by_cases hl : n < S'.length
    · rw [List.getElem?_append_left hl] at e
      rw [mAt_lt hl]
      exact (p1.rel.at_ n c' e).mono k fun o h => h
    · have hn' : n = S'.length := by
        have := (List.getElem?_eq_some_iff.mp e).1
        rw [List.length_append, List.length_singleton] at this
        omega
      subst hn'
      rw [List.getElem?_append_right (Nat.le_refl _), Nat.sub_self] at e
      have e' : c = c' := by simpa using e
      subst e'
      rw [mAt_self]
      exact hc
  · rw [List.length_append, List.length_singleton] at hi hj
    by_cases h1 : i < S'.length
    · by_cases h2 : j < S'.length
      · rw [mAt_lt h1, mAt_lt h2] at e
        exact p1.rel.inj i j h1 h2 e
      · have : j = S'.length := by omega
        subst this
        rw [mAt_lt h1, mAt_self] at e
        exact absurd e (ap i h1)
    · have : i = S'.length := by omega
      subst this
      by_cases h2 : j < S'.length
      · rw [mAt_lt h2, mAt_self] at e
        exact absurd e.symm (ap j h2)
      · omega
  · rw [List.length_append]
    exact Nat.le_trans p1.len (Nat.le_add_right _ _)
  · rw [mAt_lt (Nat.lt_of_lt_of_le hi p1.len)]
    exact p1.ext i hi
  · rw [List.length_append, List.length_singleton] at h2
    by_cases h3 : i < S'.length
    · rw [mAt_lt h3]
      exact p1.fresh i h1 h3
    · have : i = S'.length := by omega
      subst this
      rw [mAt_self]
      exact hn

/-! ### temporary lists -/
def SatL (K : PySem.W.Frag) (mg : Str → Option Value) (W : WX) (σ : L2.St) (m : Nat → Addr) (S : Sto) (H : Hp) (Q : V → Hp → Prop) : R (List D) → Prop
  | .ok ds S' => ∀ m' H' p vs, Post K mg m S H m' S' H' → H p = none → H' p = some (.lst vs) → (∀ i, i < S'.length → m' i ≠ p) → vs.length ≤ sizeLine → RepL K m' S'.length H' ds vs → Q (.ref p) H'
  | .exc e S' => ∀ m' H' cls d, Post K mg m S H m' S' H' → ExR K mg m' S'.length H' e cls d → W cls d σ H'
  | .bad => False
def rdL (K : PySem.W.Frag) (mg : Str → Option Value) (W : WX) (pin : Option (Nat × Addr)) (f : AX) : TE := fun σ H Q => ∃ m env S, SlotsOk K pin m S.length H env σ ∧ SRel K mg m S H ∧ SatL K mg W σ m S H Q (f env S)
/-- e gives a new list that nobody else has -/
def GL (X : Cx) (W : WX) (pin : Option (Nat × Addr)) (e : Expr) (f : AX) : Prop := PE X e (rdL X.K X.mg W pin f)
/-- it becomes a cell -/
def eOfL (f : AX) : EX := fun env S => (f env S).bind fun ds S1 => .ok (.cel S1.length) (S1 ++ [.lst ds])
section
variable {X : Cx} {W : WX} {pin : Option (Nat × Addr)} {pos : Pos} {e : Expr} {es : List Expr} {f : AX}
theorem ge_ofL (h : GL X W pin e f) : GE X W pin e (eOfL f) := PE.weak h fun σ H Q ⟨m, env, S, E, r, s⟩ => by
  refine ⟨m, env, S, E, r, ?_⟩
  unfold eOfL at s
  cases hf : f env S with
  | bad => rw [hf] at s; exact s.elim
  | exc x S' => rw [hf] at s; exact s
  | ok ds S' =>
    rw [hf] at s
    intro m' H' p vs p1 hn hp ap hl rx
    have k1 : Keep m' S'.length H' (mAt m' S'.length p) (S'.length + 1) H' := ⟨Nat.le_succ _, fun i hi => mAt_lt hi, fun q o h _ => h⟩
    exact s.ok (p1.adopt hn ap (c := .lst ds) ⟨vs, hp, hl, k1.repL _ _ rx⟩) ⟨by simp, by rw [mAt_self]⟩
theorem gl_lst (h : GA X W pin es f) (hz : es.length ≤ sizeLine := by decide) : GL X W pin (.List es pos) f := PE.weak (pe_lst h.run) fun σ H Q ⟨m, env, S, E, r, s⟩ => by
  refine ⟨m, env, S, E, r, ?_⟩
  have hl := h.len env S
  cases hf : f env S with
  | bad => rw [hf] at s; exact s.elim
  | exc x S' => rw [hf] at s; exact s
  | ok ds S' =>
    rw [hf] at s
    intro m1 H1 xs p1 rx
    have hl : xs.length ≤ sizeLine := by rw [rx.len, hl ds S' hf]; exact hz
    refine ⟨hl, fun t ht => ?_⟩
    have p2 := Post.same p1.rel (same_upd (o := .lst xs) ht)
    exact s m1 _ t xs (p1.trans p2) (p1.none_back ht) upd_same (p1.rel.apart0 ht) hl ((p2.keep p1.rel).repL _ _ rx)
/-- what a temporary list is used for -/
theorem rdL_bind {α β : Type} {Rl : (Nat → Addr) → Nat → Hp → α → β → Prop} {Q : β → Hp → Prop} {m : Nat → Addr} {S : Sto} {H : Hp} {σ : L2.St} {env : Slots} {k : List D → Sto → R α} (E : SlotsOk X.K pin m S.length H env σ) (r : SRel X.K X.mg m S H)
    (s : Sat X.K X.mg W σ m S H Rl Q ((f env S).bind k)) {T : VK}
    (hT : ∀ p vs H1 m1 S1 ds, Post X.K X.mg m S H m1 S1 H1 → SlotsOk X.K pin m1 S1.length H1 env σ → SRel X.K X.mg m1 S1 H1 → H1 p = some (.lst vs) → (∀ i, i < S1.length → m1 i ≠ p) → vs.length ≤ sizeLine → RepL X.K m1 S1.length H1 ds vs →
      Sat X.K X.mg W σ m1 S1 H1 Rl Q (k ds S1) → T (.ref p) H1) : rdL X.K X.mg W pin f σ H T := by
  refine ⟨m, env, S, E, r, ?_⟩
  cases hf : f env S with
  | bad => rw [hf] at s; exact s.elim
  | exc e S' => rw [hf] at s; exact s
  | ok ds S' =>
    rw [hf] at s
    intro m1 H1 p vs p1 hn hp ap hl rx
    exact hT p vs H1 m1 S' ds p1 (E.keep (p1.keep r)) p1.rel hp ap hl rx (Sat.step p1 s)
end

/-! ### keys of dicts -/
section
variable {κ : Type} [DecidableEq κ]
def getK (kvs : List (κ × D)) (k : κ) : Option D := (kvs.find? fun kv => decide (kv.1 = k)).map (·.2)
def setK (kvs : List (κ × D)) (k : κ) (d : D) : List (κ × D) := if (kvs.any fun kv => decide (kv.1 = k)) = true then kvs.map (fun kv => if kv.1 = k then (kv.1, d) else kv) else kvs ++ [(k, d)]
theorem getK_rep {K : PySem.W.Frag} {m : Nat → Addr} {N : Nat} {H : Hp} (k : κ) : ∀ {kvs : List (κ × D)} {ws : List (κ × V)}, RepP K m N H kvs ws →
    (getK kvs k = none ∧ valV ws k = none) ∨ ∃ d v, getK kvs k = some d ∧ valV ws k = some v ∧ Rep K m N H d v
  | [], _, h => by rw [show _ = [] from h]; exact .inl ⟨rfl, rfl⟩
  | (x, d) :: r, _, ⟨v, r', e, h1, h2⟩ => by
    subst e
    by_cases hx : x = k
    · exact .inr ⟨d, v, by simp [getK, List.find?_cons, hx], valV_pos hx, h1⟩
    · rw [valV_neg (p := (x, v)) hx, show getK ((x, d) :: r) k = getK r k by simp [getK, List.find?_cons, hx]]
      exact getK_rep k h2
theorem any_rep {K : PySem.W.Frag} {m : Nat → Addr} {N : Nat} {H : Hp} (p : κ → Bool) : ∀ {kvs : List (κ × D)} {ws : List (κ × V)}, RepP K m N H kvs ws → (kvs.any fun kv => p kv.1) = ws.any fun kv => p kv.1
  | [], _, h => by rw [show _ = [] from h]; rfl
  | (x, d) :: r, _, ⟨v, r', e, h1, h2⟩ => by
    subst e
    rw [List.any_cons, List.any_cons, any_rep p h2]
theorem map_rep {K : PySem.W.Frag} {m : Nat → Addr} {N : Nat} {H : Hp} {k : κ} {d : D} {v : V} (h : Rep K m N H d v) : ∀ {kvs : List (κ × D)} {ws : List (κ × V)}, RepP K m N H kvs ws →
    RepP K m N H (kvs.map fun kv => if kv.1 = k then (kv.1, d) else kv) (ws.map fun kv => if kv.1 = k then (kv.1, v) else kv)
  | [], _, h => by rw [show _ = [] from h]; exact rfl
  | (x, e) :: r, _, ⟨u, r', he, h1, h2⟩ => by
    subst he
    by_cases hx : x = k
    · rw [List.map_cons, List.map_cons, if_pos hx, if_pos hx]
      exact ⟨v, _, rfl, h, map_rep h h2⟩
    · rw [List.map_cons, List.map_cons, if_neg hx, if_neg hx]
      exact ⟨u, _, rfl, h1, map_rep h h2⟩
theorem app_rep {K : PySem.W.Frag} {m : Nat → Addr} {N : Nat} {H : Hp} : ∀ {kvs ls : List (κ × D)} {ws us : List (κ × V)}, RepP K m N H kvs ws → RepP K m N H ls us → RepP K m N H (kvs ++ ls) (ws ++ us)
  | [], _, _, _, h, q => by rw [show _ = [] from h]; exact q
  | (x, e) :: r, _, _, _, ⟨u, r', he, h1, h2⟩, q => by
    subst he
    exact ⟨u, _, rfl, h1, app_rep h2 q⟩
theorem setK_rep {K : PySem.W.Frag} {m : Nat → Addr} {N : Nat} {H : Hp} {k : κ} {d : D} {v : V} {kvs : List (κ × D)} {ws : List (κ × V)} (h : Rep K m N H d v) (r : RepP K m N H kvs ws) : RepP K m N H (setK kvs k d) (putK ws k v) := by
  unfold setK putK
  rw [any_rep (fun x => decide (x = k)) r]
  split
  · exact map_rep h r
  · exact app_rep r ⟨v, [], rfl, h, rfl⟩
end
def keyOf : D → Option Key
  | .a (.int i) => some (.inl i)
  | .a (.str x) => some (.inr x)
  | _ => none
theorem keyOf_rep {K : PySem.W.Frag} {m : Nat → Addr} {N : Nat} {H : Hp} {d : D} {v : V} {k : Key} (h : Rep K m N H d v) (e : keyOf d = some k) : v = kV k := by
  unfold keyOf at e
  split at e
  · cases e; exact h
  · cases e; exact h
  · cases e

/-! ### subscripts -/
def dIx : Op2 := fun x y S => match x, y with
  | .tup ds, .a (.int k) => (atI ds k).map fun d => (d, S)
  | .ils ds, .a (.int k) => (atI ds k).map fun d => (d, S)
  | .a (.str z), .a (.int k) => if z.length ≤ sizeLine then (atI z.cps.toList k).map fun c => (.a (.str ⟨#[c]⟩), S) else none
  | .cel n, y => match S[n]? with
    | some (.lst ds) => match y with
      | .a (.int k) => (atI ds k).map fun d => (d, S)
      | _ => none
    | some (.dic kvs) => ((keyOf y).bind fun k => getK kvs k).map fun d => (d, S)
    | _ => none
  | _, _ => none
theorem atI_rep {K : PySem.W.Frag} {m : Nat → Addr} {N : Nat} {H : Hp} {ds : List D} {vs : List V} {k : Int} {d : D} (r : RepL K m N H ds vs) (h : atI ds k = some d) : ∃ v, atI vs k = some v ∧ Rep K m N H d v := by
  unfold atI at h ⊢
  rw [r.len]
  cases q : ixN ds.length k with
  | none => rw [q] at h; cases h
  | some j =>
    rw [q] at h
    exact r.get h
theorem ils_sq {K : PySem.W.Frag} {H : Hp} {p : Addr} {vs : List V} (h : ILs K H p vs) : SqL K H p vs := by
  rcases h with ⟨o, h⟩ | h
  · exact .inl (.inr ⟨o, h⟩)
  · exact .inr h
section
variable {X : Cx} {W : WX} {pin : Option (Nat × Addr)} {pos p2 : Pos} {a b : Expr} {fa fb : EX} {lo hi : Option Expr}
theorem i_ix (hu : X.A.units + 1 < cLine) : IxR X (rdO X.K X.mg dIx) := by
  intro value slice pins s σ H x y v u Q I rx ry ⟨m, S, d, e, r, hd, he, sa⟩ hs
  unfold dIx at sa
  split at sa
  · rename_i ds k
    obtain ⟨p, vs, rfl, hp, _, rp⟩ := hd
    obtain rfl := rep_int he
    cases hq : atI ds k with
    | none => rw [hq] at sa; exact sa.elim
    | some d =>
      rw [hq] at sa
      obtain ⟨w, h1, h2⟩ := atI_rep rp hq
      exact ix_tup value slice pins s σ H _ _ v u Q I rx ry ⟨p, vs, k, w, rfl, rfl, hp, h1, sa.here r h2⟩ hs
  · rename_i ds k
    obtain ⟨p, vs, rfl, hp, _, rp⟩ := hd
    obtain rfl := rep_int he
    cases hq : atI ds k with
    | none => rw [hq] at sa; exact sa.elim
    | some d =>
      rw [hq] at sa
      obtain ⟨w, h1, h2⟩ := atI_rep rp hq
      exact ix_list value slice pins s σ H _ _ v u Q I rx ry ⟨p, vs, k, w, rfl, rfl, ils_sq hp, h1, sa.here r h2⟩ hs
  · rename_i z k
    obtain rfl : x = .str z := hd
    obtain rfl := rep_int he
    split at sa
    · rename_i hz
      cases hq : atI z.cps.toList k with
      | none => rw [hq] at sa; exact sa.elim
      | some c =>
        rw [hq] at sa
        exact ix_str value slice pins s σ H _ _ v u Q I rx ry ⟨z, k, c, rfl, rfl, hz, hq, sa.here r rfl⟩ hs
    · exact sa.elim
  · obtain ⟨hn, rfl⟩ := hd
    split at sa
    · rename_i ds hS
      obtain ⟨vs, ev, _, rv⟩ := r.at_ _ _ hS
      split at sa
      · rename_i k
        obtain rfl := rep_int he
        cases hq : atI ds k with
        | none => rw [hq] at sa; exact sa.elim
        | some d =>
          rw [hq] at sa
          obtain ⟨w, h1, h2⟩ := atI_rep rv hq
          exact ix_list value slice pins s σ H _ _ v u Q I rx ry ⟨_, vs, k, w, rfl, rfl, SqL.of ev, h1, sa.here r h2⟩ hs
      · exact sa.elim
    · rename_i kvs hS
      obtain ⟨ws, ev, _, rv⟩ := r.at_ _ _ hS
      cases hk : keyOf e with
      | none => rw [hk] at sa; exact sa.elim
      | some k =>
        rw [hk] at sa
        rcases getK_rep k rv with ⟨g1, g2⟩ | ⟨d, w, g1, g2, g3⟩
        · rw [show ((some k).bind fun k => getK kvs k) = none from g1] at sa
          exact sa.elim
        · rw [show ((some k).bind fun k => getK kvs k) = some d from g1] at sa
          obtain rfl := keyOf_rep he hk
          have g := DGet.k (k := k) ev
          rw [g2] at g
          obtain rfl : v = Value.ref _ := rx
          exact tail_any (dict_typeIs I g) PySem.F.slot_dict_getitem.lookup (d_getItem hu I g ry fun w' s3 I3 rw' => ⟨w, H, I3, rw', sa.here r g3⟩) hs
    · exact sa.elim
  · exact sa.elim
theorem ge_ix (hu : X.A.units + 1 < cLine) (ha : GE X W pin a fa) (hb : GE X W pin b fb) (hs : PlainIx b := by exact fun _ _ => rfl) : GE X W pin (.Subscript a b pos) (eBin dIx fa fb) :=
  PE.weak (pe_ix (i_ix hu) ha hb hs) fun σ H Q ⟨m, env, S, E, r, s⟩ => rdE_bind E r s fun x H1 m1 S1 d p1 E1 r1 rd s1 => rdE_bind E1 r1 s1 fun y H2 m2 S2 e p2 E2 r2 re s2 => rdO_mk r2 ((p2.keep r1).rep _ _ rd) re s2
/-- an item of a temporary list -/
def eIxL (fl : AX) (fb : EX) : EX := fun env S => (fl env S).bind fun ds S1 => (fb env S1).bind fun e S2 => match e with
  | .a (.int k) => match atI ds k with
    | some d => .ok d S2
    | none => .bad
  | _ => .bad
theorem ge_ixL {fl : AX} (ha : GL X W pin a fl) (hb : GE X W pin b fb) (hs : PlainIx b := by exact fun _ _ => rfl) : GE X W pin (.Subscript a b pos) (eIxL fl fb) :=
  PE.weak (pe_ix ix_list ha hb hs) fun σ H Q ⟨m, env, S, E, r, s⟩ => rdL_bind E r s fun p vs H1 m1 S1 ds p1 E1 r1 hp ap hl rx s1 => rdE_bind E1 r1 s1 fun y H2 m2 S2 e p2 E2 r2 re s2 => by
    split at s2
    · rename_i k
      obtain rfl := rep_int re
      split at s2
      · rename_i d hq
        obtain ⟨w, h1, h2⟩ := atI_rep ((p2.keep r1).repL _ _ rx) hq
        exact ⟨p, vs, k, w, rfl, rfl, SqL.of (p2.frame p _ hp ap), h1, s2.here r2 h2⟩
      · exact s2.elim
    · exact s2.elim

/-! ### slices -/
abbrev OX := Slots → Sto → R (Option Int)
def oNone : OX := fun _ S => .ok none S
def oSome (f : EX) : OX := fun env S => (f env S).bind fun d S1 => match d with
  | .a (.int i) => .ok (some i) S1
  | _ => .bad
def rdOp (K : PySem.W.Frag) (mg : Str → Option Value) (W : WX) (pin : Option (Nat × Addr)) (f : OX) : TO := fun σ H Q => ∃ m env S, SlotsOk K pin m S.length H env σ ∧ SRel K mg m S H ∧ Sat K mg W σ m S H (fun _ _ _ x y => y = x) Q (f env S)
def GO (X : Cx) (W : WX) (pin : Option (Nat × Addr)) (e : Option Expr) (f : OX) : Prop := PO X e (rdOp X.K X.mg W pin f)
theorem PO.weak {X : Cx} {e : Option Expr} {t t' : TO} (h : PO X e t) (w : ∀ σ H Q, t' σ H Q → t σ H Q) : PO X e t' := ⟨fun pins s σ H Q I q => h.run pins s σ H Q I (w _ _ _ q)⟩
theorem go_none : GO X W pin none oNone := PO.weak po_none fun σ H Q ⟨m, env, S, E, r, s⟩ => s.here r rfl
theorem go_some (h : GE X W pin a fa) : GO X W pin (some a) (oSome fa) := PO.weak (po_some h) fun σ H Q ⟨m, env, S, E, r, s⟩ => rdE_bind E r s fun x H1 m1 S1 d p1 E1 r1 rd s1 => by
  split at s1
  · rename_i i
    exact ⟨i, rd, s1.here r1 rfl⟩
  · exact s1.elim
/-- the part of a list -/
def cutL {α : Type} (xs : List α) (lo hi : Option Int) : List α := (xs.drop (HT.sIx xs.length 0 lo)).take (HT.sIx xs.length xs.length hi - HT.sIx xs.length 0 lo)
def dCut (x : D) (lo hi : Option Int) (S : Sto) : Option (D × Sto) := match x with
  | .tup ds => some (.tup (cutL ds lo hi), S)
  | .a (.str z) => if z.length ≤ sizeLine then some (.a (.str (cutS z lo hi)), S) else none
  | .ils ds => some (.cel S.length, S ++ [.lst (cutL ds lo hi)])
  | .cel n => match S[n]? with
    | some (.lst ds) => some (.cel S.length, S ++ [.lst (cutL ds lo hi)])
    | _ => none
  | _ => none
def eCut (fa : EX) (fl fh : OX) : EX := fun env S => (fa env S).bind fun d S1 => (fl env S1).bind fun lo S2 => (fh env S2).bind fun hi S3 => ofO (dCut d lo hi S3)
theorem cut_rep {K : PySem.W.Frag} {m : Nat → Addr} {N : Nat} {H : Hp} {ds : List D} {vs : List V} (r : RepL K m N H ds vs) (lo hi : Option Int) : RepL K m N H (cutL ds lo hi) (cutV vs lo hi) := by
  unfold cutL cutV
  rw [r.len]
  exact (r.drop _).take _
theorem cut_len {α : Type} (xs : List α) (lo hi : Option Int) : (cutL xs lo hi).length ≤ xs.length := by
  unfold cutL
  rw [List.length_take, List.length_drop]
  omega
theorem cut_all {α : Type} {xs : List α} {lo hi : Option Int} (h : HT.sIx xs.length 0 lo = 0 ∧ HT.sIx xs.length xs.length hi = xs.length) : cutL xs lo hi = xs := by
  unfold cutL
  rw [h.1, h.2, List.drop_zero, Nat.sub_zero, List.take_length]
/-- the reading of a slice -/
def rdCut (K : PySem.W.Frag) (mg : Str → Option Value) : V → Option Int → Option Int → Hp → VK → Prop := fun x lo hi H Q => ∃ m S d, SRel K mg m S H ∧ Rep K m S.length H d x ∧ Sat K mg wNo [] m S H (Rep K) Q (ofO (dCut d lo hi S))
theorem sl_cut : SlR X (rdCut X.K X.mg) := by
  intro pins s σ H x v vl vu lo hi sl Q I rx hs pl pu ⟨m, S, d, r, hd, sa⟩
  have newL : ∀ {p : Addr} {ds : List D} {vs : List V}, x = .ref p → SqL X.K H p vs → vs.length ≤ sizeLine → RepL X.K m S.length H ds vs → Sat X.K X.mg wNo [] m S H (Rep X.K) Q (.ok (.cel S.length) (S ++ [.lst (cutL ds lo hi)])) → rSlL X.K x lo hi H Q := fun {p ds vs} ex hq hz rv sa => by
    refine ⟨p, vs, ex, hq, fun t ht => ?_⟩
    have k1 : Keep m S.length H (mAt m S.length t) (S.length + 1) (upd H t (.lst (cutV vs lo hi))) := ⟨Nat.le_succ _, fun i hi => mAt_lt hi, fun q o h _ => same_upd ht q o h⟩
    have p1 := Post.push (c := .lst (cutL ds lo hi)) r (same_upd (o := .lst (cutV vs lo hi)) ht) ht ⟨_, upd_same, by
      rw [(cut_rep rv lo hi).len]
      exact Nat.le_trans (cut_len _ _ _) (by rw [← rv.len]; exact hz), k1.repL _ _ (cut_rep rv lo hi)⟩
    exact sa.ok p1 ⟨by simp, by rw [mAt_self]⟩
  unfold dCut at sa
  split at sa
  · rename_i ds
    obtain ⟨p, vs, rfl, hp, hz, rp⟩ := hd
    refine sl_tupA pins s σ H _ v vl vu lo hi sl Q I rx hs pl pu ⟨p, vs, rfl, hp, fun h => ?_, fun _ t ht => ?_⟩
    · have h' : HT.sIx ds.length 0 lo = 0 ∧ HT.sIx ds.length ds.length hi = ds.length := by rw [← rp.len]; exact h
      rw [cut_all h'] at sa
      exact sa.here r ⟨p, vs, rfl, hp, hz, rp⟩
    · have p1 := Post.same r (same_upd (o := .tup (cutV vs lo hi)) ht)
      refine sa.ok p1 ⟨t, _, rfl, SqT.of upd_same, ?_, (p1.keep r).repL _ _ (cut_rep rp lo hi)⟩
      rw [(cut_rep rp lo hi).len]
      exact Nat.le_trans (cut_len _ _ _) (by rw [← rp.len]; exact hz)
  · rename_i z
    obtain rfl : x = .str z := hd
    split at sa
    · rename_i hz
      exact sl_str pins s σ H _ v vl vu lo hi sl Q I rx hs pl pu ⟨z, rfl, hz, sa.here r rfl⟩
    · exact sa.elim
  · rename_i ds
    obtain ⟨p, vs, rfl, hp, hz, rp⟩ := hd
    exact sl_list pins s σ H _ v vl vu lo hi sl Q I rx hs pl pu (newL rfl (ils_sq hp) hz rp sa)
  · obtain ⟨hn, rfl⟩ := hd
    split at sa
    · rename_i ds hS
      obtain ⟨vs, ev, hz, rv⟩ := r.at_ _ _ hS
      exact sl_list pins s σ H _ v vl vu lo hi sl Q I rx hs pl pu (newL rfl (SqL.of ev) hz rv sa)
    · exact sa.elim
  · exact sa.elim
theorem ge_cut {fl fh : OX} (ha : GE X W pin a fa) (hl : GO X W pin lo fl) (hh : GO X W pin hi fh) : GE X W pin (.Subscript a (.Slice lo hi none p2) pos) (eCut fa fl fh) :=
  PE.weak (pe_slice sl_cut ha hl hh) fun σ H Q ⟨m, env, S, E, r, s⟩ => rdE_bind E r s fun x H1 m1 S1 d p1 E1 r1 rd s1 => by
    refine ⟨m1, env, S1, E1, r1, s1.bind.mono fun l H2 ⟨m2, S2, l', p2, el, s2⟩ => ?_⟩
    obtain rfl : l = l' := el
    refine ⟨m2, env, S2, E1.keep (p2.keep r1), p2.rel, s2.bind.mono fun h H3 ⟨m3, S3, h', p3, eh, s3⟩ => ?_⟩
    obtain rfl : h = h' := eh
    exact ⟨m3, S3, d, p3.rel, (p3.keep p2.rel).rep _ _ ((p2.keep r1).rep _ _ rd), s3.wish ofO_exc⟩
end

/-! ### calls of built-ins -/
abbrev OpC := List D → Sto → Option (D × Sto)
def rdC (K : PySem.W.Frag) (mg : Str → Option Value) (g : OpC) : List V → Hp → VK → Prop := fun xs H Q => ∃ m S ds, SRel K mg m S H ∧ RepL K m S.length H ds xs ∧ Sat K mg wNo [] m S H (Rep K) Q (ofO (g ds S))
def eCallB (g : OpC) (fa : AX) : EX := fun env S => (fa env S).bind fun ds S1 => ofO (g ds S1)
/-- .. of one temporary list -/
def rdCT (K : PySem.W.Frag) (mg : Str → Option Value) (g : List D → Sto → Option (D × Sto)) : List V → Hp → VK → Prop := fun xs H Q => ∃ m S ds p vs, xs = [.ref p] ∧ SRel K mg m S H ∧ H p = some (.lst vs) ∧ vs.length ≤ sizeLine ∧ RepL K m S.length H ds vs ∧ Sat K mg wNo [] m S H (Rep K) Q (ofO (g ds S))
def eCallT (g : List D → Sto → Option (D × Sto)) (fl : AX) : EX := fun env S => (fl env S).bind fun ds S1 => ofO (g ds S1)
section
variable {X : Cx} {W : WX} {pin : Option (Nat × Addr)} {pos p : Pos} {x : Str} {id T : String} {e : Expr} {es : List Expr} {fa fl : AX} {g : OpC}
theorem ge_callB (hc : CallR X (.builtin id) (rdC X.K X.mg g)) (hg : Gl X x) (hm : X.mg x = none) (hv : bootBuiltins x = some (.builtin id)) (ha : GA X W pin (e :: es) fa) (hn : x ≠ "__name__" := by decide) (hdb : (x == ("__debug__" : Str)) = false := by decide)
    (he : starEach (e :: es) X.env = (false, eval e X.env) :: starEach es X.env := by rfl) (hpl : (backTo pos (starEach es X.env)).any (·.1) = false := by rfl) : GE X W pin (.Call (.Name x p) (e :: es) [] pos) (eCallB g fa) :=
  PE.weak (pe_callB hc hg hm hv ha.run hn hdb he hpl) fun σ H Q ⟨m, env, S, E, r, s⟩ => rdA_bind E r s fun xs H1 m1 S1 ds p1 E1 r1 rs s1 => ⟨m1, S1, ds, r1, rs, s1.wish ofO_exc⟩
theorem ge_callTy (hc : CallR X (.type T) (rdC X.K X.mg g)) (hg : Gl X x) (hm : X.mg x = none) (hv : bootBuiltins x = some (.type T)) (ha : GA X W pin (e :: es) fa) (hn : x ≠ "__name__" := by decide) (hdb : (x == ("__debug__" : Str)) = false := by decide)
    (he : starEach (e :: es) X.env = (false, eval e X.env) :: starEach es X.env := by rfl) (hpl : (backTo pos (starEach es X.env)).any (·.1) = false := by rfl) : GE X W pin (.Call (.Name x p) (e :: es) [] pos) (eCallB g fa) :=
  PE.weak (pe_callTy hc hg hm hv ha.run hn hdb he hpl) fun σ H Q ⟨m, env, S, E, r, s⟩ => rdA_bind E r s fun xs H1 m1 S1 ds p1 E1 r1 rs s1 => ⟨m1, S1, ds, r1, rs, s1.wish ofO_exc⟩
/-- one temporary list as the only argument -/
theorem pa_tmp (ha : GL X W pin e fl) (he : starEach [e] X.env = (false, eval e X.env) :: starEach [] X.env := by rfl) : PA X [e] (tCons (rdL X.K X.mg W pin fl) tNil) := pa_cons ha pa_nil he
theorem tmp_rd {σ : L2.St} {H : Hp} {Q : VK} {g : List D → Sto → Option (D × Sto)} (h : rdE X.K X.mg W pin (eCallT g fl) σ H Q) : tCons (rdL X.K X.mg W pin fl) tNil σ H fun vs H1 => rdCT X.K X.mg g vs H1 Q := by
  obtain ⟨m, env, S, E, r, s⟩ := h
  exact rdL_bind E r s fun p vs H1 m1 S1 ds p1 E1 r1 hp ap hl rx s1 => ⟨m1, S1, ds, p, vs, rfl, r1, hp, hl, rx, s1.wish ofO_exc⟩
theorem ge_callBT {g : List D → Sto → Option (D × Sto)} (hc : CallR X (.builtin id) (rdCT X.K X.mg g)) (hg : Gl X x) (hm : X.mg x = none) (hv : bootBuiltins x = some (.builtin id)) (ha : GL X W pin e fl) (hn : x ≠ "__name__" := by decide) (hdb : (x == ("__debug__" : Str)) = false := by decide)
    (he : starEach [e] X.env = (false, eval e X.env) :: starEach [] X.env := by rfl) (hpl : (backTo pos (starEach [] X.env)).any (·.1) = false := by rfl) : GE X W pin (.Call (.Name x p) [e] [] pos) (eCallT g fl) :=
  PE.weak (pe_callB hc hg hm hv (pa_tmp ha he) hn hdb he hpl) fun σ H Q h => tmp_rd h
theorem ge_callTyT {g : List D → Sto → Option (D × Sto)} (hc : CallR X (.type T) (rdCT X.K X.mg g)) (hg : Gl X x) (hm : X.mg x = none) (hv : bootBuiltins x = some (.type T)) (ha : GL X W pin e fl) (hn : x ≠ "__name__" := by decide) (hdb : (x == ("__debug__" : Str)) = false := by decide)
    (he : starEach [e] X.env = (false, eval e X.env) :: starEach [] X.env := by rfl) (hpl : (backTo pos (starEach [] X.env)).any (·.1) = false := by rfl) : GE X W pin (.Call (.Name x p) [e] [] pos) (eCallT g fl) :=
  PE.weak (pe_callTy hc hg hm hv (pa_tmp ha he) hn hdb he hpl) fun σ H Q h => tmp_rd h
end
end G
set_option maxRecDepth 100000
/-! The layer G, part 5: built-ins, methods of lists, stores, targets. -/
namespace G
open PySem PySem.Spec PyProof.Rows L2

/-- the items of a sequence -/
def itemsOf (S : Sto) : D → Option (List D)
  | .tup ds => some ds
  | .ils ds => some ds
  | .cel n => match S[n]? with
    | some (.lst ds) => some ds
    | _ => none
  | _ => none
def dLen : OpC := fun xs S => match xs with
  | [.a (.str z)] => if z.length ≤ sizeLine then some (.a (.int z.length), S) else none
  | [d] => match itemsOf S d with
    | some ds => some (.a (.int ds.length), S)
    | none => match d with
      | .cel n => match S[n]? with
        | some (.dic kvs) => some (.a (.int kvs.length), S)
        | _ => none
      | _ => none
  | _ => none
def dInt : OpC := fun xs S => match xs with
  | [.a (.int i)] => some (.a (.int i), S)
  | [.a (.bl k)] => some (.a (.int (bif k then 1 else 0)), S)
  | _ => none
def dMax2 : OpC := fun xs S => match xs with
  | [.a (.int i), .a (.int j)] => some (.a (.int (if j > i then j else i)), S)
  | _ => none
def dMin2 : OpC := fun xs S => match xs with
  | [.a (.int i), .a (.int j)] => some (.a (.int (if j < i then j else i)), S)
  | _ => none
def dTuple : OpC := fun xs S => match xs with
  | [d] => (itemsOf S d).map fun ds => (.tup ds, S)
  | _ => none
def tTuple : List D → Sto → Option (D × Sto) := fun ds S => some (.tup ds, S)
def asBls : List D → Option (List Bool)
  | [] => some []
  | .a (.bl b) :: r => (asBls r).map (b :: ·)
  | _ => none
def asInts : List D → Option (List Int)
  | [] => some []
  | .a (.int b) :: r => (asInts r).map (b :: ·)
  | _ => none
def tAll : List D → Sto → Option (D × Sto) := fun ds S => (asBls ds).map fun bs => (.a (.bl (bs.all id)), S)
def tAny : List D → Sto → Option (D × Sto) := fun ds S => (asBls ds).map fun bs => (.a (.bl (bs.any id)), S)
def tSum : List D → Sto → Option (D × Sto) := fun ds S => (asInts ds).map fun bs => (.a (.int bs.sum), S)
def maxI : Int → List Int → Int
  | m, [] => m
  | m, x :: r => maxI (if x > m then x else m) r
def minI : Int → List Int → Int
  | m, [] => m
  | m, x :: r => minI (if x < m then x else m) r
def tMax : List D → Sto → Option (D × Sto) := fun ds S => match asInts ds with
  | some (x :: r) => some (.a (.int (maxI x r)), S)
  | _ => none
def tMin : List D → Sto → Option (D × Sto) := fun ds S => match asInts ds with
  | some (x :: r) => some (.a (.int (minI x r)), S)
  | _ => none
/-- of one list that stands -/
def dOf (g : List D → Sto → Option (D × Sto)) : OpC := fun xs S => match xs with
  | [.cel n] => match S[n]? with
    | some (.lst ds) => g ds S
    | _ => none
  | [.ils ds] => g ds S
  | _ => none

section
variable {K : PySem.W.Frag} {mg : Str → Option Value} {m : Nat → Addr} {S : Sto} {H : Hp} {N : Nat}
theorem items_rep (r : SRel K mg m S H) {d : D} {v : V} {ds : List D} (h : Rep K m S.length H d v) (e : itemsOf S d = some ds) : ∃ p vs, v = .ref p ∧ (SqL K H p vs ∨ SqT K H p vs) ∧ vs.length ≤ sizeLine ∧ RepL K m S.length H ds vs := by
  unfold itemsOf at e
  split at e
  · cases e
    obtain ⟨p, vs, rfl, hp, hz, rp⟩ := h
    exact ⟨p, vs, rfl, .inr hp, hz, rp⟩
  · cases e
    obtain ⟨p, vs, rfl, hp, hz, rp⟩ := h
    exact ⟨p, vs, rfl, .inl (ils_sq hp), hz, rp⟩
  · obtain ⟨hn, rfl⟩ := h
    split at e
    · rename_i ds' hS
      cases e
      obtain ⟨vs, ev, hz, rv⟩ := r.at_ _ _ hS
      exact ⟨_, vs, rfl, .inl (SqL.of ev), hz, rv⟩
    · cases e
  · cases e
theorem asBls_rep : ∀ {ds : List D} {vs : List V} {bs : List Bool}, RepL K m N H ds vs → asBls ds = some bs → vs = bs.map V.bl
  | [], vs, bs, h, e => by
    unfold asBls at e
    cases e
    exact h
  | d :: ds, vs, bs, ⟨v, r, hv, h1, h2⟩, e => by
    subst hv
    unfold asBls at e
    split at e
    · rename_i h; cases h
    · rename_i b r' h
      cases h
      cases q : asBls ds with
      | none => rw [q] at e; cases e
      | some bs' =>
        rw [q] at e
        cases e
        rw [show v = .bl b from h1, asBls_rep h2 q]
        rfl
    · cases e
theorem asInts_rep : ∀ {ds : List D} {vs : List V} {bs : List Int}, RepL K m N H ds vs → asInts ds = some bs → vs = bs.map V.int
  | [], vs, bs, h, e => by
    unfold asInts at e
    cases e
    exact h
  | d :: ds, vs, bs, ⟨v, r, hv, h1, h2⟩, e => by
    subst hv
    unfold asInts at e
    split at e
    · rename_i h; cases h
    · rename_i b r' h
      cases h
      cases q : asInts ds with
      | none => rw [q] at e; cases e
      | some bs' =>
        rw [q] at e
        cases e
        rw [show v = .int b from h1, asInts_rep h2 q]
        rfl
    · cases e
theorem maxI_spec : ∀ (r : List Int) (m : Int), m ≤ maxI m r ∧ (∀ y ∈ r, y ≤ maxI m r) ∧ (maxI m r = m ∨ maxI m r ∈ r)
  | [], m => ⟨Int.le_refl _, fun _ h => (List.not_mem_nil h).elim, Or.inl rfl⟩
  | x :: r, m => by
    show m ≤ maxI (if x > m then x else m) r ∧ (∀ y ∈ x :: r, y ≤ maxI (if x > m then x else m) r) ∧ (maxI (if x > m then x else m) r = m ∨ maxI (if x > m then x else m) r ∈ x :: r)
    by_cases c : x > m
    · rw [if_pos c]
      obtain ⟨h1, h2, h3⟩ := maxI_spec r x
      refine ⟨by omega, fun y hy => ?_, ?_⟩
      · rcases List.mem_cons.mp hy with rfl | hy
        · exact h1
        · exact h2 y hy
      · rcases h3 with h3 | h3
        · rw [h3]; exact Or.inr List.mem_cons_self
        · exact Or.inr (List.mem_cons_of_mem _ h3)
    · rw [if_neg c]
      obtain ⟨h1, h2, h3⟩ := maxI_spec r m
      refine ⟨h1, fun y hy => ?_, ?_⟩
      · rcases List.mem_cons.mp hy with rfl | hy
        · omega
        · exact h2 y hy
      · rcases h3 with h3 | h3
        · exact Or.inl h3
        · exact Or.inr (List.mem_cons_of_mem _ h3)
theorem minI_spec : ∀ (r : List Int) (m : Int), minI m r ≤ m ∧ (∀ y ∈ r, minI m r ≤ y) ∧ (minI m r = m ∨ minI m r ∈ r)
  | [], m => ⟨Int.le_refl _, fun _ h => (List.not_mem_nil h).elim, Or.inl rfl⟩
  | x :: r, m => by
    show minI (if x < m then x else m) r ≤ m ∧ (∀ y ∈ x :: r, minI (if x < m then x else m) r ≤ y) ∧ (minI (if x < m then x else m) r = m ∨ minI (if x < m then x else m) r ∈ x :: r)
    by_cases c : x < m
    · rw [if_pos c]
      obtain ⟨h1, h2, h3⟩ := minI_spec r x
      refine ⟨by omega, fun y hy => ?_, ?_⟩
      · rcases List.mem_cons.mp hy with rfl | hy
        · exact h1
        · exact h2 y hy
      · rcases h3 with h3 | h3
        · rw [h3]; exact Or.inr List.mem_cons_self
        · exact Or.inr (List.mem_cons_of_mem _ h3)
    · rw [if_neg c]
      obtain ⟨h1, h2, h3⟩ := minI_spec r m
      refine ⟨h1, fun y hy => ?_, ?_⟩
      · rcases List.mem_cons.mp hy with rfl | hy
        · omega
        · exact h2 y hy
      · rcases h3 with h3 | h3
        · exact Or.inl h3
        · exact Or.inr (List.mem_cons_of_mem _ h3)
theorem maxI_the {x : Int} {r : List Int} {w : Int} (h1 : w ∈ x :: r) (h2 : ∀ y, y ∈ x :: r → y ≤ w) : w = maxI x r := by
  obtain ⟨a, b, c⟩ := maxI_spec r x
  have h3 : w ≤ maxI x r := by
    rcases List.mem_cons.mp h1 with rfl | h
    · exact a
    · exact b _ h
  have h4 : maxI x r ≤ w := by
    rcases c with c | c
    · rw [c]; exact h2 _ List.mem_cons_self
    · exact h2 _ (List.mem_cons_of_mem _ c)
  omega
theorem minI_the {x : Int} {r : List Int} {w : Int} (h1 : w ∈ x :: r) (h2 : ∀ y, y ∈ x :: r → w ≤ y) : w = minI x r := by
  obtain ⟨a, b, c⟩ := minI_spec r x
  have h3 : minI x r ≤ w := by
    rcases List.mem_cons.mp h1 with rfl | h
    · exact a
    · exact b _ h
  have h4 : w ≤ minI x r := by
    rcases c with c | c
    · rw [c]; exact h2 _ List.mem_cons_self
    · exact h2 _ (List.mem_cons_of_mem _ c)
  omega
end
section
variable {X : Cx}
/-- what a temporary list is given to: any list's rule -/
def rdG (K : PySem.W.Frag) (mg : Str → Option Value) (g : List D → Sto → Option (D × Sto)) : List V → Hp → VK → Prop := fun xs H Q => ∃ m S ds p vs, xs = [.ref p] ∧ SRel K mg m S H ∧ SqL K H p vs ∧ vs.length ≤ sizeLine ∧ RepL K m S.length H ds vs ∧ Sat K mg wNo [] m S H (Rep K) Q (ofO (g ds S))
theorem c_tmp {f : Value} {g : List D → Sto → Option (D × Sto)} (h : CallR X f (rdG X.K X.mg g)) : CallR X f (rdCT X.K X.mg g) := by
  intro pins s σ H xs us Q I rx ⟨m, S, ds, p, vs, e, r, hp, hz, rv, sa⟩
  exact h pins s σ H xs us Q I rx ⟨m, S, ds, p, vs, e, r, SqL.of hp, hz, rv, sa⟩
theorem c_of {f : Value} {g : List D → Sto → Option (D × Sto)} (h : CallR X f (rdG X.K X.mg g)) : CallR X f (rdC X.K X.mg (dOf g)) := by
  intro pins s σ H xs us Q I rx ⟨m, S, ds, r, rs, sa⟩
  unfold dOf at sa
  split at sa
  · rename_i n
    obtain ⟨v, r', rfl, ⟨hn, rfl⟩, e⟩ := rs
    obtain rfl : r' = [] := e
    split at sa
    · rename_i ds' hS
      obtain ⟨vs, ev, hz, rv⟩ := r.at_ _ _ hS
      exact h pins s σ H _ us Q I rx ⟨m, S, ds', _, vs, rfl, r, SqL.of ev, hz, rv, sa⟩
    · exact sa.elim
  · rename_i ds'
    obtain ⟨v, r', rfl, ⟨p, vs, rfl, hp, hz, rv⟩, e⟩ := rs
    obtain rfl : r' = [] := e
    exact h pins s σ H _ us Q I rx ⟨m, S, ds', p, vs, rfl, r, ils_sq hp, hz, rv, sa⟩
  · exact sa.elim
theorem c_all (hc : X.calm = true) : CallR X (.builtin "all") (rdG X.K X.mg tAll) := by
  intro pins s σ H xs us Q I rx ⟨m, S, ds, p, vs, e, r, hp, hz, rv, sa⟩
  unfold tAll at sa
  cases q : asBls ds with
  | none => rw [q] at sa; exact sa.elim
  | some bs =>
    rw [q] at sa
    rw [asBls_rep rv q] at hp
    exact cr_all hc pins s σ H xs us Q I rx ⟨p, bs, e, hp, sa.here r rfl⟩
theorem c_any (hc : X.calm = true) : CallR X (.builtin "any") (rdG X.K X.mg tAny) := by
  intro pins s σ H xs us Q I rx ⟨m, S, ds, p, vs, e, r, hp, hz, rv, sa⟩
  unfold tAny at sa
  cases q : asBls ds with
  | none => rw [q] at sa; exact sa.elim
  | some bs =>
    rw [q] at sa
    rw [asBls_rep rv q] at hp
    exact cr_any hc pins s σ H xs us Q I rx ⟨p, bs, e, hp, sa.here r rfl⟩
theorem c_sum (hc : X.calm = true) : CallR X (.builtin "sum") (rdG X.K X.mg tSum) := by
  intro pins s σ H xs us Q I rx ⟨m, S, ds, p, vs, e, r, hp, hz, rv, sa⟩
  unfold tSum at sa
  cases q : asInts ds with
  | none => rw [q] at sa; exact sa.elim
  | some bs =>
    rw [q] at sa
    rw [asInts_rep rv q] at hp
    exact cr_sum hc pins s σ H xs us Q I rx ⟨p, bs, e, hp, sa.here r rfl⟩
theorem c_max (hc : X.calm = true) : CallR X (.builtin "max") (rdG X.K X.mg tMax) := by
  intro pins s σ H xs us Q I rx ⟨m, S, ds, p, vs, e, r, hp, hz, rv, sa⟩
  unfold tMax at sa
  split at sa
  · rename_i x l q
    rw [asInts_rep rv q] at hp
    refine cr_max hc pins s σ H xs us Q I rx ⟨p, x :: l, e, hp, by simp, fun w h1 h2 => ?_⟩
    rw [maxI_the h1 h2]
    exact sa.here r rfl
  · exact sa.elim
theorem c_min (hc : X.calm = true) : CallR X (.builtin "min") (rdG X.K X.mg tMin) := by
  intro pins s σ H xs us Q I rx ⟨m, S, ds, p, vs, e, r, hp, hz, rv, sa⟩
  unfold tMin at sa
  split at sa
  · rename_i x l q
    rw [asInts_rep rv q] at hp
    refine cr_min hc pins s σ H xs us Q I rx ⟨p, x :: l, e, hp, by simp, fun w h1 h2 => ?_⟩
    rw [minI_the h1 h2]
    exact sa.here r rfl
  · exact sa.elim
theorem c_max2 (hc : X.calm = true) : CallR X (.builtin "max") (rdC X.K X.mg dMax2) := by
  intro pins s σ H xs us Q I rx ⟨m, S, ds, r, rs, sa⟩
  unfold dMax2 at sa
  split at sa
  · rename_i i j
    obtain ⟨v, r', rfl, h1, w, r2, rfl, h2, e⟩ := rs
    obtain rfl : r2 = [] := e
    obtain rfl := rep_int h1
    obtain rfl := rep_int h2
    exact call_max2 hc pins s σ H _ us Q I rx ⟨i, j, rfl, sa.here r rfl⟩
  · exact sa.elim
theorem c_min2 (hc : X.calm = true) : CallR X (.builtin "min") (rdC X.K X.mg dMin2) := by
  intro pins s σ H xs us Q I rx ⟨m, S, ds, r, rs, sa⟩
  unfold dMin2 at sa
  split at sa
  · rename_i i j
    obtain ⟨v, r', rfl, h1, w, r2, rfl, h2, e⟩ := rs
    obtain rfl : r2 = [] := e
    obtain rfl := rep_int h1
    obtain rfl := rep_int h2
    exact call_min2 hc pins s σ H _ us Q I rx ⟨i, j, rfl, sa.here r rfl⟩
  · exact sa.elim
theorem c_int : CallR X (.type "int") (rdC X.K X.mg dInt) := by
  intro pins s σ H xs us Q I rx ⟨m, S, ds, r, rs, sa⟩
  unfold dInt at sa
  split at sa
  · rename_i i
    obtain ⟨v, r', rfl, h1, e⟩ := rs
    obtain rfl : r' = [] := e
    obtain rfl := rep_int h1
    exact call_int1 pins s σ H _ us Q I rx (.inl ⟨i, rfl, sa.here r rfl⟩)
  · rename_i k
    obtain ⟨v, r', rfl, h1, e⟩ := rs
    obtain rfl : r' = [] := e
    obtain rfl : v = .bl k := h1
    refine call_int1 pins s σ H _ us Q I rx (.inr ⟨k, rfl, ?_⟩)
    have q := sa.here r (show Rep X.K m S.length H (.a (.int (bif k then 1 else 0))) (.int (bif k then 1 else 0)) from rfl)
    cases k <;> exact q
  · exact sa.elim
theorem c_len : CallR X (.builtin "len") (rdC X.K X.mg dLen) := by
  intro pins s σ H xs us Q I rx ⟨m, S, ds, r, rs, sa⟩
  unfold dLen at sa
  split at sa
  · rename_i z
    obtain ⟨v, r', rfl, h1, e⟩ := rs
    obtain rfl : r' = [] := e
    obtain rfl : v = .str z := h1
    split at sa
    · rename_i hz
      exact call_len_str pins s σ H _ us Q I rx ⟨z, rfl, hz, sa.here r rfl⟩
    · exact sa.elim
  · rename_i d _
    obtain ⟨v, r', rfl, h1, e⟩ := rs
    obtain rfl : r' = [] := e
    split at sa
    · rename_i ds' hi
      obtain ⟨p, vs, rfl, hp, hz, rv⟩ := items_rep r h1 hi
      refine call_len_seq pins s σ H _ us Q I rx ⟨p, vs, rfl, hp, ?_⟩
      rw [rv.len]
      exact sa.here r rfl
    · split at sa
      · rename_i n hi
        obtain ⟨hn, rfl⟩ := h1
        split at sa
        · rename_i kvs hS
          obtain ⟨ws, ev, hz, rv⟩ := r.at_ _ _ hS
          refine call_lenD pins s σ H _ us Q I rx ⟨_, ws, rfl, ev, ?_⟩
          rw [rv.len]
          exact sa.here r rfl
        · exact sa.elim
      · exact sa.elim
  · exact sa.elim
theorem c_tuple : CallR X (.type "tuple") (rdC X.K X.mg dTuple) := by
  intro pins s σ H xs us Q I rx ⟨m, S, ds, r, rs, sa⟩
  unfold dTuple at sa
  split at sa
  · rename_i d
    obtain ⟨v, r', rfl, h1, e⟩ := rs
    obtain rfl : r' = [] := e
    cases hi : itemsOf S d with
    | none => rw [hi] at sa; exact sa.elim
    | some ds' =>
      rw [hi] at sa
      obtain ⟨p, vs, rfl, hp, hz, rv⟩ := items_rep r h1 hi
      rcases hp with hp | hp
      · refine call_tuple_of pins s σ H _ us Q I rx ⟨p, vs, rfl, .inl ⟨hp, fun t ht => ?_⟩⟩
        have p1 := Post.same r (same_upd (o := .tup vs) ht)
        exact sa.ok p1 ⟨t, vs, rfl, SqT.of upd_same, hz, (p1.keep r).repL _ _ rv⟩
      · exact call_tuple_of pins s σ H _ us Q I rx ⟨p, vs, rfl, .inr ⟨hp, sa.here r ⟨p, vs, rfl, hp, hz, rv⟩⟩⟩
  · exact sa.elim
theorem c_tupleT : CallR X (.type "tuple") (rdCT X.K X.mg tTuple) := by
  intro pins s σ H xs us Q I rx ⟨m, S, ds, p, vs, e, r, hp, hz, rv, sa⟩
  refine call_tuple_of pins s σ H _ us Q I rx ⟨p, vs, e, .inl ⟨SqL.of hp, fun t ht => ?_⟩⟩
  have p1 := Post.same r (same_upd (o := .tup vs) ht)
  exact sa.ok p1 ⟨t, vs, rfl, SqT.of upd_same, hz, (p1.keep r).repL _ _ rv⟩
end

/-! ### list(x): a new list -/
def aListOf (f : EX) : AX := fun env S => (f env S).bind fun d S1 => match itemsOf S1 d with
  | some ds => .ok ds S1
  | none => .bad
section
variable {X : Cx} {W : WX} {pin : Option (Nat × Addr)} {pos p : Pos} {e : Expr} {es : List Expr} {f : EX}
theorem gl_listOf (hg : Gl X "list") (hm : X.mg "list" = none) (ha : GE X W pin e f) (he : starEach [e] X.env = (false, eval e X.env) :: starEach [] X.env := by rfl) (hpl : (backTo pos (starEach [] X.env)).any (·.1) = false := by rfl)
    (hv : bootBuiltins "list" = some (.type "list") := by decide +kernel) :
    GL X W pin (.Call (.Name "list" p) [e] [] pos) (aListOf f) :=
  PE.weak (pe_callTy call_list_of hg hm hv (pa_cons ha pa_nil he) (by decide) (by decide) he hpl) fun σ H Q ⟨m, env, S, E, r, s⟩ => by
    show rdE X.K X.mg W pin f σ H fun x H1 => tNil σ H1 fun xs H2 => _
    refine ⟨m, env, S, E, r, ?_⟩
    unfold aListOf at s
    cases hf : f env S with
    | bad => rw [hf] at s; exact s.elim
    | exc x S' => rw [hf] at s; exact s
    | ok d S1 =>
      rw [hf, R.bind_ok] at s
      intro m1 H1 x p1 rx
      cases hi : itemsOf S1 d with
      | none => rw [hi] at s; exact s.elim
      | some ds =>
        rw [hi] at s
        obtain ⟨q, vs, rfl, hp, hz, rv⟩ := items_rep p1.rel rx hi
        refine ⟨q, vs, rfl, hp, fun t ht => ?_⟩
        have p2 := Post.same p1.rel (same_upd (o := .lst vs) ht)
        exact s m1 _ t vs (p1.trans p2) (p1.none_back ht) upd_same (p1.rel.apart0 ht) hz ((p2.keep p1.rel).repL _ _ rv)
end

/-! ### isinstance with a built-in class -/
def tyOf (S : Sto) : D → Option String
  | .a .non => some "NoneType"
  | .a (.bl _) => some "bool"
  | .a (.int _) => some "int"
  | .a (.str _) => some "str"
  | .tup _ => some "tuple"
  | .ils _ => some "list"
  | .cel n => match S[n]? with
    | some (.lst _) => some "list"
    | some (.dic _) => some "dict"
    | _ => none
  | _ => none
def dIsi : OpC := fun xs S => match xs with
  | [d, .a (.ty T)] => ((tyOf S d).bind fun t => kitB t T).map fun b => (.a (.bl b), S)
  | _ => none
theorem tyOf_rep {K : PySem.W.Frag} {mg : Str → Option Value} {m : Nat → Addr} {S : Sto} {H : Hp} (r : SRel K mg m S H) {d : D} {v : V} {t : String} (h : Rep K m S.length H d v) (e : tyOf S d = some t) : TyX K H v (.type t) := by
  unfold tyOf at e
  split at e
  · cases e; obtain rfl : v = _ := h; exact .base .non
  · cases e; obtain rfl : v = _ := h; exact .base (.bl _)
  · cases e; obtain rfl : v = _ := h; exact .base (.int _)
  · cases e; obtain rfl : v = _ := h; exact .base (.str _)
  · cases e
    obtain ⟨p, vs, rfl, hp, _, _⟩ := h
    rcases hp with (hp | ⟨o, hp⟩) | ⟨o, its, n, hk, hc, _⟩
    · exact .base (.tup hp)
    · exact .fTuple hp
    · exact .kTuple hk hc
  · cases e
    obtain ⟨p, vs, rfl, hp, _, _⟩ := h
    rcases hp with ⟨o, hp⟩ | ⟨o, its, n, hk, hc, _⟩
    · exact .base (.frz hp)
    · exact .kList hk hc
  · obtain ⟨hn, rfl⟩ := h
    split at e
    · rename_i ds hS
      cases e
      obtain ⟨vs, ev, _, _⟩ := r.at_ _ _ hS
      exact .base (.lst ev)
    · rename_i ds hS
      cases e
      obtain ⟨vs, ev, _, _⟩ := r.at_ _ _ hS
      exact .base (.dK ev)
    · cases e
  · cases e
theorem c_isi {X : Cx} : CallR X (.builtin "isinstance") (rdC X.K X.mg dIsi) := by
  intro pins s σ H xs us Q I rx ⟨m, S, ds, r, rs, sa⟩
  unfold dIsi at sa
  split at sa
  · rename_i d T
    obtain ⟨v, r', rfl, h1, w, r2, rfl, h2, e⟩ := rs
    obtain rfl : r2 = [] := e
    obtain rfl : w = .ty T := h2
    cases ht : tyOf S d with
    | none => rw [ht] at sa; exact sa.elim
    | some t =>
      rw [ht] at sa
      cases hk : kitB t T with
      | none => rw [show ((some t).bind fun t => kitB t T) = none from hk] at sa; exact sa.elim
      | some b =>
        rw [show ((some t).bind fun t => kitB t T) = some b from hk] at sa
        exact call_isi pins s σ H _ us Q I rx ⟨v, .ty T, .type t, .type T, b, rfl, .ty T, tyOf_rep r h1 ht, kit_ty hk, sa.here r rfl⟩
  · exact sa.elim

/-! ### methods of built-in types by values -/
abbrev OpM := D → List D → Sto → Option (D × Sto)
def rdM (K : PySem.W.Frag) (mg : Str → Option Value) (g : OpM) : V → List V → Hp → VK → Prop := fun x xs H Q => ∃ m S d ds, SRel K mg m S H ∧ Rep K m S.length H d x ∧ RepL K m S.length H ds xs ∧ Sat K mg wNo [] m S H (Rep K) Q (ofO (g d ds S))
/-- of that built-in type -/
def isTy (T : String) (d : D) (S : Sto) : Bool := match d with
  | .a (.str _) => T == "str"
  | .ils _ => T == "list"
  | .cel n => match S[n]? with
    | some (.lst _) => T == "list"
    | some (.dic _) => T == "dict"
    | _ => false
  | _ => false
def eMeth (T : String) (g : OpM) (fo : EX) (fa : AX) : EX := fun env S => (fo env S).bind fun d S1 => bif isTy T d S1 then (fa env S1).bind fun ds S2 => ofO (g d ds S2) else .bad
theorem isTy_rep {K : PySem.W.Frag} {mg : Str → Option Value} {m : Nat → Addr} {S : Sto} {H : Hp} (r : SRel K mg m S H) {d : D} {v : V} {T : String} (h : Rep K m S.length H d v) (e : isTy T d S = true) : tyV K T v H := by
  unfold isTy at e
  split at e
  · obtain rfl : v = _ := h; exact beq_iff_eq.mp e
  · obtain ⟨p, vs, rfl, hp, _, _⟩ := h
    exact .inl ⟨beq_iff_eq.mp e, vs, ils_sq hp⟩
  · obtain ⟨hn, rfl⟩ := h
    split at e
    · rename_i ds hS
      obtain ⟨vs, ev, _, _⟩ := r.at_ _ _ hS
      exact .inl ⟨beq_iff_eq.mp e, vs, SqL.of ev⟩
    · rename_i ds hS
      obtain ⟨vs, ev, _, _⟩ := r.at_ _ _ hS
      exact .inr (.inr (.inl ⟨beq_iff_eq.mp e, .inl ⟨vs, ev⟩⟩))
    · cases e
  · cases e
section
variable {X : Cx} {W : WX} {pin : Option (Nat × Addr)} {apos cpos : Pos} {o e : Expr} {es : List Expr} {fo : EX} {fa : AX} {T id : String} {name : Str} {g : OpM}
theorem ge_bm (pa : PlainAttrs T) (slot : Slot T name id) (hty : typeOf (.builtin id) = pure (.type "method_descriptor")) (hm : MtR X id (rdM X.K X.mg g)) (ho : GE X W pin o fo) (ha : GA X W pin (e :: es) fa)
    (hbase : attributeBase o name X.env (eval o X.env) = eval o X.env := by rfl)
    (hfew : ((backTo cpos (starEach (e :: es) X.env)).all (fun x => !x.1) && (backToKw cpos (keywordEach [] X.env)).all (fun x => x.1.isSome)
      && decide ((e :: es).length + ([] : List Keyword).length + (if ([] : List Keyword).isEmpty then 0 else 1) < 30)) = true := by rfl)
    (hline : (apos.endLine == cpos.line) = true := by rfl) (hs : starEach (e :: es) X.env = (false, eval e X.env) :: starEach es X.env := by rfl) (hplain : (backTo cpos (starEach es X.env)).any (·.1) = false := by rfl) :
    GE X W pin (.Call (.Attribute o name apos) (e :: es) [] cpos) (eMeth T g fo fa) :=
  PE.weak (pe_bm pa slot hty hm ho ha.run hbase hfew hline hs hplain) fun σ H Q ⟨m, env, S, E, r, s⟩ => rdE_bind E r s fun x H1 m1 S1 d p1 E1 r1 rd s1 => by
    cases ht : isTy T d S1 with
    | false => rw [ht] at s1; exact s1.elim
    | true =>
      rw [ht] at s1
      exact ⟨isTy_rep r1 rd ht, rdA_bind E1 r1 s1 fun xs H2 m2 S2 ds p2 E2 r2 rs s2 => ⟨m2, S2, d, ds, r2, (p2.keep r1).rep _ _ rd, rs, s2.wish ofO_exc⟩⟩
theorem ge_bm0 (pa : PlainAttrs T) (slot : Slot T name id) (hty : typeOf (.builtin id) = pure (.type "method_descriptor")) (hm : MtR X id (rdM X.K X.mg g)) (ho : GE X W pin o fo)
    (hbase : attributeBase o name X.env (eval o X.env) = eval o X.env := by rfl) (hline : (apos.endLine == cpos.line) = true := by rfl) : GE X W pin (.Call (.Attribute o name apos) [] [] cpos) (eMeth T g fo aNil) :=
  PE.weak (pe_bm0 pa slot hty hm ho hbase hline) fun σ H Q ⟨m, env, S, E, r, s⟩ => rdE_bind E r s fun x H1 m1 S1 d p1 E1 r1 rd s1 => by
    cases ht : isTy T d S1 with
    | false => rw [ht] at s1; exact s1.elim
    | true =>
      rw [ht] at s1
      exact ⟨isTy_rep r1 rd ht, m1, S1, d, [], r1, rd, rfl, s1.wish ofO_exc⟩
end
/-- a list's own change -/
def dAppend : OpM := fun d xs S => match d, xs with
  | .cel n, [e] => match S[n]? with
    | some (.lst ds) => if ds.length < sizeLine then some (.a .non, S.set n (.lst (ds ++ [e]))) else none
    | _ => none
  | _, _ => none
def dPop : OpM := fun d xs S => match d, xs with
  | .cel n, [] => match S[n]? with
    | some (.lst ds) => match ds[ds.length - 1]? with
      | some e => some (e, S.set n (.lst ds.dropLast))
      | none => none
    | _ => none
  | _, _ => none
def dReverse : OpM := fun d xs S => match d, xs with
  | .cel n, [] => match S[n]? with
    | some (.lst ds) => some (.a .non, S.set n (.lst ds.reverse))
    | _ => none
  | _, _ => none
def dExtend : OpM := fun d xs S => match d, xs with
  | .cel n, [.cel k] => match S[n]?, S[k]? with
    | some (.lst ds), some (.lst es) => if ds.length + es.length ≤ sizeLine then some (.a .non, S.set n (.lst (ds ++ es))) else none
    | _, _ => none
  | _, _ => none
section
variable {K : PySem.W.Frag} {mg : Str → Option Value} {m : Nat → Addr} {S : Sto} {H : Hp} {X : Cx}
/-- a list written -/
theorem Post.wlst {n : Nat} {ds : List D} {vs : List V} (r : SRel K mg m S H) (hn : n < S.length) (hz : vs.length ≤ sizeLine) (rv : RepL K m S.length H ds vs) : Post K mg m S H m (S.set n (.lst ds)) (upd H (m n) (.lst vs)) := by
  refine Post.write r hn ⟨vs, upd_same, hz, ?_⟩
  have k : Keep m S.length H m S.length (upd H (m n) (.lst vs)) := ⟨Nat.le_refl _, fun _ _ => rfl, fun q u h hc => by
    rw [upd_ne fun e => r.apart h hc n hn e.symm]
    exact h⟩
  exact k.repL _ _ rv
theorem dropLast_rep {K : PySem.W.Frag} {m : Nat → Addr} {N : Nat} {H : Hp} {ds : List D} {vs : List V} (r : RepL K m N H ds vs) : RepL K m N H ds.dropLast vs.dropLast := by
  rw [List.dropLast_eq_take, List.dropLast_eq_take, r.len]
  exact r.take _
theorem m_append : MtR X "list.append" (rdM X.K X.mg dAppend) := by
  intro pins s σ H x xs v us Q I rx rs ⟨m, S, d, ds, r, hd, hs, sa⟩
  unfold dAppend at sa
  split at sa
  · rename_i n e
    obtain ⟨hn, rfl⟩ := hd
    obtain ⟨w, r2, rfl, h1, e2⟩ := hs
    obtain rfl : r2 = [] := e2
    split at sa
    · rename_i ds' hS
      obtain ⟨vs, ev, hz, rv⟩ := r.at_ _ _ hS
      split at sa
      · rename_i hl
        have hl' : vs.length < sizeLine := by rw [rv.len]; exact hl
        refine mt_append pins s σ H _ _ v us Q I rx rs ⟨_, vs, w, rfl, rfl, ev, hl', ?_⟩
        exact sa.ok (Post.wlst r hn (by rw [List.length_append]; exact hl') (rv.append (RepL.one h1))) rfl
      · exact sa.elim
    · exact sa.elim
  · exact sa.elim
theorem m_pop : MtR X "list.pop" (rdM X.K X.mg dPop) := by
  intro pins s σ H x xs v us Q I rx rs ⟨m, S, d, ds, r, hd, hs, sa⟩
  unfold dPop at sa
  split at sa
  · rename_i n
    obtain ⟨hn, rfl⟩ := hd
    obtain rfl : xs = [] := hs
    split at sa
    · rename_i ds' hS
      obtain ⟨vs, ev, hz, rv⟩ := r.at_ _ _ hS
      split at sa
      · rename_i e he
        obtain ⟨w, h1, h2⟩ := rv.get he
        have p1 := Post.wlst r hn (vs := vs.dropLast) (by rw [List.length_dropLast]; omega) (dropLast_rep rv)
        refine mt_pop pins s σ H _ _ v us Q I rx rs ⟨_, vs, w, rfl, rfl, ev, by rw [rv.len]; exact h1, ?_⟩
        exact sa.ok p1 ((p1.keep r).rep _ _ h2)
      · exact sa.elim
    · exact sa.elim
  · exact sa.elim
theorem m_reverse : MtR X "list.reverse" (rdM X.K X.mg dReverse) := by
  intro pins s σ H x xs v us Q I rx rs ⟨m, S, d, ds, r, hd, hs, sa⟩
  unfold dReverse at sa
  split at sa
  · rename_i n
    obtain ⟨hn, rfl⟩ := hd
    obtain rfl : xs = [] := hs
    split at sa
    · rename_i ds' hS
      obtain ⟨vs, ev, hz, rv⟩ := r.at_ _ _ hS
      refine mt_reverse pins s σ H _ _ v us Q I rx rs ⟨_, vs, rfl, rfl, ev, ?_⟩
      exact sa.ok (Post.wlst r hn (by rw [List.length_reverse]; exact hz) rv.reverse) rfl
    · exact sa.elim
  · exact sa.elim
theorem m_extend : MtR X "list.extend" (rdM X.K X.mg dExtend) := by
  intro pins s σ H x xs v us Q I rx rs ⟨m, S, d, ds, r, hd, hs, sa⟩
  unfold dExtend at sa
  split at sa
  · rename_i n k
    obtain ⟨hn, rfl⟩ := hd
    obtain ⟨w, r2, rfl, ⟨hk, rfl⟩, e2⟩ := hs
    obtain rfl : r2 = [] := e2
    split at sa
    · rename_i ds' es' hS hT
      obtain ⟨vs, ev, hz, rv⟩ := r.at_ _ _ hS
      obtain ⟨ws, ew, hy, rw'⟩ := r.at_ _ _ hT
      split at sa
      · rename_i hl
        have hl' : vs.length + ws.length ≤ sizeLine := by rw [rv.len, rw'.len]; exact hl
        refine mt_extend pins s σ H _ _ v us Q I rx rs ⟨_, _, vs, ws, rfl, rfl, ev, ew, hl', ?_⟩
        exact sa.ok (Post.wlst r hn (by rw [List.length_append]; exact hl') (rv.append rw')) rfl
      · exact sa.elim
    · exact sa.elim
  · exact sa.elim
end

/-! ### targets -/
abbrev TgX := D → Slots → Sto → Option (Slots × Sto)
/-- all slots but those at ws are as they were -/
def Agree (ws : List Nat) (σ σ' : L2.St) : Prop := σ'.length = σ.length ∧ ∀ j, j ∉ ws → σ'[j]? = σ[j]?
theorem Agree.refl {ws : List Nat} {σ : L2.St} : Agree ws σ σ := ⟨rfl, fun _ _ => rfl⟩
theorem Agree.app {ws us : List Nat} {σ σ1 σ2 : L2.St} (a : Agree ws σ σ1) (b : Agree us σ1 σ2) : Agree (ws ++ us) σ σ2 :=
  ⟨b.1.trans a.1, fun j hj => (b.2 j fun h => hj (List.mem_append_right _ h)).trans (a.2 j fun h => hj (List.mem_append_left _ h))⟩
def rdG1 (K : PySem.W.Frag) (mg : Str → Option Value) (pin : Option (Nat × Addr)) (t : TgX) (ws : List Nat) : TG := fun v σ H Q => ∃ m d env S, SlotsOk K pin m S.length H env σ ∧ SRel K mg m S H ∧ Rep K m S.length H d v ∧ match t d env S with
  | some (env', S') => ∀ m' H' σ', Post K mg m S H m' S' H' → SlotsOk K pin m' S'.length H' env' σ' → Agree ws σ σ' → Q σ' H'
  | none => False
def rdGs (K : PySem.W.Frag) (mg : Str → Option Value) (pin : Option (Nat × Addr)) (t : List D → Slots → Sto → Option (Slots × Sto)) (ws : List Nat) : TGs := fun vs σ H Q => ∃ m ds env S, SlotsOk K pin m S.length H env σ ∧ SRel K mg m S H ∧ RepL K m S.length H ds vs ∧ match t ds env S with
  | some (env', S') => ∀ m' H' σ', Post K mg m S H m' S' H' → SlotsOk K pin m' S'.length H' env' σ' → Agree ws σ σ' → Q σ' H'
  | none => False
def GG (X : Cx) (pin : Option (Nat × Addr)) (tg : Expr) (t : TgX) (ws : List Nat) : Prop := PG X tg (rdG1 X.K X.mg pin t ws)
def GGs (X : Cx) (pin : Option (Nat × Addr)) (tg : List Expr) (t : List D → Slots → Sto → Option (Slots × Sto)) (ws : List Nat) : Prop := PGs X tg (rdGs X.K X.mg pin t ws)
theorem PG.weak {X : Cx} {tg : Expr} {t t' : TG} (h : PG X tg t) (w : ∀ v σ H Q, t' v σ H Q → t v σ H Q) : PG X tg t' := ⟨fun pins s σ H v u Q I r q => h.run pins s σ H v u Q I r (w _ _ _ _ q)⟩
theorem PGs.weak {X : Cx} {tg : List Expr} {t t' : TGs} (h : PGs X tg t) (w : ∀ v σ H Q, t' v σ H Q → t v σ H Q) : PGs X tg t' := ⟨fun pins s σ H v u Q I r q => h.run pins s σ H v u Q I r (w _ _ _ _ q)⟩
def gN (i : Nat) : TgX := fun d env S => some (env.set i (some d), S)
def gsNil : List D → Slots → Sto → Option (Slots × Sto) := fun ds env S => match ds with
  | [] => some (env, S)
  | _ => none
def gsCons (t : TgX) (u : List D → Slots → Sto → Option (Slots × Sto)) : List D → Slots → Sto → Option (Slots × Sto) := fun ds env S => match ds with
  | d :: r => match t d env S with
    | some (env', S') => u r env' S'
    | none => none
  | [] => none
def gT (n : Nat) (u : List D → Slots → Sto → Option (Slots × Sto)) : TgX := fun d env S => match itemsOf S d with
  | some ds => if ds.length = n then u ds env S else none
  | none => none
section
variable {X : Cx} {pin : Option (Nat × Addr)} {pos : Pos}
theorem gg_name {i : Nat} {x : Str} (hN : X.N.Nodup) (hi : X.N[i]? = some x) (hx : Loc X.env.scope x) (hp : ∀ p, pin ≠ some (i, p) := by first | exact fun _ z => nomatch z | (intro p z; injection z with z; injection z with z _; revert z; decide)) (hf : X.fn x = true ∨ X.env.scope.names.lookup x = some .local := by first | exact .inl rfl | exact .inr rfl | assumption) : GG X pin (.Name x pos) (gN i) [i] :=
  PG.weak (pg_name hN hi hx hf) fun v σ H Q ⟨m, d, env, S, E, r, rd, q⟩ => q m H _ (Post.refl r) (E.set rd hp) ⟨by rw [List.length_set], fun j hj => by rw [List.getElem?_set_ne fun e => hj (by rw [e]; exact List.mem_singleton.mpr rfl)]⟩
theorem ggs_nil : GGs X pin [] gsNil [] := PGs.weak pgs_nil fun vs σ H Q ⟨m, ds, env, S, E, r, rd, q⟩ => by
  unfold gsNil at q
  split at q
  · rename_i e' S' hq
    split at hq
    · cases hq
      exact ⟨rd, q m H σ (Post.refl r) E Agree.refl⟩
    · cases hq
  · exact q.elim
theorem ggs_cons {e : Expr} {es : List Expr} {t : TgX} {u : List D → Slots → Sto → Option (Slots × Sto)} {ws us : List Nat} (h1 : GG X pin e t ws) (h2 : GGs X pin es u us)
    (hs : (assignEach (e :: es) X.env).map (·.2) = assign e X.env :: (assignEach es X.env).map (·.2) := by rfl) : GGs X pin (e :: es) (gsCons t u) (ws ++ us) :=
  PGs.weak (pgs_cons h1 h2 hs) fun vs σ H Q ⟨m, ds, env, S, E, r, rd, q⟩ => by
    cases ds with
    | nil => exact q.elim
    | cons d ds =>
      obtain ⟨v, r', rfl, hd, hr⟩ := rd
      refine ⟨v, r', rfl, m, d, env, S, E, r, hd, ?_⟩
      have q' : match (match t d env S with | some (env', S') => u ds env' S' | none => none) with
        | some (env', S') => ∀ m' H' σ', Post X.K X.mg m S H m' S' H' → SlotsOk X.K pin m' S'.length H' env' σ' → Agree (ws ++ us) σ σ' → Q σ' H'
        | none => False := q
      cases ht : t d env S with
      | none => rw [ht] at q'; exact q'.elim
      | some w =>
        obtain ⟨env1, S1⟩ := w
        rw [ht] at q'
        intro m1 H1 σ1 p1 E1 a1
        refine ⟨m1, ds, env1, S1, E1, p1.rel, (p1.keep r).repL _ _ hr, ?_⟩
        dsimp only at q'
        cases hu : u ds env1 S1 with
        | none => rw [hu] at q'; exact q'.elim
        | some w2 =>
          obtain ⟨env2, S2⟩ := w2
          rw [hu] at q'
          exact fun m' H' σ' p' E' a' => q' m' H' σ' (p1.trans p') E' (a1.app a')
theorem pg_either {es : List Expr} {k : Nat} {t : TGs} {n : Nat} (h1 : PG X (.Tuple es k pos) (gTup X.K n t)) (h2 : PG X (.Tuple es k pos) (gLst X.K n t)) : PG X (.Tuple es k pos) (fun v σ H Q => ∃ a xs, v = .ref a ∧ (SqL X.K H a xs ∨ SqT X.K H a xs) ∧ xs.length = n ∧ t xs σ H Q) := by
  refine ⟨fun pins s σ H v u Q I r ⟨a, xs, e, hq, hl, q⟩ => ?_⟩
  rcases hq with hq | hq
  · exact h2.run pins s σ H v u Q I r ⟨a, xs, e, hq, hl, q⟩
  · exact h1.run pins s σ H v u Q I r ⟨a, xs, e, hq, hl, q⟩
theorem gg_tup {es : List Expr} {k : Nat} {n : Nat} {u : List D → Slots → Sto → Option (Slots × Sto)} {ws : List Nat} (hc : X.calm = true) (h : GGs X pin es u ws)
    (hn : (assignEach es X.env).length = n := by rfl) (hst : (assignEach es X.env).findIdx? (·.1) = none := by rfl) : GG X pin (.Tuple es k pos) (gT n u) ws :=
  PG.weak (pg_either (pg_tup hc h hn hst) (pg_lst hc h hn hst)) fun v σ H Q ⟨m, d, env, S, E, r, rd, q⟩ => by
    unfold gT at q
    cases hi : itemsOf S d with
    | none => rw [hi] at q; exact q.elim
    | some ds =>
      rw [hi] at q
      dsimp only at q
      obtain ⟨p, vs, rfl, hp, hz, rv⟩ := items_rep r rd hi
      by_cases hl : ds.length = n
      · rw [if_pos hl] at q
        exact ⟨p, vs, rfl, hp, by rw [rv.len]; exact hl, m, ds, env, S, E, r, rv, q⟩
      · rw [if_neg hl] at q
        exact q.elim
end

/-! ### assignments to targets, to items -/
def sAsg (f : EX) (t : TgX) : SX := fun env S => (f env S).then env fun d S1 => match t d env S1 with
  | some (env', S') => .nx env' S'
  | none => .bad
/-- o[i] = v: a list, a dict -/
def dPut (o i v : D) (S : Sto) : Option Sto := match o with
  | .cel n => match S[n]? with
    | some (.lst ds) => match i with
      | .a (.int k) => match ixN ds.length k with
        | some j => some (S.set n (.lst (ds.set j v)))
        | none => none
      | _ => none
    | some (.dic kvs) => match keyOf i with
      | some k => if kvs.length < sizeLine then some (S.set n (.dic (setK kvs k v))) else none
      | none => none
    | _ => none
  | _ => none
def sPut (fv fo fi : EX) : SX := fun env S => (fv env S).then env fun v S1 => (fo env S1).then env fun o S2 => (fi env S2).then env fun i S3 => match dPut o i v S3 with
  | some S4 => .nx env S4
  | none => .bad
section
variable {X : Cx} {W : WX} {pin : Option (Nat × Addr)} {pos pos' : Pos}
theorem gs_asg {tg e : Expr} {f : EX} {t : TgX} {ws : List Nat} (he : GE X W pin e f) (hg : GG X pin tg t ws) (hs : swapsWithSole [tg] e pos.line X.env = pure false := by rfl) (hw : swappedStores [tg] e X.env = pure none := by rfl)
    (h1 : (assignEach [tg] X.env).map (·.2) = [assign tg X.env] := by rfl) : GS X W pin (.Assign [tg] e pos) (sAsg f t) :=
  PS.weak (ps_asg he hg hs hw h1) fun E σ H ⟨m, env, S, E0, r, s⟩ => by
    refine ⟨m, env, S, E0, r, (SSat.then (Rl := Rep X.K) E0 r s).mono fun y H1 ⟨m1, S1, d, p, e1, rd, s1⟩ => ?_⟩
    refine ⟨m1, d, env, S1, e1, p.rel, rd, ?_⟩
    cases ht : t d env S1 with
    | none => rw [ht] at s1; exact s1.elim
    | some w =>
      obtain ⟨env', S'⟩ := w
      rw [ht] at s1
      exact fun m' H' σ' p' e' _ => s1 m' H' σ' p' e'
theorem len_put {κ : Type} [DecidableEq κ] {kvs : List (κ × V)} {k : κ} {v : V} : (putK kvs k v).length ≤ kvs.length + 1 := by
  unfold putK
  split
  · rw [List.length_map]; omega
  · rw [List.length_append]; exact Nat.le_refl _
/-- the reading of a store -/
def rdPut (K : PySem.W.Frag) (mg : Str → Option Value) : TSet := fun o i v H Q => ∃ m S d e w, SRel K mg m S H ∧ Rep K m S.length H d o ∧ Rep K m S.length H e i ∧ Rep K m S.length H w v ∧ match dPut d e w S with
  | some S' => ∀ m' H', Post K mg m S H m' S' H' → Q H'
  | none => False
theorem p_put (hu : X.A.units + 1 < cLine) : PSet X (rdPut X.K X.mg) := by
  intro pins s σ H o i v ov iv u Q I ro ri rv ⟨m, S, d, e, w, r, hd, he, hw, q⟩
  unfold dPut at q
  cases d with
  | cel n =>
    obtain ⟨hn, rfl⟩ := hd
    dsimp only at q
    cases hS : S[n]? with
    | none => rw [hS] at q; exact q.elim
    | some c =>
      rw [hS] at q
      cases c with
      | lst ds =>
        dsimp only at q
        obtain ⟨vs, ev, hz, rvs⟩ := r.at_ _ _ hS
        cases e with
        | a x =>
          cases x with
          | int k =>
            dsimp only at q
            obtain rfl := rep_int he
            cases hj : ixN ds.length k with
            | none => rw [hj] at q; exact q.elim
            | some j =>
              rw [hj] at q
              refine set_list pins s σ H _ _ v ov iv u Q I ro ri rv ⟨_, vs, k, j, rfl, rfl, ev, by rw [rvs.len]; exact hj, ?_⟩
              exact q m _ (Post.wlst r hn (by rw [List.length_set]; exact hz) (rvs.set j hw))
          | _ => exact q.elim
        | _ => exact q.elim
      | dic kvs =>
        dsimp only at q
        obtain ⟨ws, ev, hz, rvs⟩ := r.at_ _ _ hS
        cases hk : keyOf e with
        | none => rw [hk] at q; exact q.elim
        | some k =>
          rw [hk] at q
          dsimp only at q
          by_cases hl : kvs.length < sizeLine
          · rw [if_pos hl] at q
            obtain rfl := keyOf_rep he hk
            have hl' : ws.length < sizeLine := by rw [rvs.len]; exact hl
            have kp : Keep m S.length H m S.length (upd H (m n) (.dK (putK ws k v))) := ⟨Nat.le_refl _, fun _ _ => rfl, fun q u h hc => by
              rw [upd_ne fun e => r.apart h hc n hn e.symm]
              exact h⟩
            have p1 := Post.write (c := .dic (setK kvs k w)) r hn (o := .dK (putK ws k v)) ⟨_, upd_same, Nat.le_trans len_put hl', kp.repP _ _ (setK_rep hw rvs)⟩
            obtain rfl : ov = Value.ref _ := ro
            exact d_setItem hu I (DPut.k ev hl') ri rv fun s' I' => ⟨_, I', q m _ p1⟩
          · rw [if_neg hl] at q; exact q.elim
      | _ => exact q.elim
  | _ => exact q.elim
theorem gs_put (hu : X.A.units + 1 < cLine) {o i e : Expr} {fo fi fv : EX} (hv : GE X W pin e fv) (ho : GE X W pin o fo) (hi : GE X W pin i fi) (hs : swapsWithSole [.Subscript o i pos'] e pos.line X.env = pure false := by rfl) (hw : swappedStores [.Subscript o i pos'] e X.env = pure none := by rfl)
    (h1 : (assignEach [.Subscript o i pos'] X.env).map (·.2) = [assign (.Subscript o i pos') X.env] := by rfl)
    (ha : ∀ v, assign (.Subscript o i pos') X.env v = (do
      let ov ← holding [v] (eval o X.env)
      let iv ← holding [v, ov] (eval i X.env)
      standAt pos'
      holding [v, ov, iv] (setItem ov iv v)
      release [v, ov, iv] []) := by intro _; rfl) : GS X W pin (.Assign [.Subscript o i pos'] e pos) (sPut fv fo fi) :=
  PS.weak (ps_asg hv (pg_sub ho hi (p_put hu) ha) hs hw h1) fun E σ H ⟨m, env, S, E0, r, s⟩ => by
    refine ⟨m, env, S, E0, r, (SSat.then (Rl := Rep X.K) E0 r s).mono fun y H1 ⟨m1, S1, v, p1, e1, rv, s1⟩ => ?_⟩
    refine ⟨m1, env, S1, e1, p1.rel, (SSat.then (Rl := Rep X.K) e1 p1.rel s1).mono fun y2 H2 ⟨m2, S2, o, p2, e2, ro, s2⟩ => ?_⟩
    refine ⟨m2, env, S2, e2, p2.rel, (SSat.then (Rl := Rep X.K) e2 p2.rel s2).mono fun y3 H3 ⟨m3, S3, i, p3, e3, ri, s3⟩ => ?_⟩
    refine ⟨m3, S3, o, i, v, p3.rel, (p3.keep p2.rel).rep _ _ ro, ri, (p3.keep p2.rel).rep _ _ ((p2.keep p1.rel).rep _ _ rv), ?_⟩
    cases hq : dPut o i v S3 with
    | none => rw [hq] at s3; exact s3.elim
    | some S4 =>
      rw [hq] at s3
      exact fun m' H' p' => s3 m' H' σ p' (e3.keep (p'.keep p3.rel))
end
end G
set_option maxRecDepth 100000
/-! The layer G, part 6: what is walked; for, while, comprehensions; x op= e. -/
namespace G
open PySem PySem.Spec PyProof.Rows L2

/-- the list that is walked stands still -/
def held (g : Option Nat) (ds : List D) (S : Sto) : Prop := ∀ n, g = some n → S[n]? = some (.lst ds)
@[simp] theorem held_none (ds : List D) (S : Sto) : held none ds S ↔ True := ⟨fun _ => trivial, fun _ _ h => nomatch h⟩
@[simp] theorem held_some (n : Nat) (ds : List D) (S : Sto) : held (some n) ds S ↔ S[n]? = some (.lst ds) := ⟨fun h => h n rfl, fun h k e => by cases e; exact h⟩

/-- a walk gives these items -/
structure WalkOk (K : PySem.W.Frag) (mg : Str → Option Value) (J : It) (ds : List D) (g : Option Nat) (m : Nat → Addr) (S : Sto) (H : Hp) : Prop where
  go : ∀ m' S' H' i d, Post K mg m S H m' S' H' → held g ds S' → ds[i]? = some d → J.go i H' ∧ ∀ x H'', J.yld i H' x H'' → Same H' H'' ∧ Rep K m' S'.length H'' d x
  stop : ∀ m' S' H', Post K mg m S H m' S' H' → held g ds S' → J.stop ds.length H'
abbrev IX := Slots → Sto → R (List D × Option Nat)
def rdI (K : PySem.W.Frag) (mg : Str → Option Value) (W : WX) (pin : Option (Nat × Addr)) (f : IX) : TI := fun σ H Q => ∃ m env S, SlotsOk K pin m S.length H env σ ∧ SRel K mg m S H ∧ match f env S with
  | .ok w S' => ∀ m' H' J, Post K mg m S H m' S' H' → WalkOk K mg J w.1 w.2 m' S' H' → Q J H'
  | .exc e S' => ∀ m' H' cls d, Post K mg m S H m' S' H' → ExR K mg m' S'.length H' e cls d → W cls d σ H'
  | .bad => False
def GI (X : Cx) (W : WX) (pin : Option (Nat × Addr)) (tg iter : Expr) (f : IX) : Prop := PI X tg iter (rdI X.K X.mg W pin f)
theorem PI.weak {X : Cx} {tg iter : Expr} {t t' : TI} (h : PI X tg iter t) (w : ∀ σ H Q, t' σ H Q → t σ H Q) : PI X tg iter t' := ⟨fun pins s σ H Q I q => h.run pins s σ H Q I (w _ _ _ q)⟩

/-- the items of a sequence, and the cell that must stand still -/
def walkOf (S : Sto) : D → Option (List D × Option Nat)
  | .tup ds => some (ds, none)
  | .ils ds => some (ds, none)
  | .cel n => match S[n]? with
    | some (.lst ds) => some (ds, some n)
    | _ => none
  | _ => none
def iSeq (f : EX) : IX := fun env S => (f env S).bind fun d S1 => match walkOf S1 d with
  | some w => .ok w S1
  | none => .bad
def iTmp (f : AX) : IX := fun env S => (f env S).bind fun ds S1 => .ok (ds, none) S1
def rangeL (lo : Int) (n : Nat) : List D := (List.range n).map fun i => .a (.int (lo + (i : Nat)))
def iR1 (f : EX) : IX := fun env S => (f env S).bind fun d S1 => match d with
  | .a (.int j) => if -(2 ^ 62) ≤ j ∧ j < 2 ^ 62 then .ok (rangeL 0 j.toNat, none) S1 else .bad
  | _ => .bad
def iR2 (f g : EX) : IX := fun env S => (f env S).bind fun d S1 => (g env S1).bind fun e S2 => match d, e with
  | .a (.int i), .a (.int j) => if -(2 ^ 62) ≤ i ∧ i < 2 ^ 62 ∧ -(2 ^ 62) ≤ j ∧ j < 2 ^ 62 then .ok (rangeL i (j - i).toNat, none) S2 else .bad
  | _, _ => .bad
theorem rangeL_get {lo : Int} {n i : Nat} {d : D} (h : (rangeL lo n)[i]? = some d) : i < n ∧ d = .a (.int (lo + (i : Nat))) := by
  unfold rangeL at h
  rw [List.getElem?_map] at h
  by_cases hi : i < n
  · rw [List.getElem?_range hi] at h
    cases h
    exact ⟨hi, rfl⟩
  · rw [List.getElem?_eq_none (by rw [List.length_range]; omega)] at h
    cases h
theorem rangeL_len {lo : Int} {n : Nat} : (rangeL lo n).length = n := by unfold rangeL; rw [List.length_map, List.length_range]

section
variable {X : Cx} {W : WX} {pin : Option (Nat × Addr)} {tg l a b : Expr} {f g : EX} {fl : AX} {p pos : Pos}
theorem pi_either {tl : TE} (hl : PE X l tl) : PI X tg l (fun σ H R => tl σ H fun x H1 => ∃ q, x = .ref q ∧ (((∃ xs, SqL X.K H1 q xs) ∧ R (Itl X.K q) H1) ∨ ((∃ xs, SqT X.K H1 q xs) ∧ R (Itt X.K q) H1))) := by
  refine ⟨fun pins s σ H R I h => ?_⟩
  refine thn (hl.run pins s σ H _ I h) fun v s1 ⟨x, H1, I1, r1, q1⟩ => ?_
  obtain ⟨q, e, hq⟩ := q1
  subst e
  cases r1
  have fp : ∀ b ∈ [s1.heap.objs.size], FpOk X pins H1 b := fun b hb => by
    have e : b = s1.heap.objs.size := by simpa using hb
    subst e
    exact I1.fpOk (Nat.le_refl _) (I1.hok.fresh (Nat.le_refl _))
  rcases hq with ⟨⟨xs, hq⟩, q⟩ | ⟨⟨xs, hq⟩, q⟩
  · obtain ⟨its, rv, p, hz⟩ := I1.list hq
    exact wpAny_pyIter_list p.isList ⟨s1.heap.objs.size, [s1.heap.objs.size], _, _, H1, rfl, I1.kept (t' := s1.toks) fun b o e => Heap.get?_push_of_some _ e, turn_list _ _, ⟨_, Heap.get?_push_size _ rfl, rfl, rfl⟩, fp, q⟩
  · obtain ⟨its, rv, p, hz⟩ := I1.tuple hq
    exact wpAny_pyIter_tuple (show s1.heap.IsTuple _ its.toArray from p) ⟨s1.heap.objs.size, [s1.heap.objs.size], _, _, H1, rfl, I1.kept (t' := s1.toks) fun b o e => Heap.get?_push_of_some _ e, turn_tuple _ _, ⟨_, Heap.get?_push_size _ rfl, rfl, rfl⟩, fp, q⟩
theorem walk_listI {K : PySem.W.Frag} {mg : Str → Option Value} {m : Nat → Addr} {S : Sto} {H : Hp} {q : Addr} {ds : List D} {g : Option Nat} (h : ∀ m' S' H', Post K mg m S H m' S' H' → held g ds S' → ∃ vs, Rd H' q (.lst vs) ∧ RepL K m' S'.length H' ds vs) (inj : True := trivial)
    (hu : ∀ (m' : Nat → Addr) (S' : Sto) (H' : Hp) (vs ws : List V), Rd H' q (.lst vs) → SqL K H' q ws → ws = vs ∨ ∃ o, K.lookup q = some o) (nk : K.lookup q = none) : WalkOk K mg (Itl K q) ds g m S H where
  go := fun m' S' H' i d p hg hi => by
    obtain ⟨vs, hq, rv⟩ := h m' S' H' p hg
    obtain ⟨v, h1, h2⟩ := rv.get hi
    refine ⟨⟨vs, v, .inl hq, h1⟩, fun x H'' ⟨e, y⟩ => ?_⟩
    subst e
    refine ⟨Same.refl _, ?_⟩
    have e := y vs (.inl hq)
    rw [h1] at e
    cases e
    exact h2
  stop := fun m' S' H' p hg => by
    obtain ⟨vs, hq, rv⟩ := h m' S' H' p hg
    exact ⟨vs, .inl hq, Nat.le_of_eq rv.len⟩
theorem walk_sq {K : PySem.W.Frag} {mg : Str → Option Value} {m : Nat → Addr} {S : Sto} {H : Hp} {q : Addr} {ds : List D} {g : Option Nat} (h : ∀ m' S' H', Post K mg m S H m' S' H' → held g ds S' → ∃ vs, SqL K H' q vs ∧ RepL K m' S'.length H' ds vs) : WalkOk K mg (Itl K q) ds g m S H where
  go := fun m' S' H' i d p hg hi => by
    obtain ⟨vs, hq, rv⟩ := h m' S' H' p hg
    obtain ⟨v, h1, h2⟩ := rv.get hi
    refine ⟨⟨vs, v, hq, h1⟩, fun x H'' ⟨e, y⟩ => ?_⟩
    subst e
    have e := y vs hq
    rw [h1] at e
    cases e
    exact ⟨Same.refl _, h2⟩
  stop := fun m' S' H' p hg => by
    obtain ⟨vs, hq, rv⟩ := h m' S' H' p hg
    exact ⟨vs, hq, Nat.le_of_eq rv.len⟩
theorem walk_tup {K : PySem.W.Frag} {mg : Str → Option Value} {m : Nat → Addr} {S : Sto} {H : Hp} {q : Addr} {ds : List D} {g : Option Nat} (h : ∀ m' S' H', Post K mg m S H m' S' H' → ∃ vs, SqT K H' q vs ∧ RepL K m' S'.length H' ds vs) : WalkOk K mg (Itt K q) ds g m S H where
  go := fun m' S' H' i d p hg hi => by
    obtain ⟨vs, hq, rv⟩ := h m' S' H' p
    obtain ⟨v, h1, h2⟩ := rv.get hi
    refine ⟨⟨vs, v, hq, h1⟩, fun x H'' ⟨e, y⟩ => ?_⟩
    subst e
    have e := y vs hq
    rw [h1] at e
    cases e
    exact ⟨Same.refl _, h2⟩
  stop := fun m' S' H' p hg => by
    obtain ⟨vs, hq, rv⟩ := h m' S' H' p
    exact ⟨vs, hq, Nat.le_of_eq rv.len⟩
theorem gi_seq (he : GE X W pin l f) : GI X W pin tg l (iSeq f) := PI.weak (pi_either he) fun σ H Q ⟨m, env, S, E, r, s⟩ => by
  refine ⟨m, env, S, E, r, ?_⟩
  unfold iSeq at s
  cases hf : f env S with
  | bad => rw [hf] at s; exact s.elim
  | exc x S' => rw [hf] at s; exact s
  | ok d S1 =>
    rw [hf, R.bind_ok] at s
    intro m1 H1 x p1 rx
    unfold walkOf at s
    cases d with
    | tup ds =>
      obtain ⟨q, vs, rfl, hq, hz, rv⟩ := rx
      refine ⟨q, rfl, .inr ⟨⟨vs, hq⟩, s m1 H1 _ p1 (walk_tup fun m' S' H' p' => ?_)⟩⟩
      exact ⟨vs, (p'.keep p1.rel).sqT hq, (p'.keep p1.rel).repL _ _ rv⟩
    | ils ds =>
      obtain ⟨q, vs, rfl, hq, hz, rv⟩ := rx
      refine ⟨q, rfl, .inl ⟨⟨vs, ils_sq hq⟩, s m1 H1 _ p1 (walk_sq fun m' S' H' p' _ => ?_)⟩⟩
      exact ⟨vs, ils_sq ((p'.keep p1.rel).ils hq), (p'.keep p1.rel).repL _ _ rv⟩
    | cel n =>
      obtain ⟨hn, rfl⟩ := rx
      dsimp only at s
      cases hS : S1[n]? with
      | none => rw [hS] at s; exact s.elim
      | some c =>
        rw [hS] at s
        cases c with
        | lst ds =>
          obtain ⟨vs, ev, hz, rv⟩ := p1.rel.at_ _ _ hS
          refine ⟨_, rfl, .inl ⟨⟨vs, SqL.of ev⟩, s m1 H1 _ p1 (walk_sq fun m' S' H' p' hg => ?_)⟩⟩
          obtain ⟨ws, ew, _, rw'⟩ := p'.rel.at_ n _ (hg n rfl)
          rw [p'.ext n hn] at ew
          exact ⟨ws, SqL.of ew, rw'⟩
        | _ => exact s.elim
    | a v => exact s.elim
theorem gi_tmp (he : GL X W pin l fl) : GI X W pin tg l (iTmp fl) := PI.weak (pi_list he) fun σ H Q ⟨m, env, S, E, r, s⟩ => by
  refine ⟨m, env, S, E, r, ?_⟩
  unfold iTmp at s
  cases hf : fl env S with
  | bad => rw [hf] at s; exact s.elim
  | exc x S' => rw [hf] at s; exact s
  | ok ds S1 =>
    rw [hf, R.bind_ok] at s
    intro m1 H1 q vs p1 hn hq ap hz rv
    refine ⟨q, rfl, ⟨vs, SqL.of hq⟩, s m1 H1 _ p1 (walk_sq fun m' S' H' p' _ => ?_)⟩
    exact ⟨vs, SqL.of (p'.frame q _ hq ap), (p'.keep p1.rel).repL _ _ rv⟩
theorem walk_rng {K : PySem.W.Frag} {mg : Str → Option Value} {m : Nat → Addr} {S : Sto} {H : Hp} {lo : Int} {n : Nat} {g : Option Nat} : WalkOk K mg (Itr lo n) (rangeL lo n) g m S H where
  go := fun m' S' H' i d p hg hi => by
    obtain ⟨h1, rfl⟩ := rangeL_get hi
    refine ⟨h1, fun x H'' ⟨e, y⟩ => ?_⟩
    subst e
    exact ⟨Same.refl _, y⟩
  stop := fun m' S' H' p hg => by
    rw [rangeL_len]
    exact Nat.le_refl n
theorem gi_range1 (hg : Gl X "range") (hm : X.mg "range" = none) (ha : GE X W pin a f) (hs : starEach [a] X.env = [(false, eval a X.env)] := by rfl) (hs' : starEach [a] X.env = (false, eval a X.env) :: starEach [] X.env := by rfl) : GI X W pin tg (.Call (.Name "range" p) [a] [] pos) (iR1 f) :=
  PI.weak (pi_range1 hg hm (pa_cons ha pa_nil hs') hs) fun σ H Q ⟨m, env, S, E, r, s⟩ => by
    show rdE X.K X.mg W pin f σ H fun x H1 => tNil σ H1 fun xs H2 => _
    refine ⟨m, env, S, E, r, ?_⟩
    unfold iR1 at s
    cases hf : f env S with
    | bad => rw [hf] at s; exact s.elim
    | exc x S' => rw [hf] at s; exact s
    | ok d S1 =>
      rw [hf, R.bind_ok] at s
      intro m1 H1 x p1 rx
      split at s
      · rename_i w S' hw
        split at hw
        · rename_i j
          obtain rfl := rep_int rx
          split at hw
          · rename_i hj
            cases hw
            exact ⟨j, rfl, hj.1, hj.2, s m1 H1 _ p1 walk_rng⟩
          · cases hw
        · cases hw
      · rename_i e S' hw
        split at hw
        · split at hw <;> cases hw
        · cases hw
      · exact s.elim
theorem gi_range2 (hg : Gl X "range") (hm : X.mg "range" = none) (ha : GE X W pin a f) (hb : GE X W pin b g) (hs : starEach [a, b] X.env = [(false, eval a X.env), (false, eval b X.env)] := by rfl) (hs2 : starEach [b] X.env = [(false, eval b X.env)] := by rfl)
    (h1 : starEach [a, b] X.env = (false, eval a X.env) :: starEach [b] X.env := by rfl) (h2 : starEach [b] X.env = (false, eval b X.env) :: starEach [] X.env := by rfl) : GI X W pin tg (.Call (.Name "range" p) [a, b] [] pos) (iR2 f g) :=
  PI.weak (pi_range2 hg hm (pa_cons ha (pa_cons hb pa_nil h2) h1) hs hs2) fun σ H Q ⟨m, env, S, E, r, s⟩ => by
    show rdE X.K X.mg W pin f σ H fun x H1 => rdE X.K X.mg W pin g σ H1 fun y H2 => tNil σ H2 fun xs H3 => _
    refine ⟨m, env, S, E, r, ?_⟩
    unfold iR2 at s
    cases hf : f env S with
    | bad => rw [hf] at s; exact s.elim
    | exc x S' => rw [hf] at s; exact s
    | ok d S1 =>
      rw [hf, R.bind_ok] at s
      intro m1 H1 x p1 rx
      refine ⟨m1, env, S1, E.keep (p1.keep r), p1.rel, ?_⟩
      cases hg' : g env S1 with
      | bad => rw [hg'] at s; exact s.elim
      | exc x S' => rw [hg'] at s; exact fun m' H' c d p' q => s m' H' c d (p1.trans p') q
      | ok e S2 =>
        rw [hg', R.bind_ok] at s
        intro m2 H2 y p2 ry
        split at s
        · rename_i w S' hw
          split at hw
          · rename_i i j
            obtain rfl := rep_int rx
            obtain rfl := rep_int ry
            split at hw
            · rename_i hj
              cases hw
              exact ⟨i, j, rfl, hj, s m2 H2 _ (p1.trans p2) walk_rng⟩
            · cases hw
          · cases hw
        · rename_i e S' hw
          split at hw
          · split at hw <;> cases hw
          · cases hw
        · exact s.elim
end

/-! ### for -/
open Classical in
noncomputable def forGo (g : Option Nat) (all : List D) (t : TgX) (body : SX) : List D → Slots → Sto → SR
  | [], env, S => if held g all S then .nx env S else .bad
  | d :: r, env, S => if held g all S then match t d env S with
    | some (env', S') => match body env' S' with
      | .nx e s => forGo g all t body r e s
      | .ct e s => forGo g all t body r e s
      | .bk e s => .nx e s
      | .rt v s => .rt v s
      | .ex x e s => .ex x e s
      | .bad => .bad
    | none => .bad else .bad
noncomputable def sFor (it : IX) (t : TgX) (body : SX) : SX := fun env S => (it env S).then env fun w S1 => forGo w.2 w.1 t body w.1 env S1
def whileGo (c : BX) (body : SX) : Nat → Slots → Sto → SR
  | 0, _, _ => .bad
  | n + 1, env, S => (c env S).then env fun b S1 => bif b then (match body env S1 with
      | .nx e s => whileGo c body n e s
      | .ct e s => whileGo c body n e s
      | .bk e s => .nx e s
      | .rt v s => .rt v s
      | .ex x e s => .ex x e s
      | .bad => .bad) else .nx env S1
/-- at most 2^64 turns -/
def sWhile (c : BX) (body : SX) : SX := fun env S => whileGo c body (2 ^ 64) env S
section
variable {X : Cx} {W : WX} {pin : Option (Nat × Addr)} {pos : Pos}
theorem gs_for {tg iter : Expr} {body : List Stmt} {it : IX} {t : TgX} {ws : List Nat} {fb : SX} (hp : PassesOwn (model X.prog X.w) X.A X.env X.xe) (hc : X.calm = true) (hi : GI X W pin tg iter it) (hg : GG X pin tg t ws) (hb : GSs X W pin body fb)
    (hs : ∀ x, foldedSetIterable iter X.env x = pure x := by intro _; rfl) : GS X W pin (.For tg iter body [] pos) (sFor it t fb) :=
  PS.weak (ps_for hp hc hi hg hb hs) fun E σ H ⟨m, env, S, E0, r, s⟩ => by
    refine ⟨m, env, S, E0, r, ?_⟩
    unfold sFor at s
    cases hf : it env S with
    | bad => rw [hf] at s; exact s.elim
    | exc x S' => rw [hf] at s; exact fun m' H' c d p q => s m' H' σ c d p (E0.keep (p.keep r)) q
    | ok w S1 =>
      rw [hf, R.then_ok] at s
      obtain ⟨ds, gg⟩ := w
      intro m1 H1 J p1 wk
      have s1 := SSat.step p1 s
      have E1 := E0.keep (p1.keep r)
      refine ⟨fun i n σ' H' => n = ds.length - i ∧ i ≤ ds.length ∧ ∃ m' env' S', Post X.K X.mg m1 S1 H1 m' S' H' ∧ SlotsOk X.K pin m' S'.length H' env' σ' ∧ SSat X.K X.mg W pin E m' S' H' (forGo gg ds t fb (ds.drop i) env' S'),
        ⟨ds.length, rfl, Nat.zero_le _, m1, env, S1, Post.refl p1.rel, E1, s1⟩, ?_⟩
      rintro i n σ' H' ⟨rfl, hle, m', env', S', p', E', s'⟩
      by_cases hlt : i < ds.length
      · have hd : ds.drop i = ds[i] :: ds.drop (i + 1) := List.drop_eq_getElem_cons hlt
        rw [hd] at s'
        unfold forGo at s'
        by_cases hh : held gg ds S'
        · rw [if_pos hh] at s'
          obtain ⟨go, yl⟩ := wk.go m' S' H' i ds[i] p' hh (List.getElem?_eq_getElem hlt)
          refine .inr ⟨go, fun σ' H' => ds.length - (i + 1) = ds.length - (i + 1) ∧ i + 1 ≤ ds.length ∧ ∃ m' env' S', Post X.K X.mg m1 S1 H1 m' S' H' ∧ SlotsOk X.K pin m' S'.length H' env' σ' ∧ SSat X.K X.mg W pin E m' S' H' (forGo gg ds t fb (ds.drop (i + 1)) env' S'),
            fun σ2 H2 q => ⟨ds.length - (i + 1), by omega, q⟩, fun x H2 y => ?_⟩
          obtain ⟨sm, rx⟩ := yl x H2 y
          have p2 := Post.same p'.rel sm
          have s2 := SSat.step p2 s'
          refine ⟨m', ds[i], env', S', E'.keep (p2.keep p'.rel), p2.rel, rx, ?_⟩
          cases ht : t ds[i] env' S' with
          | none => rw [ht] at s2; exact s2.elim
          | some w2 =>
            obtain ⟨env3, S3⟩ := w2
            rw [ht] at s2
            intro m3 H3 σ3 p3 E3 _
            have s3 := SSat.step p3 s2
            refine ⟨m3, env3, S3, E3, p3.rel, ?_⟩
            have pp := (p'.trans p2).trans p3
            dsimp only at s3
            cases hbd : fb env3 S3 with
            | nx e4 S4 =>
              rw [hbd] at s3
              exact fun m4 H4 σ4 p4 E4 => ⟨rfl, hlt, m4, e4, S4, pp.trans p4, E4, SSat.step p4 s3⟩
            | ct e4 S4 =>
              rw [hbd] at s3
              exact fun m4 H4 σ4 p4 E4 => ⟨rfl, hlt, m4, e4, S4, pp.trans p4, E4, SSat.step p4 s3⟩
            | bk e4 S4 => rw [hbd] at s3; exact s3
            | rt v S4 => rw [hbd] at s3; exact s3
            | ex x4 e4 S4 => rw [hbd] at s3; exact s3
            | bad => rw [hbd] at s3; exact s3
        · rw [if_neg hh] at s'
          exact s'.elim
      · have e : i = ds.length := by omega
        subst e
        rw [List.drop_length] at s'
        unfold forGo at s'
        by_cases hh : held gg ds S'
        · rw [if_pos hh] at s'
          exact .inl ⟨wk.stop m' S' H' p' hh, s' m' H' σ' (Post.refl p'.rel) E'⟩
        · rw [if_neg hh] at s'
          exact s'.elim
theorem gs_while {c : Expr} {body : List Stmt} {fc : BX} {fb : SX} (hp : PassesOwn (model X.prog X.w) X.A X.env X.xe) (hc : GT X W pin c fc) (hb : GSs X W pin body fb) : GS X W pin (.While c body [] pos) (sWhile fc fb) :=
  PS.weak (ps_while hp hc hb) fun E σ H ⟨m, env, S, E0, r, s⟩ => by
    unfold sWhile at s
    refine ⟨fun n σ' H' => ∃ m' env' S', SlotsOk X.K pin m' S'.length H' env' σ' ∧ SRel X.K X.mg m' S' H' ∧ SSat X.K X.mg W pin E m' S' H' (whileGo fc fb n env' S'), ⟨2 ^ 64, m, env, S, E0, r, s⟩, ?_⟩
    rintro n σ' H' ⟨m', env', S', E', r', s'⟩
    cases n with
    | zero => exact s'.elim
    | succ n =>
      unfold whileGo at s'
      refine ⟨m', env', S', E', r', (SSat.then (Rl := relB) E' r' s').mono fun y H1 ⟨m1, S1, b, p1, e1, eb, s1⟩ => ?_⟩
      obtain rfl : y = b := eb
      cases y with
      | false => exact s1 m1 H1 σ' (Post.refl p1.rel) e1
      | true =>
        rw [if_pos rfl]
        refine ⟨fun σ2 H2 => ∃ m2 env2 S2, SlotsOk X.K pin m2 S2.length H2 env2 σ2 ∧ SRel X.K X.mg m2 S2 H2 ∧ SSat X.K X.mg W pin E m2 S2 H2 (whileGo fc fb n env2 S2), fun σ2 H2 q => ⟨n, Nat.lt_succ_self n, q⟩, m1, env', S1, e1, p1.rel, ?_⟩
        rw [cond_true] at s1
        cases hbd : fb env' S1 with
        | nx e4 S4 =>
          rw [hbd] at s1
          exact fun m4 H4 σ4 p4 E4 => ⟨m4, e4, S4, E4, p4.rel, SSat.step p4 s1⟩
        | ct e4 S4 =>
          rw [hbd] at s1
          exact fun m4 H4 σ4 p4 E4 => ⟨m4, e4, S4, E4, p4.rel, SSat.step p4 s1⟩
        | bk e4 S4 => rw [hbd] at s1; exact s1
        | rt v S4 => rw [hbd] at s1; exact s1
        | ex x4 e4 S4 => rw [hbd] at s1; exact s1
        | bad => rw [hbd] at s1; exact s1

def sBreak : SX := fun env S => .bk env S
def sCont : SX := fun env S => .ct env S
theorem gs_break : GS X W pin (.Break pos) sBreak := PS.weak ps_break fun E σ H ⟨m, env, S, E0, r, s⟩ => s m H σ (Post.refl r) E0
theorem gs_cont : GS X W pin (.Continue pos) sCont := PS.weak ps_continue fun E σ H ⟨m, env, S, E0, r, s⟩ => s m H σ (Post.refl r) E0
theorem gs_pass : GS X W pin (.Pass pos) sNil := PS.weak ps_pass fun E σ H ⟨m, env, S, E0, r, s⟩ => s m H σ (Post.refl r) E0
def sRetN : SX := fun _ S => .rt (.a .non) S
theorem gs_retN : GS X W pin (.Return none pos) sRetN := PS.weak ps_retN fun E σ H ⟨m, env, S, E0, r, s⟩ => s m H .non (Post.refl r) rfl

/-! ### x += e -/
def sAug (i : Nat) (g : Op2) (f : EX) : SX := fun env S => match env[i]? with
  | some (some x) => (f env S).then env fun y S1 => match g x y S1 with
    | some (z, S2) => .nx (env.set i (some z)) S2
    | none => .bad
  | _ => .bad
theorem ip_ints {op : Operator} {fi : Int → Int → Int} {g : Op2} (ho : PIp X op (ipI fi)) (hg : ∀ d e S r, g d e S = some r → ∃ i j, d = .a (.int i) ∧ e = .a (.int j) ∧ r = (.a (.int (fi i j)), S)) : PIp X op (rdO X.K X.mg g) := by
  intro pins s σ H x y v u Q I rx ry ⟨m, S, d, e, r, h1, h2, sa⟩
  cases hq : g d e S with
  | none => rw [hq] at sa; exact sa.elim
  | some w =>
    rw [hq] at sa
    obtain ⟨i, j, rfl, rfl, rfl⟩ := hg d e S w hq
    obtain rfl : x = .int i := h1
    obtain rfl : y = .int j := h2
    exact ho pins s σ H _ _ v u Q I rx ry ⟨i, j, rfl, rfl, sa.here r rfl⟩
def dAddI : Op2 := fun x y S => match x, y with
  | .a (.int i), .a (.int j) => some (.a (.int (i + j)), S)
  | _, _ => none
theorem ipo_add : PIp X .Add (rdO X.K X.mg dAddI) := ip_ints ip_add fun d e S r h => by
  unfold dAddI at h
  split at h
  · exact ⟨_, _, rfl, rfl, (Option.some.inj h).symm⟩
  · cases h
theorem ipo_sub : PIp X .Sub (rdO X.K X.mg dSub) := ip_ints ip_sub fun d e S r h => by
  unfold dSub at h
  split at h
  · exact ⟨_, _, rfl, rfl, (Option.some.inj h).symm⟩
  · cases h
theorem gs_aug {i : Nat} {x : Str} {e : Expr} {f : EX} {op : Operator} {g : Op2} {pos' : Pos} (hN : X.N.Nodup) (hi : X.N[i]? = some x) (hx : Loc X.env.scope x) (he : GE X W pin e f) (ho : PIp X op (rdO X.K X.mg g))
    (hp : ∀ p, pin ≠ some (i, p) := by first | exact fun _ z => nomatch z | (intro p z; injection z with z; injection z with z _; revert z; decide)) (hf : X.fn x = true ∨ X.env.scope.names.lookup x = some .local := by first | exact .inl rfl | exact .inr rfl | assumption) :
    GS X W pin (.AugAssign (.Name x pos') op e pos) (sAug i g f) := PS.weak (ps_aug hN hi hx he ho hf) fun E σ H ⟨m, env, S, E0, r, s⟩ => by
  unfold sAug at s
  split at s
  · rename_i d hd
    obtain ⟨v, h1, h2⟩ := E0.at_ i d hd
    refine ⟨v, h1, m, env, S, E0, r, (SSat.then (Rl := Rep X.K) E0 r s).mono fun y H1 ⟨m1, S1, e1, p1, E1, re, s1⟩ => ?_⟩
    refine ⟨m1, S1, d, e1, p1.rel, (p1.keep r).rep _ _ h2, re, ?_⟩
    cases hq : g d e1 S1 with
    | none => rw [hq] at s1; exact s1.elim
    | some w =>
      obtain ⟨z, S2⟩ := w
      rw [hq] at s1
      exact fun m2 H2 zv p2 rz => s1 m2 H2 _ p2 ((E1.keep (p2.keep p1.rel)).set rz hp)
  · exact s.elim
end

/-! ### list comprehensions -/
/-- an exception within a block is not served -/
def noX {α : Type} : R α → R α
  | .exc _ _ => .bad
  | r => r
@[simp] theorem noX_ok {α : Type} (x : α) (S : Sto) : noX (R.ok x S) = .ok x S := rfl
@[simp] theorem noX_bad {α : Type} : noX (R.bad : R α) = .bad := rfl
@[simp] theorem noX_exc {α : Type} (e : Exn) (S : Sto) : noX (R.exc e S : R α) = .bad := rfl
def wipeS (env : Slots) : List Nat → Slots
  | [] => env
  | v :: vs => (wipeS env vs).set v none
def tTrue : BX := fun _ S => .ok true S
open Classical in
noncomputable def lcGo (g : Option Nat) (all : List D) (t : TgX) (ifs : BX) (elt : EX) (env : Slots) : List D → Sto → R (List D)
  | [], S => if held g all S then .ok [] S else .bad
  | d :: r, S => if held g all S then match t d env S with
    | some (env', S') => (noX (ifs env' S')).bind fun b S2 => bif b then (noX (elt env' S2)).bind fun x S3 => (lcGo g all t ifs elt env r S3).bind fun xs S4 => .ok (x :: xs) S4 else lcGo g all t ifs elt env r S2
    | none => .bad else .bad
noncomputable def aLc (it : IX) (t : TgX) (vs : List Nat) (ifs : BX) (elt : EX) : AX := fun env S => (it env S).bind fun w S1 => if w.1.length ≤ sizeLine then lcGo w.2 w.1 t ifs elt (wipeS env vs) w.1 S1 else .bad
section
variable {K : PySem.W.Frag} {mg : Str → Option Value} {m m' : Nat → Addr} {S S' : Sto} {H H' : Hp}
/-- a new thing of ours is changed -/
theorem Post.poke (p : Post K mg m S H m' S' H') {q : Addr} {o u : HO} (hn : H q = none) (hq : H' q = some o) (hc : cellish o = true) (ap : ∀ i, i < S'.length → m' i ≠ q) : Post K mg m S H m' S' (upd H' q u) := by
  have k : Keep m' S'.length H' m' S'.length (upd H' q u) := ⟨Nat.le_refl _, fun _ _ => rfl, fun b w e hw => by
    rw [upd_ne fun z => by
      rw [z, hq] at e
      cases e
      rw [hc] at hw
      cases hw]
    exact e⟩
  refine ⟨⟨fun n c e => (p.rel.at_ n c e).mono k fun w e2 => ?_, p.rel.inj⟩, p.len, p.ext, fun b w e hb => ?_, p.fresh⟩
  · rw [upd_ne (ap n (List.getElem?_eq_some_iff.mp e).1)]
    exact e2
  · rw [upd_ne fun z => by rw [z, hn] at e; cases e]
    exact p.frame b w e hb
theorem SlotsOk.wipe {pin : Option (Nat × Addr)} {N : Nat} {env : Slots} {σ : L2.St} (e : SlotsOk K none m N H env σ) : ∀ vs : List Nat, SlotsOk K none m N H (wipeS env vs) (wipe σ vs)
  | [] => e
  | v :: vs => (SlotsOk.wipe (pin := pin) e vs).forget v none fun _ z => nomatch z
theorem wipe_at (σ : L2.St) (j : Nat) : ∀ vs : List Nat, (wipe σ vs)[j]? = if j ∈ vs then (if j < σ.length then some none else none) else σ[j]?
  | [] => by simp [wipe]
  | v :: vs => by
    unfold wipe
    by_cases hj : v = j
    · subst hj
      rw [if_pos List.mem_cons_self]
      by_cases hl : v < σ.length
      · rw [if_pos hl, List.getElem?_set_self (by rw [wipe_length]; exact hl)]
      · rw [if_neg hl, List.getElem?_eq_none (by rw [List.length_set, wipe_length]; omega)]
    · rw [List.getElem?_set_ne hj, wipe_at σ j vs]
      by_cases hm : j ∈ vs
      · rw [if_pos hm, if_pos (List.mem_cons_of_mem _ hm)]
      · rw [if_neg hm, if_neg fun h => (List.mem_cons.mp h).elim (fun e => hj e.symm) hm]
theorem wipe_agree {σ σ' : L2.St} {ws vs : List Nat} (a : Agree ws (wipe σ vs) σ') (hw : ∀ j ∈ ws, j ∈ vs) : wipe σ' vs = wipe σ vs := by
  have hl : σ'.length = σ.length := by rw [a.1, wipe_length]
  refine List.ext_getElem? fun j => ?_
  rw [wipe_at, wipe_at, hl]
  by_cases hm : j ∈ vs
  · rw [if_pos hm, if_pos hm]
  · rw [if_neg hm, if_neg hm, a.2 j fun h => hm (hw j h), wipe_at, if_neg hm]
theorem lcGo_cons {g : Option Nat} {all : List D} {t : TgX} {ifs : BX} {elt : EX} {env : Slots} {d : D} {r : List D} {xs : List D} {S Sf : Sto} (h : lcGo g all t ifs elt env (d :: r) S = .ok xs Sf) :
    held g all S ∧ ∃ env' S' b S2, t d env S = some (env', S') ∧ ifs env' S' = .ok b S2 ∧ ((b = true ∧ ∃ x S3 ys, elt env' S2 = .ok x S3 ∧ lcGo g all t ifs elt env r S3 = .ok ys Sf ∧ xs = x :: ys) ∨ (b = false ∧ lcGo g all t ifs elt env r S2 = .ok xs Sf)) := by
  unfold lcGo at h
  by_cases hh : held g all S
  · rw [if_pos hh] at h
    refine ⟨hh, ?_⟩
    cases ht : t d env S with
    | none => rw [ht] at h; cases h
    | some w =>
      obtain ⟨env', S'⟩ := w
      rw [ht] at h
      dsimp only at h
      cases hi : ifs env' S' with
      | bad => rw [hi] at h; cases h
      | exc e S => rw [hi] at h; cases h
      | ok b S2 =>
        rw [hi, noX_ok, R.bind_ok] at h
        refine ⟨env', S', b, S2, rfl, hi, ?_⟩
        cases b with
        | false => exact .inr ⟨rfl, h⟩
        | true =>
          rw [cond_true] at h
          cases he : elt env' S2 with
          | bad => rw [he] at h; cases h
          | exc e S => rw [he] at h; cases h
          | ok x S3 =>
            rw [he, noX_ok, R.bind_ok] at h
            cases hl : lcGo g all t ifs elt env r S3 with
            | bad => rw [hl] at h; cases h
            | exc e S => rw [hl] at h; cases h
            | ok ys S4 =>
              rw [hl, R.bind_ok] at h
              cases h
              exact .inl ⟨rfl, x, S3, ys, rfl, hl, rfl⟩
  · rw [if_neg hh] at h
    cases h
theorem lcGo_noexc {g : Option Nat} {all : List D} {t : TgX} {ifs : BX} {elt : EX} {env : Slots} : ∀ {r : List D} {S Sf : Sto} {e : Exn}, lcGo g all t ifs elt env r S ≠ .exc e Sf
  | [], S, Sf, e => by
    unfold lcGo
    split
    · exact fun h => nomatch h
    · exact fun h => nomatch h
  | d :: r, S, Sf, e => by
    intro h
    unfold lcGo at h
    split at h
    · split at h
      · rename_i env' S' ht
        cases hi : ifs env' S' with
        | bad => rw [hi] at h; cases h
        | exc e S => rw [hi] at h; cases h
        | ok b S2 =>
          rw [hi, noX_ok, R.bind_ok] at h
          cases b with
          | false => exact lcGo_noexc h
          | true =>
            rw [cond_true] at h
            cases he : elt env' S2 with
            | bad => rw [he] at h; cases h
            | exc e S => rw [he] at h; cases h
            | ok x S3 =>
              rw [he, noX_ok, R.bind_ok] at h
              cases hl : lcGo g all t ifs elt env r S3 with
              | bad => rw [hl] at h; cases h
              | exc e S => exact lcGo_noexc hl
              | ok ys S4 => rw [hl, R.bind_ok] at h; cases h
      · cases h
    · cases h
end
section
variable {X : Cx} {W : WX}
def GTs (X : Cx) (W : WX) (pin : Option (Nat × Addr)) (es : List Expr) (f : BX) : Prop := PTs X es (rdT X.K X.mg W pin f)
theorem gts_nil {pin : Option (Nat × Addr)} : GTs X W pin [] tTrue := ⟨fun pins s σ H Q I ⟨m, env, S, E, r, q⟩ => pts_nil.run pins s σ H Q I (q.here r rfl)⟩
theorem gts_one {pin : Option (Nat × Addr)} {c : Expr} {f : BX} (h : GT X W pin c f) : GTs X W pin [c] f := pts_one h
/-- the reading of a comprehension -/
theorem lc_rd {it : IX} {t : TgX} {ws vs : List Nat} {ft : BX} {fe : EX} (hw : ∀ j ∈ ws, j ∈ vs) {σ : L2.St} {H : Hp} {Q : VK} (h : rdL X.K X.mg W none (aLc it t vs ft fe) σ H Q) :
    tLc (rdI X.K X.mg W none it) (rdG1 X.K X.mg none t ws) (rdT X.K X.mg wNo none ft) (rdE X.K X.mg wNo none fe) vs σ H Q := by
    obtain ⟨m, env, S, E, r, s⟩ := h
    refine ⟨m, env, S, E, r, ?_⟩
    unfold aLc at s
    cases hf : it env S with
    | bad => rw [hf] at s; exact s.elim
    | exc x S' => rw [hf] at s; exact s
    | ok w S1 =>
      rw [hf, R.bind_ok] at s
      obtain ⟨ds, gg⟩ := w
      intro m1 H1 J p1 wk
      dsimp only at s wk
      have hz : ds.length ≤ sizeLine := by
        by_cases hz : ds.length ≤ sizeLine
        · exact hz
        · rw [if_neg hz] at s; exact s.elim
      rw [if_pos hz] at s
      cases hr : lcGo gg ds t ft fe (wipeS env vs) ds S1 with
      | bad => rw [hr] at s; exact s.elim
      | exc e Sf => exact absurd hr lcGo_noexc
      | ok res Sf =>
        rw [hr] at s
        intro Da hD
        have E1 := (E.keep (p1.keep r)).wipe (pin := none) vs
        refine ⟨fun i n H' => n = ds.length - i ∧ i ≤ ds.length ∧ ∃ m' S' acc xs ys, Post X.K X.mg m1 S1 H1 m' S' H' ∧ H' Da = some (.lst acc) ∧ (∀ i, i < S'.length → m' i ≠ Da) ∧ RepL X.K m' S'.length H' xs acc ∧ acc.length ≤ i ∧
            lcGo gg ds t ft fe (wipeS env vs) (ds.drop i) S' = .ok ys Sf ∧ res = xs ++ ys,
          ⟨ds.length, rfl, Nat.zero_le _, m1, S1, [], [], res, Post.same p1.rel (same_upd hD), upd_same, p1.rel.apart0 hD, rfl, Nat.le_refl _, hr, rfl⟩, ?_⟩
        rintro i n H' ⟨rfl, hle, m', S', acc, xs, ys, p', hDa, ap, rx, hacc, hgo, hres⟩
        by_cases hlt : i < ds.length
        · have hd : ds.drop i = ds[i] :: ds.drop (i + 1) := List.drop_eq_getElem_cons hlt
          rw [hd] at hgo
          obtain ⟨hh, env', S2, b, S3, ht1, ht2, hrest⟩ := lcGo_cons hgo
          obtain ⟨go, yl⟩ := wk.go m' S' H' i ds[i] p' hh (List.getElem?_eq_getElem hlt)
          refine .inr ⟨go, fun H' => i + 1 ≤ ds.length ∧ ∃ m' S' acc xs ys, Post X.K X.mg m1 S1 H1 m' S' H' ∧ H' Da = some (.lst acc) ∧ (∀ i, i < S'.length → m' i ≠ Da) ∧ RepL X.K m' S'.length H' xs acc ∧ acc.length ≤ i + 1 ∧
            lcGo gg ds t ft fe (wipeS env vs) (ds.drop (i + 1)) S' = .ok ys Sf ∧ res = xs ++ ys, fun H2 q => ⟨ds.length - (i + 1), by omega, rfl, q⟩, fun x H2 y => ?_⟩
          obtain ⟨sm, rd⟩ := yl x H2 y
          have p2 := Post.same p'.rel sm
          have E2 := E1.keep ((p'.trans p2).keep p1.rel)
          refine ⟨m', ds[i], _, S', E2, p2.rel, rd, ?_⟩
          rw [ht1]
          intro m3 H3 σ3 p3 E3 a3
          refine ⟨wipe_agree a3 hw, m3, env', S2, E3, p3.rel, ?_⟩
          rw [ht2]
          intro m4 H4 b' p4 eb
          obtain rfl : b' = b := eb
          have p04 := ((p'.trans p2).trans p3).trans p4
          have hD4 : H4 Da = some (.lst acc) := by
            refine p4.frame Da _ (p3.frame Da _ (sm Da _ hDa) ap) fun j hj e => ?_
            by_cases hl : j < S'.length
            · rw [p3.ext j hl] at e
              exact ap j hl e
            · have z := p3.fresh j (Nat.le_of_not_lt hl) hj
              rw [e, sm Da _ hDa] at z
              cases z
          have apU : ∀ {m5 : Nat → Addr} {S5 : Sto} {H5 : Hp}, Post X.K X.mg m' S' H' m5 S5 H5 → ∀ j, j < S5.length → m5 j ≠ Da := fun {m5 S5 H5} p5 j hj e => by
            by_cases hl : j < S'.length
            · rw [p5.ext j hl] at e
              exact ap j hl e
            · have z := p5.fresh j (Nat.le_of_not_lt hl) hj
              rw [e, hDa] at z
              cases z
          have p14 := (p2.trans p3).trans p4
          rcases hrest with ⟨rfl, x', S5, ys', he1, hl1, rfl⟩ | ⟨rfl, hl1⟩
          · rw [if_pos rfl]
            refine ⟨m4, env', S3, E3.keep (p4.keep p3.rel), p4.rel, ?_⟩
            rw [he1]
            intro m5 H5 yv p5 ry
            have p15 := p14.trans p5
            have hD5 : H5 Da = some (.lst acc) := p5.frame Da _ hD4 (apU p14)
            refine ⟨acc, hD5, by omega, hlt, m5, S5, acc ++ [yv], xs ++ [x'], ys', ?_, upd_same, apU p15, ?_, ?_, hl1, ?_⟩
            · exact ((p04.trans p5)).poke hD hD5 rfl (apU p15)
            · have k : Keep m' S'.length H' m5 S5.length (upd H5 Da (.lst (acc ++ [yv]))) := by
                have k0 := p15.keep p'.rel
                refine ⟨k0.len, k0.ext, fun b w e hw => ?_⟩
                rw [upd_ne fun z => by
                  rw [z, hDa] at e
                  cases e
                  cases hw]
                exact k0.keep b w e hw
              have k2 : Keep m5 S5.length H5 m5 S5.length (upd H5 Da (.lst (acc ++ [yv]))) := ⟨Nat.le_refl _, fun _ _ => rfl, fun b w e hw => by
                rw [upd_ne fun z => by
                  rw [z, hD5] at e
                  cases e
                  cases hw]
                exact e⟩
              exact (k.repL _ _ rx).append (RepL.one (k2.rep _ _ ry))
            · rw [List.length_append, List.length_singleton]; omega
            · rw [hres, List.append_assoc]; rfl
          · rw [if_neg Bool.false_ne_true]
            exact ⟨hlt, m4, S3, acc, xs, ys, p04, hD4, apU p14, (p14.keep p'.rel).repL _ _ rx, by omega, hl1, hres⟩
        · have e : i = ds.length := by omega
          subst e
          rw [List.drop_length] at hgo
          unfold lcGo at hgo
          by_cases hh : held gg ds S'
          · rw [if_pos hh] at hgo
            injection hgo with e1 e2
            subst e1
            subst e2
            rw [List.append_nil] at hres
            subst hres
            refine .inl ⟨wk.stop m' S' H' p' hh, s m' H' Da acc (p1.trans p') (p1.none_back hD) hDa ap ?_ rx⟩
            omega
          · rw [if_neg hh] at hgo
            cases hgo
theorem gl_lc {elt tg iter : Expr} {ifs : List Expr} {scope : Scope} {own : List (Str × Nat)} {pos : Pos} {it : IX} {t : TgX} {ws : List Nat} {ft : BX} {fe : EX} (hc : X.calm = true) (hN : X.N.Nodup) (hi : GI X W none tg iter it) (ok : BlkOk X.N X.env.scope scope own)
    (hg : ∀ (s : Shared) (H : Hp) (C : Addr) (cl : List (Str × Addr)) (fp : List Addr), GG (X.blk s H scope (compEnvC scope cl C X.env) fp) none tg t ws) (hw : ∀ j ∈ ws, j ∈ own.map (·.2))
    (ht : ∀ (s : Shared) (H : Hp) (C : Addr) (cl : List (Str × Addr)) (fp : List Addr), GTs (X.blk s H scope (compEnvC scope cl C X.env) fp) wNo none ifs ft)
    (he : ∀ (s : Shared) (H : Hp) (C : Addr) (cl : List (Str × Addr)) (fp : List Addr), GE (X.blk s H scope (compEnvC scope cl C X.env) fp) wNo none elt fe) (hs : ∀ x, foldedSetIterable iter X.env x = pure x := by intro _; rfl) :
    GL X W none (.ListComp elt [⟨tg, iter, ifs, 0⟩] scope pos) (aLc it t (own.map (·.2)) ft fe) :=
  PE.weak (pe_lc (g := rdG1 X.K X.mg none t ws) (tt := rdT X.K X.mg wNo none ft) (te := rdE X.K X.mg wNo none fe) hc hN hi ok hg ht he hs) fun σ H Q h => lc_rd hw h
/-- y = [..], y a local -/
theorem gs_setLc {i : Nat} {y : Str} {py : Pos} {elt tg iter : Expr} {ifs : List Expr} {scope : Scope} {own : List (Str × Nat)} {pos spos : Pos} {it : IX} {t : TgX} {ws : List Nat} {ft : BX} {fe : EX} (hc : X.calm = true) (hN : X.N.Nodup) (hy : X.N[i]? = some y) (hyl : X.env.scope.names.lookup y = some .local)
    (hsw : swapsWith (.ListComp elt [⟨tg, iter, ifs, 0⟩] scope pos) (some (.Name y py)) spos.line X.env = pure true) (hi : GI X W none tg iter it) (ok : BlkOk X.N X.env.scope scope own)
    (hg : ∀ (s : Shared) (H : Hp) (C : Addr) (cl : List (Str × Addr)) (fp : List Addr), GG (X.blk s H scope (compEnvC scope cl C X.env) fp) none tg t ws) (hw : ∀ j ∈ ws, j ∈ own.map (·.2))
    (ht : ∀ (s : Shared) (H : Hp) (C : Addr) (cl : List (Str × Addr)) (fp : List Addr), GTs (X.blk s H scope (compEnvC scope cl C X.env) fp) wNo none ifs ft)
    (he : ∀ (s : Shared) (H : Hp) (C : Addr) (cl : List (Str × Addr)) (fp : List Addr), GE (X.blk s H scope (compEnvC scope cl C X.env) fp) wNo none elt fe) (hs : ∀ x, foldedSetIterable iter X.env x = pure x := by intro _; rfl) :
    GS X W none (.Assign [.Name y py] (.ListComp elt [⟨tg, iter, ifs, 0⟩] scope pos) spos) (sSet i (eOfL (aLc it t (own.map (·.2)) ft fe))) :=
  PS.weak (ps_setLc (g := rdG1 X.K X.mg none t ws) (tt := rdT X.K X.mg wNo none ft) (te := rdE X.K X.mg wNo none fe) hc hN hy hyl hsw hi ok hg ht he hs) fun E σ H ⟨m, env, S, E0, r, s⟩ => by
    refine lc_rd hw ⟨m, env, S, E0, r, ?_⟩
    unfold sSet eOfL at s
    cases hf : aLc it t (own.map (·.2)) ft fe env S with
    | bad => rw [hf] at s; exact s.elim
    | exc x S' => rw [hf] at s; exact fun m' H' c d p q => s m' H' σ c d p (E0.keep (p.keep r)) q
    | ok ds S' =>
      rw [hf] at s
      intro m' H' p vs p1 hn hp ap hl rx
      have k1 : Keep m' S'.length H' (mAt m' S'.length p) (S'.length + 1) H' := ⟨Nat.le_succ _, fun i hi => mAt_lt hi, fun q o h _ => h⟩
      have p2 := p1.adopt hn ap (c := .lst ds) ⟨vs, hp, hl, k1.repL _ _ rx⟩
      refine s _ _ _ p2 ((E0.keep (p2.keep r)).set ⟨by simp, by rw [mAt_self]⟩ fun _ z => nomatch z)
end
end G
set_option maxRecDepth 100000
/-! The layer G, part 7: calls of defs, methods, classes; fields; raise, try; a def by its body. -/
namespace G
open PySem PySem.Spec PyProof.Rows L2

/-- a def's promise: it computes F -/
def spF (K : PySem.W.Frag) (mg : Str → Option Value) (n : Nat) (F : List D → Sto → R D) : Sp := fun vs H Q E => vs.length = n ∧ ∃ m ds S, RepL K m S.length H ds vs ∧ SRel K mg m S H ∧ Sat K mg (fun cls d _ H => E cls d H) [] m S H (Rep K) Q (F ds S)
/-- the number of arguments -/
def Ary (n : Nat) (F : List D → Sto → R D) : Prop := ∀ ds S, ds.length ≠ n → F ds S = .bad

/-- a def of the module that may be called by its name -/
def Cal (P : Program) (w : World) (K : PySem.W.Frag) (mg : Str → Option Value) (base : Heap) (k : Nat) (x : Str) (dds : List D) (F : List D → Sto → R D) : Prop :=
  ∃ (f : Addr) (fd : FuncData) (ps : List Str) (ds : List Value) (dvs : List V), FnOk P w K mg base (L2.CX P w) k f fd ps (spF K mg ps.length F) ∧ Ary ps.length F ∧ mg x = some (.ref f) ∧ PySem.W.keepIn K (.ref f) = true ∧ Binds K fd ps ds ∧ Vals dvs ds ∧ ∀ m N H, RepL K m N H dds dvs
/-- a method of the class c -/
def CalM (P : Program) (w : World) (K : PySem.W.Frag) (mg : Str → Option Value) (base : Heap) (k : Nat) (c m : Str) (dds : List D) (F : List D → Sto → R D) : Prop :=
  ∃ (C f : Addr) (fd : FuncData) (ps : List Str) (ds : List Value) (dvs : List V), FnOk P w K mg base (L2.CX P w) k f fd ps (spF K mg ps.length F) ∧ Ary ps.length F ∧ clsAt mg c = some C ∧ Cls K C ∧ Meth K C m f ∧ Binds K fd ps ds ∧ Vals dvs ds ∧ ∀ m N H, RepL K m N H dds dvs
/-- a class that may be made -/
def CalC (P : Program) (w : World) (K : PySem.W.Frag) (mg : Str → Option Value) (base : Heap) (k : Nat) (c : Str) (dds : List D) (F : List D → Sto → R D) : Prop :=
  ∃ (C f : Addr) (fd : FuncData) (ps : List Str) (ds : List Value) (dvs : List V), FnOk P w K mg base (L2.CX P w) k f fd ps (spF K mg ps.length F) ∧ Ary ps.length F ∧ mg c = some (.ref C) ∧ Mk K C f ∧ Binds K fd ps ds ∧ Vals dvs ds ∧ ∀ m N H, RepL K m N H dds dvs
def eCall (F : List D → Sto → R D) (dds : List D) (fa : AX) : EX := fun env S => (fa env S).bind fun ds S1 => F (ds ++ dds) S1
/-- o.m(..) of an instance of c -/
def eMethO (c m : Str) (F : List D → Sto → R D) (dds : List D) (fo : EX) (fa : AX) : EX := fun env S => (fo env S).bind fun d S1 => match d with
  | .cel n => match S1[n]? with
    | some (.ins c' fs) => if c' = c ∧ fs.lookup m = none then (fa env S1).bind fun ds S2 => F (d :: (ds ++ dds)) S2 else .bad
    | _ => .bad
  | _ => .bad
/-- C(..) -/
def eMake (c : Str) (F : List D → Sto → R D) (dds : List D) (fa : AX) : EX := fun env S => (fa env S).bind fun ds S1 => (F (.cel S1.length :: (ds ++ dds)) (S1 ++ [.ins c []])).bind fun r S2 => match r with
  | .a .non => .ok (.cel S1.length) S2
  | _ => .bad

section
variable {X : Cx} {W : WX} {pin : Option (Nat × Addr)} {k : Nat} {x c m : Str} {p pos apos : Pos} {e o a b : Expr} {es : List Expr} {fa : AX} {fo ga gb : EX} {F : List D → Sto → R D} {dds : List D}
/-- a promise's reading from a result -/
theorem spF_mk {K : PySem.W.Frag} {mg : Str → Option Value} {σ : L2.St} {m : Nat → Addr} {S : Sto} {H : Hp} {ds : List D} {vs : List V} {Q : VK} {n : Nat} (hA : Ary n F) (r : SRel K mg m S H) (rs : RepL K m S.length H ds vs) (s : Sat K mg W σ m S H (Rep K) Q (F ds S)) :
    spF K mg n F vs H Q (WE W σ) := by
  have hn : vs.length = n := by
    rw [rs.len]
    by_cases hl : ds.length = n
    · exact hl
    · rw [hA ds S hl] at s
      exact s.elim
  refine ⟨hn, m, ds, S, rs, r, ?_⟩
  cases hf : F ds S with
  | ok y S' => rw [hf] at s; exact s
  | exc y S' => rw [hf] at s; exact s
  | bad => rw [hf] at s; exact s
theorem ge_call (h : Cal X.prog X.w X.K X.mg X.base k x dds F) (hr : Room k X.A) (hg : Gl X x) (tk : Takes X W) (ha : GA X W pin (e :: es) fa)
    (hdb : (x == ("__debug__" : Str)) = false := by decide) (he : starEach (e :: es) X.env = (false, eval e X.env) :: starEach es X.env := by rfl) (hpl : (backTo pos (starEach es X.env)).any (·.1) = false := by rfl) : GE X W pin (.Call (.Name x p) (e :: es) [] pos) (eCall F dds fa) := by
  obtain ⟨f, fd, ps, ds, dvs, G, hA, hm, hk, hb, hd, hdd⟩ := h
  refine PE.weak (pe_callSD (E := WE W) G hr hg hm hk hb hd (fun σ => passAt tk σ) ha.run hdb he hpl) fun σ H Q ⟨m, env, S, E, r, s⟩ => ?_
  exact rdA_bind E r s fun vs H1 m1 S1 as p1 E1 r1 rs s1 => spF_mk hA r1 (rs.append (hdd m1 S1.length H1)) s1
theorem ge_call0 (h : Cal X.prog X.w X.K X.mg X.base k x dds F) (hr : Room k X.A) (hg : Gl X x) (tk : Takes X W) (hdb : (x == ("__debug__" : Str)) = false := by decide) : GE X W pin (.Call (.Name x p) [] [] pos) (eCall F dds aNil) := by
  obtain ⟨f, fd, ps, ds, dvs, G, hA, hm, hk, hb, hd, hdd⟩ := h
  refine ⟨fun pins s σ H Q I ⟨m, env, S, E, r, q⟩ => ?_⟩
  refine wpAny_Call_Name_kw (ld_glob I hg hm ?_ hdb)
  exact PySem.W.callWith_K0 I.kIn hk (run_fnSD (us := []) (vs := []) (E := WE W) G hr hb hd (passAt tk σ) I .nil (spF_mk hA r (by rw [List.nil_append]; exact hdd m S.length H) q))

/-- o.m(e, ..), what is raised at the slots -/
theorem pe_methSD {CX : CXT} {C f : Addr} {fd : FuncData} {ps : List Str} {sp : Sp} {dvs : List V} {ds : List Value} {E : L2.St → XK} {ta : TE} {t : TA} {pl : Sem Bool} (he : PE X o ta) (c : Cls X.K C) (hm : Meth X.K C m f) (F : FnOk X.prog X.w X.K X.mg X.base CX k f fd ps sp) (hr : Room k X.A) (hb : Binds X.K fd ps ds) (hd : Vals dvs ds)
    (hx : ∀ σ, PassesAt CX X σ (E σ)) (ha : PA X (e :: es) t)
    (hst : starEach (e :: es) X.env = (false, eval e X.env) :: starEach es X.env := by rfl) (hpl : (backTo pos (starEach es X.env)).any (·.1) = false := by rfl)
    (ht : eval (.Call (.Attribute o m apos) (e :: es) [] pos) X.env = (do
      let ov ← eval o X.env
      standAt apos.atName
      let (f, first) ← holding [ov] (getMethod ov m pl)
      callWith pos f first (backTo pos (starEach (e :: es) X.env)) (backToKw pos (keywordEach [] X.env))) := by rfl) :
    PE X (.Call (.Attribute o m apos) (e :: es) [] pos) (fun σ H Q => ta σ H fun x H1 => ∃ a dx fs, x = .ref a ∧ H1 a = some (.ins C dx fs) ∧ fs.lookup m = none ∧ t σ H1 fun vs H2 => sp (x :: (vs ++ dvs)) H2 Q (E σ)) := by
  refine ⟨fun pins s σ H Q I h => ?_⟩
  refine PySem.W.methodCall_KW (pl := pl) (thn (he.run pins s σ H _ I h) fun u s1 ⟨x, H1, I1, rx, a, dx, fs, ex, ea, l, q⟩ => ?_) ht
  subst ex
  obtain rfl : u = Value.ref a := rx
  refine getmeth_ok I1 ea c hm l ?_
  refine PySem.W.callWith_K (first := [.ref a]) (h₀ := X.base) I.ok.mod.kin hm.kp (thn (ha.run pos pins s1 σ H1 _ I1 q) fun us s2 ⟨vs, H2, I2, r, q2⟩ => ⟨I2.kIn, ?_⟩) hst hpl
  exact run_fnSD (us := .ref a :: us) (vs := .ref a :: vs) F hr hb hd (hx σ) I2 (.cons rfl r) q2
theorem pe_meth0SD {CX : CXT} {C f : Addr} {fd : FuncData} {ps : List Str} {sp : Sp} {dvs : List V} {ds : List Value} {E : L2.St → XK} {ta : TE} {pl : Sem Bool} (he : PE X o ta) (c : Cls X.K C) (hm : Meth X.K C m f) (F : FnOk X.prog X.w X.K X.mg X.base CX k f fd ps sp) (hr : Room k X.A) (hb : Binds X.K fd ps ds) (hd : Vals dvs ds)
    (hx : ∀ σ, PassesAt CX X σ (E σ))
    (ht : eval (.Call (.Attribute o m apos) [] [] pos) X.env = (do
      let ov ← eval o X.env
      standAt apos.atName
      let (f, first) ← holding [ov] (getMethod ov m pl)
      callWith pos f first (backTo pos (starEach [] X.env)) (backToKw pos (keywordEach [] X.env))) := by rfl) :
    PE X (.Call (.Attribute o m apos) [] [] pos) (fun σ H Q => ta σ H fun x H1 => ∃ a dx fs, x = .ref a ∧ H1 a = some (.ins C dx fs) ∧ fs.lookup m = none ∧ sp (x :: dvs) H1 Q (E σ)) := by
  refine ⟨fun pins s σ H Q I h => ?_⟩
  refine PySem.W.methodCall_KW (pl := pl) (thn (he.run pins s σ H _ I h) fun u s1 ⟨x, H1, I1, rx, a, dx, fs, ex, ea, l, q⟩ => ?_) ht
  subst ex
  obtain rfl : u = Value.ref a := rx
  refine getmeth_ok I1 ea c hm l ?_
  exact PySem.W.callWith_K0 (first := [.ref a]) I1.kIn hm.kp (run_fnSD (us := [.ref a]) (vs := [.ref a]) F hr hb hd (hx σ) I1 (.cons rfl .nil) q)
theorem clsAt_inj {mg : Str → Option Value} {c : Str} {C C' : Addr} (h : clsAt mg c = some C) (h' : clsAt mg c = some C') : C = C' := Option.some.inj (h.symm.trans h')
theorem lookup_none {K : PySem.W.Frag} {m : Nat → Addr} {N : Nat} {H : Hp} {f : Str} {fs : List (Str × D)} {ws : List (Str × V)} (r : RepP K m N H fs ws) (h : fs.lookup f = none) : ws.lookup f = none := by
  rcases RepP.get (k := f) r with ⟨_, h2⟩ | ⟨d, v, h1, _, _⟩
  · exact h2
  · rw [h] at h1; cases h1
theorem ge_methO {pl : Sem Bool} (ho : GE X W pin o fo) (h : CalM X.prog X.w X.K X.mg X.base k c m dds F) (hr : Room k X.A) (tk : Takes X W) (ha : GA X W pin (e :: es) fa)
    (hst : starEach (e :: es) X.env = (false, eval e X.env) :: starEach es X.env := by rfl) (hpl : (backTo pos (starEach es X.env)).any (·.1) = false := by rfl)
    (ht : eval (.Call (.Attribute o m apos) (e :: es) [] pos) X.env = (do
      let ov ← eval o X.env
      standAt apos.atName
      let (f, first) ← holding [ov] (getMethod ov m pl)
      callWith pos f first (backTo pos (starEach (e :: es) X.env)) (backToKw pos (keywordEach [] X.env))) := by rfl) :
    GE X W pin (.Call (.Attribute o m apos) (e :: es) [] pos) (eMethO c m F dds fo fa) := by
  obtain ⟨C, f, fd, ps, ds, dvs, G, hA, hC, hcl, hme, hb, hd, hdd⟩ := h
  refine PE.weak (pe_methSD (E := WE W) ho hcl hme G hr hb hd (fun σ => passAt tk σ) ha.run hst hpl ht) fun σ H Q ⟨mm, env, S, E, r, s⟩ => ?_
  refine rdE_bind E r s fun x H1 m1 S1 d p1 E1 r1 rd s1 => ?_
  cases d with
  | cel n =>
    obtain ⟨hn, rfl⟩ := rd
    dsimp only at s1
    split at s1
    · rename_i c' fs hS
      split at s1
      · rename_i hc
        obtain ⟨rfl, hl⟩ := hc
        obtain ⟨C', dx, ws, h1, ev, _, rv⟩ := r1.at_ _ _ hS
        obtain rfl := clsAt_inj hC h1
        refine ⟨_, dx, ws, rfl, ev, lookup_none rv hl, rdA_bind E1 r1 s1 fun vs H2 m2 S2 as p2 E2 r2 rs s2 => ?_⟩
        refine spF_mk hA r2 (ds := .cel n :: (as ++ dds)) ⟨_, _, rfl, ?_, rs.append (hdd m2 S2.length H2)⟩ s2
        exact ⟨Nat.lt_of_lt_of_le hn p2.len, by rw [p2.ext n hn]⟩
      · exact s1.elim
    · exact s1.elim
  | _ => exact s1.elim
theorem ge_methO0 {pl : Sem Bool} (ho : GE X W pin o fo) (h : CalM X.prog X.w X.K X.mg X.base k c m dds F) (hr : Room k X.A) (tk : Takes X W)
    (ht : eval (.Call (.Attribute o m apos) [] [] pos) X.env = (do
      let ov ← eval o X.env
      standAt apos.atName
      let (f, first) ← holding [ov] (getMethod ov m pl)
      callWith pos f first (backTo pos (starEach [] X.env)) (backToKw pos (keywordEach [] X.env))) := by rfl) :
    GE X W pin (.Call (.Attribute o m apos) [] [] pos) (eMethO c m F dds fo aNil) := by
  obtain ⟨C, f, fd, ps, ds, dvs, G, hA, hC, hcl, hme, hb, hd, hdd⟩ := h
  refine PE.weak (pe_meth0SD (E := WE W) ho hcl hme G hr hb hd (fun σ => passAt tk σ) ht) fun σ H Q ⟨mm, env, S, E, r, s⟩ => ?_
  refine rdE_bind E r s fun x H1 m1 S1 d p1 E1 r1 rd s1 => ?_
  cases d with
  | cel n =>
    obtain ⟨hn, rfl⟩ := rd
    dsimp only at s1
    split at s1
    · rename_i c' fs hS
      split at s1
      · rename_i hc
        obtain ⟨rfl, hl⟩ := hc
        obtain ⟨C', dx, ws, h1, ev, _, rv⟩ := r1.at_ _ _ hS
        obtain rfl := clsAt_inj hC h1
        refine ⟨_, dx, ws, rfl, ev, lookup_none rv hl, ?_⟩
        exact spF_mk hA r1 (ds := .cel n :: dds) ⟨_, _, rfl, ⟨hn, rfl⟩, hdd m1 S1.length H1⟩ s1
      · exact s1.elim
    · exact s1.elim
  | _ => exact s1.elim

/-- a new instance -/
theorem Post.newIns {K : PySem.W.Frag} {mg : Str → Option Value} {m : Nat → Addr} {S : Sto} {H : Hp} {x dx C : Addr} {c : Str} (r : SRel K mg m S H) (hC : clsAt mg c = some C) (hx : H x = none) (hd : H dx = none) (ne : dx ≠ x) :
    Post K mg m S H (mAt m S.length x) (S ++ [.ins c []]) (upd (upd H dx (.own x)) x (.ins C dx [])) := by
  have hx' : (upd H dx (.own x)) x = none := by rw [upd_ne (Ne.symm ne)]; exact hx
  exact Post.push r ((same_upd hd).trans (same_upd hx')) hx ⟨C, dx, [], hC, upd_same, by rw [upd_ne ne]; exact upd_same, rfl⟩
theorem clsAt_of {mg : Str → Option Value} {c : Str} {C : Addr} (h : mg c = some (.ref C)) : clsAt mg c = some C := by unfold clsAt; rw [h]
theorem run_makeSD {CX : CXT} {C f : Addr} {fd : FuncData} {ps : List Str} {sp : Sp} {dvs : List V} {ds : List Value} {E : XK} {pins : List (Addr × Obj)} {σ : L2.St} {H : Hp} {s : Shared} {Q : VK} {us : List Value} {vs : List V} (M : Mk X.K C f) (F : FnOk X.prog X.w X.K X.mg X.base CX k f fd ps sp) (hr : Room (k + 1) X.A) (hb : Binds X.K fd ps ds) (hd : Vals dvs ds)
    (hx : PassesAt CX X σ E) (I : Inv X pins σ H s) (r : Vals vs us)
    (h : ∀ x dx, H x = none → H dx = none → dx ≠ x → sp (.ref x :: (vs ++ dvs)) (upd (upd H dx (.own x)) x (.ins C dx [])) (fun v H2 => v = .non ∧ Q (.ref x) H2) E) :
    wpAny (model X.prog X.w) X.A (call (.ref C) us) (EP X pins σ Q) X.xe s := by
  have hq := h (s.heap.objs.size + 1) s.heap.objs.size (I.hok.fresh (Nat.le_succ _)) (I.hok.fresh (Nat.le_refl _)) (Nat.ne_of_lt (Nat.lt_succ_self _))
  have I2 := Inv.made (C := C) I
  have r2 : Vals (V.ref (s.heap.objs.size + 1) :: (vs ++ dvs)) (Value.ref (s.heap.objs.size + 1) :: (us ++ ds)) := .cons rfl (r.append hd)
  have hl : (Value.ref (s.heap.objs.size + 1) :: us ++ ds).length = ps.length := by
    have e := r2.length
    rw [F.len _ _ _ _ hq] at e
    exact e.symm
  refine wpAny_call (make_map (f := f) I.kIn M.makes M.init (beq_iff_eq.mp M.fn) (codeAny_mono (F.run _ X.stack _ _ ⟨Value.ref (s.heap.objs.size + 1) :: us, []⟩ (Value.ref (s.heap.objs.size + 1) :: (us ++ ds)) _ _ E (hr.make C us [])
    (I2.env0.make C us []) (hb _ (Value.ref (s.heap.objs.size + 1) :: us) I2.kIn hl) r2 hq) fun r s' hq' => ?_))
  cases r with
  | error e => exact hx pins _ _ e s' I2 hq'
  | ok fl =>
    cases fl with
    | ret u =>
      obtain ⟨v, H', I3, rv, ev, q3⟩ := I2.after hq'
      subst ev
      exact ⟨rv, ⟨V.ref (s.heap.objs.size + 1), H', I3, rfl, q3⟩⟩
    | next => exact False.elim hq'
    | brk => exact False.elim hq'
    | cont => exact False.elim hq'
theorem ge_make (h : CalC X.prog X.w X.K X.mg X.base k c dds F) (hr : Room (k + 1) X.A) (hg : Gl X c) (tk : Takes X W) (ha : GA X W pin (e :: es) fa)
    (hdb : (c == ("__debug__" : Str)) = false := by decide) (he : starEach (e :: es) X.env = (false, eval e X.env) :: starEach es X.env := by rfl) (hpl : (backTo pos (starEach es X.env)).any (·.1) = false := by rfl) :
    GE X W pin (.Call (.Name c p) (e :: es) [] pos) (eMake c F dds fa) := by
  obtain ⟨C, f, fd, ps, ds, dvs, G, hA, hm, hM, hb, hd, hdd⟩ := h
  refine ⟨fun pins s σ H Q I ⟨m, env, S, E, r, q⟩ => ?_⟩
  refine wpAny_Call_Name_kw (ld_glob I hg hm ?_ hdb)
  have hq : rdA X.K X.mg W pin fa σ H fun vs H1 => ∀ x dx, H1 x = none → H1 dx = none → dx ≠ x → spF X.K X.mg ps.length F (.ref x :: (vs ++ dvs)) (upd (upd H1 dx (.own x)) x (.ins C dx [])) (fun v H2 => v = .non ∧ Q (.ref x) H2) (WE W σ) :=
    rdA_bind E r q fun vs H1 m1 S1 as p1 E1 r1 rs s1 x dx hx hdx ne => by
      have pn := Post.newIns (c := c) r1 (clsAt_of hm) hx hdx ne
      have s2 := Sat.step pn s1
      have k1 := pn.keep r1
      refine spF_mk (W := W) (σ := σ) hA pn.rel (ds := .cel S1.length :: (as ++ dds)) ⟨_, _, rfl, ⟨by simp, by rw [mAt_self]⟩, (k1.repL _ _ rs).append (hdd _ _ _)⟩ ?_
      refine s2.bind.mono fun v H2 ⟨m2, S2, d, p2, rd, s3⟩ => ?_
      split at s3
      · obtain rfl : v = .non := rd
        refine ⟨rfl, s3.here p2.rel ?_⟩
        have hlt : S1.length < (S1 ++ [Cell.ins c []]).length := by simp
        exact ⟨Nat.lt_of_lt_of_le hlt p2.len, by rw [p2.ext _ hlt, mAt_self]⟩
      · exact s3.elim
  refine PySem.W.callWith_K (h₀ := X.base) I.ok.mod.kin hM.kp (thn (ha.run.run pos pins s σ H _ I hq) fun us s1 ⟨vs, H1, I1, r1, q1⟩ => ⟨I1.kIn, ?_⟩) he hpl
  exact run_makeSD hM G hr hb hd (passAt tk σ) I1 r1 q1

/-! ### o[i] of an instance with __getitem__ -/
/-- what a class must have -/
structure GetI (K : PySem.W.Frag) (C f : Addr) : Prop where
  at_ : PySem.W.findIn K (.ref C) "__getitem__" = some (some (.ref f))
  fn : PySem.W.fnIn K f = true
  isf : PySem.W.isFn K (.ref f) = true
def CalI (P : Program) (w : World) (K : PySem.W.Frag) (mg : Str → Option Value) (base : Heap) (k : Nat) (c : Str) (F : List D → Sto → R D) : Prop :=
  ∃ (C f : Addr) (fd : FuncData) (ps : List Str), FnOk P w K mg base (L2.CX P w) k f fd ps (spF K mg ps.length F) ∧ Ary ps.length F ∧ clsAt mg c = some C ∧ GetI K C f ∧ Binds K fd ps []
def eIxO (c : Str) (F : List D → Sto → R D) (ga gb : EX) : EX := fun env S => (ga env S).bind fun d S1 => (gb env S1).bind fun e S2 => match d with
  | .cel n => match S2[n]? with
    | some (.ins c' _) => if c' = c then F [d, e] S2 else .bad
    | _ => ofO (dIx d e S2)
  | _ => ofO (dIx d e S2)
theorem sub_own {prog : Program} {w : World} {A : Around} {E : Value → Shared → Prop} {s : Shared} {K : PySem.W.Frag} {x C f : Addr} {ox : Obj} {od : Option Obj} {value slice : Expr} {i : Value} {Q : Value → Shared → Prop} (X : K.In s.heap) (I : PySem.W.InstAt s.heap x ox C od) (g : GetI K C f)
    (h : wpAny (model prog w) A.in1 (call (.ref f) [.ref x, i]) Q E s)
    (hsl : subscripted slice true (.ref x) i = runValue (.builtin "lifetime.subscript" ⟨[.ref x, i], []⟩)) :
    wpAny (model prog w) A (subscriptTail value slice (.ref x) i) Q E s := by
  have hf := g.fn
  unfold PySem.W.fnIn at hf
  split at hf
  · rename_i e
    unfold subscriptTail getitemInPython
    refine wpAny_bind (wpAny_bind (wpAny_bind (I.type.here ((PySem.W.looks_findIn X g.at_).here ?_))))
    dsimp only
    refine wpAny_bind (wpAny_load (X _ _ e) (wpAny_pure ?_))
    dsimp only
    rw [hsl]
    refine wpAny_bind (wpAny_runValue (codeAny_builtin PySem.W.entry_sub ?_))
    unfold Builtin.«lifetime.subscript»
    refine wpAny_bind (PySem.W.special_fn X I g.at_ (beq_iff_eq.mp g.isf) (wpAny_mono h (fun v s' z => ?_) fun _ _ z => z))
    refine wpAny_pure ?_
    show wpAny (model prog w) A (letTemporaryGo value (.ref x) v >>= fun _ => pure v) Q E s'
    exact wpAny_bind (wpAny_letTemporaryGo (wpAny_pure z))
  · cases hf
theorem run_in1 {CX : CXT} {f : Addr} {fd : FuncData} {ps : List Str} {sp : Sp} {E : XK} {pins : List (Addr × Obj)} {σ : L2.St} {H : Hp} {s : Shared} {Q : VK} {us : List Value} {vs : List V} (F : FnOk X.prog X.w X.K X.mg X.base CX k f fd ps sp) (hr : Room k X.A.in1) (hb : Binds X.K fd ps []) (hx : PassesAt CX X σ E)
    (I : Inv X pins σ H s) (r : Vals vs us) (h : sp vs H Q E) : wpAny (model X.prog X.w) X.A.in1 (call (.ref f) us) (EP X pins σ Q) X.xe s := by
  have hl : us.length = ps.length := by rw [← r.length]; exact F.len _ _ _ _ h
  have hb2 := hb s us I.kIn (by rw [List.append_nil]; exact hl)
  rw [List.append_nil] at hb2
  refine wpAny_call (codeAny_mono (F.run X.A.in1 X.stack s H ⟨us, []⟩ us vs Q E hr I.env0.in1 hb2 r h) fun r s' hq => ?_)
  cases r with
  | error e => exact hx pins H s e s' I hq
  | ok fl =>
    cases fl with
    | ret u => exact I.after hq
    | next => exact False.elim hq
    | brk => exact False.elim hq
    | cont => exact False.elim hq
theorem ge_ixO (h : CalI X.prog X.w X.K X.mg X.base k c F) (hu : X.A.units + 1 < cLine) (hr : Room (k + 1) X.A) (tk : Takes X W) (ha : GE X W pin a ga) (hb : GE X W pin b gb) (hs : PlainIx b := by exact fun _ _ => rfl)
    (hs2 : ∀ x i, subscripted b true (.ref x) i = runValue (.builtin "lifetime.subscript" ⟨[.ref x, i], []⟩) := by exact fun _ _ => rfl) : GE X W pin (.Subscript a b pos) (eIxO c F ga gb) := by
  obtain ⟨C, f, fd, ps, G, hA, hC, hG, hbd⟩ := h
  refine ⟨fun pins s σ H Q I ⟨m, env, S, E, r, q⟩ => ?_⟩
  have hq : tOp (fun x y H2 Q => rdO X.K X.mg dIx x y H2 Q ∨ ∃ a dx fs, x = .ref a ∧ H2 a = some (.ins C dx fs) ∧ spF X.K X.mg ps.length F [x, y] H2 Q (WE W σ)) (rdE X.K X.mg W pin ga) (rdE X.K X.mg W pin gb) σ H Q :=
    rdE_bind E r q fun x H1 m1 S1 d p1 E1 r1 rd s1 => rdE_bind E1 r1 s1 fun y H2 m2 S2 e p2 E2 r2 re s2 => by
      have rd2 := (p2.keep r1).rep _ _ rd
      split at s2
      · split at s2
        · rename_i hS
          split at s2
          · rename_i hc
            subst hc
            obtain ⟨hn, rfl⟩ := rd2
            obtain ⟨C', dx, ws, h1, ev, _, rv⟩ := r2.at_ _ _ hS
            obtain rfl := clsAt_inj hC h1
            exact .inr ⟨_, dx, ws, rfl, ev, spF_mk hA r2 (ds := [.cel _, e]) ⟨_, _, rfl, ⟨hn, rfl⟩, y, [], rfl, re, rfl⟩ s2⟩
          · exact s2.elim
        · exact .inl (rdO_mk r2 rd2 re s2)
      · exact .inl (rdO_mk r2 rd2 re s2)
  refine Subscript_ (binT ha hb I hq fun v u s2 x y H2 I2 rx ry q => ?_)
  rcases q with q | ⟨q0, dx, fs, rfl, ev, q⟩
  · exact i_ix hu a b pins s2 σ H2 x y v u Q I2 rx ry q (hs _ _)
  · obtain rfl : v = Value.ref q0 := rx
    obtain ⟨mA, O, _⟩ := ins_get I2.hok ev
    obtain ⟨od, J, _⟩ := O.look
    refine sub_own I2.kIn J hG ?_ (hs2 _ _)
    exact run_in1 (us := [.ref q0, u]) (vs := [.ref q0, y]) G hr.in1 hbd (passAt tk σ) I2 (.cons rfl (.cons ry .nil)) q

/-! ### fields of instances -/
/-- the classes cs have nothing named f of their own -/
def FldOk (K : PySem.W.Frag) (mg : Str → Option Value) (cs : List Str) (f : Str) : Prop := ∀ c ∈ cs, ∃ C, clsAt mg c = some C ∧ Cls K C ∧ NoAttr K C f
def eFld (cs : List Str) (f : Str) (fo : EX) : EX := fun env S => (fo env S).bind fun d S1 => match d with
  | .cel n => match S1[n]? with
    | some (.ins c fs) => if c ∈ cs then match fs.lookup f with
      | some v => .ok v S1
      | none => .bad else .bad
    | _ => .bad
  | _ => .bad
theorem ge_fld {cs : List Str} {f : Str} (ho : GE X W pin o fo) (hf : FldOk X.K X.mg cs f) (hb : attributeBase o f X.env (eval o X.env) = eval o X.env := by rfl) : GE X W pin (.Attribute o f pos) (eFld cs f fo) :=
  PE.weak (pe_fld ho hb) fun σ H Q ⟨m, env, S, E, r, s⟩ => rdE_bind E r s fun x H1 m1 S1 d p1 E1 r1 rd s1 => by
    cases d with
    | cel n =>
      obtain ⟨hn, rfl⟩ := rd
      dsimp only at s1
      split at s1
      · rename_i c fs hS
        split at s1
        · rename_i hc
          obtain ⟨C, hC, hcl, hna⟩ := hf c hc
          obtain ⟨C', dx, ws, h1, ev, _, rv⟩ := r1.at_ _ _ hS
          obtain rfl := clsAt_inj hC h1
          split at s1
          · rename_i v hv
            rcases RepP.get (k := f) rv with ⟨h2, _⟩ | ⟨d, v', h2, h3, h4⟩
            · rw [hv] at h2; cases h2
            · rw [hv] at h2
              cases h2
              exact ⟨_, C, dx, ws, v', rfl, ev, hcl, hna, h3, s1.here r1 h4⟩
          · exact s1.elim
        · exact s1.elim
      · exact s1.elim
    | _ => exact s1.elim
def putD (f : Str) (v : D) : List (Str × D) → List (Str × D)
  | [] => [(f, v)]
  | (g, w) :: r => if g = f then (g, v) :: r else (g, w) :: putD f v r
def sFldX (cs : List Str) (f : Str) (fv fo : EX) : SX := fun env S => (fv env S).then env fun v S1 => (fo env S1).then env fun d S2 => match d with
  | .cel n => match S2[n]? with
    | some (.ins c fs) => if c ∈ cs ∧ fs.length < 1000 then .nx env (S2.set n (.ins c (putD f v fs))) else .bad
    | _ => .bad
  | _ => .bad
theorem putD_rep {K : PySem.W.Frag} {m : Nat → Addr} {N : Nat} {H : Hp} {f : Str} {d : D} {v : V} (h : Rep K m N H d v) : ∀ {fs : List (Str × D)} {ws : List (Str × V)}, RepP K m N H fs ws → RepP K m N H (putD f d fs) (putF f v ws)
  | [], _, e => by
    rw [show _ = [] from e]
    exact ⟨v, [], rfl, h, rfl⟩
  | (g, w) :: r, _, ⟨u, r', e, h1, h2⟩ => by
    subst e
    unfold putD putF
    by_cases hg : g = f
    · rw [if_pos hg, if_pos hg]
      exact ⟨v, r', rfl, h, h2⟩
    · rw [if_neg hg, if_neg hg]
      exact ⟨u, _, rfl, h1, putD_rep h h2⟩
theorem gs_fld {cs : List Str} {f : Str} {pos' : Pos} {fv : EX} (hv : GE X W pin e fv) (ho : GE X W pin o fo) (hf : FldOk X.K X.mg cs f) (hs : swapsWith e (some (.Attribute o f pos')) pos.line X.env = pure false := by rfl) :
    GS X W pin (.Assign [.Attribute o f pos'] e pos) (sFldX cs f fv fo) :=
  PS.weak (ps_fld ho hv hs) fun E σ H ⟨m, env, S, E0, r, s⟩ => by
    refine ⟨m, env, S, E0, r, (SSat.then (Rl := Rep X.K) E0 r s).mono fun y H1 ⟨m1, S1, v, p1, E1, rv, s1⟩ => ?_⟩
    refine ⟨m1, env, S1, E1, p1.rel, (SSat.then (Rl := Rep X.K) E1 p1.rel s1).mono fun x H2 ⟨m2, S2, d, p2, E2, rd, s2⟩ => ?_⟩
    cases d with
    | cel n =>
      obtain ⟨hn, rfl⟩ := rd
      dsimp only at s2
      split at s2
      · rename_i c fs hS
        split at s2
        · rename_i hc
          obtain ⟨C, hC, hcl, hna⟩ := hf c hc.1
          obtain ⟨C', dx, ws, h1, ev, hdx, rw'⟩ := p2.rel.at_ _ _ hS
          obtain rfl := clsAt_inj hC h1
          refine ⟨_, C, dx, ws, rfl, ev, hcl, hna, by rw [rw'.len]; exact hc.2, ?_⟩
          have kp : Keep m2 S2.length H2 m2 S2.length (upd H2 (m2 n) (.ins C dx (putF f y ws))) := ⟨Nat.le_refl _, fun _ _ => rfl, fun q u h hc => by
            rw [upd_ne fun e => p2.rel.apart h hc n hn e.symm]
            exact h⟩
          have p3 := Post.write (c := .ins c (putD f v fs)) p2.rel hn (o := .ins C dx (putF f y ws)) ⟨C, dx, _, hC, upd_same, kp.keep _ _ hdx rfl, kp.repP _ _ (putD_rep ((p2.keep p1.rel).rep _ _ rv) rw')⟩
          exact s2 m2 _ σ p3 (E2.keep (p3.keep p2.rel))
        · exact s2.elim
      · exact s2.elim
    | _ => exact s2.elim
end

/-! ### isinstance of own classes, of exceptions -/
/-- what a class must have, so that isinstance asks its instances rightly -/
structure InsF (K : PySem.W.Frag) (C : Addr) : Prop where
  cl : Cls K C
  ha : PySem.W.findIn K (.ref C) "__class__" = some (some (.builtin "object.__class__"))
  hn : PySem.W.specialIn K (.builtin "object.__class__") "__get__" = some (some (.builtin "getset_descriptor.__get__"))
  htk : PySem.W.takesIn K (.builtin "object.__class__") = some true
  hm : PySem.W.mroIn K C (.type "object") = some true
/-- sub tells of the classes of instances whether they are of the class u -/
def SubOk (K : PySem.W.Frag) (mg : Str → Option Value) (sub : Str → Option Bool) (u : Value) : Prop := ∀ c b, sub c = some b → ∃ C, clsAt mg c = some C ∧ InsF K C ∧ PySem.W.kitOne K (.ref C) u = some b
def eIsC (sub : Str → Option Bool) (fo : EX) : EX := fun env S => (fo env S).bind fun d S1 => match d with
  | .cel n => match S1[n]? with
    | some (.ins c _) => match sub c with
      | some b => .ok (.a (.bl b)) S1
      | none => .bad
    | _ => .bad
  | _ => .bad
section
variable {X : Cx} {W : WX} {pin : Option (Nat × Addr)} {o : Expr} {fo : EX} {p pos px : Pos} {T : Str} {C0 : Addr} {sub : Str → Option Bool}
theorem ge_isC (ho : GE X W pin o fo) (hT : PE X (.Name T px) (tC (.ref C0))) (hs : SubOk X.K X.mg sub (.ref C0)) (hg : Gl X "isinstance") (hm : X.mg "isinstance" = none)
    (hv : bootBuiltins "isinstance" = some (.builtin "isinstance") := by decide +kernel)
    (he : starEach [o, .Name T px] X.env = (false, eval o X.env) :: starEach [.Name T px] X.env := by rfl) (he2 : starEach [.Name T px] X.env = (false, eval (.Name T px) X.env) :: starEach [] X.env := by rfl) (hpl : (backTo pos (starEach [.Name T px] X.env)).any (·.1) = false := by rfl) :
    GE X W pin (.Call (.Name "isinstance" p) [o, .Name T px] [] pos) (eIsC sub fo) :=
  PE.weak (pe_callB call_isi hg hm hv (pa_cons ho (pa_cons hT pa_nil he2) he) (by decide) (by decide) he hpl) fun σ H Q ⟨m, env, S, E, r, s⟩ => by
    show rdE X.K X.mg W pin fo σ H fun x H1 => tC (.ref C0) σ H1 fun y H2 => tNil σ H2 fun xs H3 => _
    exact rdE_bind E r s fun x H1 m1 S1 d p1 E1 r1 rd s1 => by
      cases d with
      | cel n =>
        obtain ⟨hn, rfl⟩ := rd
        dsimp only at s1
        split at s1
        · rename_i c fs hS
          split at s1
          · rename_i b hb
            obtain ⟨C, hC, hI, hk⟩ := hs c b hb
            obtain ⟨C', dx, ws, h1, ev, _, rv⟩ := r1.at_ _ _ hS
            obtain rfl := clsAt_inj hC h1
            exact ⟨_, .ref C0, .ref C, .ref C0, b, rfl, .own C0, .base (.ins ev hI.cl hI.ha hI.hn hI.htk hI.hm), hk, s1.here r1 rfl⟩
          · exact s1.elim
        · exact s1.elim
      | _ => exact s1.elim
end

/-! ### raise -/
/-- an own class of error over ValueError without __init__ -/
structure ErrF (K : PySem.W.Frag) (mg : Str → Option Value) (c : Str) (C : Addr) : Prop where
  x : PySem.W.excIn K C [.type "ValueError", .type "Exception", .type "BaseException", .type "object"] "ValueError.__new__" = true
  g : mg c = some (.ref C)
  k : PySem.W.keepIn K (.ref C) = true
  b : PySem.W.subIn K (.ref C) (.type "BaseException") = some true
  t : PySem.W.typeIn K (.ref C) = some (.type "type")
def sRaise (c : Str) : SX := fun env S => .ex ⟨c, []⟩ env S
section
variable {X : Cx} {W : WX} {pin : Option (Nat × Addr)} {c : Str} {C : Addr} {m : Str} {j : Nat} {p p2 pos pos2 : Pos}
theorem gs_raise (hc : X.calm = true) (tk : Takes X W) (e : ErrF X.K X.mg c C) (hg : Gl X c) (hdb : (c == ("__debug__" : Str)) = false := by decide) : GS X W pin (.Raise (some (.Call (.Name c p) [.Constant (.str m) j p2] [] pos)) none pos2) (sRaise c) :=
  PS.weak (ps_raise hc tk (pmk_own PySem.F.excBase_ValueError e.x e.g e.k (raises_own e.b e.t) hg hdb)) fun E σ H ⟨mm, env, S, E0, r, s⟩ =>
    s mm H σ (.ref C) none (Post.refl r) E0 ⟨C, clsAt_of e.g, rfl, rfl⟩
end

/-! ### try: body, except x as n: suite -/
/-- hit tells of the classes of exceptions whether the clause takes them -/
def HitOk (K : PySem.W.Frag) (mg : Str → Option Value) (hit : Str → Option Bool) (u : Value) : Prop := ∀ c b, hit c = some b → ∀ C, clsAt mg c = some C → PySem.W.exmOne K (.ref C) u = some b
/-- the slot i is forgotten -/
def SR.drop (i : Nat) : SR → SR
  | .nx env S => .nx (env.set i none) S
  | .bk env S => .bk (env.set i none) S
  | .ct env S => .ct (env.set i none) S
  | .ex _ _ _ => .bad
  | r => r
def sTryAs (body : SX) (hit : Str → Option Bool) (i : Nat) (suite : Exn → SX) : SX := fun env S => match body env S with
  | .ex x env' S' => match hit x.cls with
    | some true => if i < env'.length then (suite x (env'.set i none) S').drop i else .bad
    | some false => .ex x env' S'
    | none => .bad
  | r => r
section
variable {X : Cx} {W : WX} {x n : Str} {u : Value} {i : Nat} {body suite : List Stmt} {b₀ : Stmt} {np pos pos' : Pos} {fb : SX} {fs : Exn → SX} {hit : Str → Option Bool}
/-- the reading of a suite -/
def rdSu (K : PySem.W.Frag) (mg : Str → Option Value) (i : Nat) (fs : Exn → SX) : Addr → Value → Option Addr → TS := fun a cls d E σ H => ∃ x m env S, SlotsOk K (some (i, a)) m S.length H env σ ∧ SRel K mg m S H ∧ ExR K mg m S.length H x cls d ∧ SSat K mg wNo (some (i, a)) E m S H (fs x env S)
theorem SlotsOk.pinned {K : PySem.W.Frag} {m : Nat → Addr} {N : Nat} {H : Hp} {env : Slots} {σ : L2.St} (e : SlotsOk K none m N H env σ) {a : Addr} (hi : i < σ.length) : SlotsOk K (some (i, a)) m N H (env.set i none) (σ.set i (some (.ref a))) := by
  have e2 := e.forget i (some (.ref a)) fun _ z => nomatch z
  refine ⟨e2.len, e2.at_, fun j p h => ?_⟩
  cases h
  exact List.getElem?_set_self hi
theorem SlotsOk.unpin {K : PySem.W.Frag} {m : Nat → Addr} {N : Nat} {H : Hp} {env : Slots} {σ : L2.St} {a : Addr} (e : SlotsOk K (some (i, a)) m N H env σ) : SlotsOk K none m N H (env.set i none) (σ.set i none) := by
  have e' : SlotsOk K none m N H env σ := ⟨e.len, e.at_, fun _ _ z => nomatch z⟩
  exact e'.forget i none fun _ z => nomatch z
theorem gs_tryAs (hs : X.stack = X.env :: X.outer) (hf : X.env.frame = some X.env.locals) (hN : X.N.Nodup) (hi : X.N[i]? = some n) (hln : X.env.kindOf n = some .local) (hc : Names X x u) (hh : HitOk X.K X.mg hit u) (tk : Takes X W)
    (hb : ∀ (W' : WX) (pn : List (Addr × Obj)) (xe : Value → Shared → Prop), Takes (X.tr pn xe) W' → PassesOwn (model X.prog X.w) X.A X.env xe → GSs (X.tr pn xe) W' none body fb)
    (hsu : ∀ (e : Exn) (C a : Addr) (oe : Obj) (d : Option Addr) (pn : List (Addr × Obj)), clsAt X.mg e.cls = some C → Zc (.ref C) d oe → (∃ vs, oe.data = .fields vs) → (e.fs = [] → d = none) → GSs (X.suite a ((a, oe) :: pn)) wNo (some (i, a)) (b₀ :: suite) (fs e)) :
    GS X W none (.Try body [.ExceptHandler (some (.Name x np)) (some n) (b₀ :: suite) pos'] [] [] pos) (sTryAs fb hit i fs) := by
  refine PS.weak (ps_try_as (tb := fun W' => rdS X.K X.mg W' none fb) (ts := rdSu X.K X.mg i fs) (Wout := W) hs hf hN hi hln hc tk hb ?_) ?_
  · intro a oe cls d pn hz hv
    refine ⟨fun pins s σ H E I ⟨e, m, env, S, E0, r, ex, q⟩ => ?_⟩
    obtain ⟨C, hC, rfl, hd⟩ := ex
    exact (hsu e C a oe d pn hC hz hv (fun h => by rw [h] at hd; exact hd)).run pins s σ H E I ⟨m, env, S, E0, r, q⟩
  · intro E σ H ⟨m, env, S, E0, r, s⟩
    refine ⟨m, env, S, E0, r, ?_⟩
    unfold sTryAs at s
    cases hbd : fb env S with
    | nx e4 S4 => rw [hbd] at s; exact s
    | rt v S4 => rw [hbd] at s; exact s
    | bk e4 S4 => rw [hbd] at s; exact s
    | ct e4 S4 => rw [hbd] at s; exact s
    | bad => rw [hbd] at s; exact s
    | ex y env' S' =>
      rw [hbd] at s
      dsimp only at s
      intro m' H' σ' cls d p' E' ex
      have ex' := ex
      obtain ⟨C, hC, rfl, hd⟩ := ex'
      cases hh' : hit y.cls with
      | none => rw [hh'] at s; exact s.elim
      | some b =>
        rw [hh'] at s
        refine ⟨b, hh _ _ hh' C hC, fun hb a ha => ?_, fun hb => ?_⟩
        · subst hb
          dsimp only at s
          by_cases hil : i < env'.length
          · have hiσ : i < σ'.length := E'.len ▸ hil
            rw [if_pos hil] at s
            have s2 := SSat.step p' s
            refine ⟨y, m', env'.set i none, S', E'.pinned hiσ, p'.rel, ex, ?_⟩
            cases hfs : fs y (env'.set i none) S' with
            | nx e4 S4 => rw [hfs] at s2; exact fun m4 H4 σ4 p4 E4 => s2 m4 H4 _ p4 E4.unpin
            | rt v S4 => rw [hfs] at s2; exact s2
            | bk e4 S4 => rw [hfs] at s2; exact fun m4 H4 σ4 p4 E4 => s2 m4 H4 _ p4 E4.unpin
            | ct e4 S4 => rw [hfs] at s2; exact fun m4 H4 σ4 p4 E4 => s2 m4 H4 _ p4 E4.unpin
            | bad => rw [hfs] at s2; exact s2
            | ex z e4 S4 => rw [hfs] at s2; exact s2.elim
          · rw [if_neg hil] at s
            exact s.elim
        · subst hb
          exact s m' H' σ' _ d p' E' ex
end
end G
set_option maxRecDepth 100000
/-! The layer G, part 8: what a def leaves; a def by its body; the law's end. -/
namespace G
open PySem PySem.Spec PyProof.Rows L2

/-! ### what leans on cells below n alone -/
mutual
def D.lo (n : Nat) : D → Bool
  | .a _ => true
  | .tup ds => D.loL n ds
  | .ils ds => D.loL n ds
  | .cel k => decide (k < n)
def D.loL (n : Nat) : List D → Bool
  | [] => true
  | d :: ds => D.lo n d && D.loL n ds
end
def Cell.lo (n : Nat) : Cell → Bool
  | .lst ds => D.loL n ds
  | .dic kvs => kvs.all fun kv => D.lo n kv.2
  | .dit kvs => kvs.all fun kv => D.lo n kv.2
  | .ins _ fs => fs.all fun kv => D.lo n kv.2
def Sto.lo (S : Sto) : Bool := S.all (Cell.lo S.length)
/-- what a def leaves: new cells that nobody can reach are dropped; a new list (dict, instance) alone is moved to the first free place -/
def region (n : Nat) (r : R D) : R D := match r with
  | .ok d S' => if D.lo n d = true ∧ Sto.lo (S'.take n) = true then .ok d (S'.take n) else match d with
    | .cel k => match S'[k]? with
      | some c => if n ≤ k ∧ Cell.lo n c = true ∧ Sto.lo (S'.take n) = true ∧ n ≤ S'.length then .ok (.cel n) (S'.take n ++ [c]) else r
      | none => r
    | _ => r
  | .exc e S' => if (e.fs.all fun kv => D.lo n kv.2) = true ∧ Sto.lo (S'.take n) = true then .exc e (S'.take n) else r
  | .bad => .bad

section
variable {K : PySem.W.Frag} {mg : Str → Option Value} {m m' : Nat → Addr} {S S' : Sto} {H H' : Hp} {N n : Nat}
mutual
theorem Rep.cut : ∀ (d : D) (v : V), D.lo n d = true → Rep K m N H d v → Rep K m n H d v
  | .a _, _, _, h => h
  | .tup ds, _, b, ⟨p, vs, e, s, z, r⟩ => ⟨p, vs, e, s, z, RepL.cut ds vs (by unfold D.lo at b; exact b) r⟩
  | .ils ds, _, b, ⟨p, vs, e, s, z, r⟩ => ⟨p, vs, e, s, z, RepL.cut ds vs (by unfold D.lo at b; exact b) r⟩
  | .cel k, _, b, ⟨_, e⟩ => ⟨by unfold D.lo at b; exact of_decide_eq_true b, e⟩
theorem RepL.cut : ∀ (ds : List D) (vs : List V), D.loL n ds = true → RepL K m N H ds vs → RepL K m n H ds vs
  | [], _, _, h => h
  | d :: ds, _, b, ⟨v, r, e, h1, h2⟩ => by
    unfold D.loL at b
    obtain ⟨b1, b2⟩ := Bool.and_eq_true_iff.mp b
    exact ⟨v, r, e, Rep.cut d v b1 h1, RepL.cut ds r b2 h2⟩
end
theorem RepP.cut {κ : Type} : ∀ (ds : List (κ × D)) (vs : List (κ × V)), (ds.all fun kv => D.lo n kv.2) = true → RepP K m N H ds vs → RepP K m n H ds vs
  | [], _, _, h => h
  | (x, d) :: ds, _, b, ⟨v, r, e, h1, h2⟩ => by
    rw [List.all_cons] at b
    obtain ⟨b1, b2⟩ := Bool.and_eq_true_iff.mp b
    exact ⟨v, r, e, Rep.cut d v b1 h1, RepP.cut ds r b2 h2⟩
theorem CellOk.cut {p : Addr} {c : Cell} (b : Cell.lo n c = true) (h : CellOk K mg m N H p c) : CellOk K mg m n H p c := by
  cases c with
  | lst ds => obtain ⟨vs, e, z, r⟩ := h; exact ⟨vs, e, z, RepL.cut _ _ b r⟩
  | dic kvs => obtain ⟨vs, e, z, r⟩ := h; exact ⟨vs, e, z, RepP.cut _ _ b r⟩
  | dit kvs => obtain ⟨vs, e, z, r⟩ := h; exact ⟨vs, e, z, RepP.cut _ _ b r⟩
  | ins c fs => obtain ⟨C, dx, ws, h1, e, h2, r⟩ := h; exact ⟨C, dx, ws, h1, e, h2, RepP.cut _ _ b r⟩
theorem below_at {T : Sto} {i : Nat} {c : Cell} (b : Sto.lo T = true) (h : T[i]? = some c) : Cell.lo T.length c = true := List.all_eq_true.mp b c (List.mem_of_getElem? h)
/-- the store is cut back to its old length -/
theorem Post.cutBack (p : Post K mg m S H m' S' H') (b : Sto.lo (S'.take S.length) = true) : Post K mg m S H m' (S'.take S.length) H' := by
  have hl : (S'.take S.length).length = S.length := by rw [List.length_take]; exact Nat.min_eq_left p.len
  refine ⟨⟨fun i c e => ?_, fun i j hi hj => ?_⟩, by rw [hl]; exact Nat.le_refl _, p.ext, p.frame, fun i h1 h2 => ?_⟩
  · have bc := below_at b e
    rw [hl] at bc ⊢
    refine CellOk.cut bc (p.rel.at_ i c ?_)
    have hi : i < S.length := by have := (List.getElem?_eq_some_iff.mp e).1; rw [hl] at this; exact this
    rw [List.getElem?_take_of_lt hi] at e
    exact e
  · rw [hl] at hi hj
    exact p.rel.inj i j (Nat.lt_of_lt_of_le hi p.len) (Nat.lt_of_lt_of_le hj p.len)
  · rw [hl] at h2
    exact absurd h2 (Nat.not_lt.mpr h1)
theorem sat_region {W : WX} {σ : L2.St} {Q : VK} {r : R D} (h : Sat K mg W σ m S H (Rep K) Q (region S.length r)) : Sat K mg W σ m S H (Rep K) Q r := by
  unfold region at h
  cases r with
  | bad => exact h
  | exc e S' =>
    dsimp only at h
    split at h
    · rename_i hb
      intro m' H' cls d p ex
      have p2 := p.cutBack hb.2
      have hl : (S'.take S.length).length = S.length := by rw [List.length_take]; exact Nat.min_eq_left p.len
      refine h m' H' cls d p2 ?_
      obtain ⟨C, hC, rfl, hd⟩ := ex
      refine ⟨C, hC, rfl, ?_⟩
      rw [hl]
      cases hf : e.fs with
      | nil => rw [hf] at hd; exact hd
      | cons f fs =>
        rw [hf] at hd
        obtain ⟨q, ws, hq, hx, rp⟩ := hd
        have hb1 := hb.1
        rw [hf] at hb1
        exact ⟨q, ws, hq, hx, RepP.cut _ _ hb1 rp⟩
    · exact h
  | ok d S' =>
    dsimp only at h
    split at h
    · rename_i hb
      intro m' H' y p rd
      have hl : (S'.take S.length).length = S.length := by rw [List.length_take]; exact Nat.min_eq_left p.len
      refine h m' H' y (p.cutBack hb.2) ?_
      rw [hl]
      exact Rep.cut d y hb.1 rd
    · cases d with
      | cel k =>
        dsimp only at h
        cases hk : S'[k]? with
        | none => rw [hk] at h; exact h
        | some c =>
          rw [hk] at h
          dsimp only at h
          split at h
          · rename_i hb
            obtain ⟨h1, h2, h3, h4⟩ := hb
            intro m' H' y p rd
            obtain ⟨_, rfl⟩ := rd
            have hl : (S'.take S.length).length = S.length := by rw [List.length_take]; exact Nat.min_eq_left p.len
            have p2 := p.cutBack h3
            have hk' := (List.getElem?_eq_some_iff.mp hk).1
            have p3 : Post K mg m S H (mAt m' S.length (m' k)) (S'.take S.length ++ [c]) H' := by
              have := p2.adopt (p := m' k) (c := c) (p.fresh k h1 hk') (fun i hi e => by
                rw [hl] at hi
                have := p.rel.inj i k (Nat.lt_of_lt_of_le hi p.len) hk' e
                omega) (by
                have c0 := CellOk.cut h2 (p.rel.at_ k c hk)
                have k0 : Keep m' S.length H' (mAt m' (S'.take S.length).length (m' k)) ((S'.take S.length).length + 1) H' := by
                  rw [hl]
                  exact ⟨Nat.le_succ _, fun i hi => mAt_lt hi, fun q o h _ => h⟩
                exact c0.mono k0 fun o h => h)
              rw [hl] at this
              exact this
            refine h _ H' (.ref (m' k)) p3 ⟨?_, ?_⟩
            · rw [List.length_append, hl]; exact Nat.lt_succ_self _
            · rw [mAt_self]
          · exact h
      | _ => exact h
end

/-! ### a def by its body -/
def runBody (N : Nat) (b : SX) (ds : List D) (S : Sto) : R D := match b (ds.map some ++ List.replicate (N - ds.length) none) S with
  | .nx _ S' => .ok (.a .non) S'
  | .rt d S' => .ok d S'
  | .ex e _ S' => .exc e S'
  | _ => .bad
/-- the def with n parameters, N slots, the body b -/
def defSem (n N : Nat) (b : SX) : List D → Sto → R D := fun ds S => if ds.length = n then region S.length (runBody N b ds S) else .bad
theorem ary_def (n N : Nat) (b : SX) : Ary n (defSem n N b) := fun ds S h => if_neg h

section
variable {P : Program} {w : World} {K : PySem.W.Frag} {mg : Str → Option Value} {base : Heap}
/-- the context of a def's body -/
abbrev bodyCx (P : Program) (w : World) (K : PySem.W.Frag) (mg : Str → Option Value) (base : Heap) (N : List Str) (qual : Str) (scope : Scope) (f : Addr) (cd : Value) (A : Around) (outer : List PySem.Env) (s : Shared) (H : Hp) (E : XK) : Cx :=
  cxOf (L2.CX P w) P w K mg base N qual scope f cd A outer s H E
/-- the body st computes b, in every call -/
def BodyOk (P : Program) (w : World) (K : PySem.W.Frag) (mg : Str → Option Value) (base : Heap) (k : Nat) (N : List Str) (qual : Str) (scope : Scope) (st : List Stmt) (b : SX) : Prop :=
  ∀ (f : Addr) (cd : Value) (A : Around) (outer : List PySem.Env) (s : Shared) (H : Hp) (E : XK), Room k (bodyCx P w K mg base N qual scope f cd A outer s H E).A →
    Takes (bodyCx P w K mg base N qual scope f cd A outer s H E) (fun cls d _ H => E cls d H) → PassesOwn (model P w) (bodyCx P w K mg base N qual scope f cd A outer s H E).A (bodyCx P w K mg base N qual scope f cd A outer s H E).env (bodyCx P w K mg base N qual scope f cd A outer s H E).xe →
    GSs (bodyCx P w K mg base N qual scope f cd A outer s H E) (fun cls d _ H => E cls d H) none st b
theorem slots_start {m : Nat → Addr} {S : Sto} {H : Hp} {ds : List D} {vs : List V} {N : List Str} (r : RepL K m S.length H ds vs) : SlotsOk K none m S.length H (ds.map some ++ List.replicate (N.length - ds.length) none) (L2.start N vs) := by
  unfold L2.start
  refine ⟨by simp [r.len], fun i d h => ?_, fun _ _ z => nomatch z⟩
  by_cases hi : i < ds.length
  · rw [List.getElem?_append_left (by simpa using hi), List.getElem?_map] at h
    rw [List.getElem?_append_left (by simpa [r.len] using hi), List.getElem?_map]
    cases q : ds[i]? with
    | none => rw [q] at h; cases h
    | some d' =>
      rw [q] at h
      have e : d' = d := by simpa using h
      subst e
      obtain ⟨v, h1, h2⟩ := r.get q
      exact ⟨v, by rw [h1]; rfl, h2⟩
  · rw [List.getElem?_append_right (by simpa using Nat.le_of_not_lt hi), List.getElem?_replicate] at h
    split at h <;> cases h
theorem def_ok {x qual : Str} {st : Stmt} {f : Addr} {fd : FuncData} {N ps : List Str} {k n nn : Nat} {b : SX} (F : Fun K x qual st f fd) (Sc : FnScope N ps (defScope st)) (hn : ps.length = n) (hN : N.length = nn) (h : BodyOk P w K mg base k N qual (defScope st) (defBody st) b) :
    FnOk P w K mg base (L2.CX P w) (k + 1) f fd ps (spF K mg ps.length (defSem n nn b)) := by
  subst hn
  subst hN
  refine F.okX Sc (fun vs H Q E h => h.1) fun cdv A outer s H vs Q E hr hsp => ?_
  obtain ⟨hl, m, ds, S, rs, r, q⟩ := hsp
  refine ⟨_, h f cdv A outer s H E hr (takes_of rfl rfl rfl rfl) (passes_of rfl), m, _, S, slots_start (N := N) rs, r, ?_⟩
  have hdl : ds.length = ps.length := by rw [← rs.len]; exact hl
  unfold defSem at q
  rw [if_pos hdl] at q
  have q2 := sat_region q
  unfold runBody at q2
  show SSat K mg (fun cls d _ H => E cls d H) none { nx := fun _ H' => Q .non H', rt := Q } m S H (b (ds.map some ++ List.replicate (N.length - ds.length) none) S)
  cases hb : b (ds.map some ++ List.replicate (N.length - ds.length) none) S with
  | nx e4 S4 => rw [hb] at q2; exact fun m' H' σ' p _ => q2 m' H' .non p rfl
  | rt v S4 => rw [hb] at q2; exact q2
  | bk e4 S4 => rw [hb] at q2; exact q2.elim
  | ct e4 S4 => rw [hb] at q2; exact q2.elim
  | bad => rw [hb] at q2; exact q2.elim
  | ex y e4 S4 => rw [hb] at q2; exact fun m' H' σ' cls d p _ ex => q2 m' H' cls d p ex
/-- no level: nothing is promised -/
theorem def_zero {f : Addr} {fd : FuncData} {ps : List Str} {k : Nat} : FnOk P w K mg base (L2.CX P w) k f fd ps (spF K mg ps.length fun _ _ => .bad) :=
  ⟨fun vs H Q E h => h.1, fun A outer s H args us vs Q E hr e0 hb r ⟨_, m, ds, S, _, _, q⟩ => q.elim⟩
end

/-! ### the law's end -/
/-- the law's promise from what it computes -/
theorem law_end {K : PySem.W.Frag} {mg : Str → Option Value} {F : List D → Sto → R D} {H : Hp} {a : Addr} {ns : List Int} (hO : Only H) (hS : SqL K H a (ns.map V.int)) (hl : ns.length ≤ sizeLine) {S' : Sto}
    (h : F [.ils (ns.map fun i => .a (.int i))] [] = .ok (.a (.bl true)) S') : spF K mg 1 F [.ref a] H (fun v _ => v = .bl true) fun _ _ _ => False := by
  have rl : ∀ l : List Int, RepL K (fun _ => 0) 0 H (l.map fun i => .a (.int i)) (l.map V.int) := fun l => by
    induction l with
    | nil => exact rfl
    | cons i r ih => exact ⟨.int i, r.map V.int, rfl, rfl, ih⟩
  have hi : ILs K H a (ns.map V.int) := by
    rcases hS with (h1 | h1) | h1
    · rcases hO a with z | ⟨o, xs, z⟩
      · rw [z] at h1; cases h1
      · rw [z] at h1; cases h1
    · exact .inl h1
    · exact .inr h1
  refine ⟨rfl, fun _ => 0, [.ils (ns.map fun i => .a (.int i))], [], ⟨.ref a, [], rfl, ⟨a, _, rfl, hi, by rw [List.length_map]; exact hl, rl ns⟩, rfl⟩, ⟨fun n c e => by simp at e, fun i j hi _ => absurd hi (Nat.not_lt_zero i)⟩, ?_⟩
  rw [h]
  exact fun m' H' y _ rd => rd
end G
set_option maxRecDepth 100000
/-! The layer G, part 9: more rules. -/
namespace G
open PySem PySem.Spec PyProof.Rows L2

/-! ### isinstance of the exception that a suite holds -/
def eIsE (x : Exn) (sub : Str → Option Bool) : EX := fun _ S => match x.fs with
  | [] => match sub x.cls with
    | some b => .ok (.a (.bl b)) S
    | none => .bad
  | _ => .bad
/-- sub tells of the classes of exceptions whether they are of the class u -/
def ExsOk (K : PySem.W.Frag) (mg : Str → Option Value) (sub : Str → Option Bool) (u : Value) : Prop := ∀ c b, sub c = some b → ∀ C, clsAt mg c = some C → ExcC K C ∧ PySem.W.kitOne K (.ref C) u = some b
section
variable {X : Cx} {W : WX} {x : Exn} {C a : Addr} {oe : Obj} {d : Option Addr} {pn : List (Addr × Obj)} {i : Nat} {n T : Str} {u : Value} {vT : V} {p pos px pt : Pos} {sub : Str → Option Bool}
theorem ge_isE (hC : clsAt X.mg x.cls = some C) (hz : Zc (.ref C) d oe) (hv : ∃ vs, oe.data = .fields vs) (hd : x.fs = [] → d = none) (he : PE (X.suite a ((a, oe) :: pn)) (.Name n pt) (tVar i)) (hT : PE (X.suite a ((a, oe) :: pn)) (.Name T px) (tC vT)) (hr : ∀ w, RelV vT w → w = u)
    (hs : ExsOk X.K X.mg sub u) (hg : Gl X "isinstance") (hm : X.mg "isinstance" = none) (hb : bootBuiltins "isinstance" = some (.builtin "isinstance") := by decide +kernel)
    (h1 : starEach [.Name n pt, .Name T px] X.env = (false, eval (.Name n pt) X.env) :: starEach [.Name T px] X.env := by rfl) (h2 : starEach [.Name T px] X.env = (false, eval (.Name T px) X.env) :: starEach [] X.env := by rfl) (hpl : (backTo pos (starEach [.Name T px] X.env)).any (·.1) = false := by rfl) :
    GE (X.suite a ((a, oe) :: pn)) W (some (i, a)) (.Call (.Name "isinstance" p) [.Name n pt, .Name T px] [] pos) (eIsE x sub) := by
  cases hf : x.fs with
  | cons f fs =>
    refine ⟨fun pins s σ H Q I ⟨m, env, S, E, r, q⟩ => ?_⟩
    unfold eIsE at q
    rw [hf] at q
    exact q.elim
  | nil =>
    cases hs' : sub x.cls with
    | none =>
      refine ⟨fun pins s σ H Q I ⟨m, env, S, E, r, q⟩ => ?_⟩
      unfold eIsE at q
      rw [hf, hs'] at q
      exact q.elim
    | some b =>
      obtain ⟨hE, hk⟩ := hs _ _ hs' C hC
      obtain rfl := hd hf
      refine PE.weak (pe_callB (X := X.suite a ((a, oe) :: pn)) (call_isE hE hz hv) hg hm hb (pa_cons he (pa_cons hT pa_nil h2) h1) (by decide) (by decide) h1 hpl) fun σ H Q ⟨m, env, S, E, r, s⟩ => ?_
      unfold eIsE at s
      rw [hf, hs'] at s
      exact ⟨.ref a, E.pin i a rfl, vT, u, b, rfl, hr, hk, s.here r rfl⟩
end

/-! ### chained comparisons -/
def eChain (g g' : Op2) (fa fb fc : EX) : EX := fun env S => (fa env S).bind fun x S1 => (fb env S1).bind fun y S2 => (ofO (g x y S2)).bind fun z S3 => match z with
  | .a (.bl true) => (fc env S3).bind fun w S4 => ofO (g' y w S4)
  | .a (.bl false) => .ok (.a (.bl false)) S3
  | _ => .bad
section
variable {X : Cx} {W : WX} {pin : Option (Nat × Addr)} {pos : Pos} {a b c : Expr} {fa fb fc : EX} {op op' : CmpOp} {g g' : Op2}
theorem chain_rd {σ : L2.St} {H : Hp} {Q : VK} (h : rdE X.K X.mg W pin (eChain g g' fa fb fc) σ H Q) : tChain (rdO X.K X.mg g) (rdO X.K X.mg g') (rdE X.K X.mg W pin fa) (rdE X.K X.mg W pin fb) (rdE X.K X.mg W pin fc) σ H Q := by
  obtain ⟨m, env, S, E, r, s⟩ := h
  refine rdE_bind E r s fun x H1 m1 S1 d p1 E1 r1 rd s1 => rdE_bind E1 r1 s1 fun y H2 m2 S2 e p2 E2 r2 re s2 => ?_
  refine rdO_mk r2 ((p2.keep r1).rep _ _ rd) re ((s2.bind (Rl' := Rep X.K)).mono fun z H3 ⟨m3, S3, d3, p3, rz, s3⟩ => ?_)
  cases d3 with
  | a v =>
    cases v with
    | bl k =>
      obtain rfl : z = .bl k := rz
      cases k with
      | false => exact ⟨false, rfl, s3.here p3.rel rfl⟩
      | true =>
        exact ⟨true, rfl, rdE_bind (E2.keep (p3.keep r2)) p3.rel s3 fun w H4 m4 S4 f p4 E4 r4 rf s4 => rdO_mk r4 ((p4.keep p3.rel).rep _ _ ((p3.keep r2).rep _ _ re)) rf s4⟩
    | _ => exact s3.elim
  | _ => exact s3.elim
theorem ge_chain (ho : OpR X (compareOp op) (rdO X.K X.mg g)) (ho' : OpR X (compareOp op') (rdO X.K X.mg g')) (ha : GE X W pin a fa) (hb : GE X W pin b fb) (hc : GE X W pin c fc) (hm : lastMarks [op, op'] [b, c] = false := by rfl) : GE X W pin (.Compare a [op, op'] [b, c] pos) (eChain g g' fa fb fc) :=
  PE.weak (pe_chain ho ho' ha hb hc hm) fun σ H Q h => chain_rd h
end

/-! ### a def with defaults -/
section
variable {P : Program} {w : World} {K : PySem.W.Frag} {mg : Str → Option Value} {base : Heap}
theorem defD_ok {x qual : Str} {params : Arguments} {body : List Stmt} {scope : Scope} {dvs : List V} {kws : List (Str × V)} {f : Addr} {fd : FuncData} {N ps : List Str} {k n nn : Nat} {b : SX} (F : FunD K x qual params body scope dvs kws f fd) (Sc : FnScope N ps scope) (hn : ps.length = n) (hN : N.length = nn) (h : BodyOk P w K mg base k N qual scope body b) :
    FnOk P w K mg base (L2.CX P w) (k + 1) f fd ps (spF K mg ps.length (defSem n nn b)) := by
  subst hn
  subst hN
  refine F.ok Sc (fun vs H Q E h => h.1) fun cdv A outer s H vs Q E hr hsp => ?_
  obtain ⟨hl, m, ds, S, rs, r, q⟩ := hsp
  refine ⟨_, h f cdv A outer s H E hr (takes_of rfl rfl rfl rfl) (passes_of rfl), m, _, S, slots_start (N := N) rs, r, ?_⟩
  have hdl : ds.length = ps.length := by rw [← rs.len]; exact hl
  unfold defSem at q
  rw [if_pos hdl] at q
  have q2 := sat_region q
  unfold runBody at q2
  show SSat K mg (fun cls d _ H => E cls d H) none { nx := fun _ H' => Q .non H', rt := Q } m S H (b (ds.map some ++ List.replicate (N.length - ds.length) none) S)
  cases hb : b (ds.map some ++ List.replicate (N.length - ds.length) none) S with
  | nx e4 S4 => rw [hb] at q2; exact fun m' H' σ' p _ => q2 m' H' .non p rfl
  | rt v S4 => rw [hb] at q2; exact q2
  | bk e4 S4 => rw [hb] at q2; exact q2.elim
  | ct e4 S4 => rw [hb] at q2; exact q2.elim
  | bad => rw [hb] at q2; exact q2.elim
  | ex y e4 S4 => rw [hb] at q2; exact fun m' H' σ' cls d p _ ex => q2 m' H' cls d p ex
end
end G
set_option maxRecDepth 100000
/-! The layer G, part 10: what the top has written, in short; one level more. -/
namespace G
open PySem PySem.Spec PyProof.Rows L2

/-- a def of the module -/
def DefF (K : PySem.W.Frag) (mg : Str → Option Value) (x qual : Str) (st : Stmt) (ps : List Str) : Prop := ∃ f fd, Fun K x qual st f fd ∧ mg x = some (.ref f) ∧ Binds K fd ps []
/-- a method of the class c -/
def MethF (K : PySem.W.Frag) (mg : Str → Option Value) (c m qual : Str) (st : Stmt) (ps : List Str) : Prop := ∃ C f fd, Fun K m qual st f fd ∧ clsAt mg c = some C ∧ Cls K C ∧ Meth K C m f ∧ Binds K fd ps []
/-- a class's __init__ -/
def InitF (K : PySem.W.Frag) (mg : Str → Option Value) (c qual : Str) (st : Stmt) (ps : List Str) : Prop := ∃ C f fd, Fun K "__init__" qual st f fd ∧ mg c = some (.ref C) ∧ Mk K C f ∧ Binds K fd ps []
/-- a class's __getitem__ -/
def GetF (K : PySem.W.Frag) (mg : Str → Option Value) (c qual : Str) (st : Stmt) (ps : List Str) : Prop := ∃ C f fd, Fun K "__getitem__" qual st f fd ∧ clsAt mg c = some C ∧ GetI K C f ∧ Binds K fd ps []
/-- defaults that stand -/
def DdsOk (K : PySem.W.Frag) (dds : List D) (dvs : List V) : Prop := ∀ m N H, RepL K m N H dds dvs
/-- a def of the module with defaults: j of them are given -/
def DefD (K : PySem.W.Frag) (mg : Str → Option Value) (x qual : Str) (st : Stmt) (ps : List Str) (dds : List D) : Prop :=
  ∃ f fd dvs kws cvs ds, FunD K x qual (defArgs st) (defBody st) (defScope st) dvs kws f fd ∧ mg x = some (.ref f) ∧ Binds K fd ps ds ∧ Vals cvs ds ∧ DdsOk K dds cvs
def InitD (K : PySem.W.Frag) (mg : Str → Option Value) (c qual : Str) (st : Stmt) (ps : List Str) (dds : List D) : Prop :=
  ∃ C f fd dvs kws cvs ds, FunD K "__init__" qual (defArgs st) (defBody st) (defScope st) dvs kws f fd ∧ mg c = some (.ref C) ∧ Mk K C f ∧ Binds K fd ps ds ∧ Vals cvs ds ∧ DdsOk K dds cvs
def MethD (K : PySem.W.Frag) (mg : Str → Option Value) (c m qual : Str) (st : Stmt) (ps : List Str) (dds : List D) : Prop :=
  ∃ C f fd dvs kws cvs ds, FunD K m qual (defArgs st) (defBody st) (defScope st) dvs kws f fd ∧ clsAt mg c = some C ∧ Cls K C ∧ Meth K C m f ∧ Binds K fd ps ds ∧ Vals cvs ds ∧ DdsOk K dds cvs

def badF : List D → Sto → R D := fun _ _ => .bad
theorem ary_bad {n : Nat} : Ary n badF := fun _ _ _ => rfl
section
variable {P : Program} {w : World} {K : PySem.W.Frag} {mg : Str → Option Value} {base : Heap} {k n nn : Nat} {x c m qual : Str} {st : Stmt} {ps N : List Str} {b : SX} {dds : List D}
theorem cal_def (h : DefF K mg x qual st ps) (Sc : FnScope N ps (defScope st)) (hn : ps.length = n) (hN : N.length = nn) (hb : BodyOk P w K mg base k N qual (defScope st) (defBody st) b) : Cal P w K mg base (k + 1) x [] (defSem n nn b) := by
  obtain ⟨f, fd, F, hm, hbi⟩ := h
  exact ⟨f, fd, ps, [], [], def_ok F Sc hn hN hb, by rw [hn]; exact ary_def n nn b, hm, F.kp, hbi, .nil, fun _ _ _ => rfl⟩
theorem cal_zero (h : DefF K mg x qual st ps) : Cal P w K mg base k x [] badF := by
  obtain ⟨f, fd, F, hm, hbi⟩ := h
  exact ⟨f, fd, ps, [], [], def_zero, ary_bad, hm, F.kp, hbi, .nil, fun _ _ _ => rfl⟩
theorem calM_def (h : MethF K mg c m qual st ps) (Sc : FnScope N ps (defScope st)) (hn : ps.length = n) (hN : N.length = nn) (hb : BodyOk P w K mg base k N qual (defScope st) (defBody st) b) : CalM P w K mg base (k + 1) c m [] (defSem n nn b) := by
  obtain ⟨C, f, fd, F, hC, hcl, hme, hbi⟩ := h
  exact ⟨C, f, fd, ps, [], [], def_ok F Sc hn hN hb, by rw [hn]; exact ary_def n nn b, hC, hcl, hme, hbi, .nil, fun _ _ _ => rfl⟩
theorem calM_zero (h : MethF K mg c m qual st ps) : CalM P w K mg base k c m [] badF := by
  obtain ⟨C, f, fd, F, hC, hcl, hme, hbi⟩ := h
  exact ⟨C, f, fd, ps, [], [], def_zero, ary_bad, hC, hcl, hme, hbi, .nil, fun _ _ _ => rfl⟩
theorem calC_def (h : InitF K mg c qual st ps) (Sc : FnScope N ps (defScope st)) (hn : ps.length = n) (hN : N.length = nn) (hb : BodyOk P w K mg base k N qual (defScope st) (defBody st) b) : CalC P w K mg base (k + 1) c [] (defSem n nn b) := by
  obtain ⟨C, f, fd, F, hm, hM, hbi⟩ := h
  exact ⟨C, f, fd, ps, [], [], def_ok F Sc hn hN hb, by rw [hn]; exact ary_def n nn b, hm, hM, hbi, .nil, fun _ _ _ => rfl⟩
theorem calC_zero (h : InitF K mg c qual st ps) : CalC P w K mg base k c [] badF := by
  obtain ⟨C, f, fd, F, hm, hM, hbi⟩ := h
  exact ⟨C, f, fd, ps, [], [], def_zero, ary_bad, hm, hM, hbi, .nil, fun _ _ _ => rfl⟩
theorem calI_def (h : GetF K mg c qual st ps) (Sc : FnScope N ps (defScope st)) (hn : ps.length = n) (hN : N.length = nn) (hb : BodyOk P w K mg base k N qual (defScope st) (defBody st) b) : CalI P w K mg base (k + 1) c (defSem n nn b) := by
  obtain ⟨C, f, fd, F, hC, hG, hbi⟩ := h
  exact ⟨C, f, fd, ps, def_ok F Sc hn hN hb, by rw [hn]; exact ary_def n nn b, hC, hG, hbi⟩
theorem calI_zero (h : GetF K mg c qual st ps) : CalI P w K mg base k c badF := by
  obtain ⟨C, f, fd, F, hC, hG, hbi⟩ := h
  exact ⟨C, f, fd, ps, def_zero, ary_bad, hC, hG, hbi⟩
theorem cal_defD (h : DefD K mg x qual st ps dds) (Sc : FnScope N ps (defScope st)) (hn : ps.length = n) (hN : N.length = nn) (hb : BodyOk P w K mg base k N qual (defScope st) (defBody st) b) : Cal P w K mg base (k + 1) x dds (defSem n nn b) := by
  obtain ⟨f, fd, dvs, kws, cvs, ds, F, hm, hbi, hv, hd⟩ := h
  exact ⟨f, fd, ps, ds, cvs, defD_ok F Sc hn hN hb, by rw [hn]; exact ary_def n nn b, hm, F.kp, hbi, hv, hd⟩
theorem cal_zeroD (h : DefD K mg x qual st ps dds) : Cal P w K mg base k x dds badF := by
  obtain ⟨f, fd, dvs, kws, cvs, ds, F, hm, hbi, hv, hd⟩ := h
  exact ⟨f, fd, ps, ds, cvs, def_zero, ary_bad, hm, F.kp, hbi, hv, hd⟩
theorem calC_defD (h : InitD K mg c qual st ps dds) (Sc : FnScope N ps (defScope st)) (hn : ps.length = n) (hN : N.length = nn) (hb : BodyOk P w K mg base k N qual (defScope st) (defBody st) b) : CalC P w K mg base (k + 1) c dds (defSem n nn b) := by
  obtain ⟨C, f, fd, dvs, kws, cvs, ds, F, hm, hM, hbi, hv, hd⟩ := h
  exact ⟨C, f, fd, ps, ds, cvs, defD_ok F Sc hn hN hb, by rw [hn]; exact ary_def n nn b, hm, hM, hbi, hv, hd⟩
theorem calC_zeroD (h : InitD K mg c qual st ps dds) : CalC P w K mg base k c dds badF := by
  obtain ⟨C, f, fd, dvs, kws, cvs, ds, F, hm, hM, hbi, hv, hd⟩ := h
  exact ⟨C, f, fd, ps, ds, cvs, def_zero, ary_bad, hm, hM, hbi, hv, hd⟩
theorem calM_defD (h : MethD K mg c m qual st ps dds) (Sc : FnScope N ps (defScope st)) (hn : ps.length = n) (hN : N.length = nn) (hb : BodyOk P w K mg base k N qual (defScope st) (defBody st) b) : CalM P w K mg base (k + 1) c m dds (defSem n nn b) := by
  obtain ⟨C, f, fd, dvs, kws, cvs, ds, F, hC, hcl, hme, hbi, hv, hd⟩ := h
  exact ⟨C, f, fd, ps, ds, cvs, defD_ok F Sc hn hN hb, by rw [hn]; exact ary_def n nn b, hC, hcl, hme, hbi, hv, hd⟩
theorem calM_zeroD (h : MethD K mg c m qual st ps dds) : CalM P w K mg base k c m dds badF := by
  obtain ⟨C, f, fd, dvs, kws, cvs, ds, F, hC, hcl, hme, hbi, hv, hd⟩ := h
  exact ⟨C, f, fd, ps, ds, cvs, def_zero, ary_bad, hC, hcl, hme, hbi, hv, hd⟩
end

/-! ### tests of classes by a list -/
theorem lookup_of {α : Type} [BEq α] [LawfulBEq α] {β : Type} {Pr : α → β → Prop} : ∀ {l : List (α × β)} {c : α} {b : β}, (∀ p ∈ l, Pr p.1 p.2) → l.lookup c = some b → Pr c b
  | [], _, _, _, h => by cases h
  | (a, y) :: r, c, b, hl, h => by
    rw [List.lookup_cons] at h
    split at h
    · rename_i e
      rw [eq_of_beq e, ← Option.some.inj h]
      exact hl _ (List.mem_cons_self ..)
    · exact lookup_of (fun p hp => hl p (List.mem_cons_of_mem _ hp)) h
/-- the class (of an exception, of an instance) is of u: told by a list -/
def subL (l : List (Str × Bool)) : Str → Option Bool := fun c => l.lookup c
/-- a name that isinstance asks for, at exceptions -/
def IsE (K : PySem.W.Frag) (mg : Str → Option Value) (T : Str) (sub : Str → Option Bool) : Prop := ∃ vT u, (mg T = some u ∨ (mg T = none ∧ bootBuiltins T = some u ∧ T ≠ "__name__")) ∧ RelV vT u ∧ (∀ w, RelV vT w → w = u) ∧ ExsOk K mg sub u
/-- .. at instances -/
def IsC (K : PySem.W.Frag) (mg : Str → Option Value) (T : Str) (sub : Str → Option Bool) : Prop := ∃ C0, mg T = some (.ref C0) ∧ SubOk K mg sub (.ref C0)
/-- a name that an except clause asks for -/
def HitN (K : PySem.W.Frag) (mg : Str → Option Value) (T : Str) (hit : Str → Option Bool) : Prop := ∃ u, (mg T = some u ∨ (mg T = none ∧ bootBuiltins T = some u ∧ T ≠ "__name__")) ∧ HitOk K mg hit u
section
variable {X : Cx} {W : WX} {x : Exn} {C a : Addr} {oe : Obj} {d : Option Addr} {pn : List (Addr × Obj)} {i : Nat} {n T : Str} {p pos px pt : Pos} {sub : Str → Option Bool}
theorem ge_isE' (hC : clsAt X.mg x.cls = some C) (hz : Zc (.ref C) d oe) (hv : ∃ vs, oe.data = .fields vs) (hd : x.fs = [] → d = none) (he : PE (X.suite a ((a, oe) :: pn)) (.Name n pt) (tVar i)) (h : IsE X.K X.mg T sub) (hgT : Gl X T) (hg : Gl X "isinstance") (hm : X.mg "isinstance" = none)
    (hdb : (T == ("__debug__" : Str)) = false := by decide) (hb : bootBuiltins "isinstance" = some (.builtin "isinstance") := by decide +kernel)
    (h1 : starEach [.Name n pt, .Name T px] X.env = (false, eval (.Name n pt) X.env) :: starEach [.Name T px] X.env := by rfl) (h2 : starEach [.Name T px] X.env = (false, eval (.Name T px) X.env) :: starEach [] X.env := by rfl) (hpl : (backTo pos (starEach [.Name T px] X.env)).any (·.1) = false := by rfl) :
    GE (X.suite a ((a, oe) :: pn)) W (some (i, a)) (.Call (.Name "isinstance" p) [.Name n pt, .Name T px] [] pos) (eIsE x sub) := by
  obtain ⟨vT, u, hT, r1, r2, hs⟩ := h
  refine ge_isE hC hz hv hd he ?_ r2 hs hg hm hb h1 h2 hpl
  rcases hT with hT | ⟨h3, h4, h5⟩
  · exact pe_glob hgT hT r1 hdb
  · exact pe_bltn hgT h3 h4 r1 h5 hdb
end
section
variable {X : Cx} {W : WX} {pin : Option (Nat × Addr)} {o : Expr} {fo : EX} {p pos px : Pos} {T : Str} {sub : Str → Option Bool}
theorem ge_isC' (ho : GE X W pin o fo) (h : IsC X.K X.mg T sub) (hgT : Gl X T) (hg : Gl X "isinstance") (hm : X.mg "isinstance" = none) (hdb : (T == ("__debug__" : Str)) = false := by decide)
    (hv : bootBuiltins "isinstance" = some (.builtin "isinstance") := by decide +kernel)
    (he : starEach [o, .Name T px] X.env = (false, eval o X.env) :: starEach [.Name T px] X.env := by rfl) (he2 : starEach [.Name T px] X.env = (false, eval (.Name T px) X.env) :: starEach [] X.env := by rfl) (hpl : (backTo pos (starEach [.Name T px] X.env)).any (·.1) = false := by rfl) :
    GE X W pin (.Call (.Name "isinstance" p) [o, .Name T px] [] pos) (eIsC sub fo) := by
  obtain ⟨C0, hm0, hs⟩ := h
  exact ge_isC ho (pe_glob hgT hm0 rfl hdb) hs hg hm hv he he2 hpl
/-- isinstance(o, T), T a built-in type -/
theorem ge_isT (ho : GE X W pin o fo) {Ts : String} (hT : X.mg T = none) (hbT : bootBuiltins T = some (.type Ts)) (hgT : Gl X T) (hg : Gl X "isinstance") (hm : X.mg "isinstance" = none) (hdb : (T == ("__debug__" : Str)) = false := by decide) (hn : T ≠ "__name__" := by decide)
    (hv : bootBuiltins "isinstance" = some (.builtin "isinstance") := by decide +kernel)
    (he : starEach [o, .Name T px] X.env = (false, eval o X.env) :: starEach [.Name T px] X.env := by rfl) (he2 : starEach [.Name T px] X.env = (false, eval (.Name T px) X.env) :: starEach [] X.env := by rfl) (hpl : (backTo pos (starEach [.Name T px] X.env)).any (·.1) = false := by rfl) :
    GE X W pin (.Call (.Name "isinstance" p) [o, .Name T px] [] pos) (eCallB dIsi (aCons fo (aCons (eC (.a (.ty Ts))) aNil))) :=
  ge_callB c_isi hg hm hv (ga_cons ho (ga_cons (ge_const (pe_bltn hgT hT hbT rfl hn hdb)) ga_nil he2) he) (by decide) (by decide) he hpl
end
section
variable {X : Cx} {W : WX} {x n : Str} {i : Nat} {body suite : List Stmt} {b₀ : Stmt} {np pos pos' : Pos} {fb : SX} {fs : Exn → SX} {hit : Str → Option Bool}
theorem gs_tryAs' (hs : X.stack = X.env :: X.outer) (hf : X.env.frame = some X.env.locals) (hN : X.N.Nodup) (hi : X.N[i]? = some n) (hln : X.env.kindOf n = some .local) (hh : HitN X.K X.mg x hit) (hg : Gl X x) (tk : Takes X W)
    (hb : ∀ (W' : WX) (pn : List (Addr × Obj)) (xe : Value → Shared → Prop), Takes (X.tr pn xe) W' → PassesOwn (model X.prog X.w) X.A X.env xe → GSs (X.tr pn xe) W' none body fb)
    (hsu : ∀ (e : Exn) (C a : Addr) (oe : Obj) (d : Option Addr) (pn : List (Addr × Obj)), clsAt X.mg e.cls = some C → Zc (.ref C) d oe → (∃ vs, oe.data = .fields vs) → (e.fs = [] → d = none) → GSs (X.suite a ((a, oe) :: pn)) wNo (some (i, a)) (b₀ :: suite) (fs e))
    (hdb : (x == ("__debug__" : Str)) = false := by decide) :
    GS X W none (.Try body [.ExceptHandler (some (.Name x np)) (some n) (b₀ :: suite) pos'] [] [] pos) (sTryAs fb hit i fs) := by
  obtain ⟨u, hu, hk⟩ := hh
  exact gs_tryAs hs hf hN hi hln ⟨hg, hdb, hu⟩ hk tk hb hsu
end
end G
set_option maxRecDepth 100000
/-! The layer G, part 11: the facts of the top put together; the law's end. -/
namespace G
open PySem PySem.Spec PyProof.Rows L2

section
variable {K : PySem.W.Frag} {C U : Addr} {T : String} {b : Bool}
theorem kitCls_own (h2 : PySem.W.isClsIn K U = true) (h3 : PySem.W.typeIn K (.ref U) = some (.type "type")) (h4 : PySem.W.subIn K (.ref C) (.ref U) = some b) : PySem.W.kitCls K (.ref C) (.ref U) = some b := by
  have e2 : ((PySem.W.clsIn K U).isSome && PySem.W.typeIn K (.ref U) == some (.type "type")) = true := by
    have h2' : (PySem.W.clsIn K U).isSome = true := h2
    rw [h2', h3] <;> rfl
  show (if ((PySem.W.clsIn K U).isSome && PySem.W.typeIn K (.ref U) == some (.type "type")) = true then PySem.W.subIn K (.ref C) (.ref U) else none) = some b
  rw [if_pos e2]
  exact h4
theorem kit_own (h2 : PySem.W.isClsIn K U = true) (h3 : PySem.W.typeIn K (.ref U) = some (.type "type")) (h1 : PySem.W.subIn K (.ref C) (.ref C) = some true) (h4 : PySem.W.subIn K (.ref C) (.ref U) = some b) : PySem.W.kitOne K (.ref C) (.ref U) = some b := by
  unfold PySem.W.kitOne
  split
  · rename_i e
    have e' : Value.ref C = Value.ref U := eq_of_beq e
    injection e' with e'
    subst e'
    rw [h1] at h4
    exact h4
  · exact kitCls_own h2 h3 h4
theorem kitCls_typ (h : PySem.W.kitMeta T = true) (h4 : PySem.W.subIn K (.ref C) (.type T) = some b) : PySem.W.kitCls K (.ref C) (.type T) = some b := by
  show (if PySem.W.kitMeta T = true then PySem.W.subIn K (.ref C) (.type T) else none) = some b
  rw [if_pos h]
  exact h4
theorem kit_typ (h : PySem.W.kitMeta T = true) (h4 : PySem.W.subIn K (.ref C) (.type T) = some b) : PySem.W.kitOne K (.ref C) (.type T) = some b := by
  unfold PySem.W.kitOne
  split
  · rename_i e
    have e' : Value.ref C = Value.type T := eq_of_beq e
    cases e'
  · exact kitCls_typ h h4
theorem exm_own (h1 : PySem.W.subIn K (.ref U) (.type "BaseException") = some true) (h2 : PySem.W.isClsIn K U = true) (h3 : PySem.W.typeIn K (.ref U) = some (.type "type")) (h4 : PySem.W.subIn K (.ref C) (.ref U) = some b) : PySem.W.exmOne K (.ref C) (.ref U) = some b := by
  unfold PySem.W.exmOne
  rw [h1, if_pos (by rfl)]
  exact kitCls_own h2 h3 h4
theorem exm_typ (h1 : PySem.W.subIn K (.type T) (.type "BaseException") = some true) (h : PySem.W.kitMeta T = true) (h4 : PySem.W.subIn K (.ref C) (.type T) = some b) : PySem.W.exmOne K (.ref C) (.type T) = some b := by
  unfold PySem.W.exmOne
  rw [h1, if_pos (by rfl)]
  exact kitCls_typ h h4
end

/-! ### the law -/
/-- the law's own promise: a list of at most 63 ints -/
def spLaw (K : PySem.W.Frag) : Sp := fun vs H Q _ => ∃ (a : Addr) (ns : List Int), vs = [.ref a] ∧ Only H ∧ SqL K H a (ns.map V.int) ∧ ns.length ≤ 63 ∧ (∀ z ∈ ns, Builtin.Int.intBits z ≤ 1048576) ∧ ∀ H', Q (.bl true) H'
theorem law_end2 {K : PySem.W.Frag} {mg : Str → Option Value} {F : List D → Sto → R D} {vs : List V} {H : Hp} {Q : VK} {E : XK}
    (h : ∀ ns : List Int, ns.length ≤ 63 → (∀ z ∈ ns, Builtin.Int.intBits z ≤ 1048576) → ∃ S', F [.ils (ns.map fun i => .a (.int i))] [] = .ok (.a (.bl true)) S') (q : spLaw K vs H Q E) : spF K mg 1 F vs H Q E := by
  obtain ⟨a, ns, rfl, hO, hS, hl, hb, hQ⟩ := q
  obtain ⟨S', hF⟩ := h ns hl hb
  have hz : ns.length ≤ sizeLine := Nat.le_trans hl (by decide)
  obtain ⟨e1, m, ds, S, rs, r, q⟩ := law_end (K := K) (mg := mg) hO hS hz hF
  refine ⟨e1, m, ds, S, rs, r, ?_⟩
  cases hf : F ds S with
  | ok y S2 =>
    rw [hf] at q
    exact fun m' H' v p rd => by
      obtain rfl := q m' H' v p rd
      exact hQ H'
  | exc y S2 => rw [hf] at q; exact fun m' H' c d p ex => (q m' H' c d p ex).elim
  | bad => rw [hf] at q; exact q
theorem law_fn {P : Program} {w : World} {K : PySem.W.Frag} {mg : Str → Option Value} {fa : Addr} {st : Stmt} {N : List Str} {k nn : Nat} {b : SX} (hF : DefF K mg "law" "law" st ["script"]) (hfa : mg "law" = some (.ref fa)) (Sc : FnScope N ["script"] (defScope st)) (hN : N.length = nn)
    (hbd : ∀ (kV doc pm : Value) (an : Option Addr) (cdv ct u : Value), bindArgs (PySem.W.fnOf "law" "law" (defArgs st) (defBody st) (defScope st) .none kV doc pm an cdv ct) ⟨[u], []⟩ = pure [(("script" : Str), u)])
    (hB : ∀ base, BodyOk P w K mg base k N "law" (defScope st) (defBody st) b)
    (h : ∀ ns : List Int, ns.length ≤ 63 → (∀ z ∈ ns, Builtin.Int.intBits z ≤ 1048576) → ∃ S', defSem 1 nn b [.ils (ns.map fun i => .a (.int i))] [] = .ok (.a (.bl true)) S') :
    ∃ fd : FuncData, (∀ (s : Shared) (v : Value), BindsTo s fd ⟨[v], []⟩ [("script", v)]) ∧ ∀ base : Heap, K.In base → base.Ns mainGlobals mg → FnOk P w K mg base (L2.CX P w) (k + 1) fa fd ["script"] (spLaw K) := by
  obtain ⟨f, fd, Fn, hm, _⟩ := hF
  obtain rfl : f = fa := by
    have e := hm.symm.trans hfa
    injection e with e
    injection e
  refine ⟨fd, ?_, fun base _ _ => (def_ok Fn Sc rfl hN (hB base)).imp fun vs H Q E q => law_end2 h q⟩
  obtain ⟨oc, od, kV, doc, pm, an, cdv, ct, osl, rfl, lk, hcd⟩ := Fn.ex
  exact fun s v => .of_eq (hbd kV doc pm an cdv ct v)
theorem law_walk {l : PySem.W.OpenLaw} {k : Nat} {q : Program} {loose : List Str} {XP : (Str → Option Value) → Heap → Prop} {YP : World → Heap → Prop} {d : DefRec} {K : Params → PySem.W.Frag} (hn : l.most = some 63) (hdf : d.params.defaults = []) (hr : Room k callerA)
    (hY : ∀ (w : World) (h : Heap), YP w h → (K w.params).In h)
    (F : ∀ (w : World) (mg : Str → Option Value) (fa : Addr) (h : Heap), (K w.params).In h → h.Ns mainGlobals mg → mg d.name = some (.ref fa) →
      ∃ fd : FuncData, (∀ (s : Shared) (u : Value), BindsTo s fd ⟨[u], []⟩ [("script", u)]) ∧ ∀ base : Heap, (K w.params).In base → base.Ns mainGlobals mg → FnOk l.prog w (K w.params) mg base (L2.CX l.prog w) k fa fd ["script"] (spLaw (K w.params))) :
    PySem.W.WalkO q loose XP YP l.row.toRowW d [] (fun f vs => PySem.call f vs) :=
  L2.walk_ofB (n := 63) (k := k) (x := "script") (CX := fun w => L2.CX l.prog w) (sp := fun w => spLaw (K w.params)) hn (by decide) hdf hr hY F (fun _ _ a ns hl hb hO hS => ⟨a, ns, rfl, hO, hS, hl, hb, fun _ => rfl⟩) fun w H s e s' h => by
    obtain ⟨_, _, _, _, _, _, _, _, _, _, _, _, z⟩ := h
    exact z.elim
end G
set_option maxHeartbeats 4000000
/-! ### the walk of pathschosen_k55_endless_rows_in_least_fo, printed by gen.py -/
namespace K55
open PySem PySem.Spec PyProof.Rows L2 G
def top (i : Nat) : Stmt := PySem.Challenge.pw_pathschosen_k55_endless_rows_in_least_fo.main.body.getD i (.Pass ⟨0, 0, 0, 0⟩)
abbrev st_shortest_cycle : Stmt := top 7
abbrev st_turned : Stmt := top 8
abbrev st_loose_entries : Stmt := top 9
abbrev st_Rowdd_initdd : Stmt := inClass (top 10) 0
abbrev st_Rowdd_getitemdd : Stmt := inClass (top 10) 1
abbrev st_Row_start : Stmt := inClass (top 10) 3
abbrev st_Row_least : Stmt := inClass (top 10) 4
abbrev st_Row_after : Stmt := inClass (top 10) 5
abbrev st_same_rows : Stmt := top 11
abbrev st__law_start : Stmt := top 13
abbrev st__law_pick : Stmt := top 14
abbrev st__law_same : Stmt := top 15
abbrev st__law_at : Stmt := top 16
abbrev st__law_least : Stmt := top 17
abbrev st__law_behind : Stmt := top 18
abbrev st__law_is_row : Stmt := top 19
abbrev st__law_row : Stmt := top 20
abbrev st__law_other : Stmt := top 21
abbrev st__law_bent : Stmt := top 22
abbrev st__law_asked : Stmt := top 23
abbrev st__law_refusals : Stmt := top 24
abbrev st__law_entries : Stmt := top 25
abbrev st_law : Stmt := top 26
theorem bt_all : bootBuiltins "all" = some (.builtin "all") := by decide +kernel
theorem bt_bool : bootBuiltins "bool" = some (.type "bool") := by decide +kernel
theorem bt_int : bootBuiltins "int" = some (.type "int") := by decide +kernel
theorem bt_isinstance : bootBuiltins "isinstance" = some (.builtin "isinstance") := by decide +kernel
theorem bt_len : bootBuiltins "len" = some (.builtin "len") := by decide +kernel
theorem bt_list : bootBuiltins "list" = some (.type "list") := by decide +kernel
theorem bt_max : bootBuiltins "max" = some (.builtin "max") := by decide +kernel
theorem bt_min : bootBuiltins "min" = some (.builtin "min") := by decide +kernel
theorem bt_range : bootBuiltins "range" = some (.type "range") := by decide +kernel
theorem bt_str : bootBuiltins "str" = some (.type "str") := by decide +kernel
theorem bt_tuple : bootBuiltins "tuple" = some (.type "tuple") := by decide +kernel
/-- what each def computes -/
structure Tb where
  shortest_cycle : List D → Sto → R D
  turned : List D → Sto → R D
  loose_entries : List D → Sto → R D
  Rowdd_initdd : List D → Sto → R D
  Rowdd_getitemdd : List D → Sto → R D
  Row_start : List D → Sto → R D
  Row_least : List D → Sto → R D
  Row_after : List D → Sto → R D
  same_rows : List D → Sto → R D
  _law_start : List D → Sto → R D
  _law_pick : List D → Sto → R D
  _law_same : List D → Sto → R D
  _law_at : List D → Sto → R D
  _law_least : List D → Sto → R D
  _law_behind : List D → Sto → R D
  _law_is_row : List D → Sto → R D
  _law_row : List D → Sto → R D
  _law_other : List D → Sto → R D
  _law_bent : List D → Sto → R D
  _law_asked : List D → Sto → R D
  _law_refusals : List D → Sto → R D
  _law_entries : List D → Sto → R D
  law : List D → Sto → R D
abbrev dd_Rowdd_initdd_1 : List D := [(.tup [(.a (.int (0)))])]
noncomputable def b_shortest_cycle (c c1 : Tb) : SX :=
 (sSeq (sFor (iR2 (eC (.a (.int (1)))) (eCallB dLen (aCons (eVar 0) aNil))) (gN 1)
 (sSeq (sIf (tAnd (tBin dEq (eBin dMod (eCallB dLen (aCons (eVar 0) aNil)) (eVar 1)) (eC (.a (.int (0))))) (tBin dEq (eBin dMul (eCut (eVar 0) oNone (oSome (eVar 1))) (eBin dDiv (eCallB dLen (aCons (eVar 0) aNil)) (eVar 1))) (eVar 0)))
 (sSeq (sRet (eCut (eVar 0) oNone (oSome (eVar 1))))
 sNil)
 sNil)
 sNil))
 (sSeq (sRet (eVar 0))
 sNil))
noncomputable def b_turned (c c1 : Tb) : SX :=
 (sSeq (sSet 2 (eBin dMod (eVar 1) (eCallB dLen (aCons (eVar 0) aNil))))
 (sSeq (sRet (eBin dAdd (eCut (eVar 0) (oSome (eVar 2)) oNone) (eCut (eVar 0) oNone (oSome (eVar 2)))))
 sNil))
noncomputable def b_loose_entries (c c1 : Tb) : SX :=
 (sSeq (sSet 2 (eC (.a (.int (0)))))
 (sSeq (sWhile (tAnd (tBin dLt (eVar 2) (eCallB dLen (aCons (eVar 0) aNil))) (tBin dEq (eBin dIx (eVar 0) (eBin dSub (eBin dSub (eCallB dLen (aCons (eVar 0) aNil)) (eC (.a (.int (1))))) (eVar 2))) (eBin dIx (eVar 1) (eBin dMod (eBin dSub (eUn dNeg (eC (.a (.int (1))))) (eVar 2)) (eCallB dLen (aCons (eVar 1) aNil))))))
 (sSeq (sAug 2 dAddI (eC (.a (.int (1)))))
 sNil))
 (sSeq (sRet (eVar 2))
 sNil)))
noncomputable def b_Rowdd_initdd (c c1 : Tb) : SX :=
 (sSeq (sIf (tBin dEq (eCallB dLen (aCons (eVar 2) aNil)) (eC (.a (.int (0)))))
 (sSeq (sRaise "OutOfRange")
 sNil)
 sNil)
 (sSeq (sFor (iSeq (eBin dAdd (eVar 1) (eVar 2))) (gN 3)
 (sSeq (sIf (tBin dLt (eVar 3) (eC (.a (.int (0)))))
 (sSeq (sRaise "OutOfRange")
 sNil)
 sNil)
 sNil))
 (sSeq (sFldX ["Row"] "head" (eVar 1) (eVar 0))
 (sSeq (sFldX ["Row"] "cycle" (eVar 2) (eVar 0))
 sNil))))
noncomputable def b_Rowdd_getitemdd (c c1 : Tb) : SX :=
 (sSeq (sIf (tBin dLt (eVar 1) (eC (.a (.int (0)))))
 (sSeq (sRaise "OutOfRange")
 sNil)
 sNil)
 (sSeq (sIf (tBin dLt (eVar 1) (eCallB dLen (aCons (eFld ["Row"] "head" (eVar 0)) aNil)))
 (sSeq (sRet (eBin dIx (eFld ["Row"] "head" (eVar 0)) (eVar 1)))
 sNil)
 sNil)
 (sSeq (sRet (eBin dIx (eFld ["Row"] "cycle" (eVar 0)) (eBin dMod (eBin dSub (eVar 1) (eCallB dLen (aCons (eFld ["Row"] "head" (eVar 0)) aNil))) (eCallB dLen (aCons (eFld ["Row"] "cycle" (eVar 0)) aNil)))))
 sNil)))
noncomputable def b_Row_start (c c1 : Tb) : SX :=
 (sSeq (sIf (tBin dLt (eVar 1) (eC (.a (.int (0)))))
 (sSeq (sRaise "OutOfRange")
 sNil)
 sNil)
 (sSeq (sRet (eCallT tTuple (aLc (iR1 (eVar 1)) (gN 2) (List.map (fun p => p.2) ([("place", 2)] : List (Str × Nat))) tTrue (eIxO "Row" c1.Rowdd_getitemdd (eVar 0) (eVar 2)))))
 sNil))
noncomputable def b_Row_least (c c1 : Tb) : SX :=
 (sSeq (sSet 1 (eCall c.shortest_cycle [] (aCons (eFld ["Row"] "cycle" (eVar 0)) aNil)))
 (sSeq (sSet 2 (eCall c.loose_entries [] (aCons (eFld ["Row"] "head" (eVar 0)) (aCons (eVar 1) aNil))))
 (sSeq (sRet (eMake "Row" c1.Rowdd_initdd [] (aCons (eCut (eFld ["Row"] "head" (eVar 0)) oNone (oSome (eBin dSub (eCallB dLen (aCons (eFld ["Row"] "head" (eVar 0)) aNil)) (eVar 2)))) (aCons (eCall c.turned [] (aCons (eVar 1) (aCons (eUn dNeg (eVar 2)) aNil))) aNil))))
 sNil)))
noncomputable def b_Row_after (c c1 : Tb) : SX :=
 (sSeq (sIf (tBin dLt (eVar 1) (eC (.a (.int (0)))))
 (sSeq (sRaise "OutOfRange")
 sNil)
 sNil)
 (sSeq (sIf (tBin dLe (eVar 1) (eCallB dLen (aCons (eFld ["Row"] "head" (eVar 0)) aNil)))
 (sSeq (sRet (eMethO "Row" "least" c.Row_least [] (eMake "Row" c1.Rowdd_initdd [] (aCons (eCut (eFld ["Row"] "head" (eVar 0)) (oSome (eVar 1)) oNone) (aCons (eFld ["Row"] "cycle" (eVar 0)) aNil))) aNil))
 sNil)
 sNil)
 (sSeq (sRet (eMethO "Row" "least" c.Row_least [] (eMake "Row" c1.Rowdd_initdd [] (aCons (eTup aNil) (aCons (eCall c.turned [] (aCons (eFld ["Row"] "cycle" (eVar 0)) (aCons (eBin dSub (eVar 1) (eCallB dLen (aCons (eFld ["Row"] "head" (eVar 0)) aNil))) aNil))) aNil))) aNil))
 sNil)))
noncomputable def b_same_rows (c c1 : Tb) : SX :=
 (sSeq (sSet 2 (eMethO "Row" "least" c.Row_least [] (eVar 0) aNil))
 (sSeq (sSet 3 (eMethO "Row" "least" c.Row_least [] (eVar 1) aNil))
 (sSeq (sRet (eAnd (eBin dEq (eFld ["Row"] "head" (eVar 2)) (eFld ["Row"] "head" (eVar 3))) (eBin dEq (eFld ["Row"] "cycle" (eVar 2)) (eFld ["Row"] "cycle" (eVar 3)))))
 sNil)))
noncomputable def b__law_start (c c1 : Tb) : SX :=
 (sSeq (sSet 1 (eC (.a (.int (7)))))
 (sSeq (sFor (iR1 (eCallB dLen (aCons (eVar 0) aNil))) (gN 2)
 (sSeq (sSet 1 (eBin dMod (eBin dAdd (eBin dAdd (eBin dAdd (eBin dMul (eVar 1) (eC (.a (.int (48271))))) (eBin dMod (eCallB dInt (aCons (eBin dIx (eVar 0) (eVar 2)) aNil)) (eC (.a (.int (2147483647)))))) (eVar 2)) (eC (.a (.int (1))))) (eC (.a (.int (2147483647))))))
 sNil))
 (sSeq (sRet (eOfL (aCons (eVar 1) (aCons (eOfL (aListOf (eVar 0))) (aCons (eC (.a (.int (0)))) (aCons (eC (.a (.int (0)))) aNil))))))
 sNil)))
noncomputable def b__law_pick (c c1 : Tb) : SX :=
 (sSeq (sIf (tBin dGe (eBin dIx (eVar 0) (eC (.a (.int (3))))) (eVar 1))
 (sSeq (sSet 2 (eCallB dInt (aCons (eBin dIx (eVar 0) (eC (.a (.int (3))))) aNil)))
 (sSeq (sPut (eBin dDiv (eVar 2) (eVar 1)) (eVar 0) (eC (.a (.int (3)))))
 (sSeq (sRet (eBin dMod (eVar 2) (eVar 1)))
 sNil)))
 sNil)
 (sSeq (sSet 3 (eC (.a (.int (11)))))
 (sSeq (sIf (tBin dLt (eBin dIx (eVar 0) (eC (.a (.int (2))))) (eCallB dLen (aCons (eBin dIx (eVar 0) (eC (.a (.int (1))))) aNil)))
 (sSeq (sSet 3 (eCallB dInt (aCons (eBin dIx (eBin dIx (eVar 0) (eC (.a (.int (1))))) (eBin dIx (eVar 0) (eC (.a (.int (2)))))) aNil)))
 (sSeq (sPut (eBin dAdd (eBin dIx (eVar 0) (eC (.a (.int (2))))) (eC (.a (.int (1))))) (eVar 0) (eC (.a (.int (2)))))
 (sSeq (sIf (tBin dLt (eVar 3) (eC (.a (.int (0)))))
 (sSeq (sSet 3 (eBin dSub (eC (.a (.int (1)))) (eVar 3)))
 sNil)
 sNil)
 (sSeq (sIf (tBin dGe (eVar 3) (eBin dPow (eC (.a (.int (10)))) (eC (.a (.int (18))))))
 (sSeq (sPut (eBin dDiv (eVar 3) (eVar 1)) (eVar 0) (eC (.a (.int (3)))))
 (sSeq (sRet (eBin dMod (eVar 3) (eVar 1)))
 sNil))
 sNil)
 sNil))))
 sNil)
 (sSeq (sSet 4 (eBin dMod (eBin dMul (eBin dAdd (eBin dAdd (eCallB dInt (aCons (eBin dIx (eVar 0) (eC (.a (.int (0))))) aNil)) (eBin dMod (eVar 3) (eC (.a (.int (2147483647)))))) (eC (.a (.int (1))))) (eC (.a (.int (48271))))) (eC (.a (.int (2147483647))))))
 (sSeq (sPut (eBin dMod (eBin dAdd (eBin dMul (eVar 4) (eC (.a (.int (69621))))) (eC (.a (.int (12345))))) (eC (.a (.int (2147483647))))) (eVar 0) (eC (.a (.int (0)))))
 (sSeq (sRet (eBin dMod (eBin dDiv (eCallB dInt (aCons (eBin dIx (eVar 0) (eC (.a (.int (0))))) aNil)) (eC (.a (.int (7))))) (eVar 1)))
 sNil))))))
noncomputable def b__law_same (c c1 : Tb) : SX :=
 (sSeq (sIf (tOf (eCallB dIsi (aCons (eVar 1) (aCons (eC (.a (.ty "tuple"))) aNil))))
 (sSeq (sIf (tOr (tNot (tOf (eCallB dIsi (aCons (eVar 0) (aCons (eC (.a (.ty "tuple"))) aNil))))) (tBin dNe (eCallB dLen (aCons (eVar 0) aNil)) (eCallB dLen (aCons (eVar 1) aNil))))
 (sSeq (sRet (eC (.a (.bl false))))
 sNil)
 sNil)
 (sSeq (sRet (eCallT tAll (aLc (iR1 (eCallB dLen (aCons (eVar 1) aNil))) (gN 2) (List.map (fun p => p.2) ([("p", 2)] : List (Str × Nat))) tTrue (eCall c._law_same [] (aCons (eBin dIx (eVar 0) (eVar 2)) (aCons (eBin dIx (eVar 1) (eVar 2)) aNil))))))
 sNil))
 sNil)
 (sSeq (sIf (tBin dIs (eVar 1) (eC (.a .non)))
 (sSeq (sRet (eBin dIs (eVar 0) (eC (.a .non))))
 sNil)
 sNil)
 (sSeq (sIf (tOf (eCallB dIsi (aCons (eVar 1) (aCons (eC (.a (.ty "str"))) aNil))))
 (sSeq (sRet (eAnd (eCallB dIsi (aCons (eVar 0) (aCons (eC (.a (.ty "str"))) aNil))) (eBin dEq (eVar 0) (eVar 1))))
 sNil)
 sNil)
 (sSeq (sIf (tOf (eCallB dIsi (aCons (eVar 1) (aCons (eC (.a (.ty "bool"))) aNil))))
 (sSeq (sRet (eAnd (eCallB dIsi (aCons (eVar 0) (aCons (eC (.a (.ty "bool"))) aNil))) (eBin dEq (eVar 0) (eVar 1))))
 sNil)
 sNil)
 (sSeq (sRet (eAnd (eCallB dIsi (aCons (eVar 0) (aCons (eC (.a (.ty "int"))) aNil))) (eAnd (eNot (eCallB dIsi (aCons (eVar 0) (aCons (eC (.a (.ty "bool"))) aNil)))) (eBin dEq (eVar 0) (eVar 1)))))
 sNil)))))
noncomputable def b__law_at (c c1 : Tb) : SX :=
 (sSeq (sIf (tBin dLt (eVar 2) (eCallB dLen (aCons (eVar 0) aNil)))
 (sSeq (sRet (eBin dIx (eVar 0) (eVar 2)))
 sNil)
 sNil)
 (sSeq (sRet (eBin dIx (eVar 1) (eBin dMod (eCallB dInt (aCons (eBin dSub (eVar 2) (eCallB dLen (aCons (eVar 0) aNil))) aNil)) (eCallB dLen (aCons (eVar 1) aNil)))))
 sNil))
noncomputable def b__law_least (c c1 : Tb) : SX :=
 (sSeq (sSet 2 (eCallB dLen (aCons (eVar 1) aNil)))
 (sSeq (sSet 3 (eVar 2))
 (sSeq (sFor (iR2 (eC (.a (.int (1)))) (eVar 2)) (gN 4)
 (sSeq (sIf (tAnd (tBin dEq (eVar 3) (eVar 2)) (tAnd (tBin dEq (eBin dMod (eCallB dInt (aCons (eVar 2) aNil)) (eVar 4)) (eC (.a (.int (0))))) (tOf (eCallT tAll (aLc (iR1 (eVar 2)) (gN 7) (List.map (fun p => p.2) ([("p", 7)] : List (Str × Nat))) tTrue (eBin dEq (eBin dIx (eVar 1) (eVar 7)) (eBin dIx (eVar 1) (eBin dSub (eVar 7) (eVar 4)))))))))
 (sSeq (sSet 3 (eVar 4))
 sNil)
 sNil)
 sNil))
 (sSeq (sSet 5 (eBin dAdd (eVar 0) (eVar 1)))
 (sSeq (sSet 6 (eCallB dLen (aCons (eVar 0) aNil)))
 (sSeq (sFor (iR1 (eCallB dLen (aCons (eVar 0) aNil))) (gN 4)
 (sSeq (sIf (tAnd (tBin dEq (eVar 6) (eBin dSub (eCallB dLen (aCons (eVar 0) aNil)) (eVar 4))) (tBin dEq (eBin dIx (eVar 5) (eBin dSub (eVar 6) (eC (.a (.int (1)))))) (eBin dIx (eVar 5) (eBin dAdd (eBin dSub (eVar 6) (eC (.a (.int (1))))) (eVar 3)))))
 (sSeq (sSet 6 (eBin dSub (eVar 6) (eC (.a (.int (1))))))
 sNil)
 sNil)
 sNil))
 (sSeq (sRet (eTup (aCons (eCut (eVar 5) oNone (oSome (eVar 6))) (aCons (eCut (eVar 5) (oSome (eVar 6)) (oSome (eBin dAdd (eVar 6) (eVar 3)))) aNil))))
 sNil)))))))
noncomputable def b__law_behind (c c1 : Tb) : SX :=
 (sSeq (sSet 3 (eCallB dMax2 (aCons (eBin dSub (eCallB dLen (aCons (eVar 0) aNil)) (eVar 2)) (aCons (eC (.a (.int (0)))) aNil))))
 (sSeq (sSet 4 (eCallT tTuple (aLc (iR1 (eVar 3)) (gN 6) (List.map (fun p => p.2) ([("p", 6)] : List (Str × Nat))) tTrue (eCall c._law_at [] (aCons (eVar 0) (aCons (eVar 1) (aCons (eBin dAdd (eVar 2) (eVar 6)) aNil)))))))
 (sSeq (sSet 5 (eCallT tTuple (aLc (iR1 (eCallB dLen (aCons (eVar 1) aNil))) (gN 6) (List.map (fun p => p.2) ([("p", 6)] : List (Str × Nat))) tTrue (eCall c._law_at [] (aCons (eVar 0) (aCons (eVar 1) (aCons (eBin dAdd (eBin dAdd (eVar 2) (eVar 3)) (eVar 6)) aNil)))))))
 (sSeq (sRet (eCall c._law_least [] (aCons (eVar 4) (aCons (eVar 5) aNil))))
 sNil))))
noncomputable def b__law_is_row (c c1 : Tb) : SX :=
 (sSeq (sRet (eAnd (eIsC (subL [("Row", true)]) (eVar 0)) (eAnd (eCall c._law_same [] (aCons (eFld ["Row"] "head" (eVar 0)) (aCons (eBin dIx (eVar 1) (eC (.a (.int (0))))) aNil))) (eCall c._law_same [] (aCons (eFld ["Row"] "cycle" (eVar 0)) (aCons (eBin dIx (eVar 1) (eC (.a (.int (1))))) aNil))))))
 sNil)
noncomputable def b__law_row (c c1 : Tb) : SX :=
 (sSeq (sSet 1 (eIxL (aCons (eC (.a (.int (2)))) (aCons (eC (.a (.int (3)))) (aCons (eBin dPow (eC (.a (.int (10)))) (eC (.a (.int (60))))) aNil))) (eCall c._law_pick [] (aCons (eVar 0) (aCons (eC (.a (.int (3)))) aNil)))))
 (sSeq (sSet 2 (eOfL (aLc (iR1 (eBin dAdd (eC (.a (.int (1)))) (eCall c._law_pick [] (aCons (eVar 0) (aCons (eIxL (aCons (eC (.a (.int (3)))) (aCons (eC (.a (.int (8)))) (aCons (eC (.a (.int (40)))) aNil))) (eCall c._law_pick [] (aCons (eVar 0) (aCons (eC (.a (.int (3)))) aNil)))) aNil))))) (gN 8) (List.map (fun p => p.2) ([("k", 8)] : List (Str × Nat))) tTrue (eCall c._law_pick [] (aCons (eVar 0) (aCons (eVar 1) aNil))))))
 (sSeq (sSet 3 (eBin dMul (eVar 2) (eBin dAdd (eC (.a (.int (1)))) (eCall c._law_pick [] (aCons (eVar 0) (aCons (eIxL (aCons (eC (.a (.int (2)))) (aCons (eC (.a (.int (4)))) (aCons (eC (.a (.int (10)))) aNil))) (eCall c._law_pick [] (aCons (eVar 0) (aCons (eC (.a (.int (3)))) aNil)))) aNil))))))
 (sSeq (sIf (tBin dEq (eCall c._law_pick [] (aCons (eVar 0) (aCons (eC (.a (.int (3)))) aNil))) (eC (.a (.int (0)))))
 (sSeq (sSet 4 (eCall c._law_pick [] (aCons (eVar 0) (aCons (eCallB dLen (aCons (eVar 3) aNil)) aNil))))
 (sSeq (sPut (eBin dMod (eCallB dInt (aCons (eBin dAdd (eBin dIx (eVar 3) (eVar 4)) (eC (.a (.int (1))))) aNil)) (eVar 1)) (eVar 3) (eVar 4))
 sNil))
 sNil)
 (sSeq (sSet 5 (eOfL (aLc (iR1 (eCall c._law_pick [] (aCons (eVar 0) (aCons (eIxL (aCons (eC (.a (.int (1)))) (aCons (eC (.a (.int (5)))) (aCons (eC (.a (.int (200)))) aNil))) (eCall c._law_pick [] (aCons (eVar 0) (aCons (eC (.a (.int (3)))) aNil)))) aNil)))) (gN 8) (List.map (fun p => p.2) ([("k", 8)] : List (Str × Nat))) tTrue (eCall c._law_pick [] (aCons (eVar 0) (aCons (eVar 1) aNil))))))
 (sSeq (sSet 6 (eCall c._law_pick [] (aCons (eVar 0) (aCons (eIxL (aCons (eC (.a (.int (1)))) (aCons (eC (.a (.int (9)))) (aCons (eC (.a (.int (200)))) aNil))) (eCall c._law_pick [] (aCons (eVar 0) (aCons (eC (.a (.int (3)))) aNil)))) aNil))))
 (sSeq (sSet 7 (eBin dMul (eVar 3) (eBin dAdd (eBin dDiv (eVar 6) (eCallB dLen (aCons (eVar 3) aNil))) (eC (.a (.int (1)))))))
 (sSeq (sSet 5 (eBin dAdd (eVar 5) (eCut (eVar 7) (oSome (eBin dSub (eCallB dLen (aCons (eVar 7) aNil)) (eVar 6))) oNone)))
 (sSeq (sIf (tAnd (tBin dGt (eCallB dLen (aCons (eVar 5) aNil)) (eC (.a (.int (0))))) (tBin dEq (eCall c._law_pick [] (aCons (eVar 0) (aCons (eC (.a (.int (3)))) aNil))) (eC (.a (.int (0))))))
 (sSeq (sSet 4 (eCall c._law_pick [] (aCons (eVar 0) (aCons (eCallB dLen (aCons (eVar 5) aNil)) aNil))))
 (sSeq (sPut (eBin dMod (eCallB dInt (aCons (eBin dAdd (eBin dIx (eVar 5) (eVar 4)) (eC (.a (.int (1))))) aNil)) (eVar 1)) (eVar 5) (eVar 4))
 sNil))
 sNil)
 (sSeq (sRet (eOfL (aCons (eCallB dTuple (aCons (eVar 5) aNil)) (aCons (eCallB dTuple (aCons (eVar 3) aNil)) (aCons (eVar 1) aNil)))))
 sNil))))))))))
noncomputable def b__law_other (c c1 : Tb) : SX :=
 (sSeq (sSet 3 (eCall c._law_pick [] (aCons (eVar 0) (aCons (eCallB dMin2 (aCons (eCallB dLen (aCons (eVar 2) aNil)) (aCons (eBin dSub (eC (.a (.int (401)))) (eCallB dLen (aCons (eVar 1) aNil))) aNil))) aNil))))
 (sSeq (sSet 4 (eBin dMul (eBin dAdd (eCut (eVar 2) (oSome (eVar 3)) oNone) (eCut (eVar 2) oNone (oSome (eVar 3)))) (eBin dAdd (eC (.a (.int (1)))) (eCall c._law_pick [] (aCons (eVar 0) (aCons (eCallB dMin2 (aCons (eC (.a (.int (3)))) (aCons (eBin dDiv (eC (.a (.int (400)))) (eCallB dLen (aCons (eVar 2) aNil))) aNil))) aNil))))))
 (sSeq (sRet (eOfL (aCons (eBin dAdd (eVar 1) (eCut (eVar 2) oNone (oSome (eVar 3)))) (aCons (eVar 4) aNil))))
 sNil)))
noncomputable def b__law_bent (c c1 : Tb) : SX :=
 (sSeq (sSet 4 (eCall c._law_pick [] (aCons (eVar 0) (aCons (eBin dAdd (eCallB dLen (aCons (eVar 1) aNil)) (eCallB dLen (aCons (eVar 2) aNil))) aNil))))
 (sSeq (sSet 5 (eOfL (aListOf (eBin dAdd (eVar 1) (eVar 2)))))
 (sSeq (sPut (eBin dMod (eCallB dInt (aCons (eBin dAdd (eBin dIx (eVar 5) (eVar 4)) (eC (.a (.int (1))))) aNil)) (eVar 3)) (eVar 5) (eVar 4))
 (sSeq (sRet (eOfL (aCons (eCallB dTuple (aCons (eCut (eVar 5) oNone (oSome (eCallB dLen (aCons (eVar 1) aNil)))) aNil)) (aCons (eCallB dTuple (aCons (eCut (eVar 5) (oSome (eCallB dLen (aCons (eVar 1) aNil))) oNone) aNil)) (aCons (eVar 4) aNil)))))
 sNil))))
noncomputable def b__law_asked (c c1 : Tb) : SX :=
 (sSeq (sTryAs (sSeq (sIf (tBin dEq (eVar 0) (eC (.a (.int (0)))))
 (sSeq (sRet (eTup (aCons (eC (.a (.str "told"))) (aCons (eIxO "Row" c1.Rowdd_getitemdd (eVar 1) (eVar 2)) aNil))))
 sNil)
 sNil)
 (sSeq (sIf (tBin dEq (eVar 0) (eC (.a (.int (1)))))
 (sSeq (sRet (eTup (aCons (eC (.a (.str "told"))) (aCons (eMethO "Row" "start" c.Row_start [] (eVar 1) (aCons (eVar 2) aNil)) aNil))))
 sNil)
 sNil)
 (sSeq (sIf (tBin dEq (eVar 0) (eC (.a (.int (2)))))
 (sSeq (sRet (eTup (aCons (eC (.a (.str "told"))) (aCons (eFld ["Row"] "head" (eMethO "Row" "after" c.Row_after [] (eVar 1) (aCons (eVar 2) aNil))) aNil))))
 sNil)
 sNil)
 (sSeq (sRet (eTup (aCons (eC (.a (.str "told"))) (aCons (eFld ["Row"] "head" (eMake "Row" c1.Rowdd_initdd [] (aCons (eVar 3) (aCons (eVar 4) aNil)))) aNil))))
 sNil))))
 (subL [("OutOfRange", true)]) 5 (fun x => (sSeq (sSet 6 (eOr (eIsE x (subL [("OutOfRange", false)])) (eOr (eIsE x (subL [("OutOfRange", false)])) (eIsE x (subL [("OutOfRange", false)])))))
 (sSeq (sRet (eTup (aCons (eC (.a (.str "refused"))) (aCons (eAnd (eIsE x (subL [("OutOfRange", true)])) (eIsE x (subL [("OutOfRange", true)]))) (aCons (eVar 6) aNil)))))
 sNil))))
 sNil)
noncomputable def b__law_refusals (c c1 : Tb) : SX :=
 (sSeq (sSet 4 (eTup (aCons (eC (.a (.str "refused"))) (aCons (eC (.a (.bl true))) (aCons (eC (.a (.bl false))) aNil)))))
 (sSeq (sSet 5 (eBin dSub (eUn dNeg (eC (.a (.int (1))))) (eCall c._law_pick [] (aCons (eVar 0) (aCons (eIxL (aCons (eC (.a (.int (2)))) (aCons (eBin dPow (eC (.a (.int (10)))) (eC (.a (.int (58))))) aNil)) (eCall c._law_pick [] (aCons (eVar 0) (aCons (eC (.a (.int (2)))) aNil)))) aNil)))))
 (sSeq (sFor (iR1 (eC (.a (.int (3))))) (gN 6)
 (sSeq (sIf (tNot (tOf (eCall c._law_same [] (aCons (eCall c._law_asked [] (aCons (eVar 6) (aCons (eVar 1) (aCons (eVar 5) (aCons (eVar 2) (aCons (eVar 3) aNil)))))) (aCons (eVar 4) aNil)))))
 (sSeq (sRet (eC (.a (.bl false))))
 sNil)
 sNil)
 sNil))
 (sSeq (sSet 7 (eCall c._law_pick [] (aCons (eVar 0) (aCons (eBin dAdd (eCallB dLen (aCons (eVar 2) aNil)) (eCallB dLen (aCons (eVar 3) aNil))) aNil))))
 (sSeq (sSet 8 (eOfL (aListOf (eBin dAdd (eVar 2) (eVar 3)))))
 (sSeq (sPut (eVar 5) (eVar 8) (eVar 7))
 (sSeq (sSet 9 (eCallB dTuple (aCons (eCut (eVar 8) oNone (oSome (eCallB dLen (aCons (eVar 2) aNil)))) aNil)))
 (sSeq (sSet 10 (eCallB dTuple (aCons (eCut (eVar 8) (oSome (eCallB dLen (aCons (eVar 2) aNil))) oNone) aNil)))
 (sSeq (sFor (iTmp (aCons (eTup (aCons (eVar 9) (aCons (eVar 10) aNil))) (aCons (eTup (aCons (eVar 2) (aCons (eTup aNil) aNil))) (aCons (eTup (aCons (eVar 9) (aCons (eTup aNil) aNil))) (aCons (eTup (aCons (eTup aNil) (aCons (eTup aNil) aNil))) (aCons (eTup (aCons (eTup (aCons (eVar 5) aNil)) (aCons (eVar 3) aNil))) (aCons (eTup (aCons (eVar 2) (aCons (eTup (aCons (eVar 5) aNil)) aNil))) aNil))))))) (gN 11)
 (sSeq (sIf (tNot (tOf (eCall c._law_same [] (aCons (eCall c._law_asked [] (aCons (eC (.a (.int (3)))) (aCons (eVar 1) (aCons (eC (.a (.int (0)))) (aCons (eBin dIx (eVar 11) (eC (.a (.int (0))))) (aCons (eBin dIx (eVar 11) (eC (.a (.int (1))))) aNil)))))) (aCons (eVar 4) aNil)))))
 (sSeq (sRet (eC (.a (.bl false))))
 sNil)
 sNil)
 sNil))
 (sSeq (sPut (eC (.a (.int (0)))) (eVar 8) (eVar 7))
 (sSeq (sSet 9 (eCallB dTuple (aCons (eCut (eVar 8) oNone (oSome (eCallB dLen (aCons (eVar 2) aNil)))) aNil)))
 (sSeq (sSet 10 (eCallB dTuple (aCons (eCut (eVar 8) (oSome (eCallB dLen (aCons (eVar 2) aNil))) oNone) aNil)))
 (sSeq (sIf (tNot (tOf (eCall c._law_is_row [] (aCons (eMethO "Row" "least" c.Row_least [] (eMake "Row" c1.Rowdd_initdd [] (aCons (eVar 9) (aCons (eVar 10) aNil))) aNil) (aCons (eCall c._law_least [] (aCons (eVar 9) (aCons (eVar 10) aNil))) aNil)))))
 (sSeq (sRet (eC (.a (.bl false))))
 sNil)
 sNil)
 (sSeq (sIf (tNot (tOf (eCall c._law_same [] (aCons (eCall c._law_asked [] (aCons (eC (.a (.int (0)))) (aCons (eVar 1) (aCons (eC (.a (.int (0)))) (aCons (eVar 2) (aCons (eVar 3) aNil)))))) (aCons (eTup (aCons (eC (.a (.str "told"))) (aCons (eCall c._law_at [] (aCons (eVar 2) (aCons (eVar 3) (aCons (eC (.a (.int (0)))) aNil)))) aNil))) aNil)))))
 (sSeq (sRet (eC (.a (.bl false))))
 sNil)
 sNil)
 (sSeq (sIf (tNot (tOf (eCall c._law_same [] (aCons (eCall c._law_asked [] (aCons (eC (.a (.int (1)))) (aCons (eVar 1) (aCons (eC (.a (.int (0)))) (aCons (eVar 2) (aCons (eVar 3) aNil)))))) (aCons (eTup (aCons (eC (.a (.str "told"))) (aCons (eTup aNil) aNil))) aNil)))))
 (sSeq (sRet (eC (.a (.bl false))))
 sNil)
 sNil)
 (sSeq (sRet (eCall c._law_same [] (aCons (eCall c._law_asked [] (aCons (eC (.a (.int (2)))) (aCons (eVar 1) (aCons (eC (.a (.int (0)))) (aCons (eVar 2) (aCons (eVar 3) aNil)))))) (aCons (eTup (aCons (eC (.a (.str "told"))) (aCons (eBin dIx (eCall c._law_least [] (aCons (eVar 2) (aCons (eVar 3) aNil))) (eC (.a (.int (0))))) aNil))) aNil))))
 sNil))))))))))))))))
noncomputable def b__law_entries (c c1 : Tb) : SX :=
 (sSeq (sFor (iR1 (eC (.a (.int (3))))) (gN 4)
 (sSeq (sSet 5 (eCall c._law_pick [] (aCons (eVar 0) (aCons (eIxL (aCons (eC (.a (.int (4)))) (aCons (eC (.a (.int (1000)))) (aCons (eBin dPow (eC (.a (.int (10)))) (eC (.a (.int (60))))) aNil))) (eCall c._law_pick [] (aCons (eVar 0) (aCons (eC (.a (.int (3)))) aNil)))) aNil))))
 (sSeq (sIf (tNot (tOf (eCall c._law_same [] (aCons (eIxO "Row" c1.Rowdd_getitemdd (eVar 1) (eVar 5)) (aCons (eCall c._law_at [] (aCons (eVar 2) (aCons (eVar 3) (aCons (eVar 5) aNil)))) aNil)))))
 (sSeq (sRet (eC (.a (.bl false))))
 sNil)
 sNil)
 (sSeq (sSet 6 (eOfL (aCons (eCall c._law_pick [] (aCons (eVar 0) (aCons (eC (.a (.int (4)))) aNil))) (aCons (eBin dAdd (eCallB dLen (aCons (eVar 2) aNil)) (eCall c._law_pick [] (aCons (eVar 0) (aCons (eC (.a (.int (3)))) aNil)))) (aCons (eCall c._law_pick [] (aCons (eVar 0) (aCons (eC (.a (.int (800)))) aNil))) (aCons (eCall c._law_pick [] (aCons (eVar 0) (aCons (eBin dPow (eC (.a (.int (10)))) (eC (.a (.int (60))))) aNil))) aNil))))))
 (sSeq (sSet 7 (eBin dIx (eVar 6) (eCall c._law_pick [] (aCons (eVar 0) (aCons (eC (.a (.int (4)))) aNil)))))
 (sSeq (sSet 8 (eMethO "Row" "after" c.Row_after [] (eVar 1) (aCons (eVar 7) aNil)))
 (sSeq (sIf (tNot (tOf (eCall c._law_is_row [] (aCons (eVar 8) (aCons (eCall c._law_behind [] (aCons (eVar 2) (aCons (eVar 3) (aCons (eVar 7) aNil)))) aNil)))))
 (sSeq (sRet (eC (.a (.bl false))))
 sNil)
 sNil)
 (sSeq (sIf (tNot (tOf (eCall c._law_same [] (aCons (eIxO "Row" c1.Rowdd_getitemdd (eVar 8) (eVar 4)) (aCons (eCall c._law_at [] (aCons (eVar 2) (aCons (eVar 3) (aCons (eBin dAdd (eVar 7) (eVar 4)) aNil)))) aNil)))))
 (sSeq (sRet (eC (.a (.bl false))))
 sNil)
 sNil)
 sNil))))))))
 (sSeq (sSet 9 (eIxL (aCons (eCall c._law_pick [] (aCons (eVar 0) (aCons (eC (.a (.int (3)))) aNil))) (aCons (eBin dAdd (eCallB dLen (aCons (eVar 2) aNil)) (eCall c._law_pick [] (aCons (eVar 0) (aCons (eC (.a (.int (3)))) aNil)))) (aCons (eCall c._law_pick [] (aCons (eVar 0) (aCons (eC (.a (.int (1001)))) aNil))) aNil))) (eCall c._law_pick [] (aCons (eVar 0) (aCons (eC (.a (.int (3)))) aNil)))))
 (sSeq (sRet (eCall c._law_same [] (aCons (eMethO "Row" "start" c.Row_start [] (eVar 1) (aCons (eVar 9) aNil)) (aCons (eCallT tTuple (aLc (iR1 (eVar 9)) (gN 10) (List.map (fun p => p.2) ([("p", 10)] : List (Str × Nat))) tTrue (eCall c._law_at [] (aCons (eVar 2) (aCons (eVar 3) (aCons (eVar 10) aNil)))))) aNil))))
 sNil)))
noncomputable def b_law (c c1 : Tb) : SX :=
 (sSeq (sSet 1 (eCall c._law_start [] (aCons (eVar 0) aNil)))
 (sSeq (sAsg (eCall c._law_row [] (aCons (eVar 1) aNil)) (gT 3 (gsCons (gN 2) (gsCons (gN 3) (gsCons (gN 4) gsNil)))))
 (sSeq (sAsg (eCall c._law_other [] (aCons (eVar 1) (aCons (eVar 2) (aCons (eVar 3) aNil)))) (gT 2 (gsCons (gN 5) (gsCons (gN 6) gsNil))))
 (sSeq (sAsg (eCall c._law_bent [] (aCons (eVar 1) (aCons (eVar 5) (aCons (eVar 6) (aCons (eVar 4) aNil))))) (gT 3 (gsCons (gN 7) (gsCons (gN 8) (gsCons (gN 9) gsNil)))))
 (sSeq (sSet 10 (eMake "Row" c1.Rowdd_initdd [] (aCons (eVar 2) (aCons (eVar 3) aNil))))
 (sSeq (sSet 11 (eMake "Row" c1.Rowdd_initdd [] (aCons (eVar 5) (aCons (eVar 6) aNil))))
 (sSeq (sSet 12 (eMake "Row" c1.Rowdd_initdd [] (aCons (eVar 7) (aCons (eVar 8) aNil))))
 (sSeq (sSet 13 (eCall c._law_least [] (aCons (eVar 2) (aCons (eVar 3) aNil))))
 (sSeq (sIf (tOr (tNot (tOf (eCall c._law_is_row [] (aCons (eVar 10) (aCons (eTup (aCons (eVar 2) (aCons (eVar 3) aNil))) aNil))))) (tNot (tOf (eCall c._law_is_row [] (aCons (eVar 11) (aCons (eTup (aCons (eVar 5) (aCons (eVar 6) aNil))) aNil))))))
 (sSeq (sRet (eC (.a (.bl false))))
 sNil)
 sNil)
 (sSeq (sIf (tOr (tNot (tOf (eCall c._law_is_row [] (aCons (eMethO "Row" "least" c.Row_least [] (eVar 10) aNil) (aCons (eVar 13) aNil))))) (tNot (tOf (eCall c._law_is_row [] (aCons (eMethO "Row" "least" c.Row_least [] (eVar 11) aNil) (aCons (eVar 13) aNil))))))
 (sSeq (sRet (eC (.a (.bl false))))
 sNil)
 sNil)
 (sSeq (sIf (tNot (tOf (eCall c._law_is_row [] (aCons (eMethO "Row" "least" c.Row_least [] (eVar 12) aNil) (aCons (eCall c._law_least [] (aCons (eVar 7) (aCons (eVar 8) aNil))) aNil)))))
 (sSeq (sRet (eC (.a (.bl false))))
 sNil)
 sNil)
 (sSeq (sIf (tOr (tBin dIsNot (eCall c.same_rows [] (aCons (eVar 10) (aCons (eVar 11) aNil))) (eC (.a (.bl true)))) (tBin dIsNot (eCall c.same_rows [] (aCons (eVar 11) (aCons (eVar 10) aNil))) (eC (.a (.bl true)))))
 (sSeq (sRet (eC (.a (.bl false))))
 sNil)
 sNil)
 (sSeq (sIf (tOr (tBin dIsNot (eCall c.same_rows [] (aCons (eVar 10) (aCons (eVar 12) aNil))) (eC (.a (.bl false)))) (tBin dIsNot (eCall c.same_rows [] (aCons (eVar 12) (aCons (eVar 11) aNil))) (eC (.a (.bl false)))))
 (sSeq (sRet (eC (.a (.bl false))))
 sNil)
 sNil)
 (sSeq (sIf (tOr (tNot (tOf (eCall c._law_same [] (aCons (eIxO "Row" c1.Rowdd_getitemdd (eVar 12) (eVar 9)) (aCons (eBin dIx (eBin dAdd (eVar 7) (eVar 8)) (eVar 9)) aNil))))) (tNot (tOf (eCall c._law_same [] (aCons (eIxO "Row" c1.Rowdd_getitemdd (eVar 11) (eVar 9)) (aCons (eBin dIx (eBin dAdd (eVar 5) (eVar 6)) (eVar 9)) aNil))))))
 (sSeq (sRet (eC (.a (.bl false))))
 sNil)
 sNil)
 (sSeq (sIf (tOr (tNot (tOf (eCall c._law_entries [] (aCons (eVar 1) (aCons (eVar 10) (aCons (eVar 2) (aCons (eVar 3) aNil))))))) (tNot (tOf (eCall c._law_entries [] (aCons (eVar 1) (aCons (eVar 11) (aCons (eVar 5) (aCons (eVar 6) aNil))))))))
 (sSeq (sRet (eC (.a (.bl false))))
 sNil)
 sNil)
 (sSeq (sIf (tNot (tOf (eCall c._law_refusals [] (aCons (eVar 1) (aCons (eVar 10) (aCons (eVar 2) (aCons (eVar 3) aNil)))))))
 (sSeq (sRet (eC (.a (.bl false))))
 sNil)
 sNil)
 (sSeq (sSet 14 (eMake "Row" c1.Rowdd_initdd dd_Rowdd_initdd_1 (aCons (eVar 2) aNil)))
 (sSeq (sIf (tOr (tNot (tOf (eCall c._law_is_row [] (aCons (eVar 14) (aCons (eTup (aCons (eVar 2) (aCons (eTup (aCons (eC (.a (.int (0)))) aNil)) aNil))) aNil))))) (tNot (tOf (eCall c._law_is_row [] (aCons (eMethO "Row" "least" c.Row_least [] (eVar 14) aNil) (aCons (eCall c._law_least [] (aCons (eVar 2) (aCons (eTup (aCons (eC (.a (.int (0)))) aNil)) aNil))) aNil))))))
 (sSeq (sRet (eC (.a (.bl false))))
 sNil)
 sNil)
 (sSeq (sIf (tOr (tNot (tOf (eCall c._law_is_row [] (aCons (eMethO "Row" "least" c.Row_least [] (eVar 10) aNil) (aCons (eVar 13) aNil))))) (tOr (tBin dIsNot (eCall c.same_rows [] (aCons (eVar 10) (aCons (eVar 11) aNil))) (eC (.a (.bl true)))) (tBin dIsNot (eCall c.same_rows [] (aCons (eVar 12) (aCons (eVar 10) aNil))) (eC (.a (.bl false))))))
 (sSeq (sRet (eC (.a (.bl false))))
 sNil)
 sNil)
 (sSeq (sRet (eAnd (eCall c._law_is_row [] (aCons (eVar 10) (aCons (eTup (aCons (eVar 2) (aCons (eVar 3) aNil))) aNil))) (eCall c._law_is_row [] (aCons (eVar 12) (aCons (eTup (aCons (eVar 7) (aCons (eVar 8) aNil))) aNil)))))
 sNil))))))))))))))))))))
def tb0 : Tb := ⟨badF, badF, badF, badF, badF, badF, badF, badF, badF, badF, badF, badF, badF, badF, badF, badF, badF, badF, badF, badF, badF, badF, badF⟩
noncomputable def nextTb (c c1 : Tb) : Tb := ⟨defSem 1 2 (b_shortest_cycle c c1),
  defSem 2 3 (b_turned c c1),
  defSem 2 3 (b_loose_entries c c1),
  defSem 3 4 (b_Rowdd_initdd c c1),
  defSem 2 2 (b_Rowdd_getitemdd c c1),
  defSem 2 3 (b_Row_start c c1),
  defSem 1 3 (b_Row_least c c1),
  defSem 2 2 (b_Row_after c c1),
  defSem 2 4 (b_same_rows c c1),
  defSem 1 3 (b__law_start c c1),
  defSem 2 5 (b__law_pick c c1),
  defSem 2 3 (b__law_same c c1),
  defSem 3 3 (b__law_at c c1),
  defSem 2 8 (b__law_least c c1),
  defSem 3 7 (b__law_behind c c1),
  defSem 2 2 (b__law_is_row c c1),
  defSem 1 9 (b__law_row c c1),
  defSem 3 5 (b__law_other c c1),
  defSem 4 6 (b__law_bent c c1),
  defSem 5 7 (b__law_asked c c1),
  defSem 4 12 (b__law_refusals c c1),
  defSem 4 11 (b__law_entries c c1),
  defSem 1 15 (b_law c c1)⟩
noncomputable def sem : Nat → Tb
  | 0 => tb0
  | 1 => tb0
  | k + 2 => nextTb (sem (k + 1)) (sem k)
theorem sem_next (k : Nat) : sem (k + 2) = nextTb (sem (k + 1)) (sem k) := rfl
theorem e_shortest_cycle (k : Nat) : (sem (k + 2)).shortest_cycle = defSem 1 2 (b_shortest_cycle (sem (k + 1)) (sem k)) := by rw [sem_next]; rfl
theorem e_turned (k : Nat) : (sem (k + 2)).turned = defSem 2 3 (b_turned (sem (k + 1)) (sem k)) := by rw [sem_next]; rfl
theorem e_loose_entries (k : Nat) : (sem (k + 2)).loose_entries = defSem 2 3 (b_loose_entries (sem (k + 1)) (sem k)) := by rw [sem_next]; rfl
theorem e_Rowdd_initdd (k : Nat) : (sem (k + 2)).Rowdd_initdd = defSem 3 4 (b_Rowdd_initdd (sem (k + 1)) (sem k)) := by rw [sem_next]; rfl
theorem e_Rowdd_getitemdd (k : Nat) : (sem (k + 2)).Rowdd_getitemdd = defSem 2 2 (b_Rowdd_getitemdd (sem (k + 1)) (sem k)) := by rw [sem_next]; rfl
theorem e_Row_start (k : Nat) : (sem (k + 2)).Row_start = defSem 2 3 (b_Row_start (sem (k + 1)) (sem k)) := by rw [sem_next]; rfl
theorem e_Row_least (k : Nat) : (sem (k + 2)).Row_least = defSem 1 3 (b_Row_least (sem (k + 1)) (sem k)) := by rw [sem_next]; rfl
theorem e_Row_after (k : Nat) : (sem (k + 2)).Row_after = defSem 2 2 (b_Row_after (sem (k + 1)) (sem k)) := by rw [sem_next]; rfl
theorem e_same_rows (k : Nat) : (sem (k + 2)).same_rows = defSem 2 4 (b_same_rows (sem (k + 1)) (sem k)) := by rw [sem_next]; rfl
theorem e__law_start (k : Nat) : (sem (k + 2))._law_start = defSem 1 3 (b__law_start (sem (k + 1)) (sem k)) := by rw [sem_next]; rfl
theorem e__law_pick (k : Nat) : (sem (k + 2))._law_pick = defSem 2 5 (b__law_pick (sem (k + 1)) (sem k)) := by rw [sem_next]; rfl
theorem e__law_same (k : Nat) : (sem (k + 2))._law_same = defSem 2 3 (b__law_same (sem (k + 1)) (sem k)) := by rw [sem_next]; rfl
theorem e__law_at (k : Nat) : (sem (k + 2))._law_at = defSem 3 3 (b__law_at (sem (k + 1)) (sem k)) := by rw [sem_next]; rfl
theorem e__law_least (k : Nat) : (sem (k + 2))._law_least = defSem 2 8 (b__law_least (sem (k + 1)) (sem k)) := by rw [sem_next]; rfl
theorem e__law_behind (k : Nat) : (sem (k + 2))._law_behind = defSem 3 7 (b__law_behind (sem (k + 1)) (sem k)) := by rw [sem_next]; rfl
theorem e__law_is_row (k : Nat) : (sem (k + 2))._law_is_row = defSem 2 2 (b__law_is_row (sem (k + 1)) (sem k)) := by rw [sem_next]; rfl
theorem e__law_row (k : Nat) : (sem (k + 2))._law_row = defSem 1 9 (b__law_row (sem (k + 1)) (sem k)) := by rw [sem_next]; rfl
theorem e__law_other (k : Nat) : (sem (k + 2))._law_other = defSem 3 5 (b__law_other (sem (k + 1)) (sem k)) := by rw [sem_next]; rfl
theorem e__law_bent (k : Nat) : (sem (k + 2))._law_bent = defSem 4 6 (b__law_bent (sem (k + 1)) (sem k)) := by rw [sem_next]; rfl
theorem e__law_asked (k : Nat) : (sem (k + 2))._law_asked = defSem 5 7 (b__law_asked (sem (k + 1)) (sem k)) := by rw [sem_next]; rfl
theorem e__law_refusals (k : Nat) : (sem (k + 2))._law_refusals = defSem 4 12 (b__law_refusals (sem (k + 1)) (sem k)) := by rw [sem_next]; rfl
theorem e__law_entries (k : Nat) : (sem (k + 2))._law_entries = defSem 4 11 (b__law_entries (sem (k + 1)) (sem k)) := by rw [sem_next]; rfl
theorem e_law (k : Nat) : (sem (k + 2)).law = defSem 1 15 (b_law (sem (k + 1)) (sem k)) := by rw [sem_next]; rfl
/-- what the top has written -/
structure Facts (K : PySem.W.Frag) (mg : Str → Option Value) : Prop where
  c_law : DefF K mg "law" "law" st_law ["script"]
  c__law_is_row : DefF K mg "_law_is_row" "_law_is_row" st__law_is_row ["actual", "due"]
  c_Row_least : MethF K mg "Row" "least" "Row.least" st_Row_least ["self"]
  c_same_rows : DefF K mg "same_rows" "same_rows" st_same_rows ["first", "second"]
  c__law_least : DefF K mg "_law_least" "_law_least" st__law_least ["head", "cycle"]
  c_Rowdd_initdd_1 : InitD K mg "Row" "Row.__init__" st_Rowdd_initdd ["self", "head", "cycle"] dd_Rowdd_initdd_1
  c__law_refusals : DefF K mg "_law_refusals" "_law_refusals" st__law_refusals ["state", "row", "head", "cycle"]
  c__law_entries : DefF K mg "_law_entries" "_law_entries" st__law_entries ["state", "row", "head", "cycle"]
  c__law_same : DefF K mg "_law_same" "_law_same" st__law_same ["actual", "due"]
  c_Rowdd_getitemdd : GetF K mg "Row" "Row.__getitem__" st_Rowdd_getitemdd ["self", "place"]
  c_Rowdd_initdd : InitD K mg "Row" "Row.__init__" st_Rowdd_initdd ["self", "head", "cycle"] []
  c__law_bent : DefF K mg "_law_bent" "_law_bent" st__law_bent ["state", "head", "cycle", "top"]
  c__law_other : DefF K mg "_law_other" "_law_other" st__law_other ["state", "head", "cycle"]
  c__law_row : DefF K mg "_law_row" "_law_row" st__law_row ["state"]
  c__law_start : DefF K mg "_law_start" "_law_start" st__law_start ["script"]
  c_turned : DefF K mg "turned" "turned" st_turned ["cycle", "count"]
  c_loose_entries : DefF K mg "loose_entries" "loose_entries" st_loose_entries ["head", "cycle"]
  c_shortest_cycle : DefF K mg "shortest_cycle" "shortest_cycle" st_shortest_cycle ["cycle"]
  c__law_asked : DefF K mg "_law_asked" "_law_asked" st__law_asked ["way", "row", "number", "head", "cycle"]
  c__law_at : DefF K mg "_law_at" "_law_at" st__law_at ["head", "cycle", "place"]
  c__law_pick : DefF K mg "_law_pick" "_law_pick" st__law_pick ["state", "limit"]
  c_Row_start : MethF K mg "Row" "start" "Row.start" st_Row_start ["self", "length"]
  c__law_behind : DefF K mg "_law_behind" "_law_behind" st__law_behind ["head", "cycle", "count"]
  c_Row_after : MethF K mg "Row" "after" "Row.after" st_Row_after ["self", "count"]
  z_all : mg "all" = none
  z_bool : mg "bool" = none
  z_int : mg "int" = none
  z_isinstance : mg "isinstance" = none
  z_len : mg "len" = none
  z_list : mg "list" = none
  z_max : mg "max" = none
  z_min : mg "min" = none
  z_range : mg "range" = none
  z_str : mg "str" = none
  z_tuple : mg "tuple" = none
  ic_Row : IsC K mg "Row" (subL [("Row", true)])
  fl_head : FldOk K mg ["Row"] "head"
  fl_cycle : FldOk K mg ["Row"] "cycle"
  er_OutOfRange : ∃ C, ErrF K mg "OutOfRange" C
  is_OutOfRange : IsE K mg "OutOfRange" (subL [("OutOfRange", true)])
  is_ValueError : IsE K mg "ValueError" (subL [("OutOfRange", true)])
  is_SizeMismatch : IsE K mg "SizeMismatch" (subL [("OutOfRange", false)])
  is_TooLarge : IsE K mg "TooLarge" (subL [("OutOfRange", false)])
  is_InvalidTerm : IsE K mg "InvalidTerm" (subL [("OutOfRange", false)])
  ht_ProofsError : HitN K mg "ProofsError" (subL [("OutOfRange", true)])
structure Cals (P : Program) (w : World) (K : PySem.W.Frag) (mg : Str → Option Value) (base : Heap) (k : Nat) (t : Tb) : Prop where
  c_law : Cal P w K mg base k "law" [] t.law
  c__law_is_row : Cal P w K mg base k "_law_is_row" [] t._law_is_row
  c_Row_least : CalM P w K mg base k "Row" "least" [] t.Row_least
  c_same_rows : Cal P w K mg base k "same_rows" [] t.same_rows
  c__law_least : Cal P w K mg base k "_law_least" [] t._law_least
  c_Rowdd_initdd_1 : CalC P w K mg base k "Row" dd_Rowdd_initdd_1 t.Rowdd_initdd
  c__law_refusals : Cal P w K mg base k "_law_refusals" [] t._law_refusals
  c__law_entries : Cal P w K mg base k "_law_entries" [] t._law_entries
  c__law_same : Cal P w K mg base k "_law_same" [] t._law_same
  c_Rowdd_getitemdd : CalI P w K mg base k "Row" t.Rowdd_getitemdd
  c_Rowdd_initdd : CalC P w K mg base k "Row" [] t.Rowdd_initdd
  c__law_bent : Cal P w K mg base k "_law_bent" [] t._law_bent
  c__law_other : Cal P w K mg base k "_law_other" [] t._law_other
  c__law_row : Cal P w K mg base k "_law_row" [] t._law_row
  c__law_start : Cal P w K mg base k "_law_start" [] t._law_start
  c_turned : Cal P w K mg base k "turned" [] t.turned
  c_loose_entries : Cal P w K mg base k "loose_entries" [] t.loose_entries
  c_shortest_cycle : Cal P w K mg base k "shortest_cycle" [] t.shortest_cycle
  c__law_asked : Cal P w K mg base k "_law_asked" [] t._law_asked
  c__law_at : Cal P w K mg base k "_law_at" [] t._law_at
  c__law_pick : Cal P w K mg base k "_law_pick" [] t._law_pick
  c_Row_start : CalM P w K mg base k "Row" "start" [] t.Row_start
  c__law_behind : Cal P w K mg base k "_law_behind" [] t._law_behind
  c_Row_after : CalM P w K mg base k "Row" "after" [] t.Row_after
section
variable {P : Program} {w : World} {K : PySem.W.Frag} {mg : Str → Option Value} {base : Heap} {k : Nat} {c c1 : Tb}
abbrev NN_shortest_cycle : List Str := ["cycle", "size"]
theorem sc_shortest_cycle : FnScope ["cycle", "size"] ["cycle"] (defScope st_shortest_cycle) := ⟨rfl, rfl, rfl, by decide +kernel, rfl, by decide +kernel, by decide +kernel⟩
theorem ok_shortest_cycle (F : Facts K mg) (G0 : Cals P w K mg base (k + 1) c) (G1 : Cals P w K mg base k c1) : BodyOk P w K mg base (k + 1) ["cycle", "size"] "shortest_cycle" (defScope st_shortest_cycle) (defBody st_shortest_cycle) (b_shortest_cycle c c1) := by
  intro f cd A outer s H E hr tk hp
  have hu := hu_of hr
  unfold b_shortest_cycle
  exact (gs_cons (gs_for hp (by rfl) (gi_range2 rfl F.z_range ge_int (ge_callB c_len rfl F.z_len bt_len (ga_cons (ge_var (pv 0)) ga_nil))) (gg_name (i := 1) sc_shortest_cycle.nd rfl (by first | exact Or.inl rfl | exact Or.inr rfl))
 (gs_cons (gs_if (gt_w (gw_and (gt_cmp (o_eq hr.units) (ge_op o_mod (ge_callB c_len rfl F.z_len bt_len (ga_cons (ge_var (pv 0)) ga_nil)) (ge_var (pv 1))) ge_int (by rfl)) (gw_and1 (gt_cmp (o_eq hr.units) (ge_op o_mul (ge_cut (ge_var (pv 0)) go_none (go_some (ge_var (pv 1)))) (ge_op o_div (ge_callB c_len rfl F.z_len bt_len (ga_cons (ge_var (pv 0)) ga_nil)) (ge_var (pv 1)))) (ge_var (pv 0)) (by rfl)))))
 (gs_cons (gs_ret (ge_cut (ge_var (pv 0)) go_none (go_some (ge_var (pv 1)))))
 gs_nil)
 gs_nil)
 gs_nil))
 (gs_cons (gs_ret (ge_var (pv 0)))
 gs_nil))
abbrev NN_turned : List Str := ["cycle", "count", "start"]
theorem sc_turned : FnScope ["cycle", "count", "start"] ["cycle", "count"] (defScope st_turned) := ⟨rfl, rfl, rfl, by decide +kernel, rfl, by decide +kernel, by decide +kernel⟩
theorem ok_turned (F : Facts K mg) (G0 : Cals P w K mg base (k + 1) c) (G1 : Cals P w K mg base k c1) : BodyOk P w K mg base (k + 1) ["cycle", "count", "start"] "turned" (defScope st_turned) (defBody st_turned) (b_turned c c1) := by
  intro f cd A outer s H E hr tk hp
  have hu := hu_of hr
  unfold b_turned
  exact (gs_cons (gs_set (i := 2) sc_turned.nd rfl (by first | exact Or.inl rfl | exact Or.inr rfl) (ge_op o_mod (ge_var (pv 1)) (ge_callB c_len rfl F.z_len bt_len (ga_cons (ge_var (pv 0)) ga_nil))))
 (gs_cons (gs_ret (ge_op o_add (ge_cut (ge_var (pv 0)) (go_some (ge_var (pv 2))) go_none) (ge_cut (ge_var (pv 0)) go_none (go_some (ge_var (pv 2))))))
 gs_nil))
abbrev NN_loose_entries : List Str := ["head", "cycle", "count"]
theorem sc_loose_entries : FnScope ["head", "cycle", "count"] ["head", "cycle"] (defScope st_loose_entries) := ⟨rfl, rfl, rfl, by decide +kernel, rfl, by decide +kernel, by decide +kernel⟩
theorem ok_loose_entries (F : Facts K mg) (G0 : Cals P w K mg base (k + 1) c) (G1 : Cals P w K mg base k c1) : BodyOk P w K mg base (k + 1) ["head", "cycle", "count"] "loose_entries" (defScope st_loose_entries) (defBody st_loose_entries) (b_loose_entries c c1) := by
  intro f cd A outer s H E hr tk hp
  have hu := hu_of hr
  unfold b_loose_entries
  exact (gs_cons (gs_set (i := 2) sc_loose_entries.nd rfl (by first | exact Or.inl rfl | exact Or.inr rfl) ge_int)
 (gs_cons (gs_while hp (gt_w (gw_and (gt_cmp o_lt (ge_var (pv 2)) (ge_callB c_len rfl F.z_len bt_len (ga_cons (ge_var (pv 0)) ga_nil)) (by rfl)) (gw_and1 (gt_cmp (o_eq hr.units) (ge_ix hu (ge_var (pv 0)) (ge_op o_sub (ge_op o_sub (ge_callB c_len rfl F.z_len bt_len (ga_cons (ge_var (pv 0)) ga_nil)) ge_int) (ge_var (pv 2)))) (ge_ix hu (ge_var (pv 1)) (ge_op o_mod (ge_op o_sub (ge_un u_neg ge_int) (ge_var (pv 2))) (ge_callB c_len rfl F.z_len bt_len (ga_cons (ge_var (pv 1)) ga_nil)))) (by rfl)))))
 (gs_cons (gs_aug (i := 2) sc_loose_entries.nd rfl (by first | exact Or.inl rfl | exact Or.inr rfl) ge_int ipo_add)
 gs_nil))
 (gs_cons (gs_ret (ge_var (pv 2)))
 gs_nil)))
abbrev NN_Rowdd_initdd : List Str := ["self", "head", "cycle", "entry"]
theorem sc_Rowdd_initdd : FnScope ["self", "head", "cycle", "entry"] ["self", "head", "cycle"] (defScope st_Rowdd_initdd) := ⟨rfl, rfl, rfl, by decide +kernel, rfl, by decide +kernel, by decide +kernel⟩
theorem ok_Rowdd_initdd (F : Facts K mg) (G0 : Cals P w K mg base (k + 1) c) (G1 : Cals P w K mg base k c1) : BodyOk P w K mg base (k + 1) ["self", "head", "cycle", "entry"] "Row.__init__" (defScope st_Rowdd_initdd) (defBody st_Rowdd_initdd) (b_Rowdd_initdd c c1) := by
  intro f cd A outer s H E hr tk hp
  have hu := hu_of hr
  unfold b_Rowdd_initdd
  exact (gs_cons (gs_if (gt_cmp (o_eq hr.units) (ge_callB c_len rfl F.z_len bt_len (ga_cons (ge_var (pv 2)) ga_nil)) ge_int (by rfl))
 (gs_cons (by obtain ⟨C, hC⟩ := F.er_OutOfRange; exact gs_raise (by rfl) tk hC rfl)
 gs_nil)
 gs_nil)
 (gs_cons (gs_for hp (by rfl) (gi_seq (ge_op o_add (ge_var (pv 1)) (ge_var (pv 2)))) (gg_name (i := 3) sc_Rowdd_initdd.nd rfl (by first | exact Or.inl rfl | exact Or.inr rfl))
 (gs_cons (gs_if (gt_cmp o_lt (ge_var (pv 3)) ge_int (by rfl))
 (gs_cons (by obtain ⟨C, hC⟩ := F.er_OutOfRange; exact gs_raise (by rfl) tk hC rfl)
 gs_nil)
 gs_nil)
 gs_nil))
 (gs_cons (gs_fld (ge_var (pv 1)) (ge_var (pv 0)) F.fl_head)
 (gs_cons (gs_fld (ge_var (pv 2)) (ge_var (pv 0)) F.fl_cycle)
 gs_nil))))
abbrev NN_Rowdd_getitemdd : List Str := ["self", "place"]
theorem sc_Rowdd_getitemdd : FnScope ["self", "place"] ["self", "place"] (defScope st_Rowdd_getitemdd) := ⟨rfl, rfl, rfl, by decide +kernel, rfl, by decide +kernel, by decide +kernel⟩
theorem ok_Rowdd_getitemdd (F : Facts K mg) (G0 : Cals P w K mg base (k + 1) c) (G1 : Cals P w K mg base k c1) : BodyOk P w K mg base (k + 1) ["self", "place"] "Row.__getitem__" (defScope st_Rowdd_getitemdd) (defBody st_Rowdd_getitemdd) (b_Rowdd_getitemdd c c1) := by
  intro f cd A outer s H E hr tk hp
  have hu := hu_of hr
  unfold b_Rowdd_getitemdd
  exact (gs_cons (gs_if (gt_cmp o_lt (ge_var (pv 1)) ge_int (by rfl))
 (gs_cons (by obtain ⟨C, hC⟩ := F.er_OutOfRange; exact gs_raise (by rfl) tk hC rfl)
 gs_nil)
 gs_nil)
 (gs_cons (gs_if (gt_cmp o_lt (ge_var (pv 1)) (ge_callB c_len rfl F.z_len bt_len (ga_cons (ge_fld (ge_var (pv 0)) F.fl_head) ga_nil)) (by rfl))
 (gs_cons (gs_ret (ge_ix hu (ge_fld (ge_var (pv 0)) F.fl_head) (ge_var (pv 1))))
 gs_nil)
 gs_nil)
 (gs_cons (gs_ret (ge_ix hu (ge_fld (ge_var (pv 0)) F.fl_cycle) (ge_op o_mod (ge_op o_sub (ge_var (pv 1)) (ge_callB c_len rfl F.z_len bt_len (ga_cons (ge_fld (ge_var (pv 0)) F.fl_head) ga_nil))) (ge_callB c_len rfl F.z_len bt_len (ga_cons (ge_fld (ge_var (pv 0)) F.fl_cycle) ga_nil)))))
 gs_nil)))
abbrev NN_Row_start : List Str := ["self", "length", "place"]
theorem sc_Row_start : FnScope ["self", "length", "place"] ["self", "length"] (defScope st_Row_start) := ⟨rfl, rfl, rfl, by decide +kernel, rfl, by decide +kernel, by decide +kernel⟩
theorem ok_Row_start (F : Facts K mg) (G0 : Cals P w K mg base (k + 1) c) (G1 : Cals P w K mg base k c1) : BodyOk P w K mg base (k + 1) ["self", "length", "place"] "Row.start" (defScope st_Row_start) (defBody st_Row_start) (b_Row_start c c1) := by
  intro f cd A outer s H E hr tk hp
  have hu := hu_of hr
  unfold b_Row_start
  exact (gs_cons (gs_if (gt_cmp o_lt (ge_var (pv 1)) ge_int (by rfl))
 (gs_cons (by obtain ⟨C, hC⟩ := F.er_OutOfRange; exact gs_raise (by rfl) tk hC rfl)
 gs_nil)
 gs_nil)
 (gs_cons (gs_ret (ge_callTyT c_tupleT rfl F.z_tuple bt_tuple (gl_lc (own := [("place", 2)]) (by rfl) sc_Row_start.nd (gi_range1 rfl F.z_range (ge_var (pv 1))) (blkOk_by (N := NN_Row_start) (sc := defScope st_Row_start) (by decide +kernel)) (fun _ _ _ _ _ => (gg_name (i := 2) sc_Row_start.nd rfl (by first | exact Or.inl rfl | exact Or.inr rfl))) (by decide) (fun _ _ _ _ _ => gts_nil) (fun _ _ _ _ _ => (ge_ixO (G1.c_Rowdd_getitemdd) hu hr takes_none5 (ge_var (pv 0)) (ge_var (pv 2)))))))
 gs_nil))
abbrev NN_Row_least : List Str := ["self", "cycle", "count"]
theorem sc_Row_least : FnScope ["self", "cycle", "count"] ["self"] (defScope st_Row_least) := ⟨rfl, rfl, rfl, by decide +kernel, rfl, by decide +kernel, by decide +kernel⟩
theorem ok_Row_least (F : Facts K mg) (G0 : Cals P w K mg base (k + 1) c) (G1 : Cals P w K mg base k c1) : BodyOk P w K mg base (k + 1) ["self", "cycle", "count"] "Row.least" (defScope st_Row_least) (defBody st_Row_least) (b_Row_least c c1) := by
  intro f cd A outer s H E hr tk hp
  have hu := hu_of hr
  unfold b_Row_least
  exact (gs_cons (gs_set (i := 1) sc_Row_least.nd rfl (by first | exact Or.inl rfl | exact Or.inr rfl) (ge_call G0.c_shortest_cycle hr rfl tk (ga_cons (ge_fld (ge_var (pv 0)) F.fl_cycle) ga_nil)))
 (gs_cons (gs_set (i := 2) sc_Row_least.nd rfl (by first | exact Or.inl rfl | exact Or.inr rfl) (ge_call G0.c_loose_entries hr rfl tk (ga_cons (ge_fld (ge_var (pv 0)) F.fl_head) (ga_cons (ge_var (pv 1)) ga_nil))))
 (gs_cons (gs_ret (ge_make G1.c_Rowdd_initdd hr rfl tk (ga_cons (ge_cut (ge_fld (ge_var (pv 0)) F.fl_head) go_none (go_some (ge_op o_sub (ge_callB c_len rfl F.z_len bt_len (ga_cons (ge_fld (ge_var (pv 0)) F.fl_head) ga_nil)) (ge_var (pv 2))))) (ga_cons (ge_call G0.c_turned hr rfl tk (ga_cons (ge_var (pv 1)) (ga_cons (ge_un u_neg (ge_var (pv 2))) ga_nil))) ga_nil))))
 gs_nil)))
abbrev NN_Row_after : List Str := ["self", "count"]
theorem sc_Row_after : FnScope ["self", "count"] ["self", "count"] (defScope st_Row_after) := ⟨rfl, rfl, rfl, by decide +kernel, rfl, by decide +kernel, by decide +kernel⟩
theorem ok_Row_after (F : Facts K mg) (G0 : Cals P w K mg base (k + 1) c) (G1 : Cals P w K mg base k c1) : BodyOk P w K mg base (k + 1) ["self", "count"] "Row.after" (defScope st_Row_after) (defBody st_Row_after) (b_Row_after c c1) := by
  intro f cd A outer s H E hr tk hp
  have hu := hu_of hr
  unfold b_Row_after
  exact (gs_cons (gs_if (gt_cmp o_lt (ge_var (pv 1)) ge_int (by rfl))
 (gs_cons (by obtain ⟨C, hC⟩ := F.er_OutOfRange; exact gs_raise (by rfl) tk hC rfl)
 gs_nil)
 gs_nil)
 (gs_cons (gs_if (gt_cmp o_le (ge_var (pv 1)) (ge_callB c_len rfl F.z_len bt_len (ga_cons (ge_fld (ge_var (pv 0)) F.fl_head) ga_nil)) (by rfl))
 (gs_cons (gs_ret (ge_methO0 (ge_make G1.c_Rowdd_initdd hr rfl tk (ga_cons (ge_cut (ge_fld (ge_var (pv 0)) F.fl_head) (go_some (ge_var (pv 1))) go_none) (ga_cons (ge_fld (ge_var (pv 0)) F.fl_cycle) ga_nil))) G0.c_Row_least hr tk))
 gs_nil)
 gs_nil)
 (gs_cons (gs_ret (ge_methO0 (ge_make G1.c_Rowdd_initdd hr rfl tk (ga_cons (ge_tup ga_nil) (ga_cons (ge_call G0.c_turned hr rfl tk (ga_cons (ge_fld (ge_var (pv 0)) F.fl_cycle) (ga_cons (ge_op o_sub (ge_var (pv 1)) (ge_callB c_len rfl F.z_len bt_len (ga_cons (ge_fld (ge_var (pv 0)) F.fl_head) ga_nil))) ga_nil))) ga_nil))) G0.c_Row_least hr tk))
 gs_nil)))
abbrev NN_same_rows : List Str := ["first", "second", "one", "other"]
theorem sc_same_rows : FnScope ["first", "second", "one", "other"] ["first", "second"] (defScope st_same_rows) := ⟨rfl, rfl, rfl, by decide +kernel, rfl, by decide +kernel, by decide +kernel⟩
theorem ok_same_rows (F : Facts K mg) (G0 : Cals P w K mg base (k + 1) c) (G1 : Cals P w K mg base k c1) : BodyOk P w K mg base (k + 1) ["first", "second", "one", "other"] "same_rows" (defScope st_same_rows) (defBody st_same_rows) (b_same_rows c c1) := by
  intro f cd A outer s H E hr tk hp
  have hu := hu_of hr
  unfold b_same_rows
  exact (gs_cons (gs_set (i := 2) sc_same_rows.nd rfl (by first | exact Or.inl rfl | exact Or.inr rfl) (ge_methO0 (ge_var (pv 0)) G0.c_Row_least hr tk))
 (gs_cons (gs_set (i := 3) sc_same_rows.nd rfl (by first | exact Or.inl rfl | exact Or.inr rfl) (ge_methO0 (ge_var (pv 1)) G0.c_Row_least hr tk))
 (gs_cons (gs_ret (ge_and (ge_cmp (o_eq hr.units) (ge_fld (ge_var (pv 2)) F.fl_head) (ge_fld (ge_var (pv 3)) F.fl_head) (by rfl)) (ge_one (ge_cmp (o_eq hr.units) (ge_fld (ge_var (pv 2)) F.fl_cycle) (ge_fld (ge_var (pv 3)) F.fl_cycle) (by rfl)))))
 gs_nil)))
abbrev NN__law_start : List Str := ["script", "seed", "k"]
theorem sc__law_start : FnScope ["script", "seed", "k"] ["script"] (defScope st__law_start) := ⟨rfl, rfl, rfl, by decide +kernel, rfl, by decide +kernel, by decide +kernel⟩
theorem ok__law_start (F : Facts K mg) (G0 : Cals P w K mg base (k + 1) c) (G1 : Cals P w K mg base k c1) : BodyOk P w K mg base (k + 1) ["script", "seed", "k"] "_law_start" (defScope st__law_start) (defBody st__law_start) (b__law_start c c1) := by
  intro f cd A outer s H E hr tk hp
  have hu := hu_of hr
  unfold b__law_start
  exact (gs_cons (gs_set (i := 1) sc__law_start.nd rfl (by first | exact Or.inl rfl | exact Or.inr rfl) ge_int)
 (gs_cons (gs_for hp (by rfl) (gi_range1 rfl F.z_range (ge_callB c_len rfl F.z_len bt_len (ga_cons (ge_var (pv 0)) ga_nil))) (gg_name (i := 2) sc__law_start.nd rfl (by first | exact Or.inl rfl | exact Or.inr rfl))
 (gs_cons (gs_set (i := 1) sc__law_start.nd rfl (by first | exact Or.inl rfl | exact Or.inr rfl) (ge_op o_mod (ge_op o_add (ge_op o_add (ge_op o_add (ge_op o_mul (ge_var (pv 1)) ge_int) (ge_op o_mod (ge_callTy c_int rfl F.z_int bt_int (ga_cons (ge_ix hu (ge_var (pv 0)) (ge_var (pv 2))) ga_nil)) ge_int)) (ge_var (pv 2))) ge_int) ge_int))
 gs_nil))
 (gs_cons (gs_ret (ge_ofL (gl_lst (ga_cons (ge_var (pv 1)) (ga_cons (ge_ofL (gl_listOf rfl F.z_list (ge_var (pv 0)))) (ga_cons ge_int (ga_cons ge_int ga_nil)))))))
 gs_nil)))
abbrev NN__law_pick : List Str := ["state", "limit", "rest", "cell", "mixed"]
theorem sc__law_pick : FnScope ["state", "limit", "rest", "cell", "mixed"] ["state", "limit"] (defScope st__law_pick) := ⟨rfl, rfl, rfl, by decide +kernel, rfl, by decide +kernel, by decide +kernel⟩
theorem ok__law_pick (F : Facts K mg) (G0 : Cals P w K mg base (k + 1) c) (G1 : Cals P w K mg base k c1) : BodyOk P w K mg base (k + 1) ["state", "limit", "rest", "cell", "mixed"] "_law_pick" (defScope st__law_pick) (defBody st__law_pick) (b__law_pick c c1) := by
  intro f cd A outer s H E hr tk hp
  have hu := hu_of hr
  unfold b__law_pick
  exact (gs_cons (gs_if (gt_cmp o_ge (ge_ix hu (ge_var (pv 0)) ge_int) (ge_var (pv 1)) (by rfl))
 (gs_cons (gs_set (i := 2) sc__law_pick.nd rfl (by first | exact Or.inl rfl | exact Or.inr rfl) (ge_callTy c_int rfl F.z_int bt_int (ga_cons (ge_ix hu (ge_var (pv 0)) ge_int) ga_nil)))
 (gs_cons (gs_put hu (ge_op o_div (ge_var (pv 2)) (ge_var (pv 1))) (ge_var (pv 0)) ge_int)
 (gs_cons (gs_ret (ge_op o_mod (ge_var (pv 2)) (ge_var (pv 1))))
 gs_nil)))
 gs_nil)
 (gs_cons (gs_set (i := 3) sc__law_pick.nd rfl (by first | exact Or.inl rfl | exact Or.inr rfl) ge_int)
 (gs_cons (gs_if (gt_cmp o_lt (ge_ix hu (ge_var (pv 0)) ge_int) (ge_callB c_len rfl F.z_len bt_len (ga_cons (ge_ix hu (ge_var (pv 0)) ge_int) ga_nil)) (by rfl))
 (gs_cons (gs_set (i := 3) sc__law_pick.nd rfl (by first | exact Or.inl rfl | exact Or.inr rfl) (ge_callTy c_int rfl F.z_int bt_int (ga_cons (ge_ix hu (ge_ix hu (ge_var (pv 0)) ge_int) (ge_ix hu (ge_var (pv 0)) ge_int)) ga_nil)))
 (gs_cons (gs_put hu (ge_op o_add (ge_ix hu (ge_var (pv 0)) ge_int) ge_int) (ge_var (pv 0)) ge_int)
 (gs_cons (gs_if (gt_cmp o_lt (ge_var (pv 3)) ge_int (by rfl))
 (gs_cons (gs_set (i := 3) sc__law_pick.nd rfl (by first | exact Or.inl rfl | exact Or.inr rfl) (ge_op o_sub ge_int (ge_var (pv 3))))
 gs_nil)
 gs_nil)
 (gs_cons (gs_if (gt_cmp o_ge (ge_var (pv 3)) (ge_op o_pow ge_int ge_int) (by rfl))
 (gs_cons (gs_put hu (ge_op o_div (ge_var (pv 3)) (ge_var (pv 1))) (ge_var (pv 0)) ge_int)
 (gs_cons (gs_ret (ge_op o_mod (ge_var (pv 3)) (ge_var (pv 1))))
 gs_nil))
 gs_nil)
 gs_nil))))
 gs_nil)
 (gs_cons (gs_set (i := 4) sc__law_pick.nd rfl (by first | exact Or.inl rfl | exact Or.inr rfl) (ge_op o_mod (ge_op o_mul (ge_op o_add (ge_op o_add (ge_callTy c_int rfl F.z_int bt_int (ga_cons (ge_ix hu (ge_var (pv 0)) ge_int) ga_nil)) (ge_op o_mod (ge_var (pv 3)) ge_int)) ge_int) ge_int) ge_int))
 (gs_cons (gs_put hu (ge_op o_mod (ge_op o_add (ge_op o_mul (ge_var (pv 4)) ge_int) ge_int) ge_int) (ge_var (pv 0)) ge_int)
 (gs_cons (gs_ret (ge_op o_mod (ge_op o_div (ge_callTy c_int rfl F.z_int bt_int (ga_cons (ge_ix hu (ge_var (pv 0)) ge_int) ga_nil)) ge_int) (ge_var (pv 1))))
 gs_nil))))))
abbrev NN__law_same : List Str := ["actual", "due", "p"]
theorem sc__law_same : FnScope ["actual", "due", "p"] ["actual", "due"] (defScope st__law_same) := ⟨rfl, rfl, rfl, by decide +kernel, rfl, by decide +kernel, by decide +kernel⟩
theorem ok__law_same (F : Facts K mg) (G0 : Cals P w K mg base (k + 1) c) (G1 : Cals P w K mg base k c1) : BodyOk P w K mg base (k + 1) ["actual", "due", "p"] "_law_same" (defScope st__law_same) (defBody st__law_same) (b__law_same c c1) := by
  intro f cd A outer s H E hr tk hp
  have hu := hu_of hr
  unfold b__law_same
  exact (gs_cons (gs_if (gt_of (ge_isT (ge_var (pv 1)) F.z_tuple bt_tuple rfl rfl F.z_isinstance))
 (gs_cons (gs_if (gt_w (gw_or (gt_not (gt_of (ge_isT (ge_var (pv 0)) F.z_tuple bt_tuple rfl rfl F.z_isinstance))) (gw_or1 (gt_cmp (o_ne hr.units) (ge_callB c_len rfl F.z_len bt_len (ga_cons (ge_var (pv 0)) ga_nil)) (ge_callB c_len rfl F.z_len bt_len (ga_cons (ge_var (pv 1)) ga_nil)) (by rfl)))))
 (gs_cons (gs_ret ge_bl)
 gs_nil)
 gs_nil)
 (gs_cons (gs_ret (ge_callBT (c_tmp (c_all (by rfl))) rfl F.z_all bt_all (gl_lc (own := [("p", 2)]) (by rfl) sc__law_same.nd (gi_range1 rfl F.z_range (ge_callB c_len rfl F.z_len bt_len (ga_cons (ge_var (pv 1)) ga_nil))) (blkOk_by (N := NN__law_same) (sc := defScope st__law_same) (by decide +kernel)) (fun _ _ _ _ _ => (gg_name (i := 2) sc__law_same.nd rfl (by first | exact Or.inl rfl | exact Or.inr rfl))) (by decide) (fun _ _ _ _ _ => gts_nil) (fun _ _ _ _ _ => (ge_call G0.c__law_same hr rfl takes_none5 (ga_cons (ge_ix hu (ge_var (pv 0)) (ge_var (pv 2))) (ga_cons (ge_ix hu (ge_var (pv 1)) (ge_var (pv 2))) ga_nil)))))))
 gs_nil))
 gs_nil)
 (gs_cons (gs_if (gt_cmp o_is (ge_var (pv 1)) ge_non (by rfl))
 (gs_cons (gs_ret (ge_cmp o_is (ge_var (pv 0)) ge_non (by rfl)))
 gs_nil)
 gs_nil)
 (gs_cons (gs_if (gt_of (ge_isT (ge_var (pv 1)) F.z_str bt_str rfl rfl F.z_isinstance))
 (gs_cons (gs_ret (ge_and (ge_isT (ge_var (pv 0)) F.z_str bt_str rfl rfl F.z_isinstance) (ge_one (ge_cmp (o_eq hr.units) (ge_var (pv 0)) (ge_var (pv 1)) (by rfl)))))
 gs_nil)
 gs_nil)
 (gs_cons (gs_if (gt_of (ge_isT (ge_var (pv 1)) F.z_bool bt_bool rfl rfl F.z_isinstance))
 (gs_cons (gs_ret (ge_and (ge_isT (ge_var (pv 0)) F.z_bool bt_bool rfl rfl F.z_isinstance) (ge_one (ge_cmp (o_eq hr.units) (ge_var (pv 0)) (ge_var (pv 1)) (by rfl)))))
 gs_nil)
 gs_nil)
 (gs_cons (gs_ret (ge_and (ge_isT (ge_var (pv 0)) F.z_int bt_int rfl rfl F.z_isinstance) (ge_and (ge_not (ge_isT (ge_var (pv 0)) F.z_bool bt_bool rfl rfl F.z_isinstance)) (ge_one (ge_cmp (o_eq hr.units) (ge_var (pv 0)) (ge_var (pv 1)) (by rfl))))))
 gs_nil)))))
abbrev NN__law_at : List Str := ["head", "cycle", "place"]
theorem sc__law_at : FnScope ["head", "cycle", "place"] ["head", "cycle", "place"] (defScope st__law_at) := ⟨rfl, rfl, rfl, by decide +kernel, rfl, by decide +kernel, by decide +kernel⟩
theorem ok__law_at (F : Facts K mg) (G0 : Cals P w K mg base (k + 1) c) (G1 : Cals P w K mg base k c1) : BodyOk P w K mg base (k + 1) ["head", "cycle", "place"] "_law_at" (defScope st__law_at) (defBody st__law_at) (b__law_at c c1) := by
  intro f cd A outer s H E hr tk hp
  have hu := hu_of hr
  unfold b__law_at
  exact (gs_cons (gs_if (gt_cmp o_lt (ge_var (pv 2)) (ge_callB c_len rfl F.z_len bt_len (ga_cons (ge_var (pv 0)) ga_nil)) (by rfl))
 (gs_cons (gs_ret (ge_ix hu (ge_var (pv 0)) (ge_var (pv 2))))
 gs_nil)
 gs_nil)
 (gs_cons (gs_ret (ge_ix hu (ge_var (pv 1)) (ge_op o_mod (ge_callTy c_int rfl F.z_int bt_int (ga_cons (ge_op o_sub (ge_var (pv 2)) (ge_callB c_len rfl F.z_len bt_len (ga_cons (ge_var (pv 0)) ga_nil))) ga_nil)) (ge_callB c_len rfl F.z_len bt_len (ga_cons (ge_var (pv 1)) ga_nil)))))
 gs_nil))
abbrev NN__law_least : List Str := ["head", "cycle", "many", "size", "k", "entries", "keep", "p"]
theorem sc__law_least : FnScope ["head", "cycle", "many", "size", "k", "entries", "keep", "p"] ["head", "cycle"] (defScope st__law_least) := ⟨rfl, rfl, rfl, by decide +kernel, rfl, by decide +kernel, by decide +kernel⟩
theorem ok__law_least (F : Facts K mg) (G0 : Cals P w K mg base (k + 1) c) (G1 : Cals P w K mg base k c1) : BodyOk P w K mg base (k + 1) ["head", "cycle", "many", "size", "k", "entries", "keep", "p"] "_law_least" (defScope st__law_least) (defBody st__law_least) (b__law_least c c1) := by
  intro f cd A outer s H E hr tk hp
  have hu := hu_of hr
  unfold b__law_least
  exact (gs_cons (gs_set (i := 2) sc__law_least.nd rfl (by first | exact Or.inl rfl | exact Or.inr rfl) (ge_callB c_len rfl F.z_len bt_len (ga_cons (ge_var (pv 1)) ga_nil)))
 (gs_cons (gs_set (i := 3) sc__law_least.nd rfl (by first | exact Or.inl rfl | exact Or.inr rfl) (ge_var (pv 2)))
 (gs_cons (gs_for hp (by rfl) (gi_range2 rfl F.z_range ge_int (ge_var (pv 2))) (gg_name (i := 4) sc__law_least.nd rfl (by first | exact Or.inl rfl | exact Or.inr rfl))
 (gs_cons (gs_if (gt_w (gw_and (gt_cmp (o_eq hr.units) (ge_var (pv 3)) (ge_var (pv 2)) (by rfl)) (gw_and (gt_cmp (o_eq hr.units) (ge_op o_mod (ge_callTy c_int rfl F.z_int bt_int (ga_cons (ge_var (pv 2)) ga_nil)) (ge_var (pv 4))) ge_int (by rfl)) (gw_and1 (gt_of (ge_callBT (c_tmp (c_all (by rfl))) rfl F.z_all bt_all (gl_lc (own := [("p", 7)]) (by rfl) sc__law_least.nd (gi_range1 rfl F.z_range (ge_var (pv 2))) (blkOk_by (N := NN__law_least) (sc := defScope st__law_least) (by decide +kernel)) (fun _ _ _ _ _ => (gg_name (i := 7) sc__law_least.nd rfl (by first | exact Or.inl rfl | exact Or.inr rfl))) (by decide) (fun _ _ _ _ _ => gts_nil) (fun _ _ _ _ _ => (ge_cmp (o_eq hr.units) (ge_ix hu (ge_var (pv 1)) (ge_var (pv 7))) (ge_ix hu (ge_var (pv 1)) (ge_op o_sub (ge_var (pv 7)) (ge_var (pv 4)))) (by rfl))))))))))
 (gs_cons (gs_set (i := 3) sc__law_least.nd rfl (by first | exact Or.inl rfl | exact Or.inr rfl) (ge_var (pv 4)))
 gs_nil)
 gs_nil)
 gs_nil))
 (gs_cons (gs_set (i := 5) sc__law_least.nd rfl (by first | exact Or.inl rfl | exact Or.inr rfl) (ge_op o_add (ge_var (pv 0)) (ge_var (pv 1))))
 (gs_cons (gs_set (i := 6) sc__law_least.nd rfl (by first | exact Or.inl rfl | exact Or.inr rfl) (ge_callB c_len rfl F.z_len bt_len (ga_cons (ge_var (pv 0)) ga_nil)))
 (gs_cons (gs_for hp (by rfl) (gi_range1 rfl F.z_range (ge_callB c_len rfl F.z_len bt_len (ga_cons (ge_var (pv 0)) ga_nil))) (gg_name (i := 4) sc__law_least.nd rfl (by first | exact Or.inl rfl | exact Or.inr rfl))
 (gs_cons (gs_if (gt_w (gw_and (gt_cmp (o_eq hr.units) (ge_var (pv 6)) (ge_op o_sub (ge_callB c_len rfl F.z_len bt_len (ga_cons (ge_var (pv 0)) ga_nil)) (ge_var (pv 4))) (by rfl)) (gw_and1 (gt_cmp (o_eq hr.units) (ge_ix hu (ge_var (pv 5)) (ge_op o_sub (ge_var (pv 6)) ge_int)) (ge_ix hu (ge_var (pv 5)) (ge_op o_add (ge_op o_sub (ge_var (pv 6)) ge_int) (ge_var (pv 3)))) (by rfl)))))
 (gs_cons (gs_set (i := 6) sc__law_least.nd rfl (by first | exact Or.inl rfl | exact Or.inr rfl) (ge_op o_sub (ge_var (pv 6)) ge_int))
 gs_nil)
 gs_nil)
 gs_nil))
 (gs_cons (gs_ret (ge_tup (ga_cons (ge_cut (ge_var (pv 5)) go_none (go_some (ge_var (pv 6)))) (ga_cons (ge_cut (ge_var (pv 5)) (go_some (ge_var (pv 6))) (go_some (ge_op o_add (ge_var (pv 6)) (ge_var (pv 3))))) ga_nil))))
 gs_nil)))))))
abbrev NN__law_behind : List Str := ["head", "cycle", "count", "left", "first", "rest", "p"]
theorem sc__law_behind : FnScope ["head", "cycle", "count", "left", "first", "rest", "p"] ["head", "cycle", "count"] (defScope st__law_behind) := ⟨rfl, rfl, rfl, by decide +kernel, rfl, by decide +kernel, by decide +kernel⟩
theorem ok__law_behind (F : Facts K mg) (G0 : Cals P w K mg base (k + 1) c) (G1 : Cals P w K mg base k c1) : BodyOk P w K mg base (k + 1) ["head", "cycle", "count", "left", "first", "rest", "p"] "_law_behind" (defScope st__law_behind) (defBody st__law_behind) (b__law_behind c c1) := by
  intro f cd A outer s H E hr tk hp
  have hu := hu_of hr
  unfold b__law_behind
  exact (gs_cons (gs_set (i := 3) sc__law_behind.nd rfl (by first | exact Or.inl rfl | exact Or.inr rfl) (ge_callB (c_max2 (by rfl)) rfl F.z_max bt_max (ga_cons (ge_op o_sub (ge_callB c_len rfl F.z_len bt_len (ga_cons (ge_var (pv 0)) ga_nil)) (ge_var (pv 2))) (ga_cons ge_int ga_nil))))
 (gs_cons (gs_set (i := 4) sc__law_behind.nd rfl (by first | exact Or.inl rfl | exact Or.inr rfl) (ge_callTyT c_tupleT rfl F.z_tuple bt_tuple (gl_lc (own := [("p", 6)]) (by rfl) sc__law_behind.nd (gi_range1 rfl F.z_range (ge_var (pv 3))) (blkOk_by (N := NN__law_behind) (sc := defScope st__law_behind) (by decide +kernel)) (fun _ _ _ _ _ => (gg_name (i := 6) sc__law_behind.nd rfl (by first | exact Or.inl rfl | exact Or.inr rfl))) (by decide) (fun _ _ _ _ _ => gts_nil) (fun _ _ _ _ _ => (ge_call G0.c__law_at hr rfl takes_none5 (ga_cons (ge_var (pv 0)) (ga_cons (ge_var (pv 1)) (ga_cons (ge_op o_add (ge_var (pv 2)) (ge_var (pv 6))) ga_nil))))))))
 (gs_cons (gs_set (i := 5) sc__law_behind.nd rfl (by first | exact Or.inl rfl | exact Or.inr rfl) (ge_callTyT c_tupleT rfl F.z_tuple bt_tuple (gl_lc (own := [("p", 6)]) (by rfl) sc__law_behind.nd (gi_range1 rfl F.z_range (ge_callB c_len rfl F.z_len bt_len (ga_cons (ge_var (pv 1)) ga_nil))) (blkOk_by (N := NN__law_behind) (sc := defScope st__law_behind) (by decide +kernel)) (fun _ _ _ _ _ => (gg_name (i := 6) sc__law_behind.nd rfl (by first | exact Or.inl rfl | exact Or.inr rfl))) (by decide) (fun _ _ _ _ _ => gts_nil) (fun _ _ _ _ _ => (ge_call G0.c__law_at hr rfl takes_none5 (ga_cons (ge_var (pv 0)) (ga_cons (ge_var (pv 1)) (ga_cons (ge_op o_add (ge_op o_add (ge_var (pv 2)) (ge_var (pv 3))) (ge_var (pv 6))) ga_nil))))))))
 (gs_cons (gs_ret (ge_call G0.c__law_least hr rfl tk (ga_cons (ge_var (pv 4)) (ga_cons (ge_var (pv 5)) ga_nil))))
 gs_nil))))
abbrev NN__law_is_row : List Str := ["actual", "due"]
theorem sc__law_is_row : FnScope ["actual", "due"] ["actual", "due"] (defScope st__law_is_row) := ⟨rfl, rfl, rfl, by decide +kernel, rfl, by decide +kernel, by decide +kernel⟩
theorem ok__law_is_row (F : Facts K mg) (G0 : Cals P w K mg base (k + 1) c) (G1 : Cals P w K mg base k c1) : BodyOk P w K mg base (k + 1) ["actual", "due"] "_law_is_row" (defScope st__law_is_row) (defBody st__law_is_row) (b__law_is_row c c1) := by
  intro f cd A outer s H E hr tk hp
  have hu := hu_of hr
  unfold b__law_is_row
  exact (gs_cons (gs_ret (ge_and (ge_isC' (ge_var (pv 0)) F.ic_Row rfl rfl F.z_isinstance) (ge_and (ge_call G0.c__law_same hr rfl tk (ga_cons (ge_fld (ge_var (pv 0)) F.fl_head) (ga_cons (ge_ix hu (ge_var (pv 1)) ge_int) ga_nil))) (ge_one (ge_call G0.c__law_same hr rfl tk (ga_cons (ge_fld (ge_var (pv 0)) F.fl_cycle) (ga_cons (ge_ix hu (ge_var (pv 1)) ge_int) ga_nil)))))))
 gs_nil)
abbrev NN__law_row : List Str := ["state", "top", "block", "cycle", "at", "head", "back", "more", "k"]
theorem sc__law_row : FnScope ["state", "top", "block", "cycle", "at", "head", "back", "more", "k"] ["state"] (defScope st__law_row) := ⟨rfl, rfl, rfl, by decide +kernel, rfl, by decide +kernel, by decide +kernel⟩
theorem ok__law_row (F : Facts K mg) (G0 : Cals P w K mg base (k + 1) c) (G1 : Cals P w K mg base k c1) : BodyOk P w K mg base (k + 1) ["state", "top", "block", "cycle", "at", "head", "back", "more", "k"] "_law_row" (defScope st__law_row) (defBody st__law_row) (b__law_row c c1) := by
  intro f cd A outer s H E hr tk hp
  have hu := hu_of hr
  unfold b__law_row
  exact (gs_cons (gs_set (i := 1) sc__law_row.nd rfl (by first | exact Or.inl rfl | exact Or.inr rfl) (ge_ixL (gl_lst (ga_cons ge_int (ga_cons ge_int (ga_cons (ge_op o_pow ge_int ge_int) ga_nil)))) (ge_call G0.c__law_pick hr rfl tk (ga_cons (ge_var (pv 0)) (ga_cons ge_int ga_nil)))))
 (gs_cons (gs_setLc (i := 2) (own := [("k", 8)]) (by rfl) sc__law_row.nd rfl rfl (sw_true rfl rfl rfl (by decide +kernel)) (gi_range1 rfl F.z_range (ge_op o_add ge_int (ge_call G0.c__law_pick hr rfl tk (ga_cons (ge_var (pv 0)) (ga_cons (ge_ixL (gl_lst (ga_cons ge_int (ga_cons ge_int (ga_cons ge_int ga_nil)))) (ge_call G0.c__law_pick hr rfl tk (ga_cons (ge_var (pv 0)) (ga_cons ge_int ga_nil)))) ga_nil))))) (blkOk_by (N := NN__law_row) (sc := defScope st__law_row) (by decide +kernel)) (fun _ _ _ _ _ => (gg_name (i := 8) sc__law_row.nd rfl (by first | exact Or.inl rfl | exact Or.inr rfl))) (by decide) (fun _ _ _ _ _ => gts_nil) (fun _ _ _ _ _ => (ge_call G0.c__law_pick hr rfl takes_none5 (ga_cons (ge_var (pv 0)) (ga_cons (ge_var (pv 1)) ga_nil)))))
 (gs_cons (gs_set (i := 3) sc__law_row.nd rfl (by first | exact Or.inl rfl | exact Or.inr rfl) (ge_op o_mul (ge_var (pv 2)) (ge_op o_add ge_int (ge_call G0.c__law_pick hr rfl tk (ga_cons (ge_var (pv 0)) (ga_cons (ge_ixL (gl_lst (ga_cons ge_int (ga_cons ge_int (ga_cons ge_int ga_nil)))) (ge_call G0.c__law_pick hr rfl tk (ga_cons (ge_var (pv 0)) (ga_cons ge_int ga_nil)))) ga_nil))))))
 (gs_cons (gs_if (gt_cmp (o_eq hr.units) (ge_call G0.c__law_pick hr rfl tk (ga_cons (ge_var (pv 0)) (ga_cons ge_int ga_nil))) ge_int (by rfl))
 (gs_cons (gs_set (i := 4) sc__law_row.nd rfl (by first | exact Or.inl rfl | exact Or.inr rfl) (ge_call G0.c__law_pick hr rfl tk (ga_cons (ge_var (pv 0)) (ga_cons (ge_callB c_len rfl F.z_len bt_len (ga_cons (ge_var (pv 3)) ga_nil)) ga_nil))))
 (gs_cons (gs_put hu (ge_op o_mod (ge_callTy c_int rfl F.z_int bt_int (ga_cons (ge_op o_add (ge_ix hu (ge_var (pv 3)) (ge_var (pv 4))) ge_int) ga_nil)) (ge_var (pv 1))) (ge_var (pv 3)) (ge_var (pv 4)))
 gs_nil))
 gs_nil)
 (gs_cons (gs_setLc (i := 5) (own := [("k", 8)]) (by rfl) sc__law_row.nd rfl rfl (sw_true rfl rfl rfl (by decide +kernel)) (gi_range1 rfl F.z_range (ge_call G0.c__law_pick hr rfl tk (ga_cons (ge_var (pv 0)) (ga_cons (ge_ixL (gl_lst (ga_cons ge_int (ga_cons ge_int (ga_cons ge_int ga_nil)))) (ge_call G0.c__law_pick hr rfl tk (ga_cons (ge_var (pv 0)) (ga_cons ge_int ga_nil)))) ga_nil)))) (blkOk_by (N := NN__law_row) (sc := defScope st__law_row) (by decide +kernel)) (fun _ _ _ _ _ => (gg_name (i := 8) sc__law_row.nd rfl (by first | exact Or.inl rfl | exact Or.inr rfl))) (by decide) (fun _ _ _ _ _ => gts_nil) (fun _ _ _ _ _ => (ge_call G0.c__law_pick hr rfl takes_none5 (ga_cons (ge_var (pv 0)) (ga_cons (ge_var (pv 1)) ga_nil)))))
 (gs_cons (gs_set (i := 6) sc__law_row.nd rfl (by first | exact Or.inl rfl | exact Or.inr rfl) (ge_call G0.c__law_pick hr rfl tk (ga_cons (ge_var (pv 0)) (ga_cons (ge_ixL (gl_lst (ga_cons ge_int (ga_cons ge_int (ga_cons ge_int ga_nil)))) (ge_call G0.c__law_pick hr rfl tk (ga_cons (ge_var (pv 0)) (ga_cons ge_int ga_nil)))) ga_nil))))
 (gs_cons (gs_set (i := 7) sc__law_row.nd rfl (by first | exact Or.inl rfl | exact Or.inr rfl) (ge_op o_mul (ge_var (pv 3)) (ge_op o_add (ge_op o_div (ge_var (pv 6)) (ge_callB c_len rfl F.z_len bt_len (ga_cons (ge_var (pv 3)) ga_nil))) ge_int)))
 (gs_cons (gs_set (i := 5) sc__law_row.nd rfl (by first | exact Or.inl rfl | exact Or.inr rfl) (ge_op o_add (ge_var (pv 5)) (ge_cut (ge_var (pv 7)) (go_some (ge_op o_sub (ge_callB c_len rfl F.z_len bt_len (ga_cons (ge_var (pv 7)) ga_nil)) (ge_var (pv 6)))) go_none)))
 (gs_cons (gs_if (gt_w (gw_and (gt_cmp o_gt (ge_callB c_len rfl F.z_len bt_len (ga_cons (ge_var (pv 5)) ga_nil)) ge_int (by rfl)) (gw_and1 (gt_cmp (o_eq hr.units) (ge_call G0.c__law_pick hr rfl tk (ga_cons (ge_var (pv 0)) (ga_cons ge_int ga_nil))) ge_int (by rfl)))))
 (gs_cons (gs_set (i := 4) sc__law_row.nd rfl (by first | exact Or.inl rfl | exact Or.inr rfl) (ge_call G0.c__law_pick hr rfl tk (ga_cons (ge_var (pv 0)) (ga_cons (ge_callB c_len rfl F.z_len bt_len (ga_cons (ge_var (pv 5)) ga_nil)) ga_nil))))
 (gs_cons (gs_put hu (ge_op o_mod (ge_callTy c_int rfl F.z_int bt_int (ga_cons (ge_op o_add (ge_ix hu (ge_var (pv 5)) (ge_var (pv 4))) ge_int) ga_nil)) (ge_var (pv 1))) (ge_var (pv 5)) (ge_var (pv 4)))
 gs_nil))
 gs_nil)
 (gs_cons (gs_ret (ge_ofL (gl_lst (ga_cons (ge_callTy c_tuple rfl F.z_tuple bt_tuple (ga_cons (ge_var (pv 5)) ga_nil)) (ga_cons (ge_callTy c_tuple rfl F.z_tuple bt_tuple (ga_cons (ge_var (pv 3)) ga_nil)) (ga_cons (ge_var (pv 1)) ga_nil))))))
 gs_nil))))))))))
abbrev NN__law_other : List Str := ["state", "head", "cycle", "turn", "again"]
theorem sc__law_other : FnScope ["state", "head", "cycle", "turn", "again"] ["state", "head", "cycle"] (defScope st__law_other) := ⟨rfl, rfl, rfl, by decide +kernel, rfl, by decide +kernel, by decide +kernel⟩
theorem ok__law_other (F : Facts K mg) (G0 : Cals P w K mg base (k + 1) c) (G1 : Cals P w K mg base k c1) : BodyOk P w K mg base (k + 1) ["state", "head", "cycle", "turn", "again"] "_law_other" (defScope st__law_other) (defBody st__law_other) (b__law_other c c1) := by
  intro f cd A outer s H E hr tk hp
  have hu := hu_of hr
  unfold b__law_other
  exact (gs_cons (gs_set (i := 3) sc__law_other.nd rfl (by first | exact Or.inl rfl | exact Or.inr rfl) (ge_call G0.c__law_pick hr rfl tk (ga_cons (ge_var (pv 0)) (ga_cons (ge_callB (c_min2 (by rfl)) rfl F.z_min bt_min (ga_cons (ge_callB c_len rfl F.z_len bt_len (ga_cons (ge_var (pv 2)) ga_nil)) (ga_cons (ge_op o_sub ge_int (ge_callB c_len rfl F.z_len bt_len (ga_cons (ge_var (pv 1)) ga_nil))) ga_nil))) ga_nil))))
 (gs_cons (gs_set (i := 4) sc__law_other.nd rfl (by first | exact Or.inl rfl | exact Or.inr rfl) (ge_op o_mul (ge_op o_add (ge_cut (ge_var (pv 2)) (go_some (ge_var (pv 3))) go_none) (ge_cut (ge_var (pv 2)) go_none (go_some (ge_var (pv 3))))) (ge_op o_add ge_int (ge_call G0.c__law_pick hr rfl tk (ga_cons (ge_var (pv 0)) (ga_cons (ge_callB (c_min2 (by rfl)) rfl F.z_min bt_min (ga_cons ge_int (ga_cons (ge_op o_div ge_int (ge_callB c_len rfl F.z_len bt_len (ga_cons (ge_var (pv 2)) ga_nil))) ga_nil))) ga_nil))))))
 (gs_cons (gs_ret (ge_ofL (gl_lst (ga_cons (ge_op o_add (ge_var (pv 1)) (ge_cut (ge_var (pv 2)) go_none (go_some (ge_var (pv 3))))) (ga_cons (ge_var (pv 4)) ga_nil)))))
 gs_nil)))
abbrev NN__law_bent : List Str := ["state", "head", "cycle", "top", "at", "entries"]
theorem sc__law_bent : FnScope ["state", "head", "cycle", "top", "at", "entries"] ["state", "head", "cycle", "top"] (defScope st__law_bent) := ⟨rfl, rfl, rfl, by decide +kernel, rfl, by decide +kernel, by decide +kernel⟩
theorem ok__law_bent (F : Facts K mg) (G0 : Cals P w K mg base (k + 1) c) (G1 : Cals P w K mg base k c1) : BodyOk P w K mg base (k + 1) ["state", "head", "cycle", "top", "at", "entries"] "_law_bent" (defScope st__law_bent) (defBody st__law_bent) (b__law_bent c c1) := by
  intro f cd A outer s H E hr tk hp
  have hu := hu_of hr
  unfold b__law_bent
  exact (gs_cons (gs_set (i := 4) sc__law_bent.nd rfl (by first | exact Or.inl rfl | exact Or.inr rfl) (ge_call G0.c__law_pick hr rfl tk (ga_cons (ge_var (pv 0)) (ga_cons (ge_op o_add (ge_callB c_len rfl F.z_len bt_len (ga_cons (ge_var (pv 1)) ga_nil)) (ge_callB c_len rfl F.z_len bt_len (ga_cons (ge_var (pv 2)) ga_nil))) ga_nil))))
 (gs_cons (gs_set (i := 5) sc__law_bent.nd rfl (by first | exact Or.inl rfl | exact Or.inr rfl) (ge_ofL (gl_listOf rfl F.z_list (ge_op o_add (ge_var (pv 1)) (ge_var (pv 2))))))
 (gs_cons (gs_put hu (ge_op o_mod (ge_callTy c_int rfl F.z_int bt_int (ga_cons (ge_op o_add (ge_ix hu (ge_var (pv 5)) (ge_var (pv 4))) ge_int) ga_nil)) (ge_var (pv 3))) (ge_var (pv 5)) (ge_var (pv 4)))
 (gs_cons (gs_ret (ge_ofL (gl_lst (ga_cons (ge_callTy c_tuple rfl F.z_tuple bt_tuple (ga_cons (ge_cut (ge_var (pv 5)) go_none (go_some (ge_callB c_len rfl F.z_len bt_len (ga_cons (ge_var (pv 1)) ga_nil)))) ga_nil)) (ga_cons (ge_callTy c_tuple rfl F.z_tuple bt_tuple (ga_cons (ge_cut (ge_var (pv 5)) (go_some (ge_callB c_len rfl F.z_len bt_len (ga_cons (ge_var (pv 1)) ga_nil))) go_none) ga_nil)) (ga_cons (ge_var (pv 4)) ga_nil))))))
 gs_nil))))
abbrev NN__law_asked : List Str := ["way", "row", "number", "head", "cycle", "e", "other"]
theorem sc__law_asked : FnScope ["way", "row", "number", "head", "cycle", "e", "other"] ["way", "row", "number", "head", "cycle"] (defScope st__law_asked) := ⟨rfl, rfl, rfl, by decide +kernel, rfl, by decide +kernel, by decide +kernel⟩
theorem ok__law_asked (F : Facts K mg) (G0 : Cals P w K mg base (k + 1) c) (G1 : Cals P w K mg base k c1) : BodyOk P w K mg base (k + 1) ["way", "row", "number", "head", "cycle", "e", "other"] "_law_asked" (defScope st__law_asked) (defBody st__law_asked) (b__law_asked c c1) := by
  intro f cd A outer s H E hr tk hp
  have hu := hu_of hr
  unfold b__law_asked
  exact (gs_cons (gs_tryAs' (i := 5) rfl rfl sc__law_asked.nd rfl rfl F.ht_ProofsError rfl tk (fun W1 pn xe tk1 hp1 => (gs_cons (gs_if (gt_cmp (o_eq hr.units) (ge_var (pv 0)) ge_int (by rfl))
 (gs_cons (gs_ret (ge_tup (ga_cons ge_str (ga_cons (ge_ixO (G1.c_Rowdd_getitemdd) hu hr tk1 (ge_var (pv 1)) (ge_var (pv 2))) ga_nil))))
 gs_nil)
 gs_nil)
 (gs_cons (gs_if (gt_cmp (o_eq hr.units) (ge_var (pv 0)) ge_int (by rfl))
 (gs_cons (gs_ret (ge_tup (ga_cons ge_str (ga_cons (ge_methO (ge_var (pv 1)) G0.c_Row_start hr tk1 (ga_cons (ge_var (pv 2)) ga_nil)) ga_nil))))
 gs_nil)
 gs_nil)
 (gs_cons (gs_if (gt_cmp (o_eq hr.units) (ge_var (pv 0)) ge_int (by rfl))
 (gs_cons (gs_ret (ge_tup (ga_cons ge_str (ga_cons (ge_fld (ge_methO (ge_var (pv 1)) G0.c_Row_after hr tk1 (ga_cons (ge_var (pv 2)) ga_nil)) F.fl_head) ga_nil))))
 gs_nil)
 gs_nil)
 (gs_cons (gs_ret (ge_tup (ga_cons ge_str (ga_cons (ge_fld (ge_make G1.c_Rowdd_initdd hr rfl tk1 (ga_cons (ge_var (pv 3)) (ga_cons (ge_var (pv 4)) ga_nil))) F.fl_head) ga_nil))))
 gs_nil)))))
 (fun x Cx ax ox dx pn hC hz hv hd => (gs_cons (gs_set (i := 6) sc__law_asked.nd rfl (by first | exact Or.inl rfl | exact Or.inr rfl) (ge_or (ge_isE' hC hz hv hd (pv 5) F.is_SizeMismatch rfl rfl F.z_isinstance) (ge_or (ge_isE' hC hz hv hd (pv 5) F.is_TooLarge rfl rfl F.z_isinstance) (ge_one (ge_isE' hC hz hv hd (pv 5) F.is_InvalidTerm rfl rfl F.z_isinstance)))))
 (gs_cons (gs_ret (ge_tup (ga_cons ge_str (ga_cons (ge_and (ge_isE' hC hz hv hd (pv 5) F.is_OutOfRange rfl rfl F.z_isinstance) (ge_one (ge_isE' hC hz hv hd (pv 5) F.is_ValueError rfl rfl F.z_isinstance))) (ga_cons (ge_var (pv 6)) ga_nil)))))
 gs_nil))))
 gs_nil)
abbrev NN__law_refusals : List Str := ["state", "row", "head", "cycle", "refused", "below", "way", "spot", "entries", "first", "rest", "pair"]
theorem sc__law_refusals : FnScope ["state", "row", "head", "cycle", "refused", "below", "way", "spot", "entries", "first", "rest", "pair"] ["state", "row", "head", "cycle"] (defScope st__law_refusals) := ⟨rfl, rfl, rfl, by decide +kernel, rfl, by decide +kernel, by decide +kernel⟩
theorem ok__law_refusals (F : Facts K mg) (G0 : Cals P w K mg base (k + 1) c) (G1 : Cals P w K mg base k c1) : BodyOk P w K mg base (k + 1) ["state", "row", "head", "cycle", "refused", "below", "way", "spot", "entries", "first", "rest", "pair"] "_law_refusals" (defScope st__law_refusals) (defBody st__law_refusals) (b__law_refusals c c1) := by
  intro f cd A outer s H E hr tk hp
  have hu := hu_of hr
  unfold b__law_refusals
  exact (gs_cons (gs_set (i := 4) sc__law_refusals.nd rfl (by first | exact Or.inl rfl | exact Or.inr rfl) (ge_tup (ga_cons ge_str (ga_cons ge_bl (ga_cons ge_bl ga_nil)))))
 (gs_cons (gs_set (i := 5) sc__law_refusals.nd rfl (by first | exact Or.inl rfl | exact Or.inr rfl) (ge_op o_sub (ge_un u_neg ge_int) (ge_call G0.c__law_pick hr rfl tk (ga_cons (ge_var (pv 0)) (ga_cons (ge_ixL (gl_lst (ga_cons ge_int (ga_cons (ge_op o_pow ge_int ge_int) ga_nil))) (ge_call G0.c__law_pick hr rfl tk (ga_cons (ge_var (pv 0)) (ga_cons ge_int ga_nil)))) ga_nil)))))
 (gs_cons (gs_for hp (by rfl) (gi_range1 rfl F.z_range ge_int) (gg_name (i := 6) sc__law_refusals.nd rfl (by first | exact Or.inl rfl | exact Or.inr rfl))
 (gs_cons (gs_if (gt_not (gt_of (ge_call G0.c__law_same hr rfl tk (ga_cons (ge_call G0.c__law_asked hr rfl tk (ga_cons (ge_var (pv 6)) (ga_cons (ge_var (pv 1)) (ga_cons (ge_var (pv 5)) (ga_cons (ge_var (pv 2)) (ga_cons (ge_var (pv 3)) ga_nil)))))) (ga_cons (ge_var (pv 4)) ga_nil)))))
 (gs_cons (gs_ret ge_bl)
 gs_nil)
 gs_nil)
 gs_nil))
 (gs_cons (gs_set (i := 7) sc__law_refusals.nd rfl (by first | exact Or.inl rfl | exact Or.inr rfl) (ge_call G0.c__law_pick hr rfl tk (ga_cons (ge_var (pv 0)) (ga_cons (ge_op o_add (ge_callB c_len rfl F.z_len bt_len (ga_cons (ge_var (pv 2)) ga_nil)) (ge_callB c_len rfl F.z_len bt_len (ga_cons (ge_var (pv 3)) ga_nil))) ga_nil))))
 (gs_cons (gs_set (i := 8) sc__law_refusals.nd rfl (by first | exact Or.inl rfl | exact Or.inr rfl) (ge_ofL (gl_listOf rfl F.z_list (ge_op o_add (ge_var (pv 2)) (ge_var (pv 3))))))
 (gs_cons (gs_put hu (ge_var (pv 5)) (ge_var (pv 8)) (ge_var (pv 7)))
 (gs_cons (gs_set (i := 9) sc__law_refusals.nd rfl (by first | exact Or.inl rfl | exact Or.inr rfl) (ge_callTy c_tuple rfl F.z_tuple bt_tuple (ga_cons (ge_cut (ge_var (pv 8)) go_none (go_some (ge_callB c_len rfl F.z_len bt_len (ga_cons (ge_var (pv 2)) ga_nil)))) ga_nil)))
 (gs_cons (gs_set (i := 10) sc__law_refusals.nd rfl (by first | exact Or.inl rfl | exact Or.inr rfl) (ge_callTy c_tuple rfl F.z_tuple bt_tuple (ga_cons (ge_cut (ge_var (pv 8)) (go_some (ge_callB c_len rfl F.z_len bt_len (ga_cons (ge_var (pv 2)) ga_nil))) go_none) ga_nil)))
 (gs_cons (gs_for hp (by rfl) (gi_tmp (gl_lst (ga_cons (ge_tup (ga_cons (ge_var (pv 9)) (ga_cons (ge_var (pv 10)) ga_nil))) (ga_cons (ge_tup (ga_cons (ge_var (pv 2)) (ga_cons (ge_tup ga_nil) ga_nil))) (ga_cons (ge_tup (ga_cons (ge_var (pv 9)) (ga_cons (ge_tup ga_nil) ga_nil))) (ga_cons (ge_tup (ga_cons (ge_tup ga_nil) (ga_cons (ge_tup ga_nil) ga_nil))) (ga_cons (ge_tup (ga_cons (ge_tup (ga_cons (ge_var (pv 5)) ga_nil)) (ga_cons (ge_var (pv 3)) ga_nil))) (ga_cons (ge_tup (ga_cons (ge_var (pv 2)) (ga_cons (ge_tup (ga_cons (ge_var (pv 5)) ga_nil)) ga_nil))) ga_nil)))))))) (gg_name (i := 11) sc__law_refusals.nd rfl (by first | exact Or.inl rfl | exact Or.inr rfl))
 (gs_cons (gs_if (gt_not (gt_of (ge_call G0.c__law_same hr rfl tk (ga_cons (ge_call G0.c__law_asked hr rfl tk (ga_cons ge_int (ga_cons (ge_var (pv 1)) (ga_cons ge_int (ga_cons (ge_ix hu (ge_var (pv 11)) ge_int) (ga_cons (ge_ix hu (ge_var (pv 11)) ge_int) ga_nil)))))) (ga_cons (ge_var (pv 4)) ga_nil)))))
 (gs_cons (gs_ret ge_bl)
 gs_nil)
 gs_nil)
 gs_nil))
 (gs_cons (gs_put hu ge_int (ge_var (pv 8)) (ge_var (pv 7)))
 (gs_cons (gs_set (i := 9) sc__law_refusals.nd rfl (by first | exact Or.inl rfl | exact Or.inr rfl) (ge_callTy c_tuple rfl F.z_tuple bt_tuple (ga_cons (ge_cut (ge_var (pv 8)) go_none (go_some (ge_callB c_len rfl F.z_len bt_len (ga_cons (ge_var (pv 2)) ga_nil)))) ga_nil)))
 (gs_cons (gs_set (i := 10) sc__law_refusals.nd rfl (by first | exact Or.inl rfl | exact Or.inr rfl) (ge_callTy c_tuple rfl F.z_tuple bt_tuple (ga_cons (ge_cut (ge_var (pv 8)) (go_some (ge_callB c_len rfl F.z_len bt_len (ga_cons (ge_var (pv 2)) ga_nil))) go_none) ga_nil)))
 (gs_cons (gs_if (gt_not (gt_of (ge_call G0.c__law_is_row hr rfl tk (ga_cons (ge_methO0 (ge_make G1.c_Rowdd_initdd hr rfl tk (ga_cons (ge_var (pv 9)) (ga_cons (ge_var (pv 10)) ga_nil))) G0.c_Row_least hr tk) (ga_cons (ge_call G0.c__law_least hr rfl tk (ga_cons (ge_var (pv 9)) (ga_cons (ge_var (pv 10)) ga_nil))) ga_nil)))))
 (gs_cons (gs_ret ge_bl)
 gs_nil)
 gs_nil)
 (gs_cons (gs_if (gt_not (gt_of (ge_call G0.c__law_same hr rfl tk (ga_cons (ge_call G0.c__law_asked hr rfl tk (ga_cons ge_int (ga_cons (ge_var (pv 1)) (ga_cons ge_int (ga_cons (ge_var (pv 2)) (ga_cons (ge_var (pv 3)) ga_nil)))))) (ga_cons (ge_tup (ga_cons ge_str (ga_cons (ge_call G0.c__law_at hr rfl tk (ga_cons (ge_var (pv 2)) (ga_cons (ge_var (pv 3)) (ga_cons ge_int ga_nil)))) ga_nil))) ga_nil)))))
 (gs_cons (gs_ret ge_bl)
 gs_nil)
 gs_nil)
 (gs_cons (gs_if (gt_not (gt_of (ge_call G0.c__law_same hr rfl tk (ga_cons (ge_call G0.c__law_asked hr rfl tk (ga_cons ge_int (ga_cons (ge_var (pv 1)) (ga_cons ge_int (ga_cons (ge_var (pv 2)) (ga_cons (ge_var (pv 3)) ga_nil)))))) (ga_cons (ge_tup (ga_cons ge_str (ga_cons (ge_tup ga_nil) ga_nil))) ga_nil)))))
 (gs_cons (gs_ret ge_bl)
 gs_nil)
 gs_nil)
 (gs_cons (gs_ret (ge_call G0.c__law_same hr rfl tk (ga_cons (ge_call G0.c__law_asked hr rfl tk (ga_cons ge_int (ga_cons (ge_var (pv 1)) (ga_cons ge_int (ga_cons (ge_var (pv 2)) (ga_cons (ge_var (pv 3)) ga_nil)))))) (ga_cons (ge_tup (ga_cons ge_str (ga_cons (ge_ix hu (ge_call G0.c__law_least hr rfl tk (ga_cons (ge_var (pv 2)) (ga_cons (ge_var (pv 3)) ga_nil))) ge_int) ga_nil))) ga_nil))))
 gs_nil))))))))))))))))
abbrev NN__law_entries : List Str := ["state", "row", "head", "cycle", "turn", "place", "counts", "count", "after", "length", "p"]
theorem sc__law_entries : FnScope ["state", "row", "head", "cycle", "turn", "place", "counts", "count", "after", "length", "p"] ["state", "row", "head", "cycle"] (defScope st__law_entries) := ⟨rfl, rfl, rfl, by decide +kernel, rfl, by decide +kernel, by decide +kernel⟩
theorem ok__law_entries (F : Facts K mg) (G0 : Cals P w K mg base (k + 1) c) (G1 : Cals P w K mg base k c1) : BodyOk P w K mg base (k + 1) ["state", "row", "head", "cycle", "turn", "place", "counts", "count", "after", "length", "p"] "_law_entries" (defScope st__law_entries) (defBody st__law_entries) (b__law_entries c c1) := by
  intro f cd A outer s H E hr tk hp
  have hu := hu_of hr
  unfold b__law_entries
  exact (gs_cons (gs_for hp (by rfl) (gi_range1 rfl F.z_range ge_int) (gg_name (i := 4) sc__law_entries.nd rfl (by first | exact Or.inl rfl | exact Or.inr rfl))
 (gs_cons (gs_set (i := 5) sc__law_entries.nd rfl (by first | exact Or.inl rfl | exact Or.inr rfl) (ge_call G0.c__law_pick hr rfl tk (ga_cons (ge_var (pv 0)) (ga_cons (ge_ixL (gl_lst (ga_cons ge_int (ga_cons ge_int (ga_cons (ge_op o_pow ge_int ge_int) ga_nil)))) (ge_call G0.c__law_pick hr rfl tk (ga_cons (ge_var (pv 0)) (ga_cons ge_int ga_nil)))) ga_nil))))
 (gs_cons (gs_if (gt_not (gt_of (ge_call G0.c__law_same hr rfl tk (ga_cons (ge_ixO (G1.c_Rowdd_getitemdd) hu hr tk (ge_var (pv 1)) (ge_var (pv 5))) (ga_cons (ge_call G0.c__law_at hr rfl tk (ga_cons (ge_var (pv 2)) (ga_cons (ge_var (pv 3)) (ga_cons (ge_var (pv 5)) ga_nil)))) ga_nil)))))
 (gs_cons (gs_ret ge_bl)
 gs_nil)
 gs_nil)
 (gs_cons (gs_set (i := 6) sc__law_entries.nd rfl (by first | exact Or.inl rfl | exact Or.inr rfl) (ge_ofL (gl_lst (ga_cons (ge_call G0.c__law_pick hr rfl tk (ga_cons (ge_var (pv 0)) (ga_cons ge_int ga_nil))) (ga_cons (ge_op o_add (ge_callB c_len rfl F.z_len bt_len (ga_cons (ge_var (pv 2)) ga_nil)) (ge_call G0.c__law_pick hr rfl tk (ga_cons (ge_var (pv 0)) (ga_cons ge_int ga_nil)))) (ga_cons (ge_call G0.c__law_pick hr rfl tk (ga_cons (ge_var (pv 0)) (ga_cons ge_int ga_nil))) (ga_cons (ge_call G0.c__law_pick hr rfl tk (ga_cons (ge_var (pv 0)) (ga_cons (ge_op o_pow ge_int ge_int) ga_nil))) ga_nil)))))))
 (gs_cons (gs_set (i := 7) sc__law_entries.nd rfl (by first | exact Or.inl rfl | exact Or.inr rfl) (ge_ix hu (ge_var (pv 6)) (ge_call G0.c__law_pick hr rfl tk (ga_cons (ge_var (pv 0)) (ga_cons ge_int ga_nil)))))
 (gs_cons (gs_set (i := 8) sc__law_entries.nd rfl (by first | exact Or.inl rfl | exact Or.inr rfl) (ge_methO (ge_var (pv 1)) G0.c_Row_after hr tk (ga_cons (ge_var (pv 7)) ga_nil)))
 (gs_cons (gs_if (gt_not (gt_of (ge_call G0.c__law_is_row hr rfl tk (ga_cons (ge_var (pv 8)) (ga_cons (ge_call G0.c__law_behind hr rfl tk (ga_cons (ge_var (pv 2)) (ga_cons (ge_var (pv 3)) (ga_cons (ge_var (pv 7)) ga_nil)))) ga_nil)))))
 (gs_cons (gs_ret ge_bl)
 gs_nil)
 gs_nil)
 (gs_cons (gs_if (gt_not (gt_of (ge_call G0.c__law_same hr rfl tk (ga_cons (ge_ixO (G1.c_Rowdd_getitemdd) hu hr tk (ge_var (pv 8)) (ge_var (pv 4))) (ga_cons (ge_call G0.c__law_at hr rfl tk (ga_cons (ge_var (pv 2)) (ga_cons (ge_var (pv 3)) (ga_cons (ge_op o_add (ge_var (pv 7)) (ge_var (pv 4))) ga_nil)))) ga_nil)))))
 (gs_cons (gs_ret ge_bl)
 gs_nil)
 gs_nil)
 gs_nil))))))))
 (gs_cons (gs_set (i := 9) sc__law_entries.nd rfl (by first | exact Or.inl rfl | exact Or.inr rfl) (ge_ixL (gl_lst (ga_cons (ge_call G0.c__law_pick hr rfl tk (ga_cons (ge_var (pv 0)) (ga_cons ge_int ga_nil))) (ga_cons (ge_op o_add (ge_callB c_len rfl F.z_len bt_len (ga_cons (ge_var (pv 2)) ga_nil)) (ge_call G0.c__law_pick hr rfl tk (ga_cons (ge_var (pv 0)) (ga_cons ge_int ga_nil)))) (ga_cons (ge_call G0.c__law_pick hr rfl tk (ga_cons (ge_var (pv 0)) (ga_cons ge_int ga_nil))) ga_nil)))) (ge_call G0.c__law_pick hr rfl tk (ga_cons (ge_var (pv 0)) (ga_cons ge_int ga_nil)))))
 (gs_cons (gs_ret (ge_call G0.c__law_same hr rfl tk (ga_cons (ge_methO (ge_var (pv 1)) G0.c_Row_start hr tk (ga_cons (ge_var (pv 9)) ga_nil)) (ga_cons (ge_callTyT c_tupleT rfl F.z_tuple bt_tuple (gl_lc (own := [("p", 10)]) (by rfl) sc__law_entries.nd (gi_range1 rfl F.z_range (ge_var (pv 9))) (blkOk_by (N := NN__law_entries) (sc := defScope st__law_entries) (by decide +kernel)) (fun _ _ _ _ _ => (gg_name (i := 10) sc__law_entries.nd rfl (by first | exact Or.inl rfl | exact Or.inr rfl))) (by decide) (fun _ _ _ _ _ => gts_nil) (fun _ _ _ _ _ => (ge_call G0.c__law_at hr rfl takes_none5 (ga_cons (ge_var (pv 2)) (ga_cons (ge_var (pv 3)) (ga_cons (ge_var (pv 10)) ga_nil))))))) ga_nil))))
 gs_nil)))
abbrev NN_law : List Str := ["script", "state", "head", "cycle", "top", "more", "again", "first", "rest", "at", "row", "other", "bent", "due", "plain"]
theorem sc_law : FnScope ["script", "state", "head", "cycle", "top", "more", "again", "first", "rest", "at", "row", "other", "bent", "due", "plain"] ["script"] (defScope st_law) := ⟨rfl, rfl, rfl, by decide +kernel, rfl, by decide +kernel, by decide +kernel⟩
theorem ok_law (F : Facts K mg) (G0 : Cals P w K mg base (k + 1) c) (G1 : Cals P w K mg base k c1) : BodyOk P w K mg base (k + 1) ["script", "state", "head", "cycle", "top", "more", "again", "first", "rest", "at", "row", "other", "bent", "due", "plain"] "law" (defScope st_law) (defBody st_law) (b_law c c1) := by
  intro f cd A outer s H E hr tk hp
  have hu := hu_of hr
  unfold b_law
  exact (gs_cons (gs_set (i := 1) sc_law.nd rfl (by first | exact Or.inl rfl | exact Or.inr rfl) (ge_call G0.c__law_start hr rfl tk (ga_cons (ge_var (pv 0)) ga_nil)))
 (gs_cons (gs_asg (ge_call G0.c__law_row hr rfl tk (ga_cons (ge_var (pv 1)) ga_nil)) (gg_tup (by rfl) (ggs_cons (gg_name (i := 2) sc_law.nd rfl (by first | exact Or.inl rfl | exact Or.inr rfl)) (ggs_cons (gg_name (i := 3) sc_law.nd rfl (by first | exact Or.inl rfl | exact Or.inr rfl)) (ggs_cons (gg_name (i := 4) sc_law.nd rfl (by first | exact Or.inl rfl | exact Or.inr rfl)) ggs_nil)))))
 (gs_cons (gs_asg (ge_call G0.c__law_other hr rfl tk (ga_cons (ge_var (pv 1)) (ga_cons (ge_var (pv 2)) (ga_cons (ge_var (pv 3)) ga_nil)))) (gg_tup (by rfl) (ggs_cons (gg_name (i := 5) sc_law.nd rfl (by first | exact Or.inl rfl | exact Or.inr rfl)) (ggs_cons (gg_name (i := 6) sc_law.nd rfl (by first | exact Or.inl rfl | exact Or.inr rfl)) ggs_nil))))
 (gs_cons (gs_asg (ge_call G0.c__law_bent hr rfl tk (ga_cons (ge_var (pv 1)) (ga_cons (ge_var (pv 5)) (ga_cons (ge_var (pv 6)) (ga_cons (ge_var (pv 4)) ga_nil))))) (gg_tup (by rfl) (ggs_cons (gg_name (i := 7) sc_law.nd rfl (by first | exact Or.inl rfl | exact Or.inr rfl)) (ggs_cons (gg_name (i := 8) sc_law.nd rfl (by first | exact Or.inl rfl | exact Or.inr rfl)) (ggs_cons (gg_name (i := 9) sc_law.nd rfl (by first | exact Or.inl rfl | exact Or.inr rfl)) ggs_nil)))))
 (gs_cons (gs_set (i := 10) sc_law.nd rfl (by first | exact Or.inl rfl | exact Or.inr rfl) (ge_make G1.c_Rowdd_initdd hr rfl tk (ga_cons (ge_var (pv 2)) (ga_cons (ge_var (pv 3)) ga_nil))))
 (gs_cons (gs_set (i := 11) sc_law.nd rfl (by first | exact Or.inl rfl | exact Or.inr rfl) (ge_make G1.c_Rowdd_initdd hr rfl tk (ga_cons (ge_var (pv 5)) (ga_cons (ge_var (pv 6)) ga_nil))))
 (gs_cons (gs_set (i := 12) sc_law.nd rfl (by first | exact Or.inl rfl | exact Or.inr rfl) (ge_make G1.c_Rowdd_initdd hr rfl tk (ga_cons (ge_var (pv 7)) (ga_cons (ge_var (pv 8)) ga_nil))))
 (gs_cons (gs_set (i := 13) sc_law.nd rfl (by first | exact Or.inl rfl | exact Or.inr rfl) (ge_call G0.c__law_least hr rfl tk (ga_cons (ge_var (pv 2)) (ga_cons (ge_var (pv 3)) ga_nil))))
 (gs_cons (gs_if (gt_w (gw_or (gt_not (gt_of (ge_call G0.c__law_is_row hr rfl tk (ga_cons (ge_var (pv 10)) (ga_cons (ge_tup (ga_cons (ge_var (pv 2)) (ga_cons (ge_var (pv 3)) ga_nil))) ga_nil))))) (gw_or1 (gt_not (gt_of (ge_call G0.c__law_is_row hr rfl tk (ga_cons (ge_var (pv 11)) (ga_cons (ge_tup (ga_cons (ge_var (pv 5)) (ga_cons (ge_var (pv 6)) ga_nil))) ga_nil))))))))
 (gs_cons (gs_ret ge_bl)
 gs_nil)
 gs_nil)
 (gs_cons (gs_if (gt_w (gw_or (gt_not (gt_of (ge_call G0.c__law_is_row hr rfl tk (ga_cons (ge_methO0 (ge_var (pv 10)) G0.c_Row_least hr tk) (ga_cons (ge_var (pv 13)) ga_nil))))) (gw_or1 (gt_not (gt_of (ge_call G0.c__law_is_row hr rfl tk (ga_cons (ge_methO0 (ge_var (pv 11)) G0.c_Row_least hr tk) (ga_cons (ge_var (pv 13)) ga_nil))))))))
 (gs_cons (gs_ret ge_bl)
 gs_nil)
 gs_nil)
 (gs_cons (gs_if (gt_not (gt_of (ge_call G0.c__law_is_row hr rfl tk (ga_cons (ge_methO0 (ge_var (pv 12)) G0.c_Row_least hr tk) (ga_cons (ge_call G0.c__law_least hr rfl tk (ga_cons (ge_var (pv 7)) (ga_cons (ge_var (pv 8)) ga_nil))) ga_nil)))))
 (gs_cons (gs_ret ge_bl)
 gs_nil)
 gs_nil)
 (gs_cons (gs_if (gt_w (gw_or (gt_cmp o_isnot (ge_call G0.c_same_rows hr rfl tk (ga_cons (ge_var (pv 10)) (ga_cons (ge_var (pv 11)) ga_nil))) ge_bl (by rfl)) (gw_or1 (gt_cmp o_isnot (ge_call G0.c_same_rows hr rfl tk (ga_cons (ge_var (pv 11)) (ga_cons (ge_var (pv 10)) ga_nil))) ge_bl (by rfl)))))
 (gs_cons (gs_ret ge_bl)
 gs_nil)
 gs_nil)
 (gs_cons (gs_if (gt_w (gw_or (gt_cmp o_isnot (ge_call G0.c_same_rows hr rfl tk (ga_cons (ge_var (pv 10)) (ga_cons (ge_var (pv 12)) ga_nil))) ge_bl (by rfl)) (gw_or1 (gt_cmp o_isnot (ge_call G0.c_same_rows hr rfl tk (ga_cons (ge_var (pv 12)) (ga_cons (ge_var (pv 11)) ga_nil))) ge_bl (by rfl)))))
 (gs_cons (gs_ret ge_bl)
 gs_nil)
 gs_nil)
 (gs_cons (gs_if (gt_w (gw_or (gt_not (gt_of (ge_call G0.c__law_same hr rfl tk (ga_cons (ge_ixO (G1.c_Rowdd_getitemdd) hu hr tk (ge_var (pv 12)) (ge_var (pv 9))) (ga_cons (ge_ix hu (ge_op o_add (ge_var (pv 7)) (ge_var (pv 8))) (ge_var (pv 9))) ga_nil))))) (gw_or1 (gt_not (gt_of (ge_call G0.c__law_same hr rfl tk (ga_cons (ge_ixO (G1.c_Rowdd_getitemdd) hu hr tk (ge_var (pv 11)) (ge_var (pv 9))) (ga_cons (ge_ix hu (ge_op o_add (ge_var (pv 5)) (ge_var (pv 6))) (ge_var (pv 9))) ga_nil))))))))
 (gs_cons (gs_ret ge_bl)
 gs_nil)
 gs_nil)
 (gs_cons (gs_if (gt_w (gw_or (gt_not (gt_of (ge_call G0.c__law_entries hr rfl tk (ga_cons (ge_var (pv 1)) (ga_cons (ge_var (pv 10)) (ga_cons (ge_var (pv 2)) (ga_cons (ge_var (pv 3)) ga_nil))))))) (gw_or1 (gt_not (gt_of (ge_call G0.c__law_entries hr rfl tk (ga_cons (ge_var (pv 1)) (ga_cons (ge_var (pv 11)) (ga_cons (ge_var (pv 5)) (ga_cons (ge_var (pv 6)) ga_nil))))))))))
 (gs_cons (gs_ret ge_bl)
 gs_nil)
 gs_nil)
 (gs_cons (gs_if (gt_not (gt_of (ge_call G0.c__law_refusals hr rfl tk (ga_cons (ge_var (pv 1)) (ga_cons (ge_var (pv 10)) (ga_cons (ge_var (pv 2)) (ga_cons (ge_var (pv 3)) ga_nil)))))))
 (gs_cons (gs_ret ge_bl)
 gs_nil)
 gs_nil)
 (gs_cons (gs_set (i := 14) sc_law.nd rfl (by first | exact Or.inl rfl | exact Or.inr rfl) (ge_make G1.c_Rowdd_initdd_1 hr rfl tk (ga_cons (ge_var (pv 2)) ga_nil)))
 (gs_cons (gs_if (gt_w (gw_or (gt_not (gt_of (ge_call G0.c__law_is_row hr rfl tk (ga_cons (ge_var (pv 14)) (ga_cons (ge_tup (ga_cons (ge_var (pv 2)) (ga_cons (ge_tup (ga_cons ge_int ga_nil)) ga_nil))) ga_nil))))) (gw_or1 (gt_not (gt_of (ge_call G0.c__law_is_row hr rfl tk (ga_cons (ge_methO0 (ge_var (pv 14)) G0.c_Row_least hr tk) (ga_cons (ge_call G0.c__law_least hr rfl tk (ga_cons (ge_var (pv 2)) (ga_cons (ge_tup (ga_cons ge_int ga_nil)) ga_nil))) ga_nil))))))))
 (gs_cons (gs_ret ge_bl)
 gs_nil)
 gs_nil)
 (gs_cons (gs_if (gt_w (gw_or (gt_not (gt_of (ge_call G0.c__law_is_row hr rfl tk (ga_cons (ge_methO0 (ge_var (pv 10)) G0.c_Row_least hr tk) (ga_cons (ge_var (pv 13)) ga_nil))))) (gw_or (gt_cmp o_isnot (ge_call G0.c_same_rows hr rfl tk (ga_cons (ge_var (pv 10)) (ga_cons (ge_var (pv 11)) ga_nil))) ge_bl (by rfl)) (gw_or1 (gt_cmp o_isnot (ge_call G0.c_same_rows hr rfl tk (ga_cons (ge_var (pv 12)) (ga_cons (ge_var (pv 10)) ga_nil))) ge_bl (by rfl))))))
 (gs_cons (gs_ret ge_bl)
 gs_nil)
 gs_nil)
 (gs_cons (gs_ret (ge_and (ge_call G0.c__law_is_row hr rfl tk (ga_cons (ge_var (pv 10)) (ga_cons (ge_tup (ga_cons (ge_var (pv 2)) (ga_cons (ge_var (pv 3)) ga_nil))) ga_nil))) (ge_one (ge_call G0.c__law_is_row hr rfl tk (ga_cons (ge_var (pv 12)) (ga_cons (ge_tup (ga_cons (ge_var (pv 7)) (ga_cons (ge_var (pv 8)) ga_nil))) ga_nil))))))
 gs_nil))))))))))))))))))))
theorem cals_zero (F : Facts K mg) (k : Nat) : Cals P w K mg base k tb0 where
  c_law := cal_zero F.c_law
  c__law_is_row := cal_zero F.c__law_is_row
  c_Row_least := calM_zero F.c_Row_least
  c_same_rows := cal_zero F.c_same_rows
  c__law_least := cal_zero F.c__law_least
  c_Rowdd_initdd_1 := calC_zeroD F.c_Rowdd_initdd_1
  c__law_refusals := cal_zero F.c__law_refusals
  c__law_entries := cal_zero F.c__law_entries
  c__law_same := cal_zero F.c__law_same
  c_Rowdd_getitemdd := calI_zero F.c_Rowdd_getitemdd
  c_Rowdd_initdd := calC_zeroD F.c_Rowdd_initdd
  c__law_bent := cal_zero F.c__law_bent
  c__law_other := cal_zero F.c__law_other
  c__law_row := cal_zero F.c__law_row
  c__law_start := cal_zero F.c__law_start
  c_turned := cal_zero F.c_turned
  c_loose_entries := cal_zero F.c_loose_entries
  c_shortest_cycle := cal_zero F.c_shortest_cycle
  c__law_asked := cal_zero F.c__law_asked
  c__law_at := cal_zero F.c__law_at
  c__law_pick := cal_zero F.c__law_pick
  c_Row_start := calM_zero F.c_Row_start
  c__law_behind := cal_zero F.c__law_behind
  c_Row_after := calM_zero F.c_Row_after
theorem cals_next (F : Facts K mg) (G0 : Cals P w K mg base (k + 1) c) (G1 : Cals P w K mg base k c1) : Cals P w K mg base (k + 2) (nextTb c c1) where
  c_law := cal_def F.c_law sc_law rfl rfl (ok_law F G0 G1)
  c__law_is_row := cal_def F.c__law_is_row sc__law_is_row rfl rfl (ok__law_is_row F G0 G1)
  c_Row_least := calM_def F.c_Row_least sc_Row_least rfl rfl (ok_Row_least F G0 G1)
  c_same_rows := cal_def F.c_same_rows sc_same_rows rfl rfl (ok_same_rows F G0 G1)
  c__law_least := cal_def F.c__law_least sc__law_least rfl rfl (ok__law_least F G0 G1)
  c_Rowdd_initdd_1 := calC_defD F.c_Rowdd_initdd_1 sc_Rowdd_initdd rfl rfl (ok_Rowdd_initdd F G0 G1)
  c__law_refusals := cal_def F.c__law_refusals sc__law_refusals rfl rfl (ok__law_refusals F G0 G1)
  c__law_entries := cal_def F.c__law_entries sc__law_entries rfl rfl (ok__law_entries F G0 G1)
  c__law_same := cal_def F.c__law_same sc__law_same rfl rfl (ok__law_same F G0 G1)
  c_Rowdd_getitemdd := calI_def F.c_Rowdd_getitemdd sc_Rowdd_getitemdd rfl rfl (ok_Rowdd_getitemdd F G0 G1)
  c_Rowdd_initdd := calC_defD F.c_Rowdd_initdd sc_Rowdd_initdd rfl rfl (ok_Rowdd_initdd F G0 G1)
  c__law_bent := cal_def F.c__law_bent sc__law_bent rfl rfl (ok__law_bent F G0 G1)
  c__law_other := cal_def F.c__law_other sc__law_other rfl rfl (ok__law_other F G0 G1)
  c__law_row := cal_def F.c__law_row sc__law_row rfl rfl (ok__law_row F G0 G1)
  c__law_start := cal_def F.c__law_start sc__law_start rfl rfl (ok__law_start F G0 G1)
  c_turned := cal_def F.c_turned sc_turned rfl rfl (ok_turned F G0 G1)
  c_loose_entries := cal_def F.c_loose_entries sc_loose_entries rfl rfl (ok_loose_entries F G0 G1)
  c_shortest_cycle := cal_def F.c_shortest_cycle sc_shortest_cycle rfl rfl (ok_shortest_cycle F G0 G1)
  c__law_asked := cal_def F.c__law_asked sc__law_asked rfl rfl (ok__law_asked F G0 G1)
  c__law_at := cal_def F.c__law_at sc__law_at rfl rfl (ok__law_at F G0 G1)
  c__law_pick := cal_def F.c__law_pick sc__law_pick rfl rfl (ok__law_pick F G0 G1)
  c_Row_start := calM_def F.c_Row_start sc_Row_start rfl rfl (ok_Row_start F G0 G1)
  c__law_behind := cal_def F.c__law_behind sc__law_behind rfl rfl (ok__law_behind F G0 G1)
  c_Row_after := calM_def F.c_Row_after sc_Row_after rfl rfl (ok_Row_after F G0 G1)
theorem cals_all (F : Facts K mg) : ∀ k, Cals P w K mg base k (sem k)
  | 0 => cals_zero F 0
  | 1 => cals_zero F 1
  | k + 2 => cals_next F (cals_all F (k + 1)) (cals_all F k)
end
end K55

set_option maxRecDepth 100000
/-! The plain layer H, part 0: how the shallow code is run. Each step's rest is a word of its own (no binder), so that simp goes from the left to the right. -/
namespace G
open PySem PySem.Spec PyProof.Rows L2

def varR (o : Option (Option D)) (S : Sto) : R D := match o with
  | some (some d) => .ok d S
  | _ => .bad
@[simp] theorem varR_some (d : D) (S : Sto) : varR (some (some d)) S = .ok d S := (rfl)
@[simp] theorem eVar_eq (i : Nat) (env : Slots) (S : Sto) : eVar i env S = varR env[i]? S := (rfl)
@[simp] theorem eC_eq (d : D) (env : Slots) (S : Sto) : eC d env S = .ok d S := (rfl)
@[simp] theorem sNil_eq (env : Slots) (S : Sto) : sNil env S = .nx env S := (rfl)

def SR.sq (r : SR) (g : SX) : SR := match r with
  | .nx env S => g env S
  | r => r
@[simp] theorem sq_nx (g : SX) (env : Slots) (S : Sto) : (SR.nx env S).sq g = g env S := (rfl)
@[simp] theorem sq_rt (g : SX) (d : D) (S : Sto) : (SR.rt d S).sq g = .rt d S := (rfl)
@[simp] theorem sq_bk (g : SX) (env : Slots) (S : Sto) : (SR.bk env S).sq g = .bk env S := (rfl)
@[simp] theorem sq_ct (g : SX) (env : Slots) (S : Sto) : (SR.ct env S).sq g = .ct env S := (rfl)
@[simp] theorem sq_ex (g : SX) (e : Exn) (env : Slots) (S : Sto) : (SR.ex e env S).sq g = .ex e env S := (rfl)
@[simp] theorem sq_bad (g : SX) : SR.bad.sq g = .bad := (rfl)
@[simp] theorem sSeq_eq (f g : SX) (env : Slots) (S : Sto) : sSeq f g env S = (f env S).sq g := (rfl)
def ifR (r : R Bool) (env : Slots) (f g : SX) : SR := r.then env fun b S1 => bif b then f env S1 else g env S1
@[simp] theorem ifR_t (env : Slots) (f g : SX) (S : Sto) : ifR (.ok true S) env f g = f env S := (rfl)
@[simp] theorem ifR_f (env : Slots) (f g : SX) (S : Sto) : ifR (.ok false S) env f g = g env S := (rfl)
@[simp] theorem ifR_x (env : Slots) (f g : SX) (e : Exn) (S : Sto) : ifR (.exc e S) env f g = .ex e env S := (rfl)
@[simp] theorem sIf_eq (c : BX) (f g : SX) (env : Slots) (S : Sto) : sIf c f g env S = ifR (c env S) env f g := (rfl)
def setR (r : R D) (env : Slots) (i : Nat) : SR := r.then env fun d S1 => .nx (env.set i (some d)) S1
@[simp] theorem setR_ok (d : D) (env : Slots) (i : Nat) (S : Sto) : setR (.ok d S) env i = .nx (env.set i (some d)) S := (rfl)
@[simp] theorem setR_x (e : Exn) (env : Slots) (i : Nat) (S : Sto) : setR (.exc e S) env i = .ex e env S := (rfl)
@[simp] theorem sSet_eq (i : Nat) (f : EX) (env : Slots) (S : Sto) : sSet i f env S = setR (f env S) env i := (rfl)
def retR (r : R D) (env : Slots) : SR := r.then env fun d S1 => .rt d S1
@[simp] theorem retR_ok (d : D) (env : Slots) (S : Sto) : retR (.ok d S) env = .rt d S := (rfl)
@[simp] theorem retR_x (e : Exn) (env : Slots) (S : Sto) : retR (.exc e S) env = .ex e env S := (rfl)
@[simp] theorem sRet_eq (f : EX) (env : Slots) (S : Sto) : sRet f env S = retR (f env S) env := (rfl)
def doR (r : R D) (env : Slots) : SR := r.then env fun _ S1 => .nx env S1
@[simp] theorem doR_ok (d : D) (env : Slots) (S : Sto) : doR (.ok d S) env = .nx env S := (rfl)
@[simp] theorem doR_x (e : Exn) (env : Slots) (S : Sto) : doR (.exc e S) env = .ex e env S := (rfl)
@[simp] theorem sDo_eq (f : EX) (env : Slots) (S : Sto) : sDo f env S = doR (f env S) env := (rfl)
@[simp] theorem sRaise_eq (c : Str) (env : Slots) (S : Sto) : sRaise c env S = .ex ⟨c, []⟩ env S := (rfl)
@[simp] theorem sBreak_eq (env : Slots) (S : Sto) : sBreak env S = .bk env S := (rfl)
@[simp] theorem sCont_eq (env : Slots) (S : Sto) : sCont env S = .ct env S := (rfl)
@[simp] theorem sRetN_eq (env : Slots) (S : Sto) : sRetN env S = .rt (.a .non) S := (rfl)

/-! ### expressions -/
def bin2 (r : R D) (g : Op2) (d : D) : R D := r.bind fun e S2 => ofO (g d e S2)
@[simp] theorem bin2_ok (g : Op2) (d e : D) (S : Sto) : bin2 (.ok e S) g d = ofO (g d e S) := (rfl)
@[simp] theorem bin2_x (g : Op2) (d : D) (e : Exn) (S : Sto) : bin2 (.exc e S) g d = .exc e S := (rfl)
def bin1 (r : R D) (g : Op2) (fb : EX) (env : Slots) : R D := r.bind fun d S1 => bin2 (fb env S1) g d
@[simp] theorem bin1_ok (g : Op2) (fb : EX) (env : Slots) (d : D) (S : Sto) : bin1 (.ok d S) g fb env = bin2 (fb env S) g d := (rfl)
@[simp] theorem bin1_x (g : Op2) (fb : EX) (env : Slots) (e : Exn) (S : Sto) : bin1 (.exc e S) g fb env = .exc e S := (rfl)
@[simp] theorem eBin_eq (g : Op2) (fa fb : EX) (env : Slots) (S : Sto) : eBin g fa fb env S = bin1 (fa env S) g fb env := (rfl)
def un1 (r : R D) (g : D → Sto → Option (D × Sto)) : R D := r.bind fun d S1 => ofO (g d S1)
@[simp] theorem un1_ok (g : D → Sto → Option (D × Sto)) (d : D) (S : Sto) : un1 (.ok d S) g = ofO (g d S) := (rfl)
@[simp] theorem eUn_eq (g : D → Sto → Option (D × Sto)) (fa : EX) (env : Slots) (S : Sto) : eUn g fa env S = un1 (fa env S) g := (rfl)
def toB (r : R D) : R Bool := r.bind fun d S => match d with
  | .a (.bl b) => .ok b S
  | _ => .bad
@[simp] theorem toB_ok (b : Bool) (S : Sto) : toB (.ok (.a (.bl b)) S) = .ok b S := (rfl)
@[simp] theorem toB_x (e : Exn) (S : Sto) : toB (.exc e S) = .exc e S := (rfl)
@[simp] theorem tBin_eq (g : Op2) (fa fb : EX) (env : Slots) (S : Sto) : tBin g fa fb env S = toB (bin1 (fa env S) g fb env) := by
  unfold tBin toB bin1 bin2
  cases fa env S with
  | bad => rfl
  | exc e S => rfl
  | ok d S1 =>
    simp only [R.bind_ok]
    cases fb env S1 <;> rfl
def trR (r : R D) : R Bool := r.bind fun d S1 => ofB (dTruth d S1) S1
@[simp] theorem trR_ok (d : D) (S : Sto) : trR (.ok d S) = ofB (dTruth d S) S := (rfl)
@[simp] theorem trR_x (e : Exn) (S : Sto) : trR (.exc e S) = .exc e S := (rfl)
@[simp] theorem tOf_eq (f : EX) (env : Slots) (S : Sto) : tOf f env S = trR (f env S) := (rfl)
@[simp] theorem truth_bl (b : Bool) (S : Sto) : dTruth (.a (.bl b)) S = some b := (rfl)
@[simp] theorem truth_int (i : Int) (S : Sto) : dTruth (.a (.int i)) S = some (i != 0) := (rfl)
@[simp] theorem truth_non (S : Sto) : dTruth (.a .non) S = some false := (rfl)
@[simp] theorem truth_tup (ds : List D) (S : Sto) : dTruth (.tup ds) S = some (!ds.isEmpty) := (rfl)
def andR (r : R Bool) (g : BX) (env : Slots) : R Bool := r.bind fun b S1 => bif b then g env S1 else .ok false S1
@[simp] theorem andR_t (g : BX) (env : Slots) (S : Sto) : andR (.ok true S) g env = g env S := (rfl)
@[simp] theorem andR_f (g : BX) (env : Slots) (S : Sto) : andR (.ok false S) g env = .ok false S := (rfl)
@[simp] theorem tAnd_eq (f g : BX) (env : Slots) (S : Sto) : tAnd f g env S = andR (f env S) g env := (rfl)
def orR (r : R Bool) (g : BX) (env : Slots) : R Bool := r.bind fun b S1 => bif b then .ok true S1 else g env S1
@[simp] theorem orR_t (g : BX) (env : Slots) (S : Sto) : orR (.ok true S) g env = .ok true S := (rfl)
@[simp] theorem orR_f (g : BX) (env : Slots) (S : Sto) : orR (.ok false S) g env = g env S := (rfl)
@[simp] theorem tOr_eq (f g : BX) (env : Slots) (S : Sto) : tOr f g env S = orR (f env S) g env := (rfl)
def notR (r : R Bool) : R Bool := r.bind fun b S1 => .ok (!b) S1
@[simp] theorem notR_ok (b : Bool) (S : Sto) : notR (.ok b S) = .ok (!b) S := (rfl)
@[simp] theorem tNot_eq (f : BX) (env : Slots) (S : Sto) : tNot f env S = notR (f env S) := (rfl)
def eAndR (r : R D) (g : EX) (env : Slots) : R D := r.bind fun d S1 => match d with
  | .a (.bl true) => g env S1
  | .a (.bl false) => .ok (.a (.bl false)) S1
  | _ => .bad
@[simp] theorem eAndR_t (g : EX) (env : Slots) (S : Sto) : eAndR (.ok (.a (.bl true)) S) g env = g env S := (rfl)
@[simp] theorem eAndR_f (g : EX) (env : Slots) (S : Sto) : eAndR (.ok (.a (.bl false)) S) g env = .ok (.a (.bl false)) S := (rfl)
@[simp] theorem eAnd_eq (f g : EX) (env : Slots) (S : Sto) : eAnd f g env S = eAndR (f env S) g env := (rfl)
def eOrR (r : R D) (g : EX) (env : Slots) : R D := r.bind fun d S1 => match d with
  | .a (.bl false) => g env S1
  | .a (.bl true) => .ok (.a (.bl true)) S1
  | _ => .bad
@[simp] theorem eOrR_f (g : EX) (env : Slots) (S : Sto) : eOrR (.ok (.a (.bl false)) S) g env = g env S := (rfl)
@[simp] theorem eOrR_t (g : EX) (env : Slots) (S : Sto) : eOrR (.ok (.a (.bl true)) S) g env = .ok (.a (.bl true)) S := (rfl)
@[simp] theorem eOr_eq (f g : EX) (env : Slots) (S : Sto) : eOr f g env S = eOrR (f env S) g env := (rfl)
def eNotR (r : R D) : R D := r.bind fun d S1 => match d with
  | .a (.bl b) => .ok (.a (.bl (!b))) S1
  | _ => .bad
@[simp] theorem eNotR_ok (b : Bool) (S : Sto) : eNotR (.ok (.a (.bl b)) S) = .ok (.a (.bl (!b))) S := (rfl)
@[simp] theorem eNot_eq (f : EX) (env : Slots) (S : Sto) : eNot f env S = eNotR (f env S) := (rfl)
def ifE (r : R Bool) (f g : EX) (env : Slots) : R D := r.bind fun b S1 => bif b then f env S1 else g env S1
@[simp] theorem ifE_t (f g : EX) (env : Slots) (S : Sto) : ifE (.ok true S) f g env = f env S := (rfl)
@[simp] theorem ifE_f (f g : EX) (env : Slots) (S : Sto) : ifE (.ok false S) f g env = g env S := (rfl)
@[simp] theorem eIf_eq (c : BX) (f g : EX) (env : Slots) (S : Sto) : eIf c f g env S = ifE (c env S) f g env := (rfl)
/-! lists of arguments -/
def cons2 (r : R (List D)) (d : D) : R (List D) := r.bind fun ds S2 => .ok (d :: ds) S2
@[simp] theorem cons2_ok (d : D) (ds : List D) (S : Sto) : cons2 (.ok ds S) d = .ok (d :: ds) S := (rfl)
@[simp] theorem cons2_x (d : D) (e : Exn) (S : Sto) : cons2 (.exc e S) d = .exc e S := (rfl)
def cons1 (r : R D) (g : AX) (env : Slots) : R (List D) := r.bind fun d S1 => cons2 (g env S1) d
@[simp] theorem cons1_ok (g : AX) (env : Slots) (d : D) (S : Sto) : cons1 (.ok d S) g env = cons2 (g env S) d := (rfl)
@[simp] theorem cons1_x (g : AX) (env : Slots) (e : Exn) (S : Sto) : cons1 (.exc e S) g env = .exc e S := (rfl)
@[simp] theorem aNil_eq (env : Slots) (S : Sto) : aNil env S = .ok [] S := (rfl)
@[simp] theorem aCons_eq (f : EX) (g : AX) (env : Slots) (S : Sto) : aCons f g env S = cons1 (f env S) g env := (rfl)
def tupR (r : R (List D)) : R D := r.bind fun ds S1 => .ok (.tup ds) S1
@[simp] theorem tupR_ok (ds : List D) (S : Sto) : tupR (.ok ds S) = .ok (.tup ds) S := (rfl)
@[simp] theorem tupR_x (e : Exn) (S : Sto) : tupR (.exc e S) = .exc e S := (rfl)
@[simp] theorem eTup_eq (f : AX) (env : Slots) (S : Sto) : eTup f env S = tupR (f env S) := (rfl)
def ofLR (r : R (List D)) : R D := r.bind fun ds S1 => .ok (.cel S1.length) (S1 ++ [.lst ds])
@[simp] theorem ofLR_ok (ds : List D) (S : Sto) : ofLR (.ok ds S) = .ok (.cel S.length) (S ++ [.lst ds]) := (rfl)
@[simp] theorem eOfL_eq (f : AX) (env : Slots) (S : Sto) : eOfL f env S = ofLR (f env S) := (rfl)
def ixL2 (r : R D) (ds : List D) : R D := r.bind fun e S2 => match e with
  | .a (.int k) => match atI ds k with
    | some d => .ok d S2
    | none => .bad
  | _ => .bad
def optR (o : Option D) (S : Sto) : R D := match o with
  | some d => .ok d S
  | none => .bad
@[simp] theorem optR_some (d : D) (S : Sto) : optR (some d) S = .ok d S := (rfl)
@[simp] theorem ixL2_ok (ds : List D) (k : Int) (S : Sto) : ixL2 (.ok (.a (.int k)) S) ds = optR (atI ds k) S := (rfl)
def ixL1 (r : R (List D)) (fb : EX) (env : Slots) : R D := r.bind fun ds S1 => ixL2 (fb env S1) ds
@[simp] theorem ixL1_ok (fb : EX) (env : Slots) (ds : List D) (S : Sto) : ixL1 (.ok ds S) fb env = ixL2 (fb env S) ds := (rfl)
@[simp] theorem eIxL_eq (fl : AX) (fb : EX) (env : Slots) (S : Sto) : eIxL fl fb env S = ixL1 (fl env S) fb env := (rfl)
/-! slices -/
@[simp] theorem oNone_eq (env : Slots) (S : Sto) : oNone env S = .ok none S := (rfl)
def someR (r : R D) : R (Option Int) := r.bind fun d S1 => match d with
  | .a (.int i) => .ok (some i) S1
  | _ => .bad
@[simp] theorem someR_ok (i : Int) (S : Sto) : someR (.ok (.a (.int i)) S) = .ok (some i) S := (rfl)
@[simp] theorem oSome_eq (f : EX) (env : Slots) (S : Sto) : oSome f env S = someR (f env S) := (rfl)
def cut3 (r : R (Option Int)) (d : D) (lo : Option Int) : R D := r.bind fun hi S3 => ofO (dCut d lo hi S3)
@[simp] theorem cut3_ok (d : D) (lo hi : Option Int) (S : Sto) : cut3 (.ok hi S) d lo = ofO (dCut d lo hi S) := (rfl)
def cut2 (r : R (Option Int)) (d : D) (fh : OX) (env : Slots) : R D := r.bind fun lo S2 => cut3 (fh env S2) d lo
@[simp] theorem cut2_ok (d : D) (lo : Option Int) (fh : OX) (env : Slots) (S : Sto) : cut2 (.ok lo S) d fh env = cut3 (fh env S) d lo := (rfl)
def cut1 (r : R D) (fl fh : OX) (env : Slots) : R D := r.bind fun d S1 => cut2 (fl env S1) d fh env
@[simp] theorem cut1_ok (d : D) (fl fh : OX) (env : Slots) (S : Sto) : cut1 (.ok d S) fl fh env = cut2 (fl env S) d fh env := (rfl)
@[simp] theorem eCut_eq (fa : EX) (fl fh : OX) (env : Slots) (S : Sto) : eCut fa fl fh env S = cut1 (fa env S) fl fh env := (rfl)
@[simp] theorem dCut_tup (ds : List D) (lo hi : Option Int) (S : Sto) : dCut (.tup ds) lo hi S = some (.tup (cutL ds lo hi), S) := (rfl)
/-! calls -/
def cbR (r : R (List D)) (g : OpC) : R D := r.bind fun ds S1 => ofO (g ds S1)
@[simp] theorem cbR_ok (g : OpC) (ds : List D) (S : Sto) : cbR (.ok ds S) g = ofO (g ds S) := (rfl)
@[simp] theorem cbR_x (g : OpC) (e : Exn) (S : Sto) : cbR (.exc e S) g = .exc e S := (rfl)
@[simp] theorem eCallB_eq (g : OpC) (fa : AX) (env : Slots) (S : Sto) : eCallB g fa env S = cbR (fa env S) g := (rfl)
@[simp] theorem eCallT_eq (g : List D → Sto → Option (D × Sto)) (fa : AX) (env : Slots) (S : Sto) : eCallT g fa env S = cbR (fa env S) g := (rfl)
def callR (r : R (List D)) (F : List D → Sto → R D) (dds : List D) : R D := r.bind fun ds S1 => F (ds ++ dds) S1
@[simp] theorem callR_ok (F : List D → Sto → R D) (dds ds : List D) (S : Sto) : callR (.ok ds S) F dds = F (ds ++ dds) S := (rfl)
@[simp] theorem callR_x (F : List D → Sto → R D) (dds : List D) (e : Exn) (S : Sto) : callR (.exc e S) F dds = .exc e S := (rfl)
@[simp] theorem eCall_eq (F : List D → Sto → R D) (dds : List D) (fa : AX) (env : Slots) (S : Sto) : eCall F dds fa env S = callR (fa env S) F dds := (rfl)
/-- a method of the instance in the cell -/
def methG (c m : Str) (o : Option Cell) : Bool := match o with
  | some (.ins c' fs) => decide (c' = c ∧ fs.lookup m = none)
  | _ => false
def meth3 (r : R (List D)) (F : List D → Sto → R D) (dds : List D) (d : D) : R D := r.bind fun ds S2 => F (d :: (ds ++ dds)) S2
@[simp] theorem meth3_ok (F : List D → Sto → R D) (dds ds : List D) (d : D) (S : Sto) : meth3 (.ok ds S) F dds d = F (d :: (ds ++ dds)) S := (rfl)
def meth2 (b : Bool) (d : D) (F : List D → Sto → R D) (dds : List D) (fa : AX) (env : Slots) (S : Sto) : R D := bif b then meth3 (fa env S) F dds d else .bad
@[simp] theorem meth2_t (d : D) (F : List D → Sto → R D) (dds : List D) (fa : AX) (env : Slots) (S : Sto) : meth2 true d F dds fa env S = meth3 (fa env S) F dds d := (rfl)
def meth1 (r : R D) (c m : Str) (F : List D → Sto → R D) (dds : List D) (fa : AX) (env : Slots) : R D := r.bind fun d S1 => match d with
  | .cel n => meth2 (methG c m S1[n]?) (.cel n) F dds fa env S1
  | _ => .bad
@[simp] theorem meth1_ok (n : Nat) (c m : Str) (F : List D → Sto → R D) (dds : List D) (fa : AX) (env : Slots) (S : Sto) : meth1 (.ok (.cel n) S) c m F dds fa env = meth2 (methG c m S[n]?) (.cel n) F dds fa env S := (rfl)
@[simp] theorem meth1_x (e : Exn) (c m : Str) (F : List D → Sto → R D) (dds : List D) (fa : AX) (env : Slots) (S : Sto) : meth1 (.exc e S) c m F dds fa env = .exc e S := (rfl)
@[simp] theorem eMethO_eq (c m : Str) (F : List D → Sto → R D) (dds : List D) (fo : EX) (fa : AX) (env : Slots) (S : Sto) : eMethO c m F dds fo fa env S = meth1 (fo env S) c m F dds fa env := by
  unfold eMethO meth1
  cases fo env S with
  | bad => rfl
  | exc e S => rfl
  | ok d S1 =>
    simp only [R.bind_ok]
    cases d with
    | cel n =>
      dsimp only
      cases h : S1[n]? with
      | none => rfl
      | some z =>
        cases z with
        | ins c' fs =>
          dsimp only
          unfold methG
          by_cases h : c' = c ∧ fs.lookup m = none
          · rw [if_pos h]
            dsimp only
            rw [decide_eq_true h]; rfl
          · rw [if_neg h]
            dsimp only
            rw [decide_eq_false h]; rfl
        | _ => rfl
    | _ => rfl
def make2 (r : R D) (n : Nat) : R D := r.bind fun v S2 => match v with
  | .a .non => .ok (.cel n) S2
  | _ => .bad
@[simp] theorem make2_ok (n : Nat) (S : Sto) : make2 (.ok (.a .non) S) n = .ok (.cel n) S := (rfl)
@[simp] theorem make2_x (n : Nat) (e : Exn) (S : Sto) : make2 (.exc e S) n = .exc e S := (rfl)
def make1 (r : R (List D)) (c : Str) (F : List D → Sto → R D) (dds : List D) : R D := r.bind fun ds S1 => make2 (F (.cel S1.length :: (ds ++ dds)) (S1 ++ [.ins c []])) S1.length
@[simp] theorem make1_ok (ds : List D) (S : Sto) (c : Str) (F : List D → Sto → R D) (dds : List D) : make1 (.ok ds S) c F dds = make2 (F (.cel S.length :: (ds ++ dds)) (S ++ [.ins c []])) S.length := (rfl)
@[simp] theorem eMake_eq (c : Str) (F : List D → Sto → R D) (dds : List D) (fa : AX) (env : Slots) (S : Sto) : eMake c F dds fa env S = make1 (fa env S) c F dds := (rfl)
/-- a field -/
def fldR (r : R D) (cs : List Str) (f : Str) : R D := r.bind fun d S1 => match d with
  | .cel n => match S1[n]? with
    | some (.ins c fs) => if c ∈ cs then match fs.lookup f with
      | some v => .ok v S1
      | none => .bad else .bad
    | _ => .bad
  | _ => .bad
@[simp] theorem eFld_eq (cs : List Str) (f : Str) (fo : EX) (env : Slots) (S : Sto) : eFld cs f fo env S = fldR (fo env S) cs f := (rfl)
theorem fldR_at {cs : List Str} {f : Str} {n : Nat} {S : Sto} {c : Str} {fs : List (Str × D)} {v : D} (h : S[n]? = some (.ins c fs)) (hc : c ∈ cs) (hv : fs.lookup f = some v) : fldR (.ok (.cel n) S) cs f = .ok v S := by
  unfold fldR
  rw [R.bind_ok]
  dsimp only
  rw [h]
  dsimp only
  rw [if_pos hc, hv]
@[simp] theorem fldR_x (cs : List Str) (f : Str) (e : Exn) (S : Sto) : fldR (.exc e S) cs f = .exc e S := (rfl)
theorem methG_at {c m : Str} {n : Nat} {S : Sto} {fs : List (Str × D)} (h : S[n]? = some (.ins c fs)) (hm : fs.lookup m = none) : methG c m S[n]? = true := by
  rw [h]
  exact decide_eq_true ⟨rfl, hm⟩
/-- o[i] of an instance -/
def ixO2 (r : R D) (c : Str) (F : List D → Sto → R D) (d : D) : R D := r.bind fun e S2 => match d with
  | .cel n => match S2[n]? with
    | some (.ins c' _) => if c' = c then F [d, e] S2 else .bad
    | _ => ofO (dIx d e S2)
  | _ => ofO (dIx d e S2)
def ixO1 (r : R D) (c : Str) (F : List D → Sto → R D) (gb : EX) (env : Slots) : R D := r.bind fun d S1 => ixO2 (gb env S1) c F d
@[simp] theorem ixO1_ok (d : D) (c : Str) (F : List D → Sto → R D) (gb : EX) (env : Slots) (S : Sto) : ixO1 (.ok d S) c F gb env = ixO2 (gb env S) c F d := (rfl)
@[simp] theorem eIxO_eq (c : Str) (F : List D → Sto → R D) (ga gb : EX) (env : Slots) (S : Sto) : eIxO c F ga gb env S = ixO1 (ga env S) c F gb env := (rfl)
theorem ixO2_at {c : Str} {F : List D → Sto → R D} {n : Nat} {e : D} {S : Sto} {fs : List (Str × D)} (h : S[n]? = some (.ins c fs)) : ixO2 (.ok e S) c F (.cel n) = F [.cel n, e] S := by
  unfold ixO2
  rw [R.bind_ok]
  dsimp only
  rw [h]
  exact if_pos rfl
def isCR (r : R D) (sub : Str → Option Bool) : R D := r.bind fun d S1 => match d with
  | .cel n => match S1[n]? with
    | some (.ins c _) => match sub c with
      | some b => .ok (.a (.bl b)) S1
      | none => .bad
    | _ => .bad
  | _ => .bad
@[simp] theorem eIsC_eq (sub : Str → Option Bool) (fo : EX) (env : Slots) (S : Sto) : eIsC sub fo env S = isCR (fo env S) sub := (rfl)
theorem isCR_at {sub : Str → Option Bool} {n : Nat} {S : Sto} {c : Str} {fs : List (Str × D)} {b : Bool} (h : S[n]? = some (.ins c fs)) (hb : sub c = some b) : isCR (.ok (.cel n) S) sub = .ok (.a (.bl b)) S := by
  unfold isCR
  rw [R.bind_ok]
  dsimp only
  rw [h]
  dsimp only
  rw [hb]
@[simp] theorem eIsE_nil (c : Str) (sub : Str → Option Bool) (env : Slots) (S : Sto) : eIsE ⟨c, []⟩ sub env S = match sub c with
  | some b => .ok (.a (.bl b)) S
  | none => .bad := (rfl)
/-! statements with targets -/
def asgR (r : R D) (t : TgX) (env : Slots) : SR := r.then env fun d S1 => match t d env S1 with
  | some (env', S') => .nx env' S'
  | none => .bad
def nxO (o : Option (Slots × Sto)) : SR := match o with
  | some (env', S') => .nx env' S'
  | none => .bad
@[simp] theorem nxO_some (env : Slots) (S : Sto) : nxO (some (env, S)) = .nx env S := (rfl)
@[simp] theorem asgR_ok (d : D) (t : TgX) (env : Slots) (S : Sto) : asgR (.ok d S) t env = nxO (t d env S) := (rfl)
@[simp] theorem sAsg_eq (f : EX) (t : TgX) (env : Slots) (S : Sto) : sAsg f t env S = asgR (f env S) t env := (rfl)
@[simp] theorem gN_eq (i : Nat) (d : D) (env : Slots) (S : Sto) : gN i d env S = some (env.set i (some d), S) := (rfl)
@[simp] theorem gsNil_eq (env : Slots) (S : Sto) : gsNil [] env S = some (env, S) := (rfl)
def put3 (r : R D) (env : Slots) (v o : D) : SR := r.then env fun i S3 => match dPut o i v S3 with
  | some S4 => .nx env S4
  | none => .bad
def put2 (r : R D) (env : Slots) (v : D) (fi : EX) : SR := r.then env fun o S2 => put3 (fi env S2) env v o
def put1 (r : R D) (env : Slots) (fo fi : EX) : SR := r.then env fun v S1 => put2 (fo env S1) env v fi
def nxS (o : Option Sto) (env : Slots) : SR := match o with
  | some S4 => .nx env S4
  | none => .bad
@[simp] theorem nxS_some (env : Slots) (S : Sto) : nxS (some S) env = .nx env S := (rfl)
@[simp] theorem put3_ok (i v o : D) (env : Slots) (S : Sto) : put3 (.ok i S) env v o = nxS (dPut o i v S) env := (rfl)
@[simp] theorem put2_ok (v o : D) (fi : EX) (env : Slots) (S : Sto) : put2 (.ok o S) env v fi = put3 (fi env S) env v o := (rfl)
@[simp] theorem put1_ok (v : D) (fo fi : EX) (env : Slots) (S : Sto) : put1 (.ok v S) env fo fi = put2 (fo env S) env v fi := (rfl)
@[simp] theorem sPut_eq (fv fo fi : EX) (env : Slots) (S : Sto) : sPut fv fo fi env S = put1 (fv env S) env fo fi := (rfl)
def sfld2 (r : R D) (env : Slots) (cs : List Str) (f : Str) (v : D) : SR := r.then env fun d S2 => match d with
  | .cel n => match S2[n]? with
    | some (.ins c fs) => if c ∈ cs ∧ fs.length < 1000 then .nx env (S2.set n (.ins c (putD f v fs))) else .bad
    | _ => .bad
  | _ => .bad
def sfld1 (r : R D) (env : Slots) (cs : List Str) (f : Str) (fo : EX) : SR := r.then env fun v S1 => sfld2 (fo env S1) env cs f v
@[simp] theorem sfld1_ok (v : D) (env : Slots) (cs : List Str) (f : Str) (fo : EX) (S : Sto) : sfld1 (.ok v S) env cs f fo = sfld2 (fo env S) env cs f v := (rfl)
@[simp] theorem sFldX_eq (cs : List Str) (f : Str) (fv fo : EX) (env : Slots) (S : Sto) : sFldX cs f fv fo env S = sfld1 (fv env S) env cs f fo := (rfl)
theorem sfld2_at {cs : List Str} {f : Str} {v : D} {env : Slots} {n : Nat} {S : Sto} {c : Str} {fs : List (Str × D)} (h : S[n]? = some (.ins c fs)) (hc : c ∈ cs) (hl : fs.length < 1000) : sfld2 (.ok (.cel n) S) env cs f v = .nx env (S.set n (.ins c (putD f v fs))) := by
  unfold sfld2
  rw [R.then_ok]
  dsimp only
  rw [h]
  exact if_pos ⟨hc, hl⟩
def aug2 (o : Option (D × Sto)) (env : Slots) (i : Nat) : SR := match o with
  | some (z, S2) => .nx (env.set i (some z)) S2
  | none => .bad
@[simp] theorem aug2_some (z : D) (S : Sto) (env : Slots) (i : Nat) : aug2 (some (z, S)) env i = .nx (env.set i (some z)) S := (rfl)
def aug1 (r : R D) (env : Slots) (i : Nat) (g : Op2) (x : D) : SR := r.then env fun y S1 => aug2 (g x y S1) env i
@[simp] theorem aug1_ok (y : D) (S : Sto) (env : Slots) (i : Nat) (g : Op2) (x : D) : aug1 (.ok y S) env i g x = aug2 (g x y S) env i := (rfl)
def aug0 (o : Option (Option D)) (env : Slots) (i : Nat) (g : Op2) (f : EX) (S : Sto) : SR := match o with
  | some (some x) => aug1 (f env S) env i g x
  | _ => .bad
@[simp] theorem aug0_some (x : D) (env : Slots) (i : Nat) (g : Op2) (f : EX) (S : Sto) : aug0 (some (some x)) env i g f S = aug1 (f env S) env i g x := (rfl)
@[simp] theorem sAug_eq (i : Nat) (g : Op2) (f : EX) (env : Slots) (S : Sto) : sAug i g f env S = aug0 env[i]? env i g f S := by
  unfold sAug aug0
  cases env[i]? with
  | none => rfl
  | some x =>
    cases x with
    | none => rfl
    | some x =>
      unfold aug1
      dsimp only
      cases f env S <;> rfl
/-! loops -/
def forR (r : R (List D × Option Nat)) (t : TgX) (body : SX) (env : Slots) (go : Option Nat → List D → TgX → SX → List D → Slots → Sto → SR) : SR := r.then env fun w S1 => go w.2 w.1 t body w.1 env S1
@[simp] theorem sFor_eq (it : IX) (t : TgX) (body : SX) (env : Slots) (S : Sto) : sFor it t body env S = forR (it env S) t body env forGo := (rfl)
@[simp] theorem forR_ok (ds : List D) (g : Option Nat) (t : TgX) (body : SX) (env : Slots) (S : Sto) (go : Option Nat → List D → TgX → SX → List D → Slots → Sto → SR) : forR (.ok (ds, g) S) t body env go = go g ds t body ds env S := (rfl)
def iR1R (r : R D) : R (List D × Option Nat) := r.bind fun d S1 => match d with
  | .a (.int j) => if -(2 ^ 62) ≤ j ∧ j < 2 ^ 62 then .ok (rangeL 0 j.toNat, none) S1 else .bad
  | _ => .bad
@[simp] theorem iR1_eq (f : EX) (env : Slots) (S : Sto) : iR1 f env S = iR1R (f env S) := (rfl)
theorem iR1R_nat {n : Nat} (S : Sto) (h : n < 2 ^ 62) : iR1R (.ok (.a (.int n)) S) = .ok (rangeL 0 n, none) S := by
  unfold iR1R
  rw [R.bind_ok]
  dsimp only
  rw [if_pos (by omega), Int.toNat_natCast]
def iR2b (r : R D) (d : D) : R (List D × Option Nat) := r.bind fun e S2 => match d, e with
  | .a (.int i), .a (.int j) => if -(2 ^ 62) ≤ i ∧ i < 2 ^ 62 ∧ -(2 ^ 62) ≤ j ∧ j < 2 ^ 62 then .ok (rangeL i (j - i).toNat, none) S2 else .bad
  | _, _ => .bad
def iR2R (r : R D) (g : EX) (env : Slots) : R (List D × Option Nat) := r.bind fun d S1 => iR2b (g env S1) d
@[simp] theorem iR2R_ok (d : D) (g : EX) (env : Slots) (S : Sto) : iR2R (.ok d S) g env = iR2b (g env S) d := (rfl)
@[simp] theorem iR2_eq (f g : EX) (env : Slots) (S : Sto) : iR2 f g env S = iR2R (f env S) g env := (rfl)
theorem iR2b_ok {i j : Int} (S : Sto) (h : -(2 ^ 62) ≤ i ∧ i < 2 ^ 62 ∧ -(2 ^ 62) ≤ j ∧ j < 2 ^ 62) : iR2b (.ok (.a (.int j)) S) (.a (.int i)) = .ok (rangeL i (j - i).toNat, none) S := if_pos h
def seqR (r : R D) : R (List D × Option Nat) := r.bind fun d S1 => match walkOf S1 d with
  | some w => .ok w S1
  | none => .bad
@[simp] theorem iSeq_eq (f : EX) (env : Slots) (S : Sto) : iSeq f env S = seqR (f env S) := (rfl)
@[simp] theorem seqR_tup (ds : List D) (S : Sto) : seqR (.ok (.tup ds) S) = .ok (ds, none) S := (rfl)
def tmpR (r : R (List D)) : R (List D × Option Nat) := r.bind fun ds S1 => .ok (ds, none) S1
@[simp] theorem tmpR_ok (ds : List D) (S : Sto) : tmpR (.ok ds S) = .ok (ds, none) S := (rfl)
@[simp] theorem iTmp_eq (f : AX) (env : Slots) (S : Sto) : iTmp f env S = tmpR (f env S) := (rfl)
/-- a body's end, then the rest of the loop -/
def forB (r : SR) (k : Slots → Sto → SR) : SR := match r with
  | .nx e s => k e s
  | .ct e s => k e s
  | .bk e s => .nx e s
  | r => r
@[simp] theorem forB_nx (e : Slots) (s : Sto) (k : Slots → Sto → SR) : forB (.nx e s) k = k e s := (rfl)
@[simp] theorem forB_ct (e : Slots) (s : Sto) (k : Slots → Sto → SR) : forB (.ct e s) k = k e s := (rfl)
@[simp] theorem forB_bk (e : Slots) (s : Sto) (k : Slots → Sto → SR) : forB (.bk e s) k = .nx e s := (rfl)
@[simp] theorem forB_rt (d : D) (s : Sto) (k : Slots → Sto → SR) : forB (.rt d s) k = .rt d s := (rfl)
@[simp] theorem forB_ex (x : Exn) (e : Slots) (s : Sto) (k : Slots → Sto → SR) : forB (.ex x e s) k = .ex x e s := (rfl)
theorem forGo_nil {all : List D} {t : TgX} {body : SX} {env : Slots} {S : Sto} : forGo none all t body [] env S = .nx env S := by
  unfold forGo
  rw [if_pos ((held_none _ _).mpr trivial)]
theorem forGo_cons {all : List D} {i : Nat} {body : SX} {d : D} {r : List D} {env : Slots} {S : Sto} : forGo none all (gN i) body (d :: r) env S = forB (body (env.set i (some d)) S) (forGo none all (gN i) body r) := by
  conv => lhs; unfold forGo
  rw [if_pos ((held_none _ _).mpr trivial)]
  simp only [gN_eq]
  cases body (env.set i (some d)) S <;> rfl
/-- a loop by its invariant: each turn goes on, or ends in what Q takes -/
theorem forGo_inv {all : List D} {i : Nat} {body : SX} {Q : SR → Prop} (Inv : Nat → Slots → Sto → Prop) : ∀ (r : List D) (n : Nat) (env : Slots) (S : Sto), Inv n env S →
    (∀ j d env S, r[j]? = some d → Inv (n + j) env S → (∃ env' S', (body (env.set i (some d)) S = .nx env' S' ∨ body (env.set i (some d)) S = .ct env' S') ∧ Inv (n + j + 1) env' S') ∨ (∃ e s, body (env.set i (some d)) S = .bk e s ∧ Q (.nx e s)) ∨ (∃ d' s, body (env.set i (some d)) S = .rt d' s ∧ Q (.rt d' s)) ∨ (∃ x e s, body (env.set i (some d)) S = .ex x e s ∧ Q (.ex x e s))) →
    (∀ env S, Inv (n + r.length) env S → Q (.nx env S)) → Q (forGo none all (gN i) body r env S)
  | [], n, env, S, h0, _, he => by
    rw [forGo_nil]
    exact he env S h0
  | d :: r, n, env, S, h0, hs, he => by
    rw [forGo_cons]
    have rest : ∀ env' S', Inv (n + 0 + 1) env' S' → Q (forGo none all (gN i) body r env' S') := fun env' S' h => by
      refine forGo_inv Inv r (n + 1) env' S' h (fun j d' env S hd hi => ?_) fun env S hi => he env S ?_
      · have := hs (j + 1) d' env S (by simpa using hd) (by rw [← Nat.add_assoc]; rwa [show n + j + 1 = n + 1 + j by omega])
        rwa [show n + (j + 1) + 1 = n + 1 + j + 1 by omega] at this
      · rw [List.length_cons]
        rwa [show n + (r.length + 1) = n + 1 + r.length by omega]
    rcases hs 0 d env S (by simp) h0 with ⟨env', S', hb, hi⟩ | ⟨e, s, hb, hq⟩ | ⟨d', s, hb, hq⟩ | ⟨x, e, s, hb, hq⟩
    · rcases hb with hb | hb
      · rw [hb]; exact rest _ _ hi
      · rw [hb]; exact rest _ _ hi
    · rw [hb]; exact hq
    · rw [hb]; exact hq
    · rw [hb]; exact hq
/-! comprehensions -/
@[simp] theorem tTrue_eq (env : Slots) (S : Sto) : tTrue env S = .ok true S := (rfl)
def lcR (r : R (List D × Option Nat)) (t : TgX) (ifs : BX) (elt : EX) (env : Slots) (go : Option Nat → List D → TgX → BX → EX → Slots → List D → Sto → R (List D)) : R (List D) := r.bind fun w S1 => if w.1.length ≤ sizeLine then go w.2 w.1 t ifs elt env w.1 S1 else .bad
@[simp] theorem aLc_eq (it : IX) (t : TgX) (vs : List Nat) (ifs : BX) (elt : EX) (env : Slots) (S : Sto) : aLc it t vs ifs elt env S = lcR (it env S) t ifs elt (wipeS env vs) lcGo := (rfl)
theorem lcR_ok {ds : List D} {t : TgX} {ifs : BX} {elt : EX} {env : Slots} {S : Sto} {g : Option Nat} {go : Option Nat → List D → TgX → BX → EX → Slots → List D → Sto → R (List D)} (h : ds.length ≤ sizeLine) : lcR (.ok (ds, g) S) t ifs elt env go = go g ds t ifs elt env ds S := if_pos h
theorem lcR_rng {lo : Int} {n : Nat} {t : TgX} {ifs : BX} {elt : EX} {env : Slots} {S : Sto} {g : Option Nat} {go : Option Nat → List D → TgX → BX → EX → Slots → List D → Sto → R (List D)} (h : n ≤ sizeLine) : lcR (.ok (rangeL lo n, g) S) t ifs elt env go = go g (rangeL lo n) t ifs elt env (rangeL lo n) S := lcR_ok (by rw [rangeL_len]; exact h)
/-- without tests, nothing written -/
theorem lcGo_map {all : List D} {i : Nat} {elt : EX} {env : Slots} {S : Sto} (f : D → D) : ∀ r : List D, (∀ d ∈ r, elt (env.set i (some d)) S = .ok (f d) S) → lcGo none all (gN i) tTrue elt env r S = .ok (r.map f) S
  | [], _ => by
    unfold lcGo
    rw [if_pos ((held_none _ _).mpr trivial)]
    rfl
  | d :: r, h => by
    unfold lcGo
    rw [if_pos ((held_none _ _).mpr trivial)]
    simp only [gN_eq, tTrue_eq, noX_ok, R.bind_ok, cond_true]
    rw [h d (List.mem_cons_self ..), noX_ok, R.bind_ok, lcGo_map f r fun d hd => h d (List.mem_cons_of_mem _ hd), R.bind_ok]
    rfl
/-- with a test, nothing written -/
theorem lcGo_filter {all : List D} {i : Nat} {elt : EX} {ifs : BX} {env : Slots} {S : Sto} (f : D → D) (p : D → Bool) : ∀ r : List D, (∀ d ∈ r, ifs (env.set i (some d)) S = .ok (p d) S) → (∀ d ∈ r, p d = true → elt (env.set i (some d)) S = .ok (f d) S) → lcGo none all (gN i) ifs elt env r S = .ok ((r.filter p).map f) S
  | [], _, _ => by
    unfold lcGo
    rw [if_pos ((held_none _ _).mpr trivial)]
    rfl
  | d :: r, hp, h => by
    have ih := lcGo_filter (all := all) f p r (fun d hd => hp d (List.mem_cons_of_mem _ hd)) fun d hd => h d (List.mem_cons_of_mem _ hd)
    unfold lcGo
    rw [if_pos ((held_none _ _).mpr trivial)]
    simp only [gN_eq]
    rw [hp d (List.mem_cons_self ..), noX_ok, R.bind_ok]
    cases e : p d with
    | true => rw [cond_true, h d (List.mem_cons_self ..) e, noX_ok, R.bind_ok, ih, R.bind_ok, List.filter_cons_of_pos e]; rfl
    | false => rw [cond_false, ih, List.filter_cons_of_neg (by rw [e]; exact Bool.false_ne_true)]
/-- each item writes, what it writes keeps I -/
theorem lcGo_inv {all : List D} {i : Nat} {elt : EX} {env : Slots} (I : Sto → Prop) (Q : D → Prop) : ∀ (r : List D) (S : Sto), I S → (∀ d ∈ r, ∀ S, I S → ∃ x S', elt (env.set i (some d)) S = .ok x S' ∧ I S' ∧ Q x) →
    ∃ xs S', lcGo none all (gN i) tTrue elt env r S = .ok xs S' ∧ I S' ∧ xs.length = r.length ∧ ∀ x ∈ xs, Q x
  | [], S, hI, _ => by
    refine ⟨[], S, ?_, hI, rfl, fun _ h => nomatch h⟩
    unfold lcGo
    rw [if_pos ((held_none _ _).mpr trivial)]
  | d :: r, S, hI, h => by
    obtain ⟨x, S1, h1, hI1, hq⟩ := h d (List.mem_cons_self ..) S hI
    obtain ⟨xs, S2, h2, hI2, hl, hqs⟩ := lcGo_inv (all := all) I Q r S1 hI1 fun d hd => h d (List.mem_cons_of_mem _ hd)
    refine ⟨x :: xs, S2, ?_, hI2, by rw [List.length_cons, List.length_cons, hl], fun y hy => (List.mem_cons.mp hy).elim (fun e => e ▸ hq) (hqs y)⟩
    unfold lcGo
    rw [if_pos ((held_none _ _).mpr trivial)]
    simp only [gN_eq, tTrue_eq, noX_ok, R.bind_ok, cond_true]
    rw [h1, noX_ok, R.bind_ok, h2, R.bind_ok]
/-! while -/
def whR (r : R Bool) (env : Slots) (c : BX) (body : SX) (n : Nat) : SR := r.then env fun b S1 => bif b then forB (body env S1) (whileGo c body n) else .nx env S1
@[simp] theorem whR_t (env : Slots) (c : BX) (body : SX) (n : Nat) (S : Sto) : whR (.ok true S) env c body n = forB (body env S) (whileGo c body n) := (rfl)
@[simp] theorem whR_f (env : Slots) (c : BX) (body : SX) (n : Nat) (S : Sto) : whR (.ok false S) env c body n = .nx env S := (rfl)
theorem whileGo_succ {c : BX} {body : SX} {n : Nat} {env : Slots} {S : Sto} : whileGo c body (n + 1) env S = whR (c env S) env c body n := by
  show (c env S).then env _ = _
  unfold whR
  cases c env S with
  | bad => rfl
  | exc e s => rfl
  | ok b S1 =>
    cases b with
    | false => rfl
    | true =>
      simp only [R.then_ok, cond_true]
      cases body env S1 <;> rfl
/-- a while by its invariant and a measure -/
theorem while_inv {c : BX} {body : SX} {Q : SR → Prop} (Inv : Nat → Slots → Sto → Prop)
    (hs : ∀ n env S, Inv n env S → (∃ S1, c env S = .ok false S1 ∧ Q (.nx env S1)) ∨ (∃ S1, c env S = .ok true S1 ∧ ((∃ m env' S', m < n ∧ (body env S1 = .nx env' S' ∨ body env S1 = .ct env' S') ∧ Inv m env' S') ∨ (∃ e s, body env S1 = .bk e s ∧ Q (.nx e s)) ∨ (∃ d' s, body env S1 = .rt d' s ∧ Q (.rt d' s)) ∨ (∃ x e s, body env S1 = .ex x e s ∧ Q (.ex x e s))))) :
    ∀ (f n : Nat) (env : Slots) (S : Sto), n < f → Inv n env S → Q (whileGo c body f env S)
  | 0, n, env, S, h, _ => absurd h (Nat.not_lt_zero n)
  | f + 1, n, env, S, h, hi => by
    rw [whileGo_succ]
    rcases hs n env S hi with ⟨S1, hc, hq⟩ | ⟨S1, hc, hb⟩
    · rw [hc, whR_f]; exact hq
    · rw [hc, whR_t]
      rcases hb with ⟨m, env', S', hm, hb, hi'⟩ | ⟨e, s, hb, hq⟩ | ⟨d', s, hb, hq⟩ | ⟨x, e, s, hb, hq⟩
      · have ih := while_inv Inv hs f m env' S' (by omega) hi'
        rcases hb with hb | hb
        · rw [hb]; exact ih
        · rw [hb]; exact ih
      · rw [hb]; exact hq
      · rw [hb]; exact hq
      · rw [hb]; exact hq
theorem sWhile_inv {c : BX} {body : SX} {Q : SR → Prop} {n : Nat} {env : Slots} {S : Sto} (Inv : Nat → Slots → Sto → Prop) (hn : n < 2 ^ 64) (h0 : Inv n env S)
    (hs : ∀ n env S, Inv n env S → (∃ S1, c env S = .ok false S1 ∧ Q (.nx env S1)) ∨ (∃ S1, c env S = .ok true S1 ∧ ((∃ m env' S', m < n ∧ (body env S1 = .nx env' S' ∨ body env S1 = .ct env' S') ∧ Inv m env' S') ∨ (∃ e s, body env S1 = .bk e s ∧ Q (.nx e s)) ∨ (∃ d' s, body env S1 = .rt d' s ∧ Q (.rt d' s)) ∨ (∃ x e s, body env S1 = .ex x e s ∧ Q (.ex x e s))))) :
    Q (sWhile c body env S) := while_inv Inv hs _ n env S hn h0
/-! operators on known data -/
@[simp] theorem dAdd_int (i j : Int) (S : Sto) : dAdd (.a (.int i)) (.a (.int j)) S = some (.a (.int (i + j)), S) := (rfl)
@[simp] theorem dAddI_int (i j : Int) (S : Sto) : dAddI (.a (.int i)) (.a (.int j)) S = some (.a (.int (i + j)), S) := (rfl)
@[simp] theorem dSub_int (i j : Int) (S : Sto) : dSub (.a (.int i)) (.a (.int j)) S = some (.a (.int (i - j)), S) := (rfl)
@[simp] theorem dNeg_int (i : Int) (S : Sto) : dNeg (.a (.int i)) S = some (.a (.int (-i)), S) := (rfl)
@[simp] theorem dLt_int (i j : Int) (S : Sto) : dLt (.a (.int i)) (.a (.int j)) S = some (.a (.bl (decide (i < j))), S) := (rfl)
@[simp] theorem dLe_int (i j : Int) (S : Sto) : dLe (.a (.int i)) (.a (.int j)) S = some (.a (.bl (decide (i ≤ j))), S) := (rfl)
@[simp] theorem dGt_int (i j : Int) (S : Sto) : dGt (.a (.int i)) (.a (.int j)) S = some (.a (.bl (decide (j < i))), S) := (rfl)
@[simp] theorem dGe_int (i j : Int) (S : Sto) : dGe (.a (.int i)) (.a (.int j)) S = some (.a (.bl (decide (j ≤ i))), S) := (rfl)
@[simp] theorem dEq_int (i j : Int) (S : Sto) : dEq (.a (.int i)) (.a (.int j)) S = some (.a (.bl (decide (i = j))), S) := (rfl)
@[simp] theorem dNe_int (i j : Int) (S : Sto) : dNe (.a (.int i)) (.a (.int j)) S = some (.a (.bl (!decide (i = j))), S) := (rfl)
@[simp] theorem dEq_str (i j : String) (S : Sto) : dEq (.a (.str i)) (.a (.str j)) S = some (.a (.bl (decide ((i : Str) = j))), S) := (rfl)
@[simp] theorem dIs_bl (i j : Bool) (S : Sto) : dIs (.a (.bl i)) (.a (.bl j)) S = some (.a (.bl (decide (i = j))), S) := (rfl)
@[simp] theorem dIsNot_bl (i j : Bool) (S : Sto) : dIsNot (.a (.bl i)) (.a (.bl j)) S = some (.a (.bl (!decide (i = j))), S) := (rfl)
theorem dMod_pos {i j : Int} {S : Sto} (h : 0 < j) : dMod (.a (.int i)) (.a (.int j)) S = some (.a (.int (i % j)), S) := if_pos h
theorem dDiv_pos {i j : Int} {S : Sto} (h : 0 < j) (h2 : j < 2 ^ 300) : dDiv (.a (.int i)) (.a (.int j)) S = some (.a (.int (i / j)), S) := if_pos ⟨h, h2⟩
@[simp] theorem dLen_tup (ds : List D) (S : Sto) : dLen [.tup ds] S = some (.a (.int ds.length), S) := (rfl)
@[simp] theorem dLen_ils (ds : List D) (S : Sto) : dLen [.ils ds] S = some (.a (.int ds.length), S) := (rfl)
theorem dLen_lst {n : Nat} {ds : List D} {S : Sto} (h : S[n]? = some (.lst ds)) : dLen [.cel n] S = some (.a (.int ds.length), S) := by
  unfold dLen itemsOf
  dsimp only
  rw [h]
@[simp] theorem dInt_int (i : Int) (S : Sto) : dInt [.a (.int i)] S = some (.a (.int i), S) := (rfl)
@[simp] theorem dMax2_int (i j : Int) (S : Sto) : dMax2 [.a (.int i), .a (.int j)] S = some (.a (.int (if j > i then j else i)), S) := (rfl)
@[simp] theorem dMin2_int (i j : Int) (S : Sto) : dMin2 [.a (.int i), .a (.int j)] S = some (.a (.int (if j < i then j else i)), S) := (rfl)
@[simp] theorem tTuple_eq (ds : List D) (S : Sto) : tTuple ds S = some (.tup ds, S) := (rfl)
theorem dTuple_lst {n : Nat} {ds : List D} {S : Sto} (h : S[n]? = some (.lst ds)) : dTuple [.cel n] S = some (.tup ds, S) := by
  show (itemsOf S (.cel n)).map (fun ds => (D.tup ds, S)) = _
  unfold itemsOf
  dsimp only
  rw [h]
  rfl
@[simp] theorem dIx_tup (ds : List D) (k : Int) (S : Sto) : dIx (.tup ds) (.a (.int k)) S = (atI ds k).map fun d => (d, S) := (rfl)
@[simp] theorem dIx_ils (ds : List D) (k : Int) (S : Sto) : dIx (.ils ds) (.a (.int k)) S = (atI ds k).map fun d => (d, S) := (rfl)
theorem dIx_lst {n : Nat} {ds : List D} {k : Int} {S : Sto} (h : S[n]? = some (.lst ds)) : dIx (.cel n) (.a (.int k)) S = (atI ds k).map fun d => (d, S) := by
  unfold dIx
  dsimp only
  rw [h]
theorem dPut_lst {n : Nat} {ds : List D} {k : Nat} {v : D} {S : Sto} (h : S[n]? = some (.lst ds)) (hk : k < ds.length) : dPut (.cel n) (.a (.int k)) v S = some (S.set n (.lst (ds.set k v))) := by
  unfold dPut
  dsimp only
  rw [h]
  dsimp only
  unfold ixN
  rw [if_pos (by omega), if_pos (by omega), Int.toNat_natCast]
/-- the place k of a list -/
theorem atI_nat {α : Type} {xs : List α} {k : Nat} (h : k < xs.length) : atI xs (k : Int) = some xs[k] := by
  unfold atI ixN
  rw [if_pos (by omega), if_pos (by omega), Int.toNat_natCast]
  exact List.getElem?_eq_getElem h
/-! what a def leaves -/
theorem region_nop (d : D) (S : Sto) : region S.length (.ok d S) = .ok d S := by
  unfold region
  dsimp only
  rw [List.take_length]
  split
  · rfl
  · cases d with
    | cel k =>
      dsimp only
      cases h : S[k]? with
      | none => rfl
      | some c =>
        dsimp only
        rw [if_neg fun z => absurd (List.getElem?_eq_some_iff.mp h).1 (by omega)]
    | _ => rfl
theorem region_nopx (e : Exn) (S : Sto) : region S.length (.exc e S) = .exc e S := by
  unfold region
  dsimp only
  rw [List.take_length]
  split <;> rfl
def bodyR (r : SR) : R D := match r with
  | .nx _ S' => .ok (.a .non) S'
  | .rt d S' => .ok d S'
  | .ex e _ S' => .exc e S'
  | _ => .bad
@[simp] theorem bodyR_nx (env : Slots) (S : Sto) : bodyR (.nx env S) = .ok (.a .non) S := (rfl)
@[simp] theorem bodyR_rt (d : D) (S : Sto) : bodyR (.rt d S) = .ok d S := (rfl)
@[simp] theorem bodyR_ex (e : Exn) (env : Slots) (S : Sto) : bodyR (.ex e env S) = .exc e S := (rfl)
theorem defSem_eq {n N : Nat} {b : SX} {ds : List D} {S : Sto} (h : ds.length = n) : defSem n N b ds S = region S.length (bodyR (b (ds.map some ++ List.replicate (N - ds.length) none) S)) := if_pos h
/-- a result without exception, and what holds of it -/
def OkP (P : D → Sto → Prop) : R D → Prop
  | .ok d S => P d S
  | _ => False
@[simp] theorem OkP_ok (P : D → Sto → Prop) (d : D) (S : Sto) : OkP P (.ok d S) ↔ P d S := (Iff.rfl)
theorem OkP.get {P : D → Sto → Prop} {r : R D} (h : OkP P r) : ∃ d S, r = .ok d S ∧ P d S := by
  cases r with
  | ok d S => exact ⟨d, S, rfl, h⟩
  | _ => exact h.elim
theorem OkP.mono {P Q : D → Sto → Prop} {r : R D} (h : OkP P r) (hq : ∀ d S, P d S → Q d S) : OkP Q r := by
  cases r with
  | ok d S => exact hq _ _ h
  | _ => exact h.elim
/-- a body's result -/
def RtP (P : D → Sto → Prop) : SR → Prop
  | .rt d S => P d S
  | .nx _ S => P (.a .non) S
  | _ => False
@[simp] theorem RtP_rt (P : D → Sto → Prop) (d : D) (S : Sto) : RtP P (.rt d S) ↔ P d S := (Iff.rfl)
@[simp] theorem RtP_nx (P : D → Sto → Prop) (env : Slots) (S : Sto) : RtP P (.nx env S) ↔ P (.a .non) S := (Iff.rfl)
theorem RtP.body {P : D → Sto → Prop} {r : SR} (h : RtP P r) : OkP P (bodyR r) := by
  cases r with
  | rt d S => exact h
  | nx e S => exact h
  | _ => exact h.elim
theorem RtP.mono {P Q : D → Sto → Prop} {r : SR} (h : RtP P r) (hq : ∀ d S, P d S → Q d S) : RtP Q r := by
  cases r with
  | rt d S => exact hq _ _ h
  | nx e S => exact hq _ _ h
  | _ => exact h.elim
/-- a def's promise from its body's, where no cell is new -/
theorem def_len {n N : Nat} {b : SX} {ds : List D} {S : Sto} {P : D → Sto → Prop} (h : ds.length = n) (hb : RtP (fun d S' => S'.length = S.length ∧ P d S') (b (ds.map some ++ List.replicate (N - ds.length) none) S)) : OkP P (defSem n N b ds S) := by
  rw [defSem_eq h]
  obtain ⟨d, S', e, hl, hp⟩ := hb.body.get
  rw [e, ← hl, region_nop]
  exact hp
/-- a def that writes nothing -/
theorem def_pure {n N : Nat} {b : SX} {ds : List D} {S : Sto} {d : D} (h : ds.length = n) (hb : bodyR (b (ds.map some ++ List.replicate (N - ds.length) none) S) = .ok d S) : defSem n N b ds S = .ok d S := by
  rw [defSem_eq h, hb, region_nop]
theorem def_purex {n N : Nat} {b : SX} {ds : List D} {S : Sto} {e : Exn} (h : ds.length = n) (hb : bodyR (b (ds.map some ++ List.replicate (N - ds.length) none) S) = .exc e S) : defSem n N b ds S = .exc e S := by
  rw [defSem_eq h, hb, region_nopx]
end G
set_option maxRecDepth 100000
set_option exponentiation.threshold 600
/-! The plain layer H, part 1: what every law uses: _law_start, _law_pick, _law_same. -/
namespace G
open PySem PySem.Spec PyProof.Rows L2

/-- ilist as data -/
def ilist (ns : List Int) : List D := ns.map fun i => .a (.int i)
@[simp] theorem ilist_len (ns : List Int) : (ilist ns).length = ns.length := List.length_map ..
theorem ilist_at {ns : List Int} {k : Nat} (h : k < ns.length) : atI (ilist ns) (k : Int) = some (.a (.int ns[k])) := by
  rw [atI_nat (by rw [ilist_len]; exact h)]
  simp [ilist]

/-! ### _law_same -/
noncomputable def bSame (F : List D → Sto → R D) : SX :=
  (sSeq (sIf (tOf (eCallB dIsi (aCons (eVar 1) (aCons (eC (.a (.ty "tuple"))) aNil))))
   (sSeq (sIf (tOr (tNot (tOf (eCallB dIsi (aCons (eVar 0) (aCons (eC (.a (.ty "tuple"))) aNil))))) (tBin dNe (eCallB dLen (aCons (eVar 0) aNil)) (eCallB dLen (aCons (eVar 1) aNil))))
   (sSeq (sRet (eC (.a (.bl false)))) sNil)
   sNil)
   (sSeq (sRet (eCallT tAll (aLc (iR1 (eCallB dLen (aCons (eVar 1) aNil))) (gN 2) (List.map (fun p => p.2) ([("p", 2)] : List (Str × Nat))) tTrue (eCall F [] (aCons (eBin dIx (eVar 0) (eVar 2)) (aCons (eBin dIx (eVar 1) (eVar 2)) aNil))))))
   sNil))
   sNil)
   (sSeq (sIf (tBin dIs (eVar 1) (eC (.a .non)))
   (sSeq (sRet (eBin dIs (eVar 0) (eC (.a .non)))) sNil)
   sNil)
   (sSeq (sIf (tOf (eCallB dIsi (aCons (eVar 1) (aCons (eC (.a (.ty "str"))) aNil))))
   (sSeq (sRet (eAnd (eCallB dIsi (aCons (eVar 0) (aCons (eC (.a (.ty "str"))) aNil))) (eBin dEq (eVar 0) (eVar 1)))) sNil)
   sNil)
   (sSeq (sIf (tOf (eCallB dIsi (aCons (eVar 1) (aCons (eC (.a (.ty "bool"))) aNil))))
   (sSeq (sRet (eAnd (eCallB dIsi (aCons (eVar 0) (aCons (eC (.a (.ty "bool"))) aNil))) (eBin dEq (eVar 0) (eVar 1)))) sNil)
   sNil)
   (sSeq (sRet (eAnd (eCallB dIsi (aCons (eVar 0) (aCons (eC (.a (.ty "int"))) aNil))) (eAnd (eNot (eCallB dIsi (aCons (eVar 0) (aCons (eC (.a (.ty "bool"))) aNil)))) (eBin dEq (eVar 0) (eVar 1)))))
   sNil)))))
/-- plain data, tuples at most k deep -/
def pl : Nat → D → Bool
  | _, .a (.int _) => true
  | _, .a (.bl _) => true
  | _, .a .non => true
  | _, .a (.str _) => true
  | k + 1, .tup ds => decide (ds.length ≤ sizeLine) && ds.all (pl k)
  | _, _ => false
theorem isi_eq (d : D) (T : String) (S : Sto) : dIsi [d, .a (.ty T)] S = ((tyOf S d).bind fun t => kitB t T).map fun b => (.a (.bl b), S) := rfl
theorem sizeLine62 : sizeLine < 2 ^ 62 := by
  rw [sizeLine_eq]
  omega
theorem all_true : ∀ n : Nat, (asBls (List.replicate n (.a (.bl true)))) = some (List.replicate n true)
  | 0 => rfl
  | n + 1 => by rw [List.replicate_succ, List.replicate_succ]; unfold asBls; rw [all_true n]; rfl
theorem tAll_true (n : Nat) (S : Sto) : tAll (List.replicate n (.a (.bl true))) S = some (.a (.bl true), S) := by
  unfold tAll
  rw [all_true]
  simp
theorem rangeL_mem {n : Nat} {d : D} (h : d ∈ rangeL 0 n) : ∃ i : Nat, i < n ∧ d = .a (.int (i : Int)) := by
  unfold rangeL at h
  obtain ⟨i, hi, rfl⟩ := List.mem_map.mp h
  exact ⟨i, List.mem_range.mp hi, by simp⟩
theorem kb1 : kitB "int" "tuple" = some false := by decide +kernel
theorem kb2 : kitB "int" "str" = some false := by decide +kernel
theorem kb3 : kitB "int" "bool" = some false := by decide +kernel
theorem kb4 : kitB "int" "int" = some true := by decide +kernel
theorem kb5 : kitB "bool" "tuple" = some false := by decide +kernel
theorem kb6 : kitB "bool" "str" = some false := by decide +kernel
theorem kb7 : kitB "bool" "bool" = some true := by decide +kernel
theorem kb8 : kitB "str" "tuple" = some false := by decide +kernel
theorem kb9 : kitB "str" "str" = some true := by decide +kernel
theorem kbA : kitB "tuple" "tuple" = some true := by decide +kernel
theorem kbB : kitB "NoneType" "tuple" = some false := by decide +kernel
theorem isi_int (i : Int) (T : String) (S : Sto) : dIsi [.a (.int i), .a (.ty T)] S = (kitB "int" T).map fun b => (.a (.bl b), S) := rfl
theorem isi_bl (i : Bool) (T : String) (S : Sto) : dIsi [.a (.bl i), .a (.ty T)] S = (kitB "bool" T).map fun b => (.a (.bl b), S) := rfl
theorem isi_non (T : String) (S : Sto) : dIsi [.a .non, .a (.ty T)] S = (kitB "NoneType" T).map fun b => (.a (.bl b), S) := rfl
theorem isi_str (i : Str) (T : String) (S : Sto) : dIsi [.a (.str i), .a (.ty T)] S = (kitB "str" T).map fun b => (.a (.bl b), S) := rfl
theorem isi_tup (ds : List D) (T : String) (S : Sto) : dIsi [.tup ds, .a (.ty T)] S = (kitB "tuple" T).map fun b => (.a (.bl b), S) := rfl
theorem dIs_in (i : Int) (S : Sto) : dIs (.a (.int i)) (.a .non) S = some (.a (.bl false), S) := rfl
theorem dIs_bn (i : Bool) (S : Sto) : dIs (.a (.bl i)) (.a .non) S = some (.a (.bl false), S) := rfl
theorem dIs_sn (i : Str) (S : Sto) : dIs (.a (.str i)) (.a .non) S = some (.a (.bl false), S) := rfl
theorem dIs_nn (S : Sto) : dIs (.a .non) (.a .non) S = some (.a (.bl true), S) := rfl
theorem dEq_bb (i : Bool) (S : Sto) : dEq (.a (.bl i)) (.a (.bl i)) S = some (.a (.bl true), S) := by
  show some (D.a (.bl (decide (i = i))), S) = _
  rw [decide_eq_true rfl]
theorem dEq_ss (i : Str) (S : Sto) : dEq (.a (.str i)) (.a (.str i)) S = some (.a (.bl true), S) := by
  show some (D.a (.bl (decide (i = i))), S) = _
  rw [decide_eq_true rfl]
theorem dEq_ii (i : Int) (S : Sto) : dEq (.a (.int i)) (.a (.int i)) S = some (.a (.bl true), S) := by
  show some (D.a (.bl (decide (i = i))), S) = _
  rw [decide_eq_true rfl]
theorem same_atom (F : List D → Sto → R D) (v : V) (S : Sto) (hp : pl 0 (.a v) = true) : bodyR (bSame F [some (.a v), some (.a v), none] S) = .ok (.a (.bl true)) S := by
  cases v with
  | int i => simp [bSame, isi_int, kb1, kb2, kb3, kb4, dIs_in]
  | bl b => simp [bSame, isi_bl, kb5, kb6, kb7, dIs_bn, dEq_bb]
  | non => simp [bSame, isi_non, kbB, dIs_nn]
  | str x => simp [bSame, isi_str, kb8, kb9, dIs_sn, dEq_ss]
  | _ => cases hp
theorem same_tup1 (F : List D → Sto → R D) (ds : List D) (S : Sto) (h : ∀ (i : Nat) (hi : i < ds.length), F [ds[i], ds[i]] S = .ok (.a (.bl true)) S) : lcGo none (rangeL 0 ds.length) (gN 2) tTrue (eCall F [] (aCons (eBin dIx (eVar 0) (eVar 2)) (aCons (eBin dIx (eVar 1) (eVar 2)) aNil))) [some (.tup ds), some (.tup ds), none] (rangeL 0 ds.length) S = .ok (List.replicate ds.length (.a (.bl true))) S := by
  rw [lcGo_map (fun _ => .a (.bl true)), List.map_const', rangeL_len]
  intro d hd
  obtain ⟨i, hi, rfl⟩ := rangeL_mem hd
  simp [atI_nat hi, h i hi]
theorem same_tup2 (F : List D → Sto → R D) (ds : List D) (S : Sto) (h1 : ds.length ≤ sizeLine) (hlc : lcGo none (rangeL 0 ds.length) (gN 2) tTrue (eCall F [] (aCons (eBin dIx (eVar 0) (eVar 2)) (aCons (eBin dIx (eVar 1) (eVar 2)) aNil))) [some (.tup ds), some (.tup ds), none] (rangeL 0 ds.length) S = .ok (List.replicate ds.length (.a (.bl true))) S) : lcR (.ok (rangeL 0 ds.length, none) S) (gN 2) tTrue (eCall F [] (aCons (eBin dIx (eVar 0) (eVar 2)) (aCons (eBin dIx (eVar 1) (eVar 2)) aNil))) [some (.tup ds), some (.tup ds), none] lcGo = .ok (List.replicate ds.length (.a (.bl true))) S := by
  rw [lcR_rng h1, hlc]
theorem iR1R_len (ds : List D) (S : Sto) (h1 : ds.length ≤ sizeLine) : iR1R (.ok (.a (.int ds.length)) S) = .ok (rangeL 0 ds.length, none) S := iR1R_nat S (Nat.lt_of_le_of_lt h1 sizeLine62)
theorem same_tup3 (F : List D → Sto → R D) (ds : List D) (S : Sto) (hr : iR1R (.ok (.a (.int ds.length)) S) = .ok (rangeL 0 ds.length, none) S) (hX : lcR (.ok (rangeL 0 ds.length, none) S) (gN 2) tTrue (eCall F [] (aCons (eBin dIx (eVar 0) (eVar 2)) (aCons (eBin dIx (eVar 1) (eVar 2)) aNil))) [some (.tup ds), some (.tup ds), none] lcGo = .ok (List.replicate ds.length (.a (.bl true))) S) :
    bodyR (bSame F [some (.tup ds), some (.tup ds), none] S) = .ok (.a (.bl true)) S := by
  simp [bSame, isi_tup, kbA, hr, wipeS, hX, tAll_true]
theorem same_tup (F : List D → Sto → R D) (ds : List D) (S : Sto) (h1 : ds.length ≤ sizeLine) (h : ∀ (i : Nat) (hi : i < ds.length), F [ds[i], ds[i]] S = .ok (.a (.bl true)) S) : bodyR (bSame F [some (.tup ds), some (.tup ds), none] S) = .ok (.a (.bl true)) S :=
  same_tup3 F ds S (iR1R_len ds S h1) (same_tup2 F ds S h1 (same_tup1 F ds S h))
theorem pl_tup {k : Nat} {ds : List D} (hp : pl (k + 1) (.tup ds) = true) : ds.length ≤ sizeLine ∧ ∀ d ∈ ds, pl k d = true := by
  unfold pl at hp
  obtain ⟨h1, h2⟩ := Bool.and_eq_true_iff.mp hp
  exact ⟨of_decide_eq_true h1, List.all_eq_true.mp h2⟩
theorem pl_atom {k : Nat} {v : V} (hp : pl k (.a v) = true) : pl 0 (.a v) = true := by
  cases v <;> first | rfl | (cases k <;> cases hp)
theorem same_refl {F : Nat → List D → Sto → R D} (hF : ∀ k, F (k + 1) = defSem 2 3 (bSame (F k))) (k : Nat) : ∀ (d : D) (S : Sto), pl k d = true → F (k + 1) [d, d] S = .ok (.a (.bl true)) S := by
  induction k with
  | zero =>
    intro d S hp
    cases d with
    | a v => rw [hF]; exact def_pure rfl (same_atom _ v S hp)
    | _ => cases hp
  | succ k ih =>
    intro d S hp
    cases d with
    | a v => rw [hF]; exact def_pure rfl (same_atom _ v S (pl_atom hp))
    | tup ds =>
      obtain ⟨h1, h2⟩ := pl_tup hp
      rw [hF]
      exact def_pure rfl (same_tup _ ds S h1 fun i hi => ih _ S (h2 _ (List.getElem_mem hi)))
    | _ => cases hp

/-! ### _law_pick -/
noncomputable def bPick : SX :=
 (sSeq (sIf (tBin dGe (eBin dIx (eVar 0) (eC (.a (.int (3))))) (eVar 1))
 (sSeq (sSet 2 (eCallB dInt (aCons (eBin dIx (eVar 0) (eC (.a (.int (3))))) aNil)))
 (sSeq (sPut (eBin dDiv (eVar 2) (eVar 1)) (eVar 0) (eC (.a (.int (3)))))
 (sSeq (sRet (eBin dMod (eVar 2) (eVar 1)))
 sNil)))
 sNil)
 (sSeq (sSet 3 (eC (.a (.int (11)))))
 (sSeq (sIf (tBin dLt (eBin dIx (eVar 0) (eC (.a (.int (2))))) (eCallB dLen (aCons (eBin dIx (eVar 0) (eC (.a (.int (1))))) aNil)))
 (sSeq (sSet 3 (eCallB dInt (aCons (eBin dIx (eBin dIx (eVar 0) (eC (.a (.int (1))))) (eBin dIx (eVar 0) (eC (.a (.int (2)))))) aNil)))
 (sSeq (sPut (eBin dAdd (eBin dIx (eVar 0) (eC (.a (.int (2))))) (eC (.a (.int (1))))) (eVar 0) (eC (.a (.int (2)))))
 (sSeq (sIf (tBin dLt (eVar 3) (eC (.a (.int (0)))))
 (sSeq (sSet 3 (eBin dSub (eC (.a (.int (1)))) (eVar 3)))
 sNil)
 sNil)
 (sSeq (sIf (tBin dGe (eVar 3) (eBin dPow (eC (.a (.int (10)))) (eC (.a (.int (18))))))
 (sSeq (sPut (eBin dDiv (eVar 3) (eVar 1)) (eVar 0) (eC (.a (.int (3)))))
 (sSeq (sRet (eBin dMod (eVar 3) (eVar 1)))
 sNil))
 sNil)
 sNil))))
 sNil)
 (sSeq (sSet 4 (eBin dMod (eBin dMul (eBin dAdd (eBin dAdd (eCallB dInt (aCons (eBin dIx (eVar 0) (eC (.a (.int (0))))) aNil)) (eBin dMod (eVar 3) (eC (.a (.int (2147483647)))))) (eC (.a (.int (1))))) (eC (.a (.int (48271))))) (eC (.a (.int (2147483647))))))
 (sSeq (sPut (eBin dMod (eBin dAdd (eBin dMul (eVar 4) (eC (.a (.int (69621))))) (eC (.a (.int (12345))))) (eC (.a (.int (2147483647))))) (eVar 0) (eC (.a (.int (0)))))
 (sSeq (sRet (eBin dMod (eBin dDiv (eCallB dInt (aCons (eBin dIx (eVar 0) (eC (.a (.int (0))))) aNil)) (eC (.a (.int (7))))) (eVar 1)))
 sNil))))))
/-- the state of the draws stands in the cell s -/
def Stt (S : Sto) (s : Nat) : Prop := ∃ c2 seed k rest ns, S[s]? = some (.lst [.a (.int seed), .cel c2, .a (.int k), .a (.int rest)]) ∧ S[c2]? = some (.lst (ilist ns)) ∧ s ≠ c2 ∧ 0 ≤ rest ∧ 0 ≤ k
/-- nothing but the cell s has changed, cells may be new -/
structure Ext (s : Nat) (S S' : Sto) : Prop where
  len : S.length ≤ S'.length
  at_ : ∀ i, i < S.length → i ≠ s → S'[i]? = S[i]?
theorem Ext.refl {s : Nat} {S : Sto} : Ext s S S := ⟨Nat.le_refl _, fun _ _ _ => rfl⟩
theorem Ext.trans {s : Nat} {S S1 S2 : Sto} (a : Ext s S S1) (b : Ext s S1 S2) : Ext s S S2 := ⟨Nat.le_trans a.len b.len, fun i h n => (b.at_ i (Nat.lt_of_lt_of_le h a.len) n).trans (a.at_ i h n)⟩
theorem Ext.get {s : Nat} {S S' : Sto} (a : Ext s S S') {i : Nat} {c : Cell} (h : S[i]? = some c) (n : i ≠ s) : S'[i]? = some c := (a.at_ i (List.getElem?_eq_some_iff.mp h).1 n).trans h
theorem Ext.set {s : Nat} {S : Sto} {c : Cell} : Ext s S (S.set s c) := ⟨Nat.le_of_eq (List.length_set ..).symm, fun i _ n => List.getElem?_set_ne (Ne.symm n)⟩
theorem Ext.push {s : Nat} {S : Sto} {l : List Cell} : Ext s S (S ++ l) := ⟨by rw [List.length_append]; omega, fun i h _ => List.getElem?_append_left h⟩
theorem region_len {n : Nat} (d : D) (S : Sto) (h : S.length = n) : region n (.ok d S) = .ok d S := by
  subst h
  exact region_nop d S
theorem dPow_lit {a b : Int} (S : Sto) (h : CPow a b) : dPow (.a (.int a)) (.a (.int b)) S = some (.a (.int (a ^ b.toNat)), S) := if_pos h
theorem dMul_int {i j : Int} (S : Sto) (h : CMul i j) : dMul (.a (.int i)) (.a (.int j)) S = some (.a (.int (i * j)), S) := if_pos h
theorem pow18 : CPow 10 18 := by decide +kernel
/-- what a draw gives -/
def PickP (s : Nat) (S : Sto) (L : Int) : D → Sto → Prop := fun d S' => ∃ v, d = .a (.int v) ∧ 0 ≤ v ∧ v < L ∧ Stt S' s ∧ S'.length = S.length ∧ Ext s S S'
theorem at4_0 (a b c d : D) : atI [a, b, c, d] 0 = some a := rfl
theorem at4_1 (a b c d : D) : atI [a, b, c, d] 1 = some b := rfl
theorem at4_2 (a b c d : D) : atI [a, b, c, d] 2 = some c := rfl
theorem at4_3 (a b c d : D) : atI [a, b, c, d] 3 = some d := rfl
theorem pick_tail {S S1 : Sto} {s c2 : Nat} {L seed k1 cell rest : Int} {ns : List Int} {x y : Option D} (h0 : 0 < L) (h1s : S1[s]? = some (.lst [.a (.int seed), .cel c2, .a (.int k1), .a (.int rest)])) (h1c : S1[c2]? = some (.lst (ilist ns))) (hne : s ≠ c2) (h1l : S1.length = S.length) (h1e : Ext s S S1) (hk1 : 0 ≤ k1) (hr : 0 ≤ rest) :
    RtP (fun d S' => S'.length = S.length ∧ PickP s S L d S') ((sSeq (sSet 4 (eBin dMod (eBin dMul (eBin dAdd (eBin dAdd (eCallB dInt (aCons (eBin dIx (eVar 0) (eC (.a (.int (0))))) aNil)) (eBin dMod (eVar 3) (eC (.a (.int (2147483647)))))) (eC (.a (.int (1))))) (eC (.a (.int (48271))))) (eC (.a (.int (2147483647))))))
          (sSeq (sPut (eBin dMod (eBin dAdd (eBin dMul (eVar 4) (eC (.a (.int (69621))))) (eC (.a (.int (12345))))) (eC (.a (.int (2147483647))))) (eVar 0) (eC (.a (.int (0)))))
          (sSeq (sRet (eBin dMod (eBin dDiv (eCallB dInt (aCons (eBin dIx (eVar 0) (eC (.a (.int (0))))) aNil)) (eC (.a (.int (7))))) (eVar 1))) sNil))) [some (.cel s), some (.a (.int L)), x, some (.a (.int cell)), y] S1) := by
  have hsl1 : s < S1.length := (List.getElem?_eq_some_iff.mp h1s).1
  have m1 : ∀ (i : Int) (S : Sto), dMod (.a (.int i)) (.a (.int 2147483647)) S = some (.a (.int (i % 2147483647)), S) := fun i S => dMod_pos (by decide)
  have m2 : ∀ (i : Int) (S : Sto), dMul (.a (.int i)) (.a (.int 48271)) S = some (.a (.int (i * 48271)), S) := fun i S => dMul_int S (.inr ⟨by decide, by decide⟩)
  have m3 : ∀ (i : Int) (S : Sto), dMul (.a (.int i)) (.a (.int 69621)) S = some (.a (.int (i * 69621)), S) := fun i S => dMul_int S (.inr ⟨by decide, by decide⟩)
  have m4 : ∀ (i : Int) (S : Sto), dDiv (.a (.int i)) (.a (.int 7)) S = some (.a (.int (i / 7)), S) := fun i S => dDiv_pos (by decide) (by decide)
  have e5 : ∀ v : D, dPut (.cel s) (.a (.int 0)) v S1 = some (S1.set s (.lst [v, .cel c2, .a (.int k1), .a (.int rest)])) := fun v => dPut_lst (k := 0) h1s (by simp)
  have q : ∀ c : Cell, (S1.set s c)[s]? = some c := fun c => List.getElem?_set_self hsl1
  have q2 : ∀ c : Cell, (S1.set s c)[c2]? = some (.lst (ilist ns)) := fun c => by rw [List.getElem?_set_ne hne]; exact h1c
  simp [dIx_lst h1s, at4_0, m1, m2, m3, e5, dIx_lst (q _), m4, dMod_pos h0, h1l]
  refine ⟨_, rfl, Int.emod_nonneg _ (by omega), Int.emod_lt_of_pos _ h0, ⟨c2, _, k1, rest, ns, q _, q2 _, hne, hr, hk1⟩, by rw [List.length_set, h1l], h1e.trans Ext.set⟩
theorem pick_spec {S : Sto} {s : Nat} {L : Int} (h : Stt S s) (h0 : 0 < L) (h1 : L < 2 ^ 300) : OkP (PickP s S L) (defSem 2 5 bPick [.cel s, .a (.int L)] S) := by
  obtain ⟨c2, seed, k, rest, ns, hs, hc, hne, hr, hk⟩ := h
  have hsl : s < S.length := (List.getElem?_eq_some_iff.mp hs).1
  have p : ∀ c : Cell, (S.set s c)[s]? = some c := fun c => List.getElem?_set_self hsl
  have p2 : ∀ c : Cell, (S.set s c)[c2]? = some (.lst (ilist ns)) := fun c => by rw [List.getElem?_set_ne hne]; exact hc
  refine def_len (n := 2) (ds := [_, _]) rfl ?_
  by_cases hge : L ≤ rest
  · have e4 : dPut (.cel s) (.a (.int 3)) (.a (.int (rest / L))) S = some (S.set s (.lst [.a (.int seed), .cel c2, .a (.int k), .a (.int (rest / L))])) := dPut_lst (k := 3) hs (by simp)
    simp [bPick, dIx_lst hs, at4_3, hge, dDiv_pos h0 h1, e4, dMod_pos h0]
    exact ⟨_, rfl, Int.emod_nonneg _ (by omega), Int.emod_lt_of_pos _ h0, ⟨c2, seed, k, rest / L, ns, p _, p2 _, hne, Int.ediv_nonneg hr (by omega), hk⟩, List.length_set .., Ext.set⟩
  · by_cases hkl : k < (ns.length : Int)
    · obtain ⟨j, rfl⟩ := Int.eq_ofNat_of_zero_le hk
      have hj : j < ns.length := by omega
      have e2 : dPut (.cel s) (.a (.int 2)) (.a (.int ((j : Int) + 1))) S = some (S.set s (.lst [.a (.int seed), .cel c2, .a (.int ((j : Int) + 1)), .a (.int rest)])) := dPut_lst (k := 2) hs (by simp)
      have hS1 := p (.lst [.a (.int seed), .cel c2, .a (.int ((j : Int) + 1)), .a (.int rest)])
      have hS2 := p2 (.lst [.a (.int seed), .cel c2, .a (.int ((j : Int) + 1)), .a (.int rest)])
      have hl1 : (S.set s (.lst [.a (.int seed), .cel c2, .a (.int ((j : Int) + 1)), .a (.int rest)])).length = S.length := List.length_set ..
      have fin : ∀ cell : Int, 0 ≤ cell → RtP (fun d S' => S'.length = S.length ∧ PickP s S L d S') ((sSeq (sIf (tBin dGe (eVar 3) (eBin dPow (eC (.a (.int (10)))) (eC (.a (.int (18))))))
         (sSeq (sPut (eBin dDiv (eVar 3) (eVar 1)) (eVar 0) (eC (.a (.int (3)))))
         (sSeq (sRet (eBin dMod (eVar 3) (eVar 1))) sNil)) sNil) sNil
         [some (.cel s), some (.a (.int L)), none, some (.a (.int cell)), none] (S.set s (.lst [.a (.int seed), .cel c2, .a (.int ((j : Int) + 1)), .a (.int rest)]))).sq
         (sSeq (sSet 4 (eBin dMod (eBin dMul (eBin dAdd (eBin dAdd (eCallB dInt (aCons (eBin dIx (eVar 0) (eC (.a (.int (0))))) aNil)) (eBin dMod (eVar 3) (eC (.a (.int (2147483647)))))) (eC (.a (.int (1))))) (eC (.a (.int (48271))))) (eC (.a (.int (2147483647))))))
          (sSeq (sPut (eBin dMod (eBin dAdd (eBin dMul (eVar 4) (eC (.a (.int (69621))))) (eC (.a (.int (12345))))) (eC (.a (.int (2147483647))))) (eVar 0) (eC (.a (.int (0)))))
          (sSeq (sRet (eBin dMod (eBin dDiv (eCallB dInt (aCons (eBin dIx (eVar 0) (eC (.a (.int (0))))) aNil)) (eC (.a (.int (7))))) (eVar 1))) sNil)))) := by
        intro cell hcell
        have tl := pick_tail (S := S) (L := L) (cell := cell) (x := none) (y := none) h0 hS1 hS2 hne hl1 Ext.set (by omega) hr
        generalize hB : (sSeq (sSet 4 (eBin dMod (eBin dMul (eBin dAdd (eBin dAdd (eCallB dInt (aCons (eBin dIx (eVar 0) (eC (.a (.int (0))))) aNil)) (eBin dMod (eVar 3) (eC (.a (.int (2147483647)))))) (eC (.a (.int (1))))) (eC (.a (.int (48271))))) (eC (.a (.int (2147483647))))))
          (sSeq (sPut (eBin dMod (eBin dAdd (eBin dMul (eVar 4) (eC (.a (.int (69621))))) (eC (.a (.int (12345))))) (eC (.a (.int (2147483647))))) (eVar 0) (eC (.a (.int (0)))))
          (sSeq (sRet (eBin dMod (eBin dDiv (eCallB dInt (aCons (eBin dIx (eVar 0) (eC (.a (.int (0))))) aNil)) (eC (.a (.int (7))))) (eVar 1))) sNil))) = B at tl ⊢
        by_cases hbig : 10 ^ 18 ≤ cell
        · have e3 : dPut (.cel s) (.a (.int 3)) (.a (.int (cell / L))) (S.set s (.lst [.a (.int seed), .cel c2, .a (.int ((j : Int) + 1)), .a (.int rest)])) = some ((S.set s (.lst [.a (.int seed), .cel c2, .a (.int ((j : Int) + 1)), .a (.int rest)])).set s (.lst [.a (.int seed), .cel c2, .a (.int ((j : Int) + 1)), .a (.int (cell / L))])) := dPut_lst (k := 3) hS1 (by simp)
          have hd : decide ((10 : Int) ^ 18 ≤ cell) = true := decide_eq_true hbig
          simp only [sSeq_eq, sIf_eq, tBin_eq, eVar_eq, List.getElem?_cons_zero, List.getElem?_cons_succ, varR_some, bin1_ok, eBin_eq, eC_eq, bin2_ok, dPow_lit _ pow18, ofO_some, dGe_int, toB_ok]
          rw [show ((10 : Int) ^ (18 : Int).toNat) = 10 ^ 18 from rfl, hd]
          simp [dDiv_pos h0 h1, e3, dMod_pos h0]
          exact ⟨_, rfl, Int.emod_nonneg _ (by omega), Int.emod_lt_of_pos _ h0, ⟨c2, seed, (j : Int) + 1, cell / L, ns, p _, p2 _, hne, Int.ediv_nonneg hcell (by omega), by omega⟩, List.length_set .., Ext.set⟩
        · have hd : decide ((10 : Int) ^ 18 ≤ cell) = false := decide_eq_false hbig
          simp only [sSeq_eq, sIf_eq, tBin_eq, eVar_eq, List.getElem?_cons_zero, List.getElem?_cons_succ, varR_some, bin1_ok, eBin_eq, eC_eq, bin2_ok, dPow_lit _ pow18, ofO_some, dGe_int, toB_ok]
          rw [show ((10 : Int) ^ (18 : Int).toNat) = 10 ^ 18 from rfl, hd]
          simpa using tl
      by_cases hneg : ns[j] < 0
      · have f := fin (1 - ns[j]) (by omega)
        simp [bPick, dIx_lst hs, at4_3, at4_2, at4_1, hge, dLen_lst hc, hj, dIx_lst hc, ilist_at hj, e2, hneg]
        simpa using f
      · have f := fin (ns[j]) (by omega)
        simp [bPick, dIx_lst hs, at4_3, at4_2, at4_1, hge, dLen_lst hc, hj, dIx_lst hc, ilist_at hj, e2, hneg]
        simpa using f
    · have tl := pick_tail (S := S) (L := L) (cell := 11) (x := none) (y := none) h0 hs hc hne rfl Ext.refl hk hr
      simp [bPick, dIx_lst hs, at4_3, at4_2, at4_1, hge, dLen_lst hc, hkl]
      simpa [dIx_lst hs] using tl
end G
set_option maxRecDepth 100000
set_option exponentiation.threshold 600
/-! The plain layer H, part 2: tuples of ints; searches; new cells; _law_start. -/
namespace G
open PySem PySem.Spec PyProof.Rows L2

/-! ### tuples of ints -/
theorem pdL_ilist : ∀ ns : List Int, pdL (ilist ns) = some (ns.map PyData.int)
  | [] => rfl
  | n :: r => by
    show pdL (D.a (.int n) :: ilist r) = _
    unfold pdL
    rw [pdL_ilist r]
    rfl
theorem eqvAll_ints : ∀ xs ys : List Int, PyData.eqvAll (xs.map PyData.int) (ys.map PyData.int) = decide (xs = ys)
  | [], [] => rfl
  | [], _ :: _ => rfl
  | _ :: _, [] => rfl
  | x :: xs, y :: ys => by
    rw [List.map_cons, List.map_cons]
    unfold PyData.eqvAll
    rw [eqvAll_ints xs ys]
    show ((x == y) && _) = _
    by_cases h : x = y
    · subst h
      simp
    · simp [h]
theorem canLay_ints : ∀ xs : List Int, PyData.canLayAll0 (xs.map PyData.int) = true
  | [] => rfl
  | x :: r => by
    rw [List.map_cons]
    unfold PyData.canLayAll0
    rw [canLay_ints r]
    rfl
theorem depth_ints : ∀ xs : List Int, PyData.depthAll (xs.map PyData.int) = 0
  | [] => rfl
  | x :: r => by
    rw [List.map_cons]
    unfold PyData.depthAll
    rw [depth_ints r]
    rfl
theorem shaped_ints (xs : List Int) : SeqAt.shaped (.tuple (xs.map PyData.int)) = true := by
  unfold SeqAt.shaped PyData.canLay0 PyData.depth
  rw [canLay_ints, depth_ints]
  rfl
theorem dEq_ilist (xs ys : List Int) (S : Sto) : dEq (.tup (ilist xs)) (.tup (ilist ys)) S = some (.a (.bl (decide (xs = ys))), S) := by
  have h1 : ∀ xs : List Int, pdS S (.tup (ilist xs)) = some (.tuple (xs.map PyData.int)) := fun xs => by
    show pd (.tup (ilist xs)) = _
    unfold pd
    rw [pdL_ilist]
    rfl
  unfold dEq eqD
  dsimp only
  rw [h1, h1]
  dsimp only
  rw [if_pos ⟨shaped_ints _, shaped_ints _⟩]
  unfold PyData.eqv
  rw [eqvAll_ints]
  rfl
theorem ilist_get {ns : List Int} {k : Int} {v : Int} (h : atI ns k = some v) : atI (ilist ns) k = some (.a (.int v)) := by
  unfold atI at h ⊢
  rw [ilist_len]
  cases hk : ixN ns.length k with
  | none => rw [hk] at h; cases h
  | some j =>
    rw [hk] at h
    rw [Option.bind_some] at h ⊢
    unfold ilist
    rw [List.getElem?_map, h]
    rfl
theorem atI_lt {ns : List Int} {k : Nat} (h : k < ns.length) : atI ns (k : Int) = some (ns.getD k 0) := by
  rw [atI_nat h]
  simp [h]
/-- from the end -/
theorem atI_neg {ns : List Int} {k : Nat} (h0 : 0 < k) (h : k ≤ ns.length) : atI ns (-(k : Int)) = some (ns.getD (ns.length - k) 0) := by
  unfold atI ixN
  rw [if_neg (by omega), if_pos (by omega), Option.bind_some, show (-(k : Int) + (ns.length : Int)).toNat = ns.length - k by omega]
  have hl : ns.length - k < ns.length := by omega
  simp [hl]
theorem sIx_nat' (n d k : Nat) : HT.sIx n d (some (k : Int)) = min k n := HT.sIx_nat n d k
theorem cutL_map {α β : Type} (f : α → β) (xs : List α) (lo hi : Option Int) : cutL (xs.map f) lo hi = (cutL xs lo hi).map f := by
  unfold cutL
  rw [List.length_map, List.map_take, List.map_drop]
theorem cut_ilist (xs : List Int) (lo hi : Option Int) : cutL (ilist xs) lo hi = ilist (cutL xs lo hi) := cutL_map _ _ _ _
theorem cutL_take {α : Type} {xs : List α} {k : Nat} (h : k ≤ xs.length) : cutL xs none (some (k : Int)) = xs.take k := by
  unfold cutL
  rw [HT.sIx_none, HT.sIx_nat, Nat.min_eq_left h]
  simp
theorem cutL_drop {α : Type} {xs : List α} {k : Nat} (h : k ≤ xs.length) : cutL xs (some (k : Int)) none = xs.drop k := by
  unfold cutL
  rw [HT.sIx_none, HT.sIx_nat, Nat.min_eq_left h, List.take_of_length_le (by rw [List.length_drop]; omega)]
theorem cutL_mid {α : Type} {xs : List α} {k j : Nat} (h : j ≤ xs.length) (hk : k ≤ j) : cutL xs (some (k : Int)) (some (j : Int)) = (xs.drop k).take (j - k) := by
  unfold cutL
  rw [HT.sIx_nat, HT.sIx_nat, Nat.min_eq_left h, Nat.min_eq_left (by omega)]
theorem dMul_tup {xs : List D} {k : Nat} {S : Sto} (h : xs ≠ []) (h1 : 2 ≤ k) (h2 : k ≤ 1000) (h3 : xs.length ≤ 1000) : dMul (.tup xs) (.a (.int k)) S = some (.tup (List.replicate k xs).flatten, S) := by
  unfold dMul
  dsimp only
  rw [if_pos ⟨h, by omega, by omega, h3⟩, Int.toNat_natCast]
theorem flat_map {α β : Type} (f : α → β) (xs : List α) : ∀ k, (List.replicate k (xs.map f)).flatten = (List.replicate k xs).flatten.map f
  | 0 => rfl
  | k + 1 => by rw [List.replicate_succ, List.replicate_succ, List.flatten_cons, List.flatten_cons, List.map_append, flat_map f xs k]
theorem flat_ilist (xs : List Int) (k : Nat) : (List.replicate k (ilist xs)).flatten = ilist (List.replicate k xs).flatten := flat_map _ _ _
theorem dAdd_tup {xs ys : List D} {S : Sto} (h : xs.length + ys.length ≤ sizeLine) : dAdd (.tup xs) (.tup ys) S = some (.tup (xs ++ ys), S) := if_pos h
theorem ilist_app (xs ys : List Int) : ilist xs ++ ilist ys = ilist (xs ++ ys) := List.map_append.symm
theorem small_line {n : Nat} (h : n ≤ 100000) : n ≤ sizeLine := by
  rw [sizeLine_eq]
  omega
/-! ### a loop that looks for something -/
theorem forGo_find {all : List D} {i : Nat} {body : SX} {S : Sto} {env0 : Slots} (P : D → Bool) (f : D → D) : ∀ (r : List D) (x : Option D),
    (∀ d ∈ r, body (env0.set i (some d)) S = if P d = true then .rt (f d) S else .nx (env0.set i (some d)) S) →
    ∃ y, forGo none all (gN i) body r (env0.set i x) S = match r.find? P with
      | some d => .rt (f d) S
      | none => .nx (env0.set i y) S
  | [], x, _ => ⟨x, forGo_nil⟩
  | d :: r, x, h => by
    rw [forGo_cons, List.set_set, h d (List.mem_cons_self ..)]
    cases hp : P d with
    | true =>
      refine ⟨x, ?_⟩
      rw [if_pos rfl, List.find?_cons_of_pos hp]
      rfl
    | false =>
      rw [if_neg Bool.false_ne_true, List.find?_cons_of_neg (by rw [hp]; exact Bool.false_ne_true)]
      exact forGo_find P f r (some d) fun d hd => h d (List.mem_cons_of_mem _ hd)
/-! ### new cells -/
/-- cells may be new, the old ones stand -/
structure Fix (S S' : Sto) : Prop where
  len : S.length ≤ S'.length
  at_ : ∀ i, i < S.length → S'[i]? = S[i]?
theorem Fix.refl {S : Sto} : Fix S S := ⟨Nat.le_refl _, fun _ _ => rfl⟩
theorem Fix.trans {S S1 S2 : Sto} (a : Fix S S1) (b : Fix S1 S2) : Fix S S2 := ⟨Nat.le_trans a.len b.len, fun i h => (b.at_ i (Nat.lt_of_lt_of_le h a.len)).trans (a.at_ i h)⟩
theorem Fix.get {S S' : Sto} (a : Fix S S') {i : Nat} {c : Cell} (h : S[i]? = some c) : S'[i]? = some c := (a.at_ i (List.getElem?_eq_some_iff.mp h).1).trans h
theorem Fix.push {S : Sto} {l : List Cell} : Fix S (S ++ l) := ⟨by rw [List.length_append]; omega, fun i h => List.getElem?_append_left h⟩
theorem Fix.ext {S S' : Sto} {s : Nat} (a : Fix S S') : Ext s S S' := ⟨a.len, fun i h _ => a.at_ i h⟩
theorem Fix.stt {S S' : Sto} {s : Nat} (a : Fix S S') (h : Stt S s) : Stt S' s := by
  obtain ⟨c2, seed, k, rest, ns, h1, h2, h3⟩ := h
  exact ⟨c2, seed, k, rest, ns, a.get h1, a.get h2, h3⟩
theorem Fix.cut {S S' : Sto} (a : Fix S S') : S'.take S.length = S := by
  refine List.ext_getElem? fun i => ?_
  by_cases hi : i < S.length
  · rw [List.getElem?_take_of_lt hi]
    exact a.at_ i hi
  · rw [List.getElem?_eq_none (by rw [List.length_take]; omega), List.getElem?_eq_none (by omega)]
theorem new_at {S : Sto} {c : Cell} : (S ++ [c])[S.length]? = some c := by simp
/-- pure data: no cells within -/
def noC (d : D) : Prop := ∀ n, D.lo n d = true
theorem noC_atom (v : V) : noC (.a v) := fun _ => rfl
theorem loL_ilist (n : Nat) : ∀ xs : List Int, D.loL n (ilist xs) = true
  | [] => rfl
  | x :: r => by
    show (D.lo n (.a (.int x)) && D.loL n (ilist r)) = true
    rw [loL_ilist n r]
    rfl
theorem noC_ilist (xs : List Int) : noC (.tup (ilist xs)) := fun n => by
  unfold D.lo
  exact loL_ilist n xs
/-- a def's result is pure data, new cells may be dropped -/
theorem region_fixA {S S' : Sto} {d : D} (hd : noC d) (h : Fix S S') : ∃ S2, region S.length (.ok d S') = .ok d S2 ∧ Fix S S2 := by
  unfold region
  dsimp only
  split
  · rw [h.cut]
    exact ⟨S, rfl, Fix.refl⟩
  · cases d with
    | cel k =>
      have := hd 0
      unfold D.lo at this
      simp at this
    | _ => exact ⟨S', rfl, h⟩
theorem region_fixX {S S' : Sto} {c : Str} (h : Fix S S') : ∃ S2, region S.length (.exc ⟨c, []⟩ S') = .exc ⟨c, []⟩ S2 ∧ Fix S S2 := by
  unfold region
  dsimp only
  split
  · rw [h.cut]
    exact ⟨S, rfl, Fix.refl⟩
  · exact ⟨S', rfl, h⟩
/-- .. is a new cell -/
theorem region_fixB {S S' : Sto} {k : Nat} {c : Cell} (hk : S.length ≤ k) (hc : S'[k]? = some c) (h : Fix S S') : ∃ j S2, region S.length (.ok (.cel k) S') = .ok (.cel j) S2 ∧ S.length ≤ j ∧ S2[j]? = some c ∧ Fix S S2 := by
  unfold region
  dsimp only
  rw [if_neg fun z => by
    have := z.1
    unfold D.lo at this
    have := of_decide_eq_true this
    omega]
  rw [hc]
  dsimp only
  split
  · rw [h.cut]
    exact ⟨_, _, rfl, Nat.le_refl _, new_at, Fix.push⟩
  · exact ⟨k, S', rfl, hk, hc, h⟩
/-- .. where the state's cell has changed -/
theorem lo_get {n : Nat} {S : Sto} {i : Nat} {c : Cell} (h : Sto.lo S = true) (hi : S[i]? = some c) : Cell.lo S.length c = true := List.all_eq_true.mp h c (List.mem_of_getElem? hi)
theorem Stt.cut {S' : Sto} {s n : Nat} (hs : s < n) (hn : n ≤ S'.length) (hl : Sto.lo (S'.take n) = true) (h : Stt S' s) : Stt (S'.take n) s := by
  obtain ⟨c2, seed, k, rest, ns, h1, h2, h3⟩ := h
  have h1' : (S'.take n)[s]? = some (.lst [.a (.int seed), .cel c2, .a (.int k), .a (.int rest)]) := by rw [List.getElem?_take_of_lt hs]; exact h1
  have hc := lo_get (n := n) hl h1'
  have hln : (S'.take n).length = n := by rw [List.length_take]; omega
  rw [hln] at hc
  have hc2 : c2 < n := by
    unfold Cell.lo at hc
    simp [D.loL, D.lo] at hc
    exact hc
  exact ⟨c2, seed, k, rest, ns, h1', by rw [List.getElem?_take_of_lt hc2]; exact h2, h3⟩
theorem Ext.cut {S S' : Sto} {s : Nat} (a : Ext s S S') : Ext s S (S'.take S.length) := ⟨by rw [List.length_take]; have := a.len; omega, fun i hi n => by rw [List.getElem?_take_of_lt hi]; exact a.at_ i hi n⟩
theorem region_extA {S S' : Sto} {s : Nat} {d : D} (hd : noC d) (hs : s < S.length) (h : Ext s S S') (ht : Stt S' s) : ∃ S2, region S.length (.ok d S') = .ok d S2 ∧ Ext s S S2 ∧ Stt S2 s := by
  unfold region
  dsimp only
  split
  · rename_i hb
    exact ⟨_, rfl, h.cut, ht.cut hs h.len hb.2⟩
  · cases d with
    | cel k =>
      have := hd 0
      unfold D.lo at this
      simp at this
    | _ => exact ⟨S', rfl, h, ht⟩
theorem region_extB {S S' : Sto} {s k : Nat} {c : Cell} (hk : S.length ≤ k) (hc : S'[k]? = some c) (hs : s < S.length) (h : Ext s S S') (ht : Stt S' s) : ∃ j S2, region S.length (.ok (.cel k) S') = .ok (.cel j) S2 ∧ S.length ≤ j ∧ S2[j]? = some c ∧ Ext s S S2 ∧ Stt S2 s := by
  unfold region
  dsimp only
  rw [if_neg fun z => by
    have := z.1
    unfold D.lo at this
    have := of_decide_eq_true this
    omega]
  rw [hc]
  dsimp only
  split
  · rename_i hb
    have hl : (S'.take S.length).length = S.length := by rw [List.length_take]; have := h.len; omega
    have e : (S'.take S.length ++ [c])[S.length]? = some c := by
      have := new_at (S := S'.take S.length) (c := c)
      rw [hl] at this
      exact this
    exact ⟨_, _, rfl, Nat.le_refl _, e, h.cut.trans Fix.push.ext, Fix.push.stt (ht.cut hs h.len hb.2.2.1)⟩
  · exact ⟨k, S', rfl, hk, hc, h, ht⟩
theorem Stt.lt {S : Sto} {s : Nat} (h : Stt S s) : s < S.length := by
  obtain ⟨c2, seed, k, rest, ns, h1, _⟩ := h
  exact (List.getElem?_eq_some_iff.mp h1).1
/-! defs by what their bodies do -/
/-- the result is pure, cells may be new -/
def FixA (S : Sto) (Q : D → Prop) : D → Sto → Prop := fun d S' => Q d ∧ noC d ∧ Fix S S'
def FixB (S : Sto) (Q : Cell → Prop) : D → Sto → Prop := fun d S' => ∃ k c, d = .cel k ∧ S.length ≤ k ∧ S'[k]? = some c ∧ Q c ∧ Fix S S'
def ExtA (s : Nat) (S : Sto) (Q : D → Prop) : D → Sto → Prop := fun d S' => Q d ∧ noC d ∧ Ext s S S' ∧ Stt S' s
def ExtB (s : Nat) (S : Sto) (Q : Cell → Prop) : D → Sto → Prop := fun d S' => ∃ k c, d = .cel k ∧ S.length ≤ k ∧ S'[k]? = some c ∧ Q c ∧ Ext s S S' ∧ Stt S' s
section
variable {n N s : Nat} {b : SX} {ds : List D} {S : Sto} {Q : D → Prop} {Qc : Cell → Prop}
theorem def_fixA (h : ds.length = n) (hb : RtP (FixA S Q) (b (ds.map some ++ List.replicate (N - ds.length) none) S)) : OkP (FixA S Q) (defSem n N b ds S) := by
  rw [defSem_eq h]
  obtain ⟨d, S', e, h1, h2, h3⟩ := hb.body.get
  obtain ⟨S2, e2, h4⟩ := region_fixA h2 h3
  rw [e, e2]
  exact ⟨h1, h2, h4⟩
theorem def_fixB (h : ds.length = n) (hb : RtP (FixB S Qc) (b (ds.map some ++ List.replicate (N - ds.length) none) S)) : OkP (FixB S Qc) (defSem n N b ds S) := by
  rw [defSem_eq h]
  obtain ⟨d, S', e, k, c, rfl, h1, h2, h3, h4⟩ := hb.body.get
  obtain ⟨j, S2, e2, h5, h6, h7⟩ := region_fixB h1 h2 h4
  rw [e, e2]
  exact ⟨j, c, rfl, h5, h6, h3, h7⟩
theorem def_extA (h : ds.length = n) (hs : s < S.length) (hb : RtP (ExtA s S Q) (b (ds.map some ++ List.replicate (N - ds.length) none) S)) : OkP (ExtA s S Q) (defSem n N b ds S) := by
  rw [defSem_eq h]
  obtain ⟨d, S', e, h1, h2, h3, h4⟩ := hb.body.get
  obtain ⟨S2, e2, h5, h6⟩ := region_extA h2 hs h3 h4
  rw [e, e2]
  exact ⟨h1, h2, h5, h6⟩
theorem def_extB (h : ds.length = n) (hs : s < S.length) (hb : RtP (ExtB s S Qc) (b (ds.map some ++ List.replicate (N - ds.length) none) S)) : OkP (ExtB s S Qc) (defSem n N b ds S) := by
  rw [defSem_eq h]
  obtain ⟨d, S', e, k, c, rfl, h1, h2, h3, h4, h5⟩ := hb.body.get
  obtain ⟨j, S2, e2, h6, h7, h8, h9⟩ := region_extB h1 h2 hs h4 h5
  rw [e, e2]
  exact ⟨j, c, rfl, h6, h7, h3, h8, h9⟩
end
/-! ### _law_start -/
noncomputable def bStart : SX :=
 (sSeq (sSet 1 (eC (.a (.int (7)))))
 (sSeq (sFor (iR1 (eCallB dLen (aCons (eVar 0) aNil))) (gN 2)
 (sSeq (sSet 1 (eBin dMod (eBin dAdd (eBin dAdd (eBin dAdd (eBin dMul (eVar 1) (eC (.a (.int (48271))))) (eBin dMod (eCallB dInt (aCons (eBin dIx (eVar 0) (eVar 2)) aNil)) (eC (.a (.int (2147483647)))))) (eVar 2)) (eC (.a (.int (1))))) (eC (.a (.int (2147483647))))))
 sNil))
 (sSeq (sRet (eOfL (aCons (eVar 1) (aCons (eOfL (aListOf (eVar 0))) (aCons (eC (.a (.int (0)))) (aCons (eC (.a (.int (0)))) aNil))))))
 sNil)))
theorem start_spec (ns : List Int) (h : ns.length ≤ 63) : ∃ S' s, defSem 1 3 bStart [.ils (ilist ns)] [] = .ok (.cel s) S' ∧ Stt S' s := by
  have m1 : ∀ (i : Int) (S : Sto), dMod (.a (.int i)) (.a (.int 2147483647)) S = some (.a (.int (i % 2147483647)), S) := fun i S => dMod_pos (by decide)
  have m2 : ∀ (i : Int) (S : Sto), dMul (.a (.int i)) (.a (.int 48271)) S = some (.a (.int (i * 48271)), S) := fun i S => dMul_int S (.inr ⟨by decide, by decide⟩)
  obtain ⟨r, hr, hf⟩ : ∃ r, bStart [some (.ils (ilist ns)), none, none] [] = r ∧ RtP (fun d S' => ∃ s seed, d = .cel s ∧ S' = [.lst (ilist ns), .lst [.a (.int seed), .cel 0, .a (.int 0), .a (.int 0)]] ∧ s = 1) r := by
    refine ⟨_, rfl, ?_⟩
    have loop : ∀ body : SX, (∀ (seed : Int) (y : Option D) (j : Nat), j < ns.length → ∃ seed', body ([some (.ils (ilist ns)), some (.a (.int seed)), y].set 2 (some (.a (.int (j : Int))))) [] = .nx [some (.ils (ilist ns)), some (.a (.int seed')), some (.a (.int (j : Int)))] []) →
        ∀ seed : Int, ∃ seed2 y, forGo none (rangeL 0 ns.length) (gN 2) body (rangeL 0 ns.length) [some (.ils (ilist ns)), some (.a (.int seed)), none] [] = SR.nx [some (.ils (ilist ns)), some (.a (.int seed2)), y] [] := fun body hb seed => by
      refine forGo_inv (body := body) (all := rangeL 0 ns.length) (i := 2) (Q := fun r => ∃ seed y, r = SR.nx [some (.ils (ilist ns)), some (.a (.int seed)), y] []) (fun j env S => ∃ seed y, env = [some (.ils (ilist ns)), some (.a (.int seed)), y] ∧ S = []) (rangeL 0 ns.length) 0 _ _ ⟨seed, none, rfl, rfl⟩ ?_ ?_
      · rintro j d env S hd ⟨seed, y, rfl, rfl⟩
        obtain ⟨hj, rfl⟩ := rangeL_get hd
        obtain ⟨seed', hs⟩ := hb seed y j hj
        rw [Int.zero_add]
        exact .inl ⟨_, _, .inl hs, seed', _, rfl, rfl⟩
      · rintro env S ⟨seed, y, rfl, rfl⟩
        exact ⟨seed, y, rfl⟩
    have hr := iR1R_nat (n := ns.length) ([] : Sto) (by omega)
    simp only [bStart, sSeq_eq, sSet_eq, eC_eq, setR_ok, sq_nx, sFor_eq, iR1_eq, eCallB_eq, aCons_eq, eVar_eq, List.set_cons_succ, List.set_cons_zero, List.getElem?_cons_zero, varR_some, aNil_eq, cons1_ok, cons2_ok, cbR_ok, dLen_ils, ilist_len, ofO_some, hr, forR_ok]
    generalize hB : (sSeq (sSet 1 (eBin dMod (eBin dAdd (eBin dAdd (eBin dAdd (eBin dMul (eVar 1) (eC (.a (.int (48271))))) (eBin dMod (eCallB dInt (aCons (eBin dIx (eVar 0) (eVar 2)) aNil)) (eC (.a (.int (2147483647)))))) (eVar 2)) (eC (.a (.int (1))))) (eC (.a (.int (2147483647)))))) sNil) = B
    obtain ⟨seed, y, hl⟩ := loop B (fun seed y j hj => ⟨(seed * 48271 + (ns.getD j 0) % 2147483647 + j + 1) % 2147483647, by
      subst hB
      simp [ilist_get (atI_lt hj), m1, m2]⟩) 7
    rw [hl]
    have hal : aListOf (eVar 0) [some (.ils (ilist ns)), some (.a (.int seed)), y] [] = .ok (ilist ns) [] := rfl
    simp [hal]
  have hg := RtP.body hf
  obtain ⟨d, S', e, hp⟩ := OkP.get hg
  obtain ⟨s, seed, h1, h2, h3⟩ := hp
  subst h1 h2 h3
  have e := (congrArg bodyR hr).trans e
  rw [defSem_eq (n := 1) (ds := [_]) rfl]
  have er : region 0 (.ok (.cel 1) [.lst (ilist ns), .lst [.a (.int seed), .cel 0, .a (.int 0), .a (.int 0)]]) = .ok (.cel 1) [.lst (ilist ns), .lst [.a (.int seed), .cel 0, .a (.int 0), .a (.int 0)]] := by
    unfold region
    simp [D.lo, Cell.lo, D.loL]
  exact ⟨[.lst (ilist ns), .lst [.a (.int seed), .cel 0, .a (.int 0), .a (.int 0)]], 1, (congrArg (region 0) e).trans er, 0, seed, 0, 0, ns, by simp, by simp, by decide, by decide, by decide⟩
end G
set_option maxRecDepth 100000
set_option exponentiation.threshold 600
/-! The plain layer H, part 3: loops that run to their end. -/
namespace G
open PySem PySem.Spec PyProof.Rows L2
theorem forGo_nxG {all : List D} {i : Nat} {body : SX} (Inv : Nat → Slots → Sto → Prop) : ∀ (r : List D) (n : Nat) (env : Slots) (S : Sto), Inv n env S →
    (∀ j d env S, r[j]? = some d → Inv (n + j) env S → ∃ env' S', body (env.set i (some d)) S = .nx env' S' ∧ Inv (n + j + 1) env' S') →
    ∃ env' S', forGo none all (gN i) body r env S = .nx env' S' ∧ Inv (n + r.length) env' S'
  | [], n, env, S, h0, _ => ⟨env, S, forGo_nil, h0⟩
  | d :: r, n, env, S, h0, hs => by
    obtain ⟨env1, S1, hb, hi⟩ := hs 0 d env S (by simp) h0
    obtain ⟨env2, S2, h2, hi2⟩ := forGo_nxG (all := all) (i := i) (body := body) Inv r (n + 1) env1 S1 hi fun j d' env S hd hi => by
      have := hs (j + 1) d' env S (by simpa using hd) (by rw [← Nat.add_assoc]; rwa [show n + j + 1 = n + 1 + j by omega])
      rwa [show n + (j + 1) + 1 = n + 1 + j + 1 by omega] at this
    refine ⟨env2, S2, ?_, ?_⟩
    · rw [forGo_cons, hb]; exact h2
    · rw [List.length_cons]
      rwa [show n + (r.length + 1) = n + 1 + r.length by omega]
/-- each turn goes on -/
theorem forGo_nx {all : List D} {i : Nat} {body : SX} {r : List D} {env : Slots} {S : Sto} (Inv : Nat → Slots → Sto → Prop) (h0 : Inv 0 env S)
    (hs : ∀ j d env S, r[j]? = some d → Inv j env S → ∃ env' S', body (env.set i (some d)) S = .nx env' S' ∧ Inv (j + 1) env' S') :
    ∃ env' S', forGo none all (gN i) body r env S = .nx env' S' ∧ Inv r.length env' S' := by
  have := forGo_nxG (all := all) (i := i) (body := body) Inv r 0 env S h0 fun j d env S hd hi => by
    rw [Nat.zero_add] at hi ⊢
    exact hs j d env S hd hi
  rwa [Nat.zero_add] at this
end G
set_option maxRecDepth 100000
set_option exponentiation.threshold 600
/-! The plain layer H, part 4: a body statement by statement. -/
namespace G
open PySem PySem.Spec PyProof.Rows L2
section
variable {P : D → Sto → Prop} {f fv fo fi : EX} {g a b : SX} {c : BX} {env env' : Slots} {S S1 S2 S3 S4 S' : Sto} {d v o i : D} {n : Nat}
theorem st_set (h : f env S = .ok d S') (k : RtP P (g (env.set n (some d)) S')) : RtP P (sSeq (sSet n f) g env S) := by
  rw [sSeq_eq, sSet_eq, h, setR_ok, sq_nx]
  exact k
theorem st_ret (h : f env S = .ok d S') (k : P d S') : RtP P (sSeq (sRet f) g env S) := by
  rw [sSeq_eq, sRet_eq, h, retR_ok, sq_rt]
  exact k
theorem sq_assoc {r : SR} : (r.sq a).sq g = r.sq (sSeq a g) := by
  cases r <;> rfl
theorem st_seq (k : RtP P (sSeq a (sSeq b g) env S)) : RtP P (sSeq (sSeq a b) g env S) := by
  rw [sSeq_eq, sSeq_eq, sq_assoc]
  exact k
theorem st_nil (k : RtP P (g env S)) : RtP P (sSeq sNil g env S) := k
theorem st_ift (h : c env S = .ok true S') (k : RtP P (sSeq a g env S')) : RtP P (sSeq (sIf c a b) g env S) := by
  rw [sSeq_eq, sIf_eq, h, ifR_t]
  exact k
theorem st_iff (h : c env S = .ok false S') (k : RtP P (sSeq b g env S')) : RtP P (sSeq (sIf c a b) g env S) := by
  rw [sSeq_eq, sIf_eq, h, ifR_f]
  exact k
theorem st_put (hv : fv env S = .ok v S1) (ho : fo env S1 = .ok o S2) (hi : fi env S2 = .ok i S3) (hp : dPut o i v S3 = some S4) (k : RtP P (g env S4)) : RtP P (sSeq (sPut fv fo fi) g env S) := by
  rw [sSeq_eq, sPut_eq, hv, put1_ok, ho, put2_ok, hi, put3_ok, hp, nxS_some, sq_nx]
  exact k
theorem st_asg {t : TgX} (h : f env S = .ok d S1) (ht : t d env S1 = some (env', S')) (k : RtP P (g env' S')) : RtP P (sSeq (sAsg f t) g env S) := by
  rw [sSeq_eq, sAsg_eq, h, asgR_ok, ht, nxO_some, sq_nx]
  exact k
theorem st_do (h : f env S = .ok d S') (k : RtP P (g env S')) : RtP P (sSeq (sDo f) g env S) := by
  rw [sSeq_eq, sDo_eq, h, doR_ok, sq_nx]
  exact k
theorem st_for {it : IX} {t : TgX} {ds : List D} {gg : Option Nat} (h : it env S = .ok (ds, gg) S1) (hl : forGo gg ds t b ds env S1 = .nx env' S') (k : RtP P (g env' S')) : RtP P (sSeq (sFor it t b) g env S) := by
  rw [sSeq_eq, sFor_eq, h, forR_ok, hl, sq_nx]
  exact k
end
/-! drawing -/
theorem dAdd_lst {i j : Nat} {xs ys : List D} {S : Sto} (hi : S[i]? = some (.lst xs)) (hj : S[j]? = some (.lst ys)) (h : xs.length + ys.length ≤ sizeLine) : dAdd (.cel i) (.cel j) S = some (.cel S.length, S ++ [.lst (xs ++ ys)]) := by
  unfold dAdd
  dsimp only
  rw [hi, hj]
  dsimp only
  rw [if_pos h]
theorem dMul_lst {i : Nat} {xs : List D} {k : Nat} {S : Sto} (hi : S[i]? = some (.lst xs)) (hk : k ≤ 100000) (h : xs.length * k ≤ sizeLine) : dMul (.cel i) (.a (.int k)) S = some (.cel S.length, S ++ [.lst (List.replicate k xs).flatten]) := by
  unfold dMul
  dsimp only
  rw [hi]
  dsimp only
  rw [if_pos ⟨by omega, by omega, by rw [Int.toNat_natCast]; exact h⟩, Int.toNat_natCast]
theorem dCut_lst {i : Nat} {xs : List D} {lo hi : Option Int} {S : Sto} (h : S[i]? = some (.lst xs)) : dCut (.cel i) lo hi S = some (.cel S.length, S ++ [.lst (cutL xs lo hi)]) := by
  unfold dCut
  dsimp only
  rw [h]
theorem dMul_tup1 {xs : List D} {S : Sto} : dMul (.tup xs) (.a (.int 1)) S = some (.tup xs, S) := by
  unfold dMul
  dsimp only
  rw [if_neg (by omega), if_pos rfl]
/-- a tuple by k, 1 ≤ k -/
theorem dMul_tupG {xs : List D} {k : Nat} {S : Sto} (h : xs ≠ []) (h1 : 1 ≤ k) (h2 : k ≤ 1000) (h3 : xs.length ≤ 1000) : dMul (.tup xs) (.a (.int k)) S = some (.tup (List.replicate k xs).flatten, S) := by
  by_cases hk : k = 1
  · subst hk
    have := dMul_tup1 (xs := xs) (S := S)
    simpa using this
  · exact dMul_tup h (by omega) h2 h3
/-- items that are ints -/
theorem ilist_of {P : Int → Prop} : ∀ {xs : List D}, (∀ x ∈ xs, ∃ z, x = .a (.int z) ∧ P z) → ∃ zs, xs = ilist zs ∧ ∀ z ∈ zs, P z
  | [], _ => ⟨[], rfl, fun _ h => nomatch h⟩
  | x :: r, h => by
    obtain ⟨z, rfl, hz⟩ := h x (List.mem_cons_self ..)
    obtain ⟨zs, rfl, hzs⟩ := ilist_of fun x hx => h x (List.mem_cons_of_mem _ hx)
    exact ⟨z :: zs, rfl, fun y hy => (List.mem_cons.mp hy).elim (fun e => e ▸ hz) (hzs y)⟩
/-- a draw, the limit being what f gives -/
theorem pickE {F : List D → Sto → R D} {f : EX} {env : Slots} {s i : Nat} {L : Int} {S S1 : Sto} (hF : F = defSem 2 5 bPick) (he : env[i]? = some (some (.cel s))) (hf : f env S = .ok (.a (.int L)) S1) (h : Stt S1 s) (h0 : 0 < L) (h1 : L < 2 ^ 300) :
    ∃ v S', eCall F [] (aCons (eVar i) (aCons f aNil)) env S = .ok (.a (.int v)) S' ∧ 0 ≤ v ∧ v < L ∧ Stt S' s ∧ S'.length = S1.length ∧ Ext s S1 S' := by
  obtain ⟨d, S', e, v, rfl, hv⟩ := (pick_spec h h0 h1).get
  refine ⟨v, S', ?_, hv⟩
  subst hF
  simp [he, hf]
  exact e
theorem at3 {x y z : D} {v : Int} (h0 : 0 ≤ v) (h1 : v < 3) : atI [x, y, z] v = some x ∨ atI [x, y, z] v = some y ∨ atI [x, y, z] v = some z := by
  have : v = 0 ∨ v = 1 ∨ v = 2 := by omega
  rcases this with rfl | rfl | rfl
  · exact .inl rfl
  · exact .inr (.inl rfl)
  · exact .inr (.inr rfl)
/-- one of three -/
theorem choose3 {F : List D → Sto → R D} {fl : AX} {env : Slots} {s i : Nat} {x y z : D} {S : Sto} (hF : F = defSem 2 5 bPick) (he : env[i]? = some (some (.cel s))) (hl : fl env S = .ok [x, y, z] S) (h : Stt S s) :
    ∃ t S', eIxL fl (eCall F [] (aCons (eVar i) (aCons (eC (.a (.int (3)))) aNil))) env S = .ok t S' ∧ (t = x ∨ t = y ∨ t = z) ∧ Stt S' s ∧ S'.length = S.length ∧ Ext s S S' := by
  obtain ⟨v, S', e, h0, h1, h2⟩ := pickE (f := eC (.a (.int (3)))) (L := 3) hF he rfl h (by decide) (by decide)
  rw [eIxL_eq, hl, ixL1_ok, e, ixL2_ok]
  rcases at3 (x := x) (y := y) (z := z) h0 h1 with q | q | q
  · exact ⟨x, S', by rw [q]; rfl, .inl rfl, h2⟩
  · exact ⟨y, S', by rw [q]; rfl, .inr (.inl rfl), h2⟩
  · exact ⟨z, S', by rw [q]; rfl, .inr (.inr rfl), h2⟩
/-- a list of draws -/
theorem drawn {F : List D → Sto → R D} {f : EX} {all : List D} {env : Slots} {s i j : Nat} {L : Int} {S : Sto} (hF : F = defSem 2 5 bPick) (hij : i ≠ j) (he : env[i]? = some (some (.cel s))) (hf : ∀ d S, f (env.set j (some d)) S = .ok (.a (.int L)) S) (h : Stt S s) (h0 : 0 < L) (h1 : L < 2 ^ 300) (r : List D) :
    ∃ zs S', lcGo none all (gN j) tTrue (eCall F [] (aCons (eVar i) (aCons f aNil))) env r S = .ok (ilist zs) S' ∧ zs.length = r.length ∧ (∀ z ∈ zs, 0 ≤ z ∧ z < L) ∧ Stt S' s ∧ S'.length = S.length ∧ Ext s S S' := by
  obtain ⟨xs, S', e, ⟨h2, h3, h4⟩, hl, hq⟩ := lcGo_inv (all := all) (i := j) (elt := eCall F [] (aCons (eVar i) (aCons f aNil))) (env := env) (fun S' => Stt S' s ∧ S'.length = S.length ∧ Ext s S S') (fun x => ∃ z, x = .a (.int z) ∧ 0 ≤ z ∧ z < L) r S ⟨h, rfl, Ext.refl⟩ fun d _ S1 ⟨i1, i2, i3⟩ => by
    obtain ⟨v, S2, e, g0, g1, g2, g3, g4⟩ := pickE (f := f) (env := env.set j (some d)) (i := i) (s := s) hF (by rw [List.getElem?_set_ne (Ne.symm hij)]; exact he) (hf d S1) i1 h0 h1
    exact ⟨_, S2, e, ⟨g2, g3.trans i2, i3.trans g4⟩, v, rfl, g0, g1⟩
  obtain ⟨zs, rfl, hz⟩ := ilist_of hq
  exact ⟨zs, S', e, by rw [← hl, ilist_len], hz, h2, h3, h4⟩
end G
set_option maxRecDepth 100000
set_option exponentiation.threshold 600
/-! The plain layer H, part 5: lists that are drawn. -/
namespace G
open PySem PySem.Spec PyProof.Rows L2
theorem st_nx {P : D → Sto → Prop} {f g : SX} {env env' : Slots} {S S' : Sto} (h : f env S = .nx env' S') (k : RtP P (g env' S')) : RtP P (sSeq f g env S) := by
  rw [sSeq_eq, h, sq_nx]
  exact k
theorem getD_eq' (c : List Int) (i : Nat) : c.getD i 0 = (c[i]?).getD 0 := by simp [List.getD]
/-- [pick(state, L) for j in range(n)], a new list -/
theorem drawList {F : List D → Sto → R D} {eA f : EX} {env : Slots} {s i j n : Nat} {L : Int} {S S1 : Sto} {vs : List Nat} (hF : F = defSem 2 5 bPick) (hij : i ≠ j) (he : (wipeS env vs)[i]? = some (some (.cel s))) (hA : eA env S = .ok (.a (.int (n : Nat))) S1) (hn : n ≤ 100000)
    (hf : ∀ d S, f ((wipeS env vs).set j (some d)) S = .ok (.a (.int L)) S) (h : Stt S1 s) (h0 : 0 < L) (h1 : L < 2 ^ 300) :
    ∃ zs S2, eOfL (aLc (iR1 eA) (gN j) vs tTrue (eCall F [] (aCons (eVar i) (aCons f aNil)))) env S = .ok (.cel S1.length) S2 ∧ S2[S1.length]? = some (.lst (ilist zs)) ∧ zs.length = n ∧ (∀ z ∈ zs, 0 ≤ z ∧ z < L) ∧ Stt S2 s ∧ S2.length = S1.length + 1 ∧ Ext s S1 S2 := by
  obtain ⟨zs, S2, e, hl, hz, q, l, x⟩ := drawn (all := rangeL 0 n) hF hij he hf h h0 h1 (rangeL 0 n)
  refine ⟨zs, S2 ++ [.lst (ilist zs)], ?_, by rw [← l]; exact new_at, by rw [hl, rangeL_len], hz, Fix.push.stt q, by rw [List.length_append, l]; rfl, x.trans Fix.push.ext⟩
  rw [eOfL_eq, aLc_eq, iR1_eq, hA, iR1R_nat _ (by omega), lcR_rng (small_line hn), e, ofLR_ok, l]
/-- pick(state, one of three) -/
theorem pick3E {F : List D → Sto → R D} {fl : AX} {env : Slots} {s i : Nat} {x y z : Int} {S : Sto} (hF : F = defSem 2 5 bPick) (he : env[i]? = some (some (.cel s))) (hl : fl env S = .ok [.a (.int x), .a (.int y), .a (.int z)] S) (h : Stt S s) {B : Int} (hx : 0 < x ∧ x ≤ B) (hy : 0 < y ∧ y ≤ B) (hz : 0 < z ∧ z ≤ B) (hB : B < 2 ^ 300) :
    ∃ (v : Nat) (S' : Sto), eCall F [] (aCons (eVar i) (aCons (eIxL fl (eCall F [] (aCons (eVar i) (aCons (eC (.a (.int (3)))) aNil)))) aNil)) env S = .ok (.a (.int (v : Nat))) S' ∧ (v : Int) < B ∧ Stt S' s ∧ S'.length = S.length ∧ Ext s S S' := by
  obtain ⟨t, S1, e1, ht, q1, l1, x1⟩ := choose3 hF he hl h
  obtain ⟨w, rfl, hw⟩ : ∃ w, t = .a (.int w) ∧ 0 < w ∧ w ≤ B := by
    rcases ht with rfl | rfl | rfl
    · exact ⟨x, rfl, hx⟩
    · exact ⟨y, rfl, hy⟩
    · exact ⟨z, rfl, hz⟩
  obtain ⟨v, S2, e2, g0, g1, q2, l2, x2⟩ := pickE hF he e1 q1 hw.1 (by omega)
  obtain ⟨m, rfl⟩ := Int.eq_ofNat_of_zero_le g0
  exact ⟨m, S2, e2, by omega, q2, l2.trans l1, x1.trans x2⟩
/-- at = pick(state, len(xs)); xs[at] = int(xs[at] + 1) % top -/
theorem bump {F : List D → Sto → R D} {env : Slots} {s a t ci ti : Nat} {top : Int} {xs : List Int} {S : Sto} (hF : F = defSem 2 5 bPick) (he0 : env[0]? = some (some (.cel s))) (he1 : env[ti]? = some (some (.a (.int top)))) (hea : env[a]? = some (some (.cel ci))) (hat : a ≠ t) (ht0 : t ≠ 0) (ht1 : ti ≠ t) (hl4 : t < env.length)
    (hx : S[ci]? = some (.lst (ilist xs))) (hne : xs ≠ []) (hxl : xs.length ≤ 100000) (hci : ci ≠ s) (ht : 0 < top) (h : Stt S s) :
    ∃ (v : Nat) (S' : Sto), sSeq (sSet t (eCall F [] (aCons (eVar 0) (aCons (eCallB dLen (aCons (eVar a) aNil)) aNil)))) (sSeq (sPut (eBin dMod (eCallB dInt (aCons (eBin dAdd (eBin dIx (eVar a) (eVar t)) (eC (.a (.int (1))))) aNil)) (eVar ti)) (eVar a) (eVar t)) sNil) env S = .nx (env.set t (some (.a (.int (v : Nat))))) S' ∧
      v < xs.length ∧ S'[ci]? = some (.lst (ilist (xs.set v ((xs.getD v 0 + 1) % top)))) ∧ Stt S' s ∧ S'.length = S.length ∧ (∀ i, i < S.length → i ≠ s → i ≠ ci → S'[i]? = S[i]?) := by
  have hl : (0 : Int) < xs.length := by have := List.length_pos_iff.mpr hne; omega
  obtain ⟨v, S1, e, g0, g1, q, l, x⟩ := pickE (S := S) (S1 := S) (f := eCallB dLen (aCons (eVar a) aNil)) (L := xs.length) hF he0 (by simp [hea, dLen_lst hx]) h hl (by omega)
  obtain ⟨m, rfl⟩ := Int.eq_ofNat_of_zero_le g0
  have hm : m < xs.length := by omega
  have hx1 := x.get hx hci
  have f0 : (env.set t (some (.a (.int (m : Nat)))))[a]? = some (some (.cel ci)) := by rw [List.getElem?_set_ne (Ne.symm hat)]; exact hea
  have f1 : (env.set t (some (.a (.int (m : Nat)))))[ti]? = some (some (.a (.int top))) := by rw [List.getElem?_set_ne (Ne.symm ht1)]; exact he1
  have f2 : (env.set t (some (.a (.int (m : Nat)))))[t]? = some (some (.a (.int (m : Nat)))) := List.getElem?_set_self hl4
  have hp : dPut (.cel ci) (.a (.int (m : Nat))) (.a (.int ((xs.getD m 0 + 1) % top))) S1 = some (S1.set ci (.lst (ilist (xs.set m ((xs.getD m 0 + 1) % top))))) := by
    rw [dPut_lst hx1 (by rw [ilist_len]; exact hm)]
    congr 3
    exact List.map_set.symm
  have hcl : ci < S1.length := (List.getElem?_eq_some_iff.mp hx1).1
  refine ⟨m, S1.set ci (.lst (ilist (xs.set m ((xs.getD m 0 + 1) % top)))), ?_, hm, List.getElem?_set_self hcl, ?_, by rw [List.length_set, l], fun i hi h1 h2 => ?_⟩
  · have hg := ilist_get (atI_lt hm)
    generalize xs.getD m 0 = y at hp hg ⊢
    generalize hS2 : S1.set ci (.lst (ilist (xs.set m ((y + 1) % top)))) = S2 at hp ⊢
    rw [sSeq_eq, sSet_eq, e, setR_ok, sq_nx, sSeq_eq, sPut_eq]
    have hv : eBin dMod (eCallB dInt (aCons (eBin dAdd (eBin dIx (eVar a) (eVar t)) (eC (.a (.int (1))))) aNil)) (eVar ti) (env.set t (some (.a (.int (m : Nat))))) S1 = .ok (.a (.int ((y + 1) % top))) S1 := by
      simp only [eBin_eq, eCallB_eq, aCons_eq, eVar_eq, f0, f1, f2, varR_some, bin1_ok, bin2_ok, dIx_lst hx1, hg, Option.map_some, ofO_some, eC_eq, dAdd_int, cons1_ok, aNil_eq, cons2_ok, cbR_ok, dInt_int, dMod_pos ht]
    rw [hv, put1_ok, eVar_eq, f0, varR_some, put2_ok, eVar_eq, f2, varR_some, put3_ok, hp, nxS_some, sq_nx, sNil_eq]
  · obtain ⟨c2, seed, k, rest, ns, h1, h2, h3, h4⟩ := q
    by_cases hc2 : c2 = ci
    · subst hc2
      exact ⟨c2, seed, k, rest, _, by rw [List.getElem?_set_ne (Ne.symm h3)]; exact h1, List.getElem?_set_self hcl, h3, h4⟩
    · exact ⟨c2, seed, k, rest, ns, by rw [List.getElem?_set_ne hci]; exact h1, by rw [List.getElem?_set_ne (Ne.symm hc2)]; exact h2, h3, h4⟩
  · rw [List.getElem?_set_ne (Ne.symm h2)]
    exact x.at_ i hi h1
end G
set_option maxRecDepth 100000
set_option exponentiation.threshold 600
/-! The plain layer H, part 6: a block statement by statement, whatever is asked of its end. -/
namespace G
open PySem PySem.Spec PyProof.Rows L2
section
variable {Q : SR → Prop} {f fv fo fi : EX} {g a b : SX} {c : BX} {env env' : Slots} {S S1 S2 S3 S4 S' : Sto} {d v o i : D} {n : Nat}
theorem q_set (h : f env S = .ok d S') (k : Q (g (env.set n (some d)) S')) : Q (sSeq (sSet n f) g env S) := by
  rw [sSeq_eq, sSet_eq, h, setR_ok, sq_nx]
  exact k
theorem q_ret (h : f env S = .ok d S') (k : Q (.rt d S')) : Q (sSeq (sRet f) g env S) := by
  rw [sSeq_eq, sRet_eq, h, retR_ok, sq_rt]
  exact k
theorem q_seq (k : Q (sSeq a (sSeq b g) env S)) : Q (sSeq (sSeq a b) g env S) := by
  rw [sSeq_eq, sSeq_eq, sq_assoc]
  exact k
theorem q_nil (k : Q (g env S)) : Q (sSeq sNil g env S) := k
theorem q_ift (h : c env S = .ok true S') (k : Q (sSeq a g env S')) : Q (sSeq (sIf c a b) g env S) := by
  rw [sSeq_eq, sIf_eq, h, ifR_t]
  exact k
theorem q_iff (h : c env S = .ok false S') (k : Q (sSeq b g env S')) : Q (sSeq (sIf c a b) g env S) := by
  rw [sSeq_eq, sIf_eq, h, ifR_f]
  exact k
theorem q_put (hv : fv env S = .ok v S1) (ho : fo env S1 = .ok o S2) (hi : fi env S2 = .ok i S3) (hp : dPut o i v S3 = some S4) (k : Q (g env S4)) : Q (sSeq (sPut fv fo fi) g env S) := by
  rw [sSeq_eq, sPut_eq, hv, put1_ok, ho, put2_ok, hi, put3_ok, hp, nxS_some, sq_nx]
  exact k
theorem q_asg {t : TgX} (h : f env S = .ok d S1) (ht : t d env S1 = some (env', S')) (k : Q (g env' S')) : Q (sSeq (sAsg f t) g env S) := by
  rw [sSeq_eq, sAsg_eq, h, asgR_ok, ht, nxO_some, sq_nx]
  exact k
theorem q_do (h : f env S = .ok d S') (k : Q (g env S')) : Q (sSeq (sDo f) g env S) := by
  rw [sSeq_eq, sDo_eq, h, doR_ok, sq_nx]
  exact k
theorem q_nx {f : SX} (h : f env S = .nx env' S') (k : Q (g env' S')) : Q (sSeq f g env S) := by
  rw [sSeq_eq, h, sq_nx]
  exact k
theorem q_for {it : IX} {t : TgX} {ds : List D} {gg : Option Nat} (h : it env S = .ok (ds, gg) S1) (hl : forGo gg ds t b ds env S1 = .nx env' S') (k : Q (g env' S')) : Q (sSeq (sFor it t b) g env S) := by
  rw [sSeq_eq, sFor_eq, h, forR_ok, hl, sq_nx]
  exact k
end
/-- the block goes on, and what holds then -/
def NxP (P : Slots → Sto → Prop) : SR → Prop
  | .nx env S => P env S
  | _ => False
theorem NxP.get {P : Slots → Sto → Prop} {r : SR} (h : NxP P r) : ∃ env S, r = .nx env S ∧ P env S := by
  cases r with
  | nx env S => exact ⟨env, S, rfl, h⟩
  | _ => exact h.elim
theorem at4 {x y z u : D} {v : Int} (h0 : 0 ≤ v) (h1 : v < 4) : atI [x, y, z, u] v = some x ∨ atI [x, y, z, u] v = some y ∨ atI [x, y, z, u] v = some z ∨ atI [x, y, z, u] v = some u := by
  have : v = 0 ∨ v = 1 ∨ v = 2 ∨ v = 3 := by omega
  rcases this with rfl | rfl | rfl | rfl
  · exact .inl rfl
  · exact .inr (.inl rfl)
  · exact .inr (.inr (.inl rfl))
  · exact .inr (.inr (.inr rfl))
theorem at2 {x y : D} {v : Int} (h0 : 0 ≤ v) (h1 : v < 2) : atI [x, y] v = some x ∨ atI [x, y] v = some y := by
  have : v = 0 ∨ v = 1 := by omega
  rcases this with rfl | rfl
  · exact .inl rfl
  · exact .inr rfl
/-- a draw below a written number -/
theorem pickC {F : List D → Sto → R D} {env : Slots} {s i : Nat} {L : Int} {S : Sto} (hF : F = defSem 2 5 bPick) (he : env[i]? = some (some (.cel s))) (h : Stt S s) (h0 : 0 < L) (h1 : L < 2 ^ 300) :
    ∃ (v : Nat) (S' : Sto), eCall F [] (aCons (eVar i) (aCons (eC (.a (.int (L)))) aNil)) env S = .ok (.a (.int (v : Nat))) S' ∧ (v : Int) < L ∧ Stt S' s ∧ S'.length = S.length ∧ Ext s S S' := by
  obtain ⟨v, S', e, a, b, q⟩ := pickE (f := eC (.a (.int L))) (S := S) (S1 := S) hF he rfl h h0 h1
  obtain ⟨m, rfl⟩ := Int.eq_ofNat_of_zero_le a
  exact ⟨m, S', e, b, q⟩
end G
/-! k55, the plain law: least forms of eventually periodic rows. -/
namespace M55
/-- q is a period of a from N on -/
def Per (a : Nat → Int) (N q : Nat) : Prop := ∀ i, N ≤ i → a (i + q) = a i
theorem Per.mono {a : Nat → Int} {N M q : Nat} (h : Per a N q) (l : N ≤ M) : Per a M q := fun i hi => h i (Nat.le_trans l hi)
theorem Per.mul {a : Nat → Int} {N q : Nat} (h : Per a N q) : ∀ t : Nat, Per a N (q * t)
  | 0 => fun i _ => rfl
  | t + 1 => fun i hi => by
    rw [Nat.mul_succ, ← Nat.add_assoc, h _ (by omega)]
    exact Per.mul h t i hi
theorem Per.mod {a : Nat → Int} {N q n : Nat} (h : Per a N q) (h2 : Per a N n) : Per a N (n % q) := fun i hi => by
  have e1 : a (i + n % q + q * (n / q)) = a (i + n % q) := h.mul _ _ (by omega)
  rw [← e1, Nat.add_assoc, Nat.mod_add_div]
  exact h2 i hi
theorem Per.gcd {a : Nat → Int} {N : Nat} (q n : Nat) : Per a N q → Per a N n → Per a N (Nat.gcd q n) := by
  induction q, n using Nat.gcd.induction with
  | H0 n => intro _ h; rw [Nat.gcd_zero_left]; exact h
  | H1 m n hm ih =>
    intro h1 h2
    rw [Nat.gcd_rec]
    exact ih (h1.mod h2) h1
/-- from far on, and a multiple from N on: from N on -/
theorem Per.back {a : Nat → Int} {N M g n : Nat} (h : Per a M g) (hn : Per a N n) (hp : 0 < n) : Per a N g := fun i hi => by
  have e1 : a (i + g + n * M) = a (i + g) := hn.mul M _ (by omega)
  have e2 : a (i + n * M) = a i := hn.mul M _ hi
  have hM : M ≤ n * M := Nat.le_mul_of_pos_left M hp
  have e3 : a (i + n * M + g) = a (i + n * M) := h _ (by omega)
  rw [← e1, ← e2, ← e3]
  congr 1
  omega
structure Least (a : Nat → Int) (K p : Nat) : Prop where
  pos : 0 < p
  per : Per a K p
  pre : K = 0 ∨ a (K - 1 + p) ≠ a (K - 1)
  min : ∀ N q, 0 < q → Per a N q → p ≤ q
theorem Least.unique {a : Nat → Int} {K p K' p' : Nat} (h : Least a K p) (h' : Least a K' p') : K = K' ∧ p = p' := by
  have hp : p = p' := Nat.le_antisymm (h.min _ _ h'.pos h'.per) (h'.min _ _ h.pos h.per)
  subst hp
  refine ⟨Nat.le_antisymm ?_ ?_, rfl⟩
  · rcases h.pre with e | e
    · omega
    · by_cases hl : K ≤ K'
      · exact hl
      · exact absurd (h'.per (K - 1) (by omega)) e
  · rcases h'.pre with e | e
    · omega
    · by_cases hl : K' ≤ K
      · exact hl
      · exact absurd (h.per (K' - 1) (by omega)) e
/-- a divisor of a period, least among the divisors that are periods, is least among all -/
theorem min_of_div {a : Nat → Int} {N n d : Nat} (hn : 0 < n) (h : Per a N n) (hd : ∀ e, 0 < e → e ∣ n → Per a N e → d ≤ e) : ∀ M q, 0 < q → Per a M q → d ≤ q := fun M q hq hp => by
  have hg : Per a (max M N) (Nat.gcd q n) := Per.gcd q n (hp.mono (Nat.le_max_left ..)) (h.mono (Nat.le_max_right ..))
  have := hd (Nat.gcd q n) (Nat.gcd_pos_of_pos_left n hq) (Nat.gcd_dvd_right q n) (hg.back h hn)
  exact Nat.le_trans this (Nat.gcd_le_left n hq)
/-- the head is cut from behind -/
def down (a : Nat → Int) (p : Nat) : Nat → Nat
  | 0 => 0
  | K + 1 => if a K = a (K + p) then down a p K else K + 1
theorem down_le (a : Nat → Int) (p : Nat) : ∀ K, down a p K ≤ K
  | 0 => Nat.le_refl _
  | K + 1 => by
    unfold down
    split
    · exact Nat.le_succ_of_le (down_le a p K)
    · exact Nat.le_refl _
theorem down_per {a : Nat → Int} {p : Nat} : ∀ {K}, Per a K p → Per a (down a p K) p
  | 0, h => h
  | K + 1, h => by
    unfold down
    split
    · rename_i e
      refine down_per fun i hi => ?_
      by_cases hk : i = K
      · subst hk; exact e.symm
      · exact h i (by omega)
    · exact h
theorem down_pre {a : Nat → Int} {p : Nat} : ∀ K, down a p K = 0 ∨ a (down a p K - 1 + p) ≠ a (down a p K - 1)
  | 0 => .inl rfl
  | K + 1 => by
    unfold down
    split
    · exact down_pre K
    · rename_i e
      exact .inr fun z => e (by simpa using z.symm)
/-! ### rows -/
def bq (c : List Int) (i : Nat) : Int := c.getD (i % c.length) 0
def sq (h c : List Int) (i : Nat) : Int := if i < h.length then h.getD i 0 else bq c (i - h.length)
theorem sq_lt {h c : List Int} {i : Nat} (hi : i < h.length) : sq h c i = h[i] := by
  unfold sq
  rw [if_pos hi]
  simp [hi]
theorem sq_ge {h c : List Int} {i : Nat} (hi : h.length ≤ i) : sq h c i = bq c (i - h.length) := if_neg (Nat.not_lt.mpr hi)
theorem bq_add {c : List Int} (i : Nat) : bq c (i + c.length) = bq c i := by unfold bq; rw [Nat.add_mod_right]
theorem sq_per (h c : List Int) : Per (sq h c) h.length c.length := fun i hi => by
  rw [sq_ge hi, sq_ge (by omega), show i + c.length - h.length = i - h.length + c.length by omega, bq_add]
/-- k is a period of the cycle -/
def Cp (c : List Int) (k : Nat) : Prop := ∀ i, bq c (i + k) = bq c i
theorem cp_iff {h c : List Int} {k : Nat} : Per (sq h c) h.length k ↔ Cp c k := by
  constructor
  · intro p i
    have := p (h.length + i) (by omega)
    rw [sq_ge (by omega), sq_ge (by omega), show h.length + i + k - h.length = i + k by omega, show h.length + i - h.length = i by omega] at this
    exact this
  · intro p i hi
    rw [sq_ge hi, sq_ge (by omega), show i + k - h.length = i - h.length + k by omega]
    exact p _
open Classical in
noncomputable def cpb (c : List Int) (k : Nat) : Bool := decide (c.length % k = 0 ∧ Cp c k)
open Classical in
theorem cpb_iff {c : List Int} {k : Nat} : cpb c k = true ↔ c.length % k = 0 ∧ Cp c k := by unfold cpb; exact decide_eq_true_iff
/-- the least divisor that is a period -/
noncomputable def per (c : List Int) : Nat := ((List.range' 1 (c.length - 1)).find? (cpb c)).getD c.length
theorem per_pos {c : List Int} (hc : c ≠ []) : 0 < per c := by
  unfold per
  cases h : (List.range' 1 (c.length - 1)).find? (cpb c) with
  | none => exact List.length_pos_iff.mpr hc
  | some k =>
    have := List.mem_of_find?_eq_some h
    rw [List.mem_range'_1] at this
    exact this.1
theorem per_dvd {c : List Int} : per c ∣ c.length := by
  unfold per
  cases h : (List.range' 1 (c.length - 1)).find? (cpb c) with
  | none => exact Nat.dvd_refl _
  | some k =>
    have := List.find?_some h
    exact Nat.dvd_of_mod_eq_zero (cpb_iff.mp this).1
theorem per_cp {c : List Int} : Cp c (per c) := by
  unfold per
  cases h : (List.range' 1 (c.length - 1)).find? (cpb c) with
  | none => exact fun i => bq_add i
  | some k =>
    have := List.find?_some h
    exact (cpb_iff.mp this).2
theorem per_min {c : List Int} (hc : c ≠ []) {e : Nat} (h0 : 0 < e) (hd : e ∣ c.length) (hp : Cp c e) : per c ≤ e := by
  have hl : e ≤ c.length := Nat.le_of_dvd (List.length_pos_iff.mpr hc) hd
  unfold per
  cases h : (List.range' 1 (c.length - 1)).find? (cpb c) with
  | none =>
    by_cases he : e = c.length
    · rw [Option.getD_none, he]; exact Nat.le_refl _
    · rw [List.find?_eq_none] at h
      exact absurd (cpb_iff.mpr ⟨Nat.mod_eq_zero_of_dvd hd, hp⟩) (h e (by rw [List.mem_range'_1]; omega))
  | some k =>
    rw [Option.getD_some]
    by_cases hk : k ≤ e
    · exact hk
    · exfalso
      obtain ⟨hh, as, bs, e1, e2⟩ := List.find?_eq_some_iff_append.mp h
      have hm : e ∈ List.range' 1 (c.length - 1) := by
        have hk2 := List.mem_of_find?_eq_some h
        rw [List.mem_range'_1] at hk2 ⊢
        omega
      rw [e1] at hm
      rcases List.mem_append.mp hm with hm | hm
      · have := e2 e hm
        rw [cpb_iff.mpr ⟨Nat.mod_eq_zero_of_dvd hd, hp⟩] at this
        cases this
      · have so : (List.range' 1 (c.length - 1)).Pairwise (· < ·) := List.pairwise_lt_range' 1
        rw [e1] at so
        have := (List.pairwise_append.mp so).2.1
        rcases List.mem_cons.mp hm with rfl | hm
        · omega
        · have := (List.pairwise_cons.mp this).1 e hm
          omega
theorem per_le {c : List Int} (hc : c ≠ []) : per c ≤ c.length := Nat.le_of_dvd (List.length_pos_iff.mpr hc) per_dvd
/-- where the head of the least form ends -/
noncomputable def kp (h c : List Int) : Nat := down (sq h c) (per c) h.length
theorem least_at {h c : List Int} (hc : c ≠ []) : Least (sq h c) (kp h c) (per c) where
  pos := per_pos hc
  per := down_per (cp_iff.mpr per_cp)
  pre := down_pre _
  min := min_of_div (List.length_pos_iff.mpr hc) (sq_per h c) fun e h0 hd hp => per_min hc h0 hd (cp_iff.mp hp)
theorem kp_le (h c : List Int) : kp h c ≤ h.length := down_le _ _ _
noncomputable def lfH (h c : List Int) : List Int := (List.range (kp h c)).map (sq h c)
noncomputable def lfC (h c : List Int) : List Int := (List.range (per c)).map fun i => sq h c (kp h c + i)
theorem lf_eq {h c h' c' : List Int} (hc : c ≠ []) (hc' : c' ≠ []) (e : sq h c = sq h' c') : lfH h c = lfH h' c' ∧ lfC h c = lfC h' c' := by
  have h1 := least_at (h := h) hc
  have h2 := least_at (h := h') hc'
  rw [← e] at h2
  obtain ⟨e1, e2⟩ := h1.unique h2
  unfold lfH lfC
  rw [← e, ← e1, ← e2]
  exact ⟨rfl, rfl⟩
theorem lfC_ne {h c : List Int} (hc : c ≠ []) : lfC h c ≠ [] := fun e => by
  have : (lfC h c).length = 0 := by rw [e]; rfl
  unfold lfC at this
  rw [List.length_map, List.length_range] at this
  exact absurd (per_pos hc) (by omega)
theorem lfC_len (h c : List Int) : (lfC h c).length = per c := by unfold lfC; rw [List.length_map, List.length_range]
theorem lfH_len (h c : List Int) : (lfH h c).length = kp h c := by unfold lfH; rw [List.length_map, List.length_range]
theorem per_mod {a : Nat → Int} {K p : Nat} (h : Per a K p) (hp : 0 < p) (i : Nat) : a (K + i) = a (K + i % p) := by
  have := h.mul (i / p) (K + i % p) (by omega)
  rw [← this, Nat.add_assoc, Nat.mod_add_div]
theorem lf_sq {h c : List Int} (hc : c ≠ []) : sq (lfH h c) (lfC h c) = sq h c := by
  funext i
  have hL := least_at (h := h) hc
  by_cases hi : i < kp h c
  · rw [sq_lt (by rw [lfH_len]; exact hi)]
    simp [lfH]
  · rw [sq_ge (by rw [lfH_len]; omega)]
    unfold bq
    rw [lfC_len, lfH_len]
    have hm : (i - kp h c) % per c < per c := Nat.mod_lt _ hL.pos
    have : (lfC h c).getD ((i - kp h c) % per c) 0 = sq h c (kp h c + (i - kp h c) % per c) := by
      unfold lfC
      simp [hm]
    rw [this, ← per_mod hL.per hL.pos, show kp h c + (i - kp h c) = i by omega]
theorem lf_inj {h c h' c' : List Int} (hc : c ≠ []) (hc' : c' ≠ []) (e1 : lfH h c = lfH h' c') (e2 : lfC h c = lfC h' c') : sq h c = sq h' c' := by
  rw [← lf_sq hc, ← lf_sq hc', e1, e2]
/-! ### the two tests for a period of the cycle -/
theorem bq_lt {c : List Int} {i : Nat} (h : i < c.length) : bq c i = c.getD i 0 := by unfold bq; rw [Nat.mod_eq_of_lt h]
theorem bq_mul (c : List Int) (i t : Nat) : bq c (i + c.length * t) = bq c i := by unfold bq; rw [Nat.add_mul_mod_self_left]
theorem cp_rot {c : List Int} {k : Nat} (hc : c ≠ []) (hk : k ≤ c.length) : Cp c k ↔ ∀ p, p < c.length → c.getD p 0 = bq c (p + c.length - k) := by
  have hn : 0 < c.length := List.length_pos_iff.mpr hc
  constructor
  · intro h p hp
    have := h (p + c.length - k)
    rw [show p + c.length - k + k = p + c.length by omega, bq_add, bq_lt hp] at this
    exact this
  · intro h i
    have hm : (i + k) % c.length < c.length := Nat.mod_lt _ hn
    have e1 := h _ hm
    have e2 : bq c (i + k) = c.getD ((i + k) % c.length) 0 := rfl
    rw [e2, e1]
    have e3 : (i + k) % c.length + c.length - k + c.length * ((i + k) / c.length) = i + c.length := by
      have := Nat.mod_add_div (i + k) c.length
      omega
    rw [← bq_mul c _ ((i + k) / c.length), e3, bq_add]
theorem flat_get {α : Type} (xs : List α) : ∀ (m i : Nat), i < m * xs.length → (List.replicate m xs).flatten[i]? = xs[i % xs.length]?
  | 0, i, h => by rw [Nat.zero_mul] at h; exact absurd h (Nat.not_lt_zero i)
  | m + 1, i, h => by
    rw [List.replicate_succ, List.flatten_cons]
    by_cases hi : i < xs.length
    · rw [List.getElem?_append_left hi, Nat.mod_eq_of_lt hi]
    · have hi := Nat.le_of_not_lt hi
      rw [List.getElem?_append_right hi, flat_get xs m (i - xs.length) (by rw [Nat.succ_mul] at h; omega), ← Nat.mod_eq_sub_mod hi]
theorem flat_len {α : Type} (xs : List α) : ∀ m : Nat, (List.replicate m xs).flatten.length = m * xs.length
  | 0 => by simp
  | m + 1 => by rw [List.replicate_succ, List.flatten_cons, List.length_append, flat_len xs m, Nat.succ_mul]; omega
theorem getD_eq (c : List Int) (i : Nat) : c.getD i 0 = (c[i]?).getD 0 := by simp [List.getD]
theorem flat_bq {xs : List Int} {m i : Nat} (h : xs ≠ []) (hm : 0 < m) : bq (List.replicate m xs).flatten i = bq xs i := by
  have hx : 0 < xs.length := List.length_pos_iff.mpr h
  unfold bq
  rw [flat_len, getD_eq, getD_eq, flat_get xs m _ (Nat.mod_lt _ (Nat.mul_pos hm hx)), Nat.mod_mul_left_mod]
theorem cp_rep {c : List Int} {k : Nat} (h0 : 0 < k) (hk : k ≤ c.length) (hd : k ∣ c.length) : (List.replicate (c.length / k) (c.take k)).flatten = c ↔ Cp c k := by
  have hl : (c.take k).length = k := by rw [List.length_take]; omega
  have hm : 0 < c.length / k := Nat.div_pos hk h0
  have hne : c.take k ≠ [] := fun e => by rw [e] at hl; simp at hl; omega
  constructor
  · intro e i
    rw [← e, flat_bq hne hm, flat_bq hne hm]
    have := bq_add (c := c.take k) i
    rw [hl] at this
    exact this
  · intro h
    have hlen : (List.replicate (c.length / k) (c.take k)).flatten.length = c.length := by rw [flat_len, hl, Nat.div_mul_cancel hd]
    refine List.ext_getElem? fun i => ?_
    by_cases hi : i < c.length
    · rw [flat_get _ _ _ (by rw [hl, Nat.div_mul_cancel hd]; exact hi), hl]
      have hp : Per (bq c) 0 k := fun i _ => h i
      have e1 := per_mod hp h0 i
      rw [Nat.zero_add, Nat.zero_add] at e1
      have hik : i % k < k := Nat.mod_lt _ h0
      rw [bq_lt hi, bq_lt (by omega), getD_eq, getD_eq] at e1
      rw [List.getElem?_take_of_lt hik]
      rw [List.getElem?_eq_getElem hi, List.getElem?_eq_getElem (by omega)] at e1 ⊢
      rw [Option.getD_some, Option.getD_some] at e1
      rw [e1]
    · rw [List.getElem?_eq_none (by omega), List.getElem?_eq_none (by omega)]
theorem take_per_bq {c : List Int} (hc : c ≠ []) (i : Nat) : bq (c.take (per c)) i = bq c i := by
  have h0 := per_pos hc
  have hk := per_le hc
  have hl : (c.take (per c)).length = per c := by rw [List.length_take]; omega
  have hp : Per (bq c) 0 (per c) := fun i _ => per_cp i
  have e1 := per_mod hp h0 i
  rw [Nat.zero_add, Nat.zero_add] at e1
  have hik : i % per c < per c := Nat.mod_lt _ h0
  rw [e1]
  unfold bq
  rw [hl, getD_eq, getD_eq, List.getElem?_take_of_lt hik, Nat.mod_eq_of_lt (show i % per c < c.length by omega)]
/-- an entry behind K, by the cycle -/
theorem tail_at {h c : List Int} {K : Nat} (hc : c ≠ []) (hP : Per (sq h c) K (per c)) (i : Nat) (hi : K ≤ i) : sq h c i = bq c (((i : Int) - (h.length : Int)) % (per c : Int)).toNat := by
  have h0 := per_pos hc
  have e1 := hP.mul h.length i hi
  have hm : h.length ≤ per c * h.length := Nat.le_mul_of_pos_left h.length h0
  rw [← e1, sq_ge (by omega)]
  have hp : Per (bq c) 0 (per c) := fun i _ => per_cp i
  have e2 := per_mod hp h0 (i + per c * h.length - h.length)
  rw [Nat.zero_add, Nat.zero_add] at e2
  rw [e2]
  congr 1
  have e3 : ((i + per c * h.length - h.length : Nat) : Int) = ((i : Int) - (h.length : Int)) + (per c : Int) * (h.length : Int) := by
    rw [← Int.natCast_mul]
    omega
  have e4 : (((i + per c * h.length - h.length) % per c : Nat) : Int) = ((i : Int) - (h.length : Int)) % (per c : Int) := by
    rw [Int.natCast_emod, e3, Int.add_mul_emod_self_left]
  omega
theorem turn_bq {c : List Int} {st : Nat} (hs : st ≤ c.length) (i : Nat) : bq (c.drop st ++ c.take st) i = bq c (st + i) := by
  by_cases hc : c = []
  · subst hc; simp [bq]
  have hn : 0 < c.length := List.length_pos_iff.mpr hc
  have hl : (c.drop st ++ c.take st).length = c.length := by rw [List.length_append, List.length_drop, List.length_take]; omega
  have e : bq c (st + i) = bq c (st + i % c.length) := by
    unfold bq
    rw [Nat.add_mod st i, Nat.add_mod st (i % c.length), Nat.mod_mod]
  rw [e]
  unfold bq
  rw [hl]
  have hi : i % c.length < c.length := Nat.mod_lt _ hn
  generalize i % c.length = j at hi
  rw [getD_eq, getD_eq]
  by_cases hj : j < c.length - st
  · rw [List.getElem?_append_left (by rw [List.length_drop]; exact hj), List.getElem?_drop, Nat.mod_eq_of_lt (show st + j < c.length by omega)]
  · rw [List.getElem?_append_right (by rw [List.length_drop]; omega), List.length_drop, List.getElem?_take_of_lt (by omega)]
    congr 2
    rw [Nat.mod_eq_sub_mod (by omega), Nat.mod_eq_of_lt (by omega)]
    omega
theorem down_step {a : Nat → Int} {p K : Nat} (h : a K = a (K + p)) : down a p (K + 1) = down a p K := by
  conv => lhs; unfold down
  rw [if_pos h]
theorem down_stop {a : Nat → Int} {p K : Nat} (h : ¬ a K = a (K + p)) : down a p (K + 1) = K + 1 := by
  conv => lhs; unfold down
  rw [if_neg h]
end M55
set_option maxRecDepth 100000
set_option exponentiation.threshold 600
/-! k55: what the functions compute. -/
namespace K55
open PySem PySem.Spec PyProof.Rows L2 G M55

abbrev T (xs : List Int) : D := .tup (ilist xs)
abbrev I (i : Int) : D := .a (.int i)
theorem sem_same (k : Nat) (d : D) (S : Sto) (j : Nat) (h : pl j d = true) : (sem (j + k + 2))._law_same [d, d] S = .ok (.a (.bl true)) S := by
  have := same_refl (F := fun i => (sem (i + k + 1))._law_same) (fun i => by rw [show i + 1 + k + 1 = i + k + 2 by omega]; rfl) j d S h
  rw [show j + 1 + k + 1 = j + k + 2 by omega] at this
  exact this
theorem pl_T {j : Nat} {xs : List Int} (h : xs.length ≤ sizeLine) : pl (j + 1) (T xs) = true := by
  unfold pl
  rw [ilist_len, decide_eq_true h, Bool.true_and, List.all_eq_true]
  intro d hd
  obtain ⟨x, _, rfl⟩ := List.mem_map.mp hd
  cases j <;> rfl
theorem sem_pick {k s : Nat} {S : Sto} {L : Int} (h : Stt S s) (h0 : 0 < L) (h1 : L < 2 ^ 300) : ∃ v S', (sem (k + 2))._law_pick [.cel s, I L] S = .ok (I v) S' ∧ 0 ≤ v ∧ v < L ∧ Stt S' s ∧ S'.length = S.length ∧ Ext s S S' := by
  obtain ⟨d, S', e, v, rfl, h⟩ := (pick_spec h h0 h1).get
  exact ⟨v, S', e, h⟩
theorem rangeL_one (m : Nat) : rangeL 1 m = (List.range' 1 m).map fun k => I (k : Nat) := by
  unfold rangeL
  rw [List.range'_eq_map_range, List.map_map]
  refine List.map_congr_left fun i _ => ?_
  show I (1 + (i : Int)) = I ((1 + i : Nat) : Int)
  rw [show ((1 + i : Nat) : Int) = 1 + (i : Int) by omega]
theorem ilist_take (xs : List Int) (k : Nat) : (ilist xs).take k = ilist (xs.take k) := List.map_take.symm
/-- the number that a datum holds -/
def nOf : D → Nat
  | .a (.int k) => k.toNat
  | _ => 0
@[simp] theorem nOf_nat (k : Nat) : nOf (I (k : Int)) = k := Int.toNat_natCast k
theorem sc_body {c c1 : Tb} {cy : List Int} {S : Sto} {k : Nat} (h : cy ≠ []) (hl : cy.length ≤ 1000) (h1 : 1 ≤ k) (h2 : k < cy.length) :
    (sSeq (sIf (tAnd (tBin dEq (eBin dMod (eCallB dLen (aCons (eVar 0) aNil)) (eVar 1)) (eC (.a (.int (0))))) (tBin dEq (eBin dMul (eCut (eVar 0) oNone (oSome (eVar 1))) (eBin dDiv (eCallB dLen (aCons (eVar 0) aNil)) (eVar 1))) (eVar 0)))
      (sSeq (sRet (eCut (eVar 0) oNone (oSome (eVar 1)))) sNil) sNil) sNil) [some (T cy), some (I (k : Nat))] S = if cpb cy k = true then .rt (T (cy.take k)) S else .nx [some (T cy), some (I (k : Nat))] S := by
  have hk0 : (0 : Int) < (k : Int) := by omega
  have hk3 : (k : Int) < 2 ^ 300 := by omega
  have ecut : cutL (ilist cy) none (some (k : Int)) = ilist (cy.take k) := by rw [cutL_take (by rw [ilist_len]; omega), ilist_take]
  have emod : ((cy.length : Int) % (k : Int) = 0) ↔ cy.length % k = 0 := by omega
  by_cases hd : cy.length % k = 0
  · have hdv : k ∣ cy.length := Nat.dvd_of_mod_eq_zero hd
    have hq : 2 ≤ cy.length / k := by
      rw [Nat.le_div_iff_mul_le h1]
      obtain ⟨t, ht⟩ := hdv
      have : t ≠ 0 := by rintro rfl; omega
      have : t ≠ 1 := by rintro rfl; omega
      rw [ht, Nat.mul_comm]
      exact Nat.mul_le_mul_left k (by omega)
    have hq2 : cy.length / k ≤ 1000 := Nat.le_trans (Nat.div_le_self _ _) hl
    have hne : ilist (cy.take k) ≠ [] := fun e => by
      have := congrArg List.length e
      rw [ilist_len, List.length_take, List.length_nil] at this
      omega
    have hmul : dMul (.tup (ilist (cy.take k))) (I ((cy.length : Int) / (k : Int))) S = some (T (List.replicate (cy.length / k) (cy.take k)).flatten, S) := by
      rw [show (cy.length : Int) / (k : Int) = ((cy.length / k : Nat) : Int) from (Int.natCast_ediv _ _).symm, dMul_tup hne hq hq2 (by rw [ilist_len, List.length_take]; omega), flat_ilist]
    have hd' : (cy.length : Int) % (k : Int) = 0 := emod.mpr hd
    have hcp := cp_rep h1 (Nat.le_of_lt h2) hdv
    by_cases hp : Cp cy k
    · have e1 : cpb cy k = true := cpb_iff.mpr ⟨hd, hp⟩
      have e2 := hcp.mpr hp
      rw [if_pos e1]
      simp [dMod_pos hk0, dDiv_pos hk0 hk3, hd', ecut, hmul, e2, dEq_ilist]
    · have e1 : ¬ cpb cy k = true := fun z => hp (cpb_iff.mp z).2
      have e2 : ¬ (List.replicate (cy.length / k) (cy.take k)).flatten = cy := fun z => hp (hcp.mp z)
      rw [if_neg e1]
      simp [dMod_pos hk0, dDiv_pos hk0 hk3, hd', ecut, hmul, e2, dEq_ilist]
  · have hd' : ¬ (cy.length : Int) % (k : Int) = 0 := fun z => hd (emod.mp z)
    have e1 : ¬ cpb cy k = true := fun z => hd (cpb_iff.mp z).1
    rw [if_neg e1]
    simp [dMod_pos hk0, hd']
theorem iR2R_nat {i j : Nat} {S : Sto} {f : EX} {env : Slots} (hi : i < 1000) (h : j < 100000) (hf : f env S = .ok (I (j : Nat)) S) : iR2R (.ok (I (i : Nat)) S) f env = .ok (rangeL (i : Int) (j - i), none) S := by
  rw [iR2R_ok, hf, iR2b_ok]
  · rw [show ((j : Int) - (i : Int)).toNat = j - i by omega]
  · omega
theorem sem_sc (k : Nat) {cy : List Int} {S : Sto} (h : cy ≠ []) (hl : cy.length ≤ 1000) : (sem (k + 2)).shortest_cycle [T cy] S = .ok (T (cy.take (per cy))) S := by
  rw [e_shortest_cycle]
  refine def_pure (n := 1) (ds := [_]) rfl ?_
  have hr := iR2R_nat (i := 1) (j := cy.length) (S := S) (f := eCallB dLen (aCons (eVar 0) aNil)) (env := [some (T cy), none]) (by decide) (by omega) (by simp)
  have hb := forGo_find (all := rangeL 1 (cy.length - 1)) (i := 1) (body := sSeq (sIf (tAnd (tBin dEq (eBin dMod (eCallB dLen (aCons (eVar 0) aNil)) (eVar 1)) (eC (.a (.int (0))))) (tBin dEq (eBin dMul (eCut (eVar 0) oNone (oSome (eVar 1))) (eBin dDiv (eCallB dLen (aCons (eVar 0) aNil)) (eVar 1))) (eVar 0)))
      (sSeq (sRet (eCut (eVar 0) oNone (oSome (eVar 1)))) sNil) sNil) sNil) (S := S) (env0 := [some (T cy), none]) (fun d => cpb cy (nOf d)) (fun d => T (cy.take (nOf d))) (rangeL 1 (cy.length - 1)) none (fun d hd => by
    rw [rangeL_one] at hd
    obtain ⟨j, hj, rfl⟩ := List.mem_map.mp hd
    rw [List.mem_range'_1] at hj
    have := sc_body (c := sem 0) (c1 := sem 0) (S := S) h hl hj.1 (show j < cy.length by omega)
    rw [nOf_nat]
    exact this)
  obtain ⟨y, hb⟩ := hb
  have hfe : (rangeL 1 (cy.length - 1)).find? (fun d => cpb cy (nOf d)) = ((List.range' 1 (cy.length - 1)).find? (cpb cy)).map fun k => I (k : Nat) := by
    rw [rangeL_one, List.find?_map]
    congr 2
  rw [hfe] at hb
  have hr' : iR2R (.ok (I 1) S) (eCallB dLen (aCons (eVar 0) aNil)) [some (T cy), none] = .ok (rangeL 1 (cy.length - 1), none) S := hr
  unfold b_shortest_cycle
  simp only [List.map_cons, List.map_nil, List.length_cons, List.length_nil, List.replicate, List.cons_append, List.nil_append, sSeq_eq, sFor_eq, iR2_eq, eC_eq]
  rw [hr', forR_ok]
  have hs : ([some (T cy), none] : Slots).set 1 none = [some (T cy), none] := rfl
  rw [hs] at hb
  rw [hb]
  unfold per
  cases hf : (List.range' 1 (cy.length - 1)).find? (cpb cy) with
  | none => simp
  | some k => simp
end K55
set_option maxRecDepth 100000
set_option exponentiation.threshold 600
namespace K55
open PySem PySem.Spec PyProof.Rows L2 G M55
theorem sem_turned (k : Nat) {cy : List Int} {n : Int} {S : Sto} (h : cy ≠ []) (hl : cy.length ≤ 1000) : (sem (k + 2)).turned [T cy, I n] S = .ok (T (cy.drop (n % (cy.length : Int)).toNat ++ cy.take (n % (cy.length : Int)).toNat)) S := by
  have hn : 0 < cy.length := List.length_pos_iff.mpr h
  have hp : (0 : Int) < cy.length := by omega
  have h1 := Int.emod_nonneg n (Int.ne_of_gt hp)
  have h2 := Int.emod_lt_of_pos n hp
  rw [e_turned]
  refine def_pure (n := 2) (ds := [_, _]) rfl ?_
  obtain ⟨j, hj⟩ := Int.eq_ofNat_of_zero_le h1
  have hjl : j ≤ cy.length := by omega
  have e1 : cutL (ilist cy) (some (j : Int)) none = ilist (cy.drop j) := by rw [cut_ilist, cutL_drop hjl]
  have e2 : cutL (ilist cy) none (some (j : Int)) = ilist (cy.take j) := by rw [cut_ilist, cutL_take hjl]
  have e3 := dAdd_tup (xs := ilist (cy.drop j)) (ys := ilist (cy.take j)) (S := S) (by rw [ilist_len, ilist_len, List.length_drop, List.length_take]; exact small_line (by omega))
  rw [hj, Int.toNat_natCast]
  simp [b_turned, dMod_pos hp, hj, e1, e2, e3, ilist_app]
theorem sem_loose (k : Nat) {h c : List Int} {S : Sto} (hc : c ≠ []) (hcl : c.length ≤ 1000) (hl : h.length ≤ 1000) : (sem (k + 2)).loose_entries [T h, T (c.take (per c))] S = .ok (I ((h.length : Int) - (kp h c : Int))) S := by
  have hp0 := per_pos hc
  have hpl := per_le hc
  have hlen : (c.take (per c)).length = per c := by rw [List.length_take]; omega
  rw [e_loose_entries]
  refine def_pure (n := 2) (ds := [_, _]) rfl ?_
  have key : sWhile (tAnd (tBin dLt (eVar 2) (eCallB dLen (aCons (eVar 0) aNil))) (tBin dEq (eBin dIx (eVar 0) (eBin dSub (eBin dSub (eCallB dLen (aCons (eVar 0) aNil)) (eC (.a (.int (1))))) (eVar 2))) (eBin dIx (eVar 1) (eBin dMod (eBin dSub (eUn dNeg (eC (.a (.int (1))))) (eVar 2)) (eCallB dLen (aCons (eVar 1) aNil)))))) (sSeq (sAug 2 dAddI (eC (.a (.int (1))))) sNil) [some (T h), some (T (c.take (per c))), some (I 0)] S = SR.nx [some (T h), some (T (c.take (per c))), some (I ((h.length : Int) - (kp h c : Int)))] S := by
    refine sWhile_inv (n := h.length) (env := [some (T h), some (T (c.take (per c))), some (I 0)]) (S := S) (Q := fun r => r = SR.nx [some (T h), some (T (c.take (per c))), some (I ((h.length : Int) - (kp h c : Int)))] S) (fun n env S' => ∃ K : Nat, n = K ∧ K ≤ h.length ∧ env = [some (T h), some (T (c.take (per c))), some (I ((h.length : Int) - (K : Int)))] ∧ S' = S ∧ Per (sq h c) K (per c) ∧ down (sq h c) (per c) K = kp h c) (by omega) ⟨h.length, rfl, Nat.le_refl _, by rw [Int.sub_self], rfl, cp_iff.mpr per_cp, rfl⟩ ?_
    rintro n env S' ⟨K, rfl, hK, rfl, rfl, hP, hd⟩
    cases n with
    | zero =>
      refine .inl ⟨S', ?_, ?_⟩
      · simp
      · have e0 : kp h c = 0 := by rw [← hd]; rfl
        rw [e0]
    | succ K =>
      have hlt : ((h.length : Int) - ((K + 1 : Nat) : Int)) < h.length := by omega
      have ei : ((h.length : Int) - 1 - ((h.length : Int) - ((K + 1 : Nat) : Int))) = (K : Int) := by omega
      have hv1 : atI (ilist h) (K : Int) = some (I (sq h c K)) := by
        rw [ilist_get (atI_lt (show K < h.length by omega))]
        unfold sq
        rw [if_pos (show K < h.length by omega)]
      have hmod : (-1 - ((h.length : Int) - ((K + 1 : Nat) : Int))) % (per c : Int) = (((K + per c : Nat) : Int) - (h.length : Int)) % (per c : Int) := by
        rw [show (((K + per c : Nat) : Int) - (h.length : Int)) = (-1 - ((h.length : Int) - ((K + 1 : Nat) : Int))) + (per c : Int) by omega, Int.add_emod_right]
      have hpp : (0 : Int) < per c := by omega
      have hn1 := Int.emod_nonneg (-1 - ((h.length : Int) - ((K + 1 : Nat) : Int))) (Int.ne_of_gt hpp)
      have hn2 := Int.emod_lt_of_pos (-1 - ((h.length : Int) - ((K + 1 : Nat) : Int))) hpp
      obtain ⟨j, hj⟩ := Int.eq_ofNat_of_zero_le hn1
      have hjl : j < per c := by omega
      have hv2 : atI (ilist (c.take (per c))) (j : Int) = some (I (sq h c (K + per c))) := by
        rw [ilist_get (atI_lt (show j < (c.take (per c)).length by omega)), tail_at hc hP (K + per c) (by omega), ← hmod, hj, Int.toNat_natCast]
        rw [bq_lt (show j < c.length by omega), getD_eq, getD_eq, List.getElem?_take_of_lt hjl]
      have hln : min (per c) c.length = per c := Nat.min_eq_left hpl
      have hu : (h.length : Int) - ((K + 1 : Nat) : Int) + 1 = (h.length : Int) - (K : Int) := by omega
      generalize hx : (h.length : Int) - ((K + 1 : Nat) : Int) = x at *
      by_cases he : sq h c K = sq h c (K + per c)
      · refine .inr ⟨S', ?_, .inl ⟨K, [some (T h), some (T (c.take (per c))), some (I (x + 1))], S', Nat.lt_succ_self K, .inl ?_, K, rfl, by omega, by rw [hu], rfl, ?_, ?_⟩⟩
        · simp [hlt, ei, hv1, hln, dMod_pos hpp, hj, hv2, he]
        · simp
        · intro i hi
          by_cases hk : i = K
          · subst hk; exact he.symm
          · exact hP i (by omega)
        · rw [← hd, down_step he]
      · refine .inl ⟨S', ?_, ?_⟩
        · simp [hlt, ei, hv1, hln, dMod_pos hpp, hj, hv2, he]
        · have e0 : kp h c = K + 1 := by rw [← hd, down_stop he]
          rw [e0, hx]
  simp [b_loose_entries, key]
end K55
set_option maxRecDepth 100000
set_option exponentiation.threshold 600
namespace K55
open PySem PySem.Spec PyProof.Rows L2 G M55
/-- an entry of a row, as the program finds it -/
theorem at_lt {h : List Int} {i : Nat} (c : List Int) (hi : i < h.length) : atI (ilist h) (i : Int) = some (I (sq h c i)) := by
  rw [ilist_get (atI_lt hi)]
  unfold sq
  rw [if_pos hi]
theorem at_ge {h c : List Int} {i : Nat} (hc : c ≠ []) (hi : h.length ≤ i) : atI (ilist c) (((i : Int) - (h.length : Int)) % (c.length : Int)) = some (I (sq h c i)) := by
  have hn : 0 < c.length := List.length_pos_iff.mpr hc
  have e : ((i : Int) - (h.length : Int)) % (c.length : Int) = (((i - h.length) % c.length : Nat) : Int) := by
    rw [Int.natCast_emod]
    congr 1
    omega
  rw [e, ilist_get (atI_lt (Nat.mod_lt _ hn)), sq_ge hi]
  rfl
theorem sem_at (k : Nat) {h c : List Int} {i : Nat} {S : Sto} (hc : c ≠ []) : (sem (k + 2))._law_at [T h, T c, I (i : Nat)] S = .ok (I (sq h c i)) S := by
  have hn : (0 : Int) < c.length := by have := List.length_pos_iff.mpr hc; omega
  rw [e__law_at]
  refine def_pure (n := 3) (ds := [_, _, _]) rfl ?_
  by_cases hi : i < h.length
  · have hi' : (i : Int) < (h.length : Int) := by omega
    simp [b__law_at, hi', hi, at_lt c hi]
  · have hi' : ¬ (i : Int) < (h.length : Int) := by omega
    simp [b__law_at, hi', hi, dMod_pos hn, at_ge hc (Nat.le_of_not_lt hi)]
theorem tAll_map (f : D → Bool) (S : Sto) : ∀ l : List D, asBls (l.map fun d => .a (.bl (f d))) = some (l.map f)
  | [] => rfl
  | d :: r => by
    rw [List.map_cons, List.map_cons]
    unfold asBls
    rw [tAll_map f S r]
    rfl
theorem tAll_of (f : D → Bool) (S : Sto) (l : List D) : tAll (l.map fun d => .a (.bl (f d))) S = some (.a (.bl (l.all f)), S) := by
  unfold tAll
  rw [tAll_map f S]
  simp [List.all_map]
/-- cycle[p - k], from behind where it is below 0 -/
theorem at_back {c : List Int} {p k : Nat} (hp : p < c.length) (hk : k ≤ c.length) (hk0 : 0 < k) : atI (ilist c) ((p : Int) - (k : Int)) = some (I (bq c (p + c.length - k))) := by
  have hn : 0 < c.length := by omega
  by_cases h : k ≤ p
  · rw [show (p : Int) - (k : Int) = ((p - k : Nat) : Int) by omega, ilist_get (atI_lt (show p - k < c.length by omega)), show p + c.length - k = p - k + c.length by omega, bq_add, bq_lt (by omega)]
  · rw [show (p : Int) - (k : Int) = -((k - p : Nat) : Int) by omega, ilist_get (atI_neg (by omega) (by omega)), show c.length - (k - p) = p + c.length - k by omega, bq_lt (by omega)]
theorem rot_all {c : List Int} {k : Nat} (hc : c ≠ []) (hk : k ≤ c.length) : ((rangeL 0 c.length).all fun d => decide (c.getD (nOf d) 0 = bq c (nOf d + c.length - k))) = decide (∀ p, p < c.length → c.getD p 0 = bq c (p + c.length - k)) := by
  rw [Bool.eq_iff_iff, List.all_eq_true, decide_eq_true_iff]
  constructor
  · intro h p hp
    have := h (I (p : Nat)) (by
      unfold rangeL
      exact List.mem_map.mpr ⟨p, List.mem_range.mpr hp, by simp⟩)
    rw [nOf_nat] at this
    exact of_decide_eq_true this
  · intro h d hd
    obtain ⟨i, hi, rfl⟩ := rangeL_mem hd
    have e : nOf (.a (.int (i : Int))) = i := nOf_nat i
    rw [e]
    exact decide_eq_true (h i hi)
noncomputable def szUp (c : List Int) (j : Nat) : Nat := ((List.range' 1 j).find? (cpb c)).getD c.length
theorem szUp_succ (c : List Int) (j : Nat) (hj : j + 1 < c.length) : szUp c (j + 1) = if szUp c j = c.length ∧ cpb c (j + 1) = true then j + 1 else szUp c j := by
  unfold szUp
  rw [List.range'_1_concat, List.find?_append]
  cases h : (List.range' 1 j).find? (cpb c) with
  | none =>
    rw [Option.none_or, Option.getD_none]
    cases hb : cpb c (1 + j) with
    | true => rw [List.find?_cons_of_pos hb, if_pos ⟨rfl, by rw [Nat.add_comm]; exact hb⟩, Option.getD_some, Nat.add_comm]
    | false =>
      rw [List.find?_cons_of_neg (by rw [hb]; exact Bool.false_ne_true), if_neg fun z => by
        rw [Nat.add_comm j 1, hb] at z
        cases z.2]
      rfl
  | some m =>
    have hm := List.mem_of_find?_eq_some h
    rw [List.mem_range'_1] at hm
    rw [Option.some_or, Option.getD_some, if_neg fun z => by have := z.1; omega]
end K55
set_option maxRecDepth 100000
set_option exponentiation.threshold 600
namespace K55
open PySem PySem.Spec PyProof.Rows L2 G M55
theorem app_at {h c : List Int} {i : Nat} (hi : i < h.length + c.length) : (h ++ c)[i]? = some (sq h c i) := by
  unfold sq
  by_cases hl : i < h.length
  · rw [List.getElem?_append_left hl, if_pos hl, getD_eq, List.getElem?_eq_getElem hl]; rfl
  · rw [List.getElem?_append_right (by omega), if_neg hl, bq_lt (by omega), getD_eq, List.getElem?_eq_getElem (by omega)]; rfl
theorem app_ix {h c : List Int} {i : Nat} (hi : i < h.length + c.length) : atI (ilist (h ++ c)) (i : Int) = some (I (sq h c i)) := by
  have hl : i < (h ++ c).length := by rw [List.length_append]; exact hi
  have := app_at hi
  rw [ilist_get (atI_lt hl), getD_eq, this]
  rfl
theorem app_cut {h c : List Int} {K p : Nat} (hi : K + p ≤ h.length + c.length) : ((h ++ c).drop K).take p = (List.range p).map fun i => sq h c (K + i) := by
  refine List.ext_getElem? fun i => ?_
  by_cases hp : i < p
  · rw [List.getElem?_take_of_lt hp, List.getElem?_drop, app_at (by omega), List.getElem?_map, List.getElem?_range hp]
    rfl
  · rw [List.getElem?_eq_none (by rw [List.length_take]; omega), List.getElem?_eq_none (by rw [List.length_map, List.length_range]; omega)]
theorem app_take {h c : List Int} {K : Nat} (hi : K ≤ h.length + c.length) : (h ++ c).take K = (List.range K).map (sq h c) := by
  have := app_cut (h := h) (c := c) (K := 0) (p := K) (by omega)
  rw [List.drop_zero] at this
  rw [this]
  refine List.map_congr_left fun i _ => ?_
  rw [Nat.zero_add]
theorem ll_body {h c : List Int} {S : Sto} {j : Nat} {y : Option D} (hcl : c.length ≤ 1000) (hj : j + 1 < c.length) :
    (sSeq (sIf (tAnd (tBin dEq (eVar 3) (eVar 2)) (tAnd (tBin dEq (eBin dMod (eCallB dInt (aCons (eVar 2) aNil)) (eVar 4)) (eC (.a (.int (0))))) (tOf (eCallT tAll (aLc (iR1 (eVar 2)) (gN 7) (List.map (fun p => p.2) ([("p", 7)] : List (Str × Nat))) tTrue (eBin dEq (eBin dIx (eVar 1) (eVar 7)) (eBin dIx (eVar 1) (eBin dSub (eVar 7) (eVar 4)))))))))
     (sSeq (sSet 3 (eVar 4)) sNil) sNil) sNil) [some (T h), some (T c), some (I (c.length : Nat)), some (I (szUp c j : Nat)), some (I (((1 + j : Nat)) : Int)), none, none, none] S =
    .nx [some (T h), some (T c), some (I (c.length : Nat)), some (I (szUp c (j + 1) : Nat)), some (I (((1 + j : Nat)) : Int)), none, none, none] S := by
  have hc : c ≠ [] := fun e => by rw [e] at hj; simp at hj
  have hk0 : (0 : Int) < ((1 + j : Nat) : Int) := by omega
  rw [szUp_succ c j hj]
  generalize hk : 1 + j = k at *
  have hk1 : j + 1 = k := by omega
  rw [hk1]
  by_cases hs : szUp c j = c.length
  · have hs' : ((szUp c j : Nat) : Int) = ((c.length : Nat) : Int) := by rw [hs]
    by_cases hm : c.length % k = 0
    · have hm' : ((c.length : Nat) : Int) % (k : Int) = 0 := by rw [← Int.natCast_emod, hm]; rfl
      have hlc : lcGo none (rangeL 0 c.length) (gN 7) tTrue (eBin dEq (eBin dIx (eVar 1) (eVar 7)) (eBin dIx (eVar 1) (eBin dSub (eVar 7) (eVar 4)))) [some (T h), some (T c), some (I (c.length : Nat)), some (I (szUp c j : Nat)), some (I (k : Int)), none, none, none] (rangeL 0 c.length) S = .ok ((rangeL 0 c.length).map fun d => .a (.bl (decide (c.getD (nOf d) 0 = bq c (nOf d + c.length - k))))) S := by
        refine lcGo_map _ _ fun d hd => ?_
        obtain ⟨i, hi, rfl⟩ := rangeL_mem hd
        have e : nOf (.a (.int (i : Int))) = i := nOf_nat i
        rw [e]
        simp [ilist_get (atI_lt hi), at_back hi (show k ≤ c.length by omega) (show 0 < k by omega)]
      have hr := iR1R_nat (n := c.length) S (by omega)
      have hlr := lcR_rng (lo := 0) (n := c.length) (t := gN 7) (ifs := tTrue) (elt := eBin dEq (eBin dIx (eVar 1) (eVar 7)) (eBin dIx (eVar 1) (eBin dSub (eVar 7) (eVar 4)))) (env := [some (T h), some (T c), some (I (c.length : Nat)), some (I (szUp c j : Nat)), some (I (k : Int)), none, none, none]) (S := S) (g := none) (go := lcGo) (small_line (by omega))
      rw [hlc] at hlr
      have hall := tAll_of (fun d => decide (c.getD (nOf d) 0 = bq c (nOf d + c.length - k))) S (rangeL 0 c.length)
      rw [rot_all hc (show k ≤ c.length by omega)] at hall
      have hcp := cp_rot (c := c) (k := k) hc (by omega)
      generalize ((rangeL 0 c.length).map fun d => D.a (.bl (decide (c.getD (nOf d) 0 = bq c (nOf d + c.length - k))))) = L at hlr hall
      rw [hs] at hlr
      by_cases hp : Cp c k
      · rw [if_pos ⟨hs, cpb_iff.mpr ⟨hm, hp⟩⟩]
        have e2 := hcp.mp hp
        rw [decide_eq_true e2] at hall
        rw [hs]
        simp [dMod_pos hk0, hm', hr, wipeS, hlr, hall]
      · rw [if_neg fun z => hp (cpb_iff.mp z.2).2]
        have e2 : ¬ ∀ p, p < c.length → c.getD p 0 = bq c (p + c.length - k) := fun z => hp (hcp.mpr z)
        rw [decide_eq_false e2] at hall
        rw [hs]
        simp [dMod_pos hk0, hm', hr, wipeS, hlr, hall]
    · have hm' : ¬ ((c.length : Nat) : Int) % (k : Int) = 0 := fun z => hm (by rw [← Int.natCast_emod] at z; exact Int.ofNat.inj z)
      rw [if_neg fun z => hm (cpb_iff.mp z.2).1]
      simp [hs', dMod_pos hk0, hm']
  · have hs' : ¬ ((szUp c j : Nat) : Int) = ((c.length : Nat) : Int) := fun z => hs (Int.ofNat.inj z)
    rw [if_neg fun z => hs z.1]
    simp [hs']
end K55
set_option maxRecDepth 100000
set_option exponentiation.threshold 600
namespace K55
open PySem PySem.Spec PyProof.Rows L2 G M55
/-- the second loop's state after j turns -/
def KeepAt (h c : List Int) (j K : Nat) : Prop := (K + j = h.length ∧ Per (sq h c) K (per c) ∧ down (sq h c) (per c) K = kp h c) ∨ (K = kp h c ∧ h.length < K + j)
theorem l2_body {h c : List Int} {S : Sto} {j K : Nat} {x : D} {y z : Option D} (hc : c ≠ []) (hj : j < h.length) (hK : KeepAt h c j K) :
    ∃ K', KeepAt h c (j + 1) K' ∧ (sSeq (sIf (tAnd (tBin dEq (eVar 6) (eBin dSub (eCallB dLen (aCons (eVar 0) aNil)) (eVar 4))) (tBin dEq (eBin dIx (eVar 5) (eBin dSub (eVar 6) (eC (.a (.int (1)))))) (eBin dIx (eVar 5) (eBin dAdd (eBin dSub (eVar 6) (eC (.a (.int (1))))) (eVar 3)))))
 (sSeq (sSet 6 (eBin dSub (eVar 6) (eC (.a (.int (1)))))) sNil) sNil) sNil) [some (T h), some (T c), some x, some (I (per c : Nat)), some (I (j : Nat)), some (T (h ++ c)), some (I (K : Nat)), z] S =
    .nx [some (T h), some (T c), some x, some (I (per c : Nat)), some (I (j : Nat)), some (T (h ++ c)), some (I (K' : Nat)), z] S := by
  have hpl := per_le hc
  rcases hK with ⟨h1, h2, h3⟩ | ⟨h1, h2⟩
  · cases K with
    | zero => omega
    | succ K =>
      have e1 : ((K + 1 : Nat) : Int) = (h.length : Int) - (j : Int) := by omega
      have e2 : ((K + 1 : Nat) : Int) - 1 = (K : Int) := by omega
      have e3 : (K : Int) + (per c : Int) = ((K + per c : Nat) : Int) := by omega
      have v1 := app_ix (h := h) (c := c) (i := K) (by omega)
      have v2 := app_ix (h := h) (c := c) (i := K + per c) (by omega)
      rw [← e3] at v2
      have d1 : decide (((K + 1 : Nat) : Int) = (h.length : Int) - (j : Int)) = true := decide_eq_true e1
      by_cases he : sq h c K = sq h c (K + per c)
      · refine ⟨K, .inl ⟨by omega, fun i hi => ?_, by rw [← h3, down_step he]⟩, ?_⟩
        · by_cases hk : i = K
          · subst hk; exact he.symm
          · exact h2 i (by omega)
        · generalize hx : ((K + 1 : Nat) : Int) = x1 at *
          simp [d1, e2, v1, v2, he]
      · refine ⟨K + 1, .inr ⟨by rw [← h3, down_stop he], by omega⟩, ?_⟩
        generalize hx : ((K + 1 : Nat) : Int) = x1 at *
        simp [d1, e2, v1, v2, he]
  · refine ⟨K, .inr ⟨h1, by omega⟩, ?_⟩
    have d1 : decide (((K : Nat) : Int) = (h.length : Int) - (j : Int)) = false := decide_eq_false (by omega)
    simp [d1]
theorem sem_lleast (k : Nat) {h c : List Int} {S : Sto} (hc : c ≠ []) (hcl : c.length ≤ 1000) (hl : h.length ≤ 1000) : (sem (k + 2))._law_least [T h, T c] S = .ok (.tup [T (lfH h c), T (lfC h c)]) S := by
  have hn : 0 < c.length := List.length_pos_iff.mpr hc
  have hpl := per_le hc
  have hkp := kp_le h c
  rw [e__law_least]
  refine def_pure (n := 2) (ds := [_, _]) rfl ?_
  unfold b__law_least
  -- the first loop
  generalize hB1 : (sSeq (sIf (tAnd (tBin dEq (eVar 3) (eVar 2)) (tAnd (tBin dEq (eBin dMod (eCallB dInt (aCons (eVar 2) aNil)) (eVar 4)) (eC (.a (.int (0))))) (tOf (eCallT tAll (aLc (iR1 (eVar 2)) (gN 7) (List.map (fun p => p.2) ([("p", 7)] : List (Str × Nat))) tTrue (eBin dEq (eBin dIx (eVar 1) (eVar 7)) (eBin dIx (eVar 1) (eBin dSub (eVar 7) (eVar 4)))))))))
     (sSeq (sSet 3 (eVar 4)) sNil) sNil) sNil) = B1
  generalize hB2 : (sSeq (sIf (tAnd (tBin dEq (eVar 6) (eBin dSub (eCallB dLen (aCons (eVar 0) aNil)) (eVar 4))) (tBin dEq (eBin dIx (eVar 5) (eBin dSub (eVar 6) (eC (.a (.int (1)))))) (eBin dIx (eVar 5) (eBin dAdd (eBin dSub (eVar 6) (eC (.a (.int (1))))) (eVar 3)))))
 (sSeq (sSet 6 (eBin dSub (eVar 6) (eC (.a (.int (1)))))) sNil) sNil) sNil) = B2
  have l1 : ∃ y, forGo none (rangeL 1 (c.length - 1)) (gN 4) B1 (rangeL 1 (c.length - 1)) [some (T h), some (T c), some (I (c.length : Nat)), some (I (c.length : Nat)), none, none, none, none] S = .nx [some (T h), some (T c), some (I (c.length : Nat)), some (I (per c : Nat)), y, none, none, none] S := by
    obtain ⟨env', S', e, rfl, y, rfl⟩ := forGo_nx (all := rangeL 1 (c.length - 1)) (body := B1) (i := 4) (r := rangeL 1 (c.length - 1)) (env := [some (T h), some (T c), some (I (c.length : Nat)), some (I (c.length : Nat)), none, none, none, none]) (S := S) (fun j env S' => S' = S ∧ ∃ y, env = [some (T h), some (T c), some (I (c.length : Nat)), some (I (szUp c j : Nat)), y, none, none, none]) ⟨rfl, none, rfl⟩ (by
      rintro j d env S' hd ⟨rfl, y, rfl⟩
      obtain ⟨hj, rfl⟩ := rangeL_get hd
      have hb := ll_body (h := h) (S := S') (y := y) hcl (show j + 1 < c.length by omega)
      rw [hB1] at hb
      rw [show (1 : Int) + (j : Int) = ((1 + j : Nat) : Int) by omega]
      exact ⟨_, _, hb, rfl, _, rfl⟩)
    rw [rangeL_len] at e
    exact ⟨y, e⟩
  obtain ⟨y1, l1⟩ := l1
  have l2 : ∀ y1 : Option D, ∃ y, forGo none (rangeL 0 h.length) (gN 4) B2 (rangeL 0 h.length) [some (T h), some (T c), some (I (c.length : Nat)), some (I (per c : Nat)), y1, some (T (h ++ c)), some (I (h.length : Nat)), none] S = .nx [some (T h), some (T c), some (I (c.length : Nat)), some (I (per c : Nat)), y, some (T (h ++ c)), some (I (kp h c : Nat)), none] S := by
    intro y1
    obtain ⟨env', S', e, rfl, y, K, hK, rfl⟩ := forGo_nx (all := rangeL 0 h.length) (body := B2) (i := 4) (r := rangeL 0 h.length) (env := [some (T h), some (T c), some (I (c.length : Nat)), some (I (per c : Nat)), y1, some (T (h ++ c)), some (I (h.length : Nat)), none]) (S := S) (fun j env S' => S' = S ∧ ∃ y K, KeepAt h c j K ∧ env = [some (T h), some (T c), some (I (c.length : Nat)), some (I (per c : Nat)), y, some (T (h ++ c)), some (I (K : Nat)), none]) ⟨rfl, y1, h.length, .inl ⟨rfl, cp_iff.mpr per_cp, rfl⟩, rfl⟩ (by
      rintro j d env S' hd ⟨rfl, y, K, hK, rfl⟩
      obtain ⟨hj, rfl⟩ := rangeL_get hd
      obtain ⟨K', hK', hb⟩ := l2_body (S := S') (x := I (c.length : Nat)) (y := y) (z := none) hc hj hK
      rw [hB2] at hb
      rw [show (0 : Int) + (j : Int) = (j : Int) by omega]
      exact ⟨_, _, hb, rfl, _, K', hK', rfl⟩)
    rw [rangeL_len] at hK
    have hKe : K = kp h c := by
      rcases hK with ⟨h1, _, h3⟩ | ⟨h1, _⟩
      · have : K = 0 := by omega
        subst this
        rw [← h3]; rfl
      · exact h1
    rw [hKe] at e
    exact ⟨y, e⟩
  obtain ⟨y2, l2⟩ := l2 y1
  have hr := iR2R_nat (i := 1) (j := c.length) (S := S) (f := eVar 2) (env := [some (T h), some (T c), some (I (c.length : Nat)), some (I (c.length : Nat)), none, none, none, none]) (by decide) (by omega) (by simp)
  have hr' : iR2R (.ok (I 1) S) (eVar 2) [some (T h), some (T c), some (I (c.length : Nat)), some (I (c.length : Nat)), none, none, none, none] = .ok (rangeL 1 (c.length - 1), none) S := hr
  have hr2 := iR1R_nat (n := h.length) S (by omega)
  have hadd := dAdd_tup (xs := ilist h) (ys := ilist c) (S := S) (by rw [ilist_len, ilist_len]; exact small_line (by omega))
  have hal : (h ++ c).length = h.length + c.length := List.length_append
  have c1 : cutL (ilist (h ++ c)) none (some ((kp h c : Nat) : Int)) = ilist (lfH h c) := by
    rw [cut_ilist, cutL_take (by omega), app_take (by omega)]; rfl
  have c2 : cutL (ilist (h ++ c)) (some ((kp h c : Nat) : Int)) (some (((kp h c : Nat) : Int) + ((per c : Nat) : Int))) = ilist (lfC h c) := by
    rw [show ((kp h c : Nat) : Int) + ((per c : Nat) : Int) = ((kp h c + per c : Nat) : Int) by omega, cut_ilist, cutL_mid (by omega) (by omega), show kp h c + per c - kp h c = per c by omega, app_cut (by omega)]; rfl
  have hs1 : szUp c (c.length - 1) = per c := rfl
  simp [hr', l1, hadd, ilist_app, hr2, l2, c1, c2]
end K55
set_option maxRecDepth 100000
set_option exponentiation.threshold 600
namespace K55
open PySem PySem.Spec PyProof.Rows L2 G M55
/-- a row's data are right -/
structure VR (h c : List Int) : Prop where
  ne : c ≠ []
  cl : c.length ≤ 1000
  hl : h.length ≤ 1000
  hp : ∀ x ∈ h, 0 ≤ x
  cp : ∀ x ∈ c, 0 ≤ x
theorem VR.sq {h c : List Int} (v : VR h c) (i : Nat) : 0 ≤ sq h c i := by
  have hn : 0 < c.length := List.length_pos_iff.mpr v.ne
  unfold M55.sq
  split
  · rename_i hi
    rw [getD_eq, List.getElem?_eq_getElem hi]
    exact v.hp _ (List.getElem_mem hi)
  · unfold bq
    have hm := Nat.mod_lt (i - h.length) hn
    rw [getD_eq, List.getElem?_eq_getElem hm]
    exact v.cp _ (List.getElem_mem hm)
theorem VR.lf {h c : List Int} (v : VR h c) : VR (lfH h c) (lfC h c) where
  ne := lfC_ne v.ne
  cl := by rw [lfC_len]; exact Nat.le_trans (per_le v.ne) v.cl
  hl := by rw [lfH_len]; exact Nat.le_trans (kp_le h c) v.hl
  hp := fun x hx => by
    obtain ⟨i, _, rfl⟩ := List.mem_map.mp hx
    exact v.sq i
  cp := fun x hx => by
    obtain ⟨i, _, rfl⟩ := List.mem_map.mp hx
    exact v.sq _
def rowC (h c : List Int) : Cell := .ins "Row" [("head", T h), ("cycle", T c)]
theorem hc_ne : ¬ ("head" : Str) = "cycle" := by decide +kernel
theorem look_head (h c : List Int) : ([(("head" : Str), T h), (("cycle" : Str), T c)] : List (Str × D)).lookup ("head" : Str) = some (T h) := by
  rw [List.lookup_cons_self]
theorem look_cycle (h c : List Int) : ([(("head" : Str), T h), (("cycle" : Str), T c)] : List (Str × D)).lookup ("cycle" : Str) = some (T c) := by
  have : (("cycle" : Str) == ("head" : Str)) = false := by decide +kernel
  rw [List.lookup_cons, this]
  exact List.lookup_cons_self
theorem look_no {m : Str} (h c : List Int) (h1 : (m == ("head" : Str)) = false) (h2 : (m == ("cycle" : Str)) = false) : ([(("head" : Str), T h), (("cycle" : Str), T c)] : List (Str × D)).lookup m = none := by
  rw [List.lookup_cons, h1, List.lookup_cons, h2]
  rfl
theorem fld_head {n : Nat} {S : Sto} {h c : List Int} (hr : S[n]? = some (rowC h c)) : fldR (.ok (.cel n) S) ["Row"] "head" = .ok (T h) S := fldR_at hr (List.mem_singleton.mpr rfl) (look_head h c)
theorem fld_cycle {n : Nat} {S : Sto} {h c : List Int} (hr : S[n]? = some (rowC h c)) : fldR (.ok (.cel n) S) ["Row"] "cycle" = .ok (T c) S := fldR_at hr (List.mem_singleton.mpr rfl) (look_cycle h c)
/-! ### a row is made -/
theorem put_head (h : List Int) : putD ("head" : Str) (T h) [] = [(("head" : Str), T h)] := rfl
theorem put_cycle (h c : List Int) : putD ("cycle" : Str) (T c) [(("head" : Str), T h)] = [(("head" : Str), T h), (("cycle" : Str), T c)] := by
  unfold putD
  rw [if_neg hc_ne]
  rfl
theorem init_loop {S : Sto} {x : D} {es : List Int} {y z : D} :
    (∀ e ∈ es, 0 ≤ e) → ∃ w, forGo none (ilist es) (gN 3) (sSeq (sIf (tBin dLt (eVar 3) (eC (.a (.int (0))))) (sSeq (sRaise "OutOfRange") sNil) sNil) sNil) (ilist es) [some x, some y, some z, none] S = .nx [some x, some y, some z, w] S := by
  intro hp
  obtain ⟨env', S', e, rfl, w, rfl⟩ := forGo_nx (all := ilist es) (body := sSeq (sIf (tBin dLt (eVar 3) (eC (.a (.int (0))))) (sSeq (sRaise "OutOfRange") sNil) sNil) sNil) (i := 3) (r := ilist es) (env := [some x, some y, some z, none]) (S := S) (fun j env S' => S' = S ∧ ∃ w, env = [some x, some y, some z, w]) ⟨rfl, none, rfl⟩ (by
    rintro j d env S' hd ⟨rfl, w, rfl⟩
    unfold ilist at hd
    rw [List.getElem?_map] at hd
    cases he : es[j]? with
    | none => rw [he] at hd; cases hd
    | some v =>
      rw [he] at hd
      cases hd
      have hv := hp v (List.mem_of_getElem? he)
      have hv' : ¬ v < 0 := by omega
      exact ⟨[some x, some y, some z, some (I v)], S', by simp [hv'], rfl, _, rfl⟩)
  exact ⟨w, e⟩
theorem init_raise {S : Sto} {x : D} {es : List Int} {y z : D} (hb : ∃ e ∈ es, e < 0) : ∃ env, forGo none (ilist es) (gN 3) (sSeq (sIf (tBin dLt (eVar 3) (eC (.a (.int (0))))) (sSeq (sRaise "OutOfRange") sNil) sNil) sNil) (ilist es) [some x, some y, some z, none] S = .ex ⟨"OutOfRange", []⟩ env S := by
  refine forGo_inv (all := ilist es) (body := sSeq (sIf (tBin dLt (eVar 3) (eC (.a (.int (0))))) (sSeq (sRaise "OutOfRange") sNil) sNil) sNil) (i := 3) (Q := fun r => ∃ env, r = SR.ex ⟨"OutOfRange", []⟩ env S) (fun j env S' => S' = S ∧ (∃ w, env = [some x, some y, some z, w]) ∧ ∀ i v, i < j → es[i]? = some v → 0 ≤ v) (ilist es) 0 _ _ ⟨rfl, ⟨none, rfl⟩, fun i v hi => absurd hi (Nat.not_lt_zero i)⟩ ?_ ?_
  · rintro j d env S' hd ⟨rfl, ⟨w, rfl⟩, hpre⟩
    rw [Nat.zero_add] at hpre ⊢
    unfold ilist at hd
    rw [List.getElem?_map] at hd
    cases he : es[j]? with
    | none => rw [he] at hd; cases hd
    | some v =>
      rw [he] at hd
      cases hd
      by_cases hv : v < 0
      · exact .inr (.inr (.inr ⟨⟨"OutOfRange", []⟩, [some x, some y, some z, some (I v)], S', by simp [hv], _, rfl⟩))
      · refine .inl ⟨[some x, some y, some z, some (I v)], S', .inl (by simp [hv]), rfl, ⟨_, rfl⟩, fun i u hi hu => ?_⟩
        by_cases hij : i = j
        · subst hij
          rw [he] at hu
          cases hu
          omega
        · exact hpre i u (by omega) hu
  · rintro env S' ⟨rfl, ⟨w, rfl⟩, hpre⟩
    exfalso
    obtain ⟨e, he, hlt⟩ := hb
    obtain ⟨i, hi, rfl⟩ := List.getElem_of_mem he
    have := hpre i es[i] (by rw [ilist_len]; omega) (List.getElem?_eq_getElem hi)
    omega
theorem sem_init (k : Nat) {h c : List Int} {S : Sto} (v : VR h c) : (sem (k + 2)).Rowdd_initdd [.cel S.length, T h, T c] (S ++ [.ins "Row" []]) = .ok (.a .non) (S ++ [rowC h c]) := by
  have hn : 0 < c.length := List.length_pos_iff.mpr v.ne
  have hn' : ¬ (c.length : Int) = 0 := by omega
  rw [e_Rowdd_initdd, defSem_eq (n := 3) (ds := [_, _, _]) rfl]
  have hadd := dAdd_tup (xs := ilist h) (ys := ilist c) (S := S ++ [.ins "Row" []]) (by rw [ilist_len, ilist_len]; have := v.cl; have := v.hl; exact small_line (by omega))
  obtain ⟨w, hl⟩ := init_loop (S := S ++ [.ins "Row" []]) (x := .cel S.length) (y := T h) (z := T c) (es := h ++ c) fun e he => (List.mem_append.mp he).elim (v.hp e) (v.cp e)
  have f1 := sfld2_at (cs := ["Row"]) (f := "head") (v := T h) (env := [some (.cel S.length), some (T h), some (T c), w]) (S := S ++ [.ins "Row" []]) (n := S.length) (c := "Row") (fs := []) new_at (List.mem_singleton.mpr rfl) (by simp)
  rw [put_head] at f1
  have hs1 : (S ++ [Cell.ins "Row" []]).set S.length (.ins "Row" [("head", T h)]) = S ++ [.ins "Row" [("head", T h)]] := by simp
  rw [hs1] at f1
  have f2 := sfld2_at (cs := ["Row"]) (f := "cycle") (v := T c) (env := [some (.cel S.length), some (T h), some (T c), w]) (S := S ++ [.ins "Row" [("head", T h)]]) (n := S.length) (c := "Row") (fs := [("head", T h)]) new_at (List.mem_singleton.mpr rfl) (by simp)
  rw [put_cycle] at f2
  have hs2 : (S ++ [Cell.ins "Row" [("head", T h)]]).set S.length (.ins "Row" [("head", T h), ("cycle", T c)]) = S ++ [rowC h c] := by simp [rowC]
  rw [hs2] at f2
  have hb : bodyR (b_Rowdd_initdd (sem (k + 1)) (sem k) [some (.cel S.length), some (T h), some (T c), none] (S ++ [.ins "Row" []])) = .ok (.a .non) (S ++ [rowC h c]) := by
    simp [b_Rowdd_initdd, hn', v.ne, hadd, ilist_app, hl, f1, f2]
  refine (congrArg (region _) hb).trans (region_len _ _ (by simp))
theorem sem_initX (k : Nat) {h c : List Int} {S : Sto} (hl : h.length ≤ 1000) (hcl : c.length ≤ 1000) (hb : c = [] ∨ ∃ e ∈ h ++ c, e < 0) : (sem (k + 2)).Rowdd_initdd [.cel S.length, T h, T c] (S ++ [.ins "Row" []]) = .exc ⟨"OutOfRange", []⟩ (S ++ [.ins "Row" []]) := by
  rw [e_Rowdd_initdd]
  refine def_purex (n := 3) (ds := [_, _, _]) rfl ?_
  by_cases hc : c = []
  · subst hc
    have : ilist [] = [] := rfl
    simp [b_Rowdd_initdd, this]
  · have hn : 0 < c.length := List.length_pos_iff.mpr hc
    have hn' : ¬ (c.length : Int) = 0 := by omega
    have hadd := dAdd_tup (xs := ilist h) (ys := ilist c) (S := S ++ [.ins "Row" []]) (by rw [ilist_len, ilist_len]; exact small_line (by omega))
    obtain ⟨env, hr⟩ := init_raise (S := S ++ [.ins "Row" []]) (x := .cel S.length) (y := T h) (z := T c) (es := h ++ c) (hb.resolve_left hc)
    simp [b_Rowdd_initdd, hn', hadd, ilist_app, hr, hc]
theorem make_row (k : Nat) {h c : List Int} {S : Sto} (v : VR h c) : make2 ((sem (k + 2)).Rowdd_initdd [.cel S.length, T h, T c] (S ++ [.ins "Row" []])) S.length = .ok (.cel S.length) (S ++ [rowC h c]) := by
  rw [sem_init k v]
  rfl
end K55
set_option maxRecDepth 100000
set_option exponentiation.threshold 600
namespace K55
open PySem PySem.Spec PyProof.Rows L2 G M55
theorem mth {m : Str} {n : Nat} {S : Sto} {h c : List Int} (hr : S[n]? = some (rowC h c)) (h1 : (m == ("head" : Str)) = false) (h2 : (m == ("cycle" : Str)) = false) : methG "Row" m S[n]? = true := methG_at hr (look_no h c h1 h2)
theorem sem_get (k : Nat) {h c : List Int} {S : Sto} {n i : Nat} (hc : c ≠ []) (hr : S[n]? = some (rowC h c)) : (sem (k + 2)).Rowdd_getitemdd [.cel n, I (i : Nat)] S = .ok (I (sq h c i)) S := by
  have hn : (0 : Int) < c.length := by have := List.length_pos_iff.mpr hc; omega
  have h0 : ¬ (i : Int) < 0 := by omega
  rw [e_Rowdd_getitemdd]
  refine def_pure (n := 2) (ds := [_, _]) rfl ?_
  by_cases hi : i < h.length
  · have hi' : (i : Int) < (h.length : Int) := by omega
    simp [b_Rowdd_getitemdd, h0, fld_head hr, fld_cycle hr, hi', hi, at_lt c hi]
  · have hi' : ¬ (i : Int) < (h.length : Int) := by omega
    simp [b_Rowdd_getitemdd, h0, fld_head hr, fld_cycle hr, hi', hi, dMod_pos hn, at_ge hc (Nat.le_of_not_lt hi)]
theorem sem_getX (k : Nat) {S : Sto} {n : Nat} {i : Int} (hi : i < 0) : (sem (k + 2)).Rowdd_getitemdd [.cel n, I i] S = .exc ⟨"OutOfRange", []⟩ S := by
  rw [e_Rowdd_getitemdd]
  refine def_purex (n := 2) (ds := [_, _]) rfl ?_
  simp [b_Rowdd_getitemdd, hi]
theorem rangeL_map (f : Nat → Int) (n : Nat) : ((rangeL 0 n).map fun d => I (f (nOf d))) = ilist ((List.range n).map f) := by
  unfold rangeL ilist
  rw [List.map_map, List.map_map]
  refine List.map_congr_left fun i _ => ?_
  show I (f (nOf (I (0 + (i : Int))))) = I (f i)
  rw [Int.zero_add, nOf_nat]
theorem sem_start (k : Nat) {h c : List Int} {S : Sto} {n len : Nat} (hc : c ≠ []) (hr : S[n]? = some (rowC h c)) (hl : len ≤ 100000) : (sem (k + 4)).Row_start [.cel n, I (len : Nat)] S = .ok (T ((List.range len).map (sq h c))) S := by
  have h0 : ¬ (len : Int) < 0 := by omega
  rw [e_Row_start]
  refine def_pure (n := 2) (ds := [_, _]) rfl ?_
  have hrr := iR1R_nat (n := len) S (by omega)
  have hlc : lcGo none (rangeL 0 len) (gN 2) tTrue (eIxO "Row" (sem (k + 2)).Rowdd_getitemdd (eVar 0) (eVar 2)) [some (.cel n), some (I (len : Nat)), none] (rangeL 0 len) S = .ok ((rangeL 0 len).map fun d => I (sq h c (nOf d))) S := by
    refine lcGo_map _ _ fun d hd => ?_
    obtain ⟨i, hi, rfl⟩ := rangeL_mem hd
    have e : nOf (.a (.int (i : Int))) = i := nOf_nat i
    rw [e]
    simp
    rw [ixO2_at hr]
    exact sem_get k hc hr
  have hlr := lcR_rng (lo := 0) (n := len) (t := gN 2) (ifs := tTrue) (elt := eIxO "Row" (sem (k + 2)).Rowdd_getitemdd (eVar 0) (eVar 2)) (env := [some (.cel n), some (I (len : Nat)), none]) (S := S) (g := none) (go := lcGo) (small_line hl)
  rw [hlc, rangeL_map (sq h c)] at hlr
  simp [b_Row_start, h0, hrr, wipeS, hlr]
theorem sem_startX (k : Nat) {S : Sto} {n : Nat} {i : Int} (hi : i < 0) : (sem (k + 2)).Row_start [.cel n, I i] S = .exc ⟨"OutOfRange", []⟩ S := by
  rw [e_Row_start]
  refine def_purex (n := 2) (ds := [_, _]) rfl ?_
  simp [b_Row_start, hi]
theorem region_new1 {S : Sto} {c : Cell} : region S.length (.ok (.cel S.length) (S ++ [c])) = .ok (.cel S.length) (S ++ [c]) := by
  unfold region
  dsimp only
  rw [if_neg fun z => by
    have := z.1
    unfold D.lo at this
    have := of_decide_eq_true this
    omega, new_at]
  dsimp only
  split
  · rw [List.take_left']
    rfl
  · rfl
/-- the cycle of the least form, turned as the program turns it -/
theorem turned_lf {h c : List Int} (hc : c ≠ []) : (c.take (per c)).drop (-((h.length : Int) - (kp h c : Int)) % ((c.take (per c)).length : Int)).toNat ++ (c.take (per c)).take (-((h.length : Int) - (kp h c : Int)) % ((c.take (per c)).length : Int)).toNat = lfC h c := by
  have hp0 := per_pos hc
  have hpl := per_le hc
  have hlen : (c.take (per c)).length = per c := by rw [List.length_take]; omega
  have hpp : (0 : Int) < per c := by omega
  rw [hlen]
  have hn1 := Int.emod_nonneg (-((h.length : Int) - (kp h c : Int))) (Int.ne_of_gt hpp)
  have hn2 := Int.emod_lt_of_pos (-((h.length : Int) - (kp h c : Int))) hpp
  generalize hst : (-((h.length : Int) - (kp h c : Int)) % (per c : Int)).toNat = st
  have hstl : st ≤ (c.take (per c)).length := by omega
  have hl2 : ((c.take (per c)).drop st ++ (c.take (per c)).take st).length = per c := by simp only [List.length_append, List.length_drop, List.length_take]; omega
  refine List.ext_getElem? fun i => ?_
  by_cases hi : i < per c
  · have e1 := turn_bq hstl i
    rw [bq_lt (by omega), getD_eq, take_per_bq hc] at e1
    have e2 := tail_at hc (least_at (h := h) hc).per (kp h c + i) (by omega)
    rw [List.getElem?_eq_getElem (by omega)] at e1 ⊢
    rw [Option.getD_some] at e1
    rw [e1]
    unfold lfC
    rw [List.getElem?_map, List.getElem?_range hi, Option.map_some, e2]
    congr 1
    have hP : Per (bq c) 0 (per c) := fun i _ => per_cp i
    have e3 := per_mod hP hp0 (st + i)
    rw [Nat.zero_add, Nat.zero_add] at e3
    rw [e3]
    congr 1
    have e4 : ((st : Nat) : Int) = -((h.length : Int) - (kp h c : Int)) % (per c : Int) := by omega
    have e5 : (((st + i) % per c : Nat) : Int) = (((kp h c + i : Nat) : Int) - (h.length : Int)) % (per c : Int) := by
      rw [Int.natCast_emod, show ((st + i : Nat) : Int) = (st : Int) + (i : Int) by omega, e4, Int.emod_add_emod]
      congr 1
      omega
    omega
  · rw [List.getElem?_eq_none (by omega), List.getElem?_eq_none (by rw [lfC_len]; omega)]
theorem take_lf {h c : List Int} : h.take (kp h c) = lfH h c := by
  have hk := kp_le h c
  have := app_take (h := h) (c := c) (K := kp h c) (by omega)
  rw [List.take_append_of_le_length hk] at this
  exact this
theorem sem_rleast (k : Nat) {h c : List Int} {S : Sto} {n : Nat} (v : VR h c) (hr : S[n]? = some (rowC h c)) : (sem (k + 4)).Row_least [.cel n] S = .ok (.cel S.length) (S ++ [rowC (lfH h c) (lfC h c)]) := by
  have hk := kp_le h c
  rw [e_Row_least, defSem_eq (n := 1) (ds := [_]) rfl]
  have hcut : cutL (ilist h) none (some ((h.length : Int) - ((h.length : Int) - (kp h c : Int)))) = ilist (lfH h c) := by
    rw [show (h.length : Int) - ((h.length : Int) - (kp h c : Int)) = ((kp h c : Nat) : Int) by omega, cut_ilist, cutL_take hk, take_lf]
  have hlen : (c.take (per c)).length ≤ 1000 := by rw [List.length_take]; have := v.cl; omega
  have hne : c.take (per c) ≠ [] := fun e => by
    have := congrArg List.length e
    have h1 := per_pos v.ne
    have h2 := List.length_pos_iff.mpr v.ne
    rw [List.length_take, List.length_nil] at this
    omega
  have ht := sem_turned (k + 1) (n := -((h.length : Int) - (kp h c : Int))) (S := S) hne hlen
  rw [turned_lf v.ne] at ht
  have hb : bodyR (b_Row_least (sem (k + 3)) (sem (k + 2)) [some (.cel n), none, none] S) = .ok (.cel S.length) (S ++ [rowC (lfH h c) (lfC h c)]) := by
    simp [b_Row_least, fld_head hr, fld_cycle hr, sem_sc (k + 1) v.ne v.cl, sem_loose (k + 1) v.ne v.cl v.hl, hcut, ht, make_row k v.lf]
  exact (congrArg (region _) hb).trans region_new1
end K55
set_option maxRecDepth 100000
set_option exponentiation.threshold 600
namespace K55
open PySem PySem.Spec PyProof.Rows L2 G M55
/-- f, r hold the row behind count entries -/
structure Behind (h c : List Int) (n : Nat) (f r : List Int) : Prop where
  v : VR f r
  e : sq f r = fun i => sq h c (n + i)
theorem bq_shift (c : List Int) (a : Nat) (i : Nat) : bq c (a % c.length + i) = bq c (a + i) := by
  unfold bq
  rw [Nat.mod_add_mod]
theorem sq_drop {h c : List Int} {n : Nat} (hn : n ≤ h.length) : sq (h.drop n) c = fun i => sq h c (n + i) := by
  funext i
  unfold sq
  rw [List.length_drop]
  by_cases hi : i < h.length - n
  · rw [if_pos hi, if_pos (by omega), getD_eq, getD_eq, List.getElem?_drop]
  · rw [if_neg hi, if_neg (by omega)]
    congr 1
    omega
theorem sq_turn {h c : List Int} {n : Nat} (hc : c ≠ []) (hn : h.length < n) : sq [] (c.drop ((n - h.length) % c.length) ++ c.take ((n - h.length) % c.length)) = fun i => sq h c (n + i) := by
  funext i
  have hlt := Nat.mod_lt (n - h.length) (List.length_pos_iff.mpr hc)
  unfold sq
  rw [if_neg (by simp), if_neg (by omega), List.length_nil, Nat.sub_zero, turn_bq (by omega), bq_shift]
  congr 1
  omega
theorem behind_law {h c : List Int} (v : VR h c) (n : Nat) : Behind h c n ((List.range (h.length - n)).map fun p => sq h c (n + p)) ((List.range c.length).map fun p => sq h c (n + (h.length - n) + p)) := by
  have hn : 0 < c.length := List.length_pos_iff.mpr v.ne
  refine ⟨⟨fun e => ?_, by rw [List.length_map, List.length_range]; exact v.cl, ?_, fun x hx => ?_, fun x hx => ?_⟩, ?_⟩
  · have := congrArg List.length e
    rw [List.length_map, List.length_range, List.length_nil] at this
    omega
  · rw [List.length_map, List.length_range]; have := v.hl; omega
  · obtain ⟨i, _, rfl⟩ := List.mem_map.mp hx; exact v.sq _
  · obtain ⟨i, _, rfl⟩ := List.mem_map.mp hx; exact v.sq _
  · funext i
    have hl1 : ((List.range (h.length - n)).map fun p => sq h c (n + p)).length = h.length - n := by rw [List.length_map, List.length_range]
    have hl2 : ((List.range c.length).map fun p => sq h c (n + (h.length - n) + p)).length = c.length := by rw [List.length_map, List.length_range]
    by_cases hi : i < h.length - n
    · rw [sq_lt (by omega)]
      simp
    · rw [sq_ge (by omega), hl1]
      unfold bq
      rw [hl2]
      have hm := Nat.mod_lt (i - (h.length - n)) hn
      rw [getD_eq, List.getElem?_map, List.getElem?_range hm, Option.map_some, Option.getD_some]
      have hP : Per (sq h c) (n + (h.length - n)) c.length := (sq_per h c).mono (by omega)
      rw [← per_mod hP hn, show n + (h.length - n) + (i - (h.length - n)) = n + i by omega]
theorem sem_behind (k : Nat) {h c : List Int} {n : Nat} {S : Sto} (v : VR h c) : ∃ f r, Behind h c n f r ∧ (sem (k + 3))._law_behind [T h, T c, I (n : Nat)] S = .ok (.tup [T (lfH f r), T (lfC f r)]) S := by
  have hb := behind_law v n
  refine ⟨_, _, hb, ?_⟩
  rw [e__law_behind]
  refine def_pure (n := 3) (ds := [_, _, _]) rfl ?_
  have hmax : (if (0 : Int) > (h.length : Int) - (n : Int) then (0 : Int) else (h.length : Int) - (n : Int)) = ((h.length - n : Nat) : Int) := by
    split <;> omega
  have l1 : ∀ (x y z : Option D), lcGo none (rangeL 0 (h.length - n)) (gN 6) tTrue (eCall (sem (k + 2))._law_at [] (aCons (eVar 0) (aCons (eVar 1) (aCons (eBin dAdd (eVar 2) (eVar 6)) aNil)))) [some (T h), some (T c), some (I (n : Nat)), some (I ((h.length - n : Nat) : Int)), x, y, none] (rangeL 0 (h.length - n)) S = .ok (ilist ((List.range (h.length - n)).map fun p => sq h c (n + p))) S := fun x y z => by
    rw [← rangeL_map fun p => sq h c (n + p)]
    refine lcGo_map _ _ fun d hd => ?_
    obtain ⟨i, hi, rfl⟩ := rangeL_mem hd
    have e : nOf (.a (.int (i : Int))) = i := nOf_nat i
    rw [e]
    have ha := sem_at k (h := h) (c := c) (i := n + i) (S := S) v.ne
    rw [show ((n + i : Nat) : Int) = (n : Int) + (i : Int) by omega] at ha
    simp [ha]
  have l2 : ∀ (x y z : Option D), lcGo none (rangeL 0 c.length) (gN 6) tTrue (eCall (sem (k + 2))._law_at [] (aCons (eVar 0) (aCons (eVar 1) (aCons (eBin dAdd (eBin dAdd (eVar 2) (eVar 3)) (eVar 6)) aNil)))) [some (T h), some (T c), some (I (n : Nat)), some (I ((h.length - n : Nat) : Int)), x, y, none] (rangeL 0 c.length) S = .ok (ilist ((List.range c.length).map fun p => sq h c (n + (h.length - n) + p))) S := fun x y z => by
    rw [← rangeL_map fun p => sq h c (n + (h.length - n) + p)]
    refine lcGo_map _ _ fun d hd => ?_
    obtain ⟨i, hi, rfl⟩ := rangeL_mem hd
    have e : nOf (.a (.int (i : Int))) = i := nOf_nat i
    rw [e]
    have ha := sem_at k (h := h) (c := c) (i := n + (h.length - n) + i) (S := S) v.ne
    rw [show ((n + (h.length - n) + i : Nat) : Int) = (n : Int) + ((h.length - n : Nat) : Int) + (i : Int) by omega] at ha
    generalize ((h.length - n : Nat) : Int) = q at ha ⊢
    simp [ha]
  have r1 := iR1R_nat (n := h.length - n) S (by have := v.hl; omega)
  have r2 := iR1R_nat (n := c.length) S (by have := v.cl; omega)
  have q1 := fun x y => lcR_rng (lo := 0) (n := h.length - n) (t := gN 6) (ifs := tTrue) (elt := eCall (sem (k + 2))._law_at [] (aCons (eVar 0) (aCons (eVar 1) (aCons (eBin dAdd (eVar 2) (eVar 6)) aNil)))) (env := [some (T h), some (T c), some (I (n : Nat)), some (I ((h.length - n : Nat) : Int)), x, y, none]) (S := S) (g := none) (go := lcGo) (small_line (by have := v.hl; omega))
  have q2 := fun x y => lcR_rng (lo := 0) (n := c.length) (t := gN 6) (ifs := tTrue) (elt := eCall (sem (k + 2))._law_at [] (aCons (eVar 0) (aCons (eVar 1) (aCons (eBin dAdd (eBin dAdd (eVar 2) (eVar 3)) (eVar 6)) aNil)))) (env := [some (T h), some (T c), some (I (n : Nat)), some (I ((h.length - n : Nat) : Int)), x, y, none]) (S := S) (g := none) (go := lcGo) (small_line (by have := v.cl; omega))
  have ll := sem_lleast k (h := (List.range (h.length - n)).map fun p => sq h c (n + p)) (c := (List.range c.length).map fun p => sq h c (n + (h.length - n) + p)) (S := S) hb.v.ne hb.v.cl hb.v.hl
  have q1' := fun x y => (q1 x y).trans (l1 x y none)
  have q2' := fun x y => (q2 x y).trans (l2 x y none)
  clear q1 q2 l1 l2
  generalize ((List.range (h.length - n)).map fun p => sq h c (n + p)) = f at *
  generalize ((List.range c.length).map fun p => sq h c (n + (h.length - n) + p)) = r at *
  generalize hq : ((h.length - n : Nat) : Int) = q at *
  simp only [b__law_behind, List.map_cons, List.map_nil, List.length_cons, List.length_nil, Nat.reduceAdd, Nat.reduceSub, List.replicate, List.cons_append, List.nil_append, sSeq_eq, sSet_eq, eCallB_eq, aCons_eq, eBin_eq, eVar_eq, List.getElem?_cons_zero, List.getElem?_cons_succ, varR_some, aNil_eq, cons1_ok, cons2_ok, cbR_ok, dLen_tup, ilist_len, ofO_some, bin1_ok, bin2_ok, dSub_int, eC_eq, dMax2_int, hmax, setR_ok, List.set_cons_succ, List.set_cons_zero, sq_nx]
  simp [r1, r2, wipeS, q1', q2', ll]
theorem sem_after (k : Nat) {h c : List Int} {S : Sto} {m n : Nat} (v : VR h c) (hr : S[m]? = some (rowC h c)) : OkP (FixB S fun cell => ∃ f r, Behind h c n f r ∧ cell = rowC (lfH f r) (lfC f r)) ((sem (k + 5)).Row_after [.cel m, I (n : Nat)] S) := by
  have h0 : ¬ (n : Int) < 0 := by omega
  have hc0 := List.length_pos_iff.mpr v.ne
  rw [e_Row_after]
  refine def_fixB (n := 2) (ds := [_, _]) rfl ?_
  have key : ∀ f r, VR f r → make2 ((sem (k + 3)).Rowdd_initdd [.cel S.length, T f, T r] (S ++ [.ins "Row" []])) S.length = .ok (.cel S.length) (S ++ [rowC f r]) ∧ methG "Row" "least" (S ++ [rowC f r])[S.length]? = true ∧ (sem (k + 4)).Row_least [.cel S.length] (S ++ [rowC f r]) = .ok (.cel (S ++ [rowC f r]).length) ((S ++ [rowC f r]) ++ [rowC (lfH f r) (lfC f r)]) := fun f r hv =>
    ⟨make_row (k + 1) hv, mth new_at (by decide +kernel) (by decide +kernel), sem_rleast k hv new_at⟩
  have fin : ∀ f r, Behind h c n f r → FixB S (fun cell => ∃ f r, Behind h c n f r ∧ cell = rowC (lfH f r) (lfC f r)) (.cel (S ++ [rowC f r]).length) ((S ++ [rowC f r]) ++ [rowC (lfH f r) (lfC f r)]) := fun f r hb =>
    ⟨_, _, rfl, by rw [List.length_append]; omega, new_at, ⟨f, r, hb, rfl⟩, Fix.push.trans Fix.push⟩
  by_cases hn : n ≤ h.length
  · have hn' : (n : Int) ≤ (h.length : Int) := by omega
    have hv : VR (h.drop n) c := ⟨v.ne, v.cl, by rw [List.length_drop]; have := v.hl; omega, fun x hx => v.hp x (List.mem_of_mem_drop hx), v.cp⟩
    obtain ⟨k1, k2, k3⟩ := key _ _ hv
    have hf := fin _ _ ⟨hv, sq_drop hn⟩
    have ecut : cutL (ilist h) (some (n : Int)) none = ilist (h.drop n) := by rw [cut_ilist, cutL_drop hn]
    generalize hX : ((S ++ [rowC (h.drop n) c]) ++ [rowC (lfH (h.drop n) c) (lfC (h.drop n) c)]) = X at k3 hf
    generalize hY : S ++ [rowC (h.drop n) c] = Y at k1 k2 k3 hf
    have hle : decide ((n : Int) ≤ (h.length : Int)) = true := decide_eq_true hn'
    simp only [b_Row_after, List.map_cons, List.map_nil, List.length_cons, List.length_nil, Nat.reduceAdd, Nat.reduceSub, List.replicate, List.append_nil, sSeq_eq, sIf_eq, tBin_eq, eVar_eq, List.getElem?_cons_zero, List.getElem?_cons_succ, varR_some, eC_eq, bin1_ok, bin2_ok, dLt_int, h0, decide_false, ofO_some, toB_ok, ifR_f, sNil_eq, sq_nx, eCallB_eq, aCons_eq, eFld_eq, fld_head hr, fld_cycle hr, aNil_eq, cons1_ok, cons2_ok, cbR_ok, dLen_tup, ilist_len, dLe_int, hle, ifR_t, sRet_eq, eMethO_eq, eMake_eq, eCut_eq, oSome_eq, oNone_eq, cut1_ok, someR_ok, cut2_ok, cut3_ok, dCut_tup, ecut, make1_ok, k1, meth1_ok, k2, meth2_t, meth3_ok, k3, retR_ok, sq_rt, RtP_rt]
    exact hf
  · have hn2 := Nat.lt_of_not_le hn
    have hn' : ¬ (n : Int) ≤ (h.length : Int) := by omega
    have hst : (((n : Int) - (h.length : Int)) % (c.length : Int)).toNat = (n - h.length) % c.length := by
      have : ((n : Int) - (h.length : Int)) % (c.length : Int) = (((n - h.length) % c.length : Nat) : Int) := by
        rw [Int.natCast_emod]; congr 1; omega
      rw [this, Int.toNat_natCast]
    have hlt := Nat.mod_lt (n - h.length) hc0
    have hv : VR [] (c.drop ((n - h.length) % c.length) ++ c.take ((n - h.length) % c.length)) := by
      have hlen : (c.drop ((n - h.length) % c.length) ++ c.take ((n - h.length) % c.length)).length = c.length := by simp only [List.length_append, List.length_drop, List.length_take]; omega
      refine ⟨fun e => ?_, by rw [hlen]; exact v.cl, Nat.zero_le _, fun _ hx => (by cases hx), fun x hx => ?_⟩
      · rw [e, List.length_nil] at hlen; omega
      · rcases List.mem_append.mp hx with hx | hx
        · exact v.cp x (List.mem_of_mem_drop hx)
        · exact v.cp x (List.mem_of_mem_take hx)
    have ht := sem_turned (k + 2) (cy := c) (n := (n : Int) - (h.length : Int)) (S := S) v.ne v.cl
    rw [hst] at ht
    obtain ⟨k1, k2, k3⟩ := key _ _ hv
    have hf := fin _ _ ⟨hv, sq_turn v.ne hn2⟩
    generalize c.drop ((n - h.length) % c.length) ++ c.take ((n - h.length) % c.length) = cc at *
    generalize hX : ((S ++ [rowC [] cc]) ++ [rowC (lfH [] cc) (lfC [] cc)]) = X at k3 hf
    generalize hY : S ++ [rowC [] cc] = Y at k1 k2 k3 hf
    have hle : decide ((n : Int) ≤ (h.length : Int)) = false := decide_eq_false hn'
    have k1' : make2 ((sem (k + 3)).Rowdd_initdd [.cel S.length, .tup [], T cc] (S ++ [.ins "Row" []])) S.length = .ok (.cel S.length) Y := k1
    simp only [b_Row_after, List.map_cons, List.map_nil, List.length_cons, List.length_nil, Nat.reduceAdd, Nat.reduceSub, List.replicate, List.append_nil, sSeq_eq, sIf_eq, tBin_eq, eVar_eq, List.getElem?_cons_zero, List.getElem?_cons_succ, varR_some, eC_eq, bin1_ok, bin2_ok, dLt_int, h0, decide_false, ofO_some, toB_ok, ifR_f, sNil_eq, sq_nx, eCallB_eq, aCons_eq, eFld_eq, fld_head hr, fld_cycle hr, aNil_eq, cons1_ok, cons2_ok, cbR_ok, dLen_tup, ilist_len, dLe_int, hle, sRet_eq, eMethO_eq, eMake_eq, eTup_eq, tupR_ok, eCall_eq, callR_ok, eBin_eq, dSub_int, ht, make1_ok, k1', meth1_ok, k2, meth2_t, meth3_ok, k3, retR_ok, sq_rt, RtP_rt]
    exact hf
theorem sem_afterX (k : Nat) {S : Sto} {m : Nat} {i : Int} (hi : i < 0) : (sem (k + 2)).Row_after [.cel m, I i] S = .exc ⟨"OutOfRange", []⟩ S := by
  rw [e_Row_after]
  refine def_purex (n := 2) (ds := [_, _]) rfl ?_
  simp [b_Row_after, hi]
end K55
set_option maxRecDepth 100000
set_option exponentiation.threshold 600
namespace K55
open PySem PySem.Spec PyProof.Rows L2 G M55
theorem hPick (k : Nat) : (sem (k + 2))._law_pick = defSem 2 5 bPick := by rw [e__law_pick]; rfl
theorem lf_iff {h c h' c' : List Int} (hc : c ≠ []) (hc' : c' ≠ []) : (lfH h c = lfH h' c' ∧ lfC h c = lfC h' c') ↔ sq h c = sq h' c' := ⟨fun ⟨a, b⟩ => lf_inj hc hc' a b, fun e => lf_eq hc hc' e⟩
open Classical in
theorem sem_same_rows (k : Nat) {h c h' c' : List Int} {S : Sto} {a b : Nat} (v : VR h c) (v' : VR h' c') (ha : S[a]? = some (rowC h c)) (hb : S[b]? = some (rowC h' c')) :
    OkP (FixA S fun d => d = .a (.bl (decide (sq h c = sq h' c')))) ((sem (k + 6)).same_rows [.cel a, .cel b] S) := by
  rw [e_same_rows]
  refine def_fixA (n := 2) (ds := [_, _]) rfl ?_
  have l1 := sem_rleast (k + 1) v ha
  have f1 : Fix S (S ++ [rowC (lfH h c) (lfC h c)]) := Fix.push
  have hb1 := f1.get hb
  have ha1 := f1.get ha
  have l2 := sem_rleast (k + 1) v' hb1
  have g1 : methG "Row" "least" S[a]? = true := mth ha (by decide +kernel) (by decide +kernel)
  have g2 : methG "Row" "least" (S ++ [rowC (lfH h c) (lfC h c)])[b]? = true := mth hb1 (by decide +kernel) (by decide +kernel)
  have r1 : (S ++ [rowC (lfH h c) (lfC h c)])[S.length]? = some (rowC (lfH h c) (lfC h c)) := new_at
  generalize hS1 : S ++ [rowC (lfH h c) (lfC h c)] = S1 at *
  have f2 : Fix S1 (S1 ++ [rowC (lfH h' c') (lfC h' c')]) := Fix.push
  have r1' := f2.get r1
  have r2 : (S1 ++ [rowC (lfH h' c') (lfC h' c')])[S1.length]? = some (rowC (lfH h' c') (lfC h' c')) := new_at
  generalize hS2 : S1 ++ [rowC (lfH h' c') (lfC h' c')] = S2 at *
  have ft := f1.trans f2
  unfold b_same_rows
  refine st_set (by simp [g1, l1]; exact ⟨rfl, rfl⟩) ?_
  refine st_set (by simp [g2, l2]; exact ⟨rfl, rfl⟩) ?_
  have hd := lf_iff (h := h) (h' := h') v.ne v'.ne
  by_cases e1 : lfH h c = lfH h' c'
  · refine st_ret (by simp [fld_head r1', fld_head r2, fld_cycle r1', fld_cycle r2, dEq_ilist, e1]; rfl) ⟨?_, noC_atom _, ft⟩
    by_cases e2 : lfC h c = lfC h' c'
    · rw [decide_eq_true e2, decide_eq_true (hd.mp ⟨e1, e2⟩)]
    · rw [decide_eq_false e2, decide_eq_false fun z => e2 (hd.mpr z).2]
  · refine st_ret (by simp [fld_head r1', fld_head r2, fld_cycle r1', fld_cycle r2, dEq_ilist, e1]; rfl) ⟨?_, noC_atom _, ft⟩
    rw [decide_eq_false fun z => e1 (hd.mpr z).1]
theorem sem_is_row (k : Nat) {h c : List Int} {S : Sto} {a : Nat} (hh : h.length ≤ 100000) (hc : c.length ≤ 100000) (ha : S[a]? = some (rowC h c)) : (sem (k + 4))._law_is_row [.cel a, .tup [T h, T c]] S = .ok (.a (.bl true)) S := by
  rw [e__law_is_row]
  refine def_pure (n := 2) (ds := [_, _]) rfl ?_
  have s1 := sem_same k (T h) S 1 (pl_T (small_line hh))
  have s2 := sem_same k (T c) S 1 (pl_T (small_line hc))
  rw [show 1 + k + 2 = k + 3 by omega] at s1 s2
  have hi : isCR (.ok (.cel a) S) (subL [("Row", true)]) = .ok (.a (.bl true)) S := isCR_at ha (by decide +kernel)
  have a0 : atI [T h, T c] 0 = some (T h) := rfl
  have a1 : atI [T h, T c] 1 = some (T c) := rfl
  simp [b__law_is_row, hi, fld_head ha, fld_cycle ha, a0, a1, s1, s2]
/-! ### what is drawn -/
/-- entries below top -/
structure GR (h c : List Int) (top : Int) : Prop where
  ne : c ≠ []
  cl : c.length ≤ 400
  hl : h.length ≤ 400
  t2 : 2 ≤ top
  tb : top < 2 ^ 300
  hp : ∀ x ∈ h, 0 ≤ x ∧ x < top
  cp : ∀ x ∈ c, 0 ≤ x ∧ x < top
theorem GR.v {h c : List Int} {top : Int} (g : GR h c top) : VR h c := ⟨g.ne, by have := g.cl; omega, by have := g.hl; omega, fun x hx => (g.hp x hx).1, fun x hx => (g.cp x hx).1⟩
theorem mem_flat {xs : List Int} {k : Nat} {x : Int} (h : x ∈ (List.replicate k xs).flatten) : x ∈ xs := by
  obtain ⟨l, h1, h2⟩ := List.mem_flatten.mp h
  rw [List.eq_of_mem_replicate h1] at h2
  exact h2
theorem set_all {xs : List Int} {P : Int → Prop} {i : Nat} {y : Int} (h : ∀ x ∈ xs, P x) (hy : P y) : ∀ x ∈ xs.set i y, P x := fun x hx => (List.mem_or_eq_of_mem_set hx).elim (h x) fun e => e ▸ hy
theorem ilist_set (xs : List Int) (i : Nat) (y : Int) : (ilist xs).set i (I y) = ilist (xs.set i y) := List.map_set.symm
end K55
set_option maxRecDepth 100000
set_option exponentiation.threshold 600
namespace K55
open PySem PySem.Spec PyProof.Rows L2 G M55
theorem pow60 : CPow 10 60 := by decide +kernel
theorem Ext.bump {s ci : Nat} {S0 S S' : Sto} (x : Ext s S0 S) (hc : S0.length ≤ ci) (hl : S'.length = S.length) (h : ∀ i, i < S.length → i ≠ s → i ≠ ci → S'[i]? = S[i]?) : Ext s S0 S' :=
  ⟨by rw [hl]; exact x.len, fun i hi n => (h i (Nat.lt_of_lt_of_le hi x.len) n (by omega)).trans (x.at_ i hi n)⟩
theorem bump_all {xs : List Int} {top : Int} {v : Nat} (ht : 2 ≤ top) (h : ∀ x ∈ xs, 0 ≤ x ∧ x < top) (y : Int) : ∀ x ∈ xs.set v ((y + 1) % top), 0 ≤ x ∧ x < top :=
  set_all h ⟨Int.emod_nonneg _ (by omega), Int.emod_lt_of_pos _ (by omega)⟩
theorem sem_law_row (k : Nat) {S : Sto} {s : Nat} (h : Stt S s) : OkP (ExtB s S fun cell => ∃ h c top, GR h c top ∧ cell = .lst [T h, T c, I top]) ((sem (k + 3))._law_row [.cel s] S) := by
  have hF := hPick k
  rw [e__law_row]
  refine def_extB (n := 1) (ds := [_]) rfl h.lt ?_
  simp only [List.map_cons, List.map_nil, List.length_cons, List.length_nil, Nat.reduceAdd, Nat.reduceSub, List.replicate, List.cons_append, List.nil_append]
  unfold b__law_row
  generalize hFe : (sem (k + 2))._law_pick = F at hF ⊢
  -- top
  obtain ⟨t, S1, e1, ht, q1, l1, x1⟩ := choose3 (i := 0) (env := [some (.cel s), none, none, none, none, none, none, none, none]) (fl := aCons (eC (.a (.int (2)))) (aCons (eC (.a (.int (3)))) (aCons (eBin dPow (eC (.a (.int (10)))) (eC (.a (.int (60))))) aNil))) (x := I 2) (y := I 3) (z := I (10 ^ 60)) hF rfl (by simp [dPow_lit _ pow60]) h
  obtain ⟨top, rfl, t2, tb⟩ : ∃ top, t = I top ∧ 2 ≤ top ∧ top < 2 ^ 300 := by
    rcases ht with rfl | rfl | rfl
    · exact ⟨2, rfl, by decide, by decide⟩
    · exact ⟨3, rfl, by decide, by decide⟩
    · exact ⟨10 ^ 60, rfl, by decide, by decide⟩
  refine st_set e1 ?_
  simp only [List.set_cons_succ, List.set_cons_zero]
  -- block
  obtain ⟨n1, S2, e2, g2, q2, l2, x2⟩ := pick3E (i := 0) (env := [some (.cel s), some (I top), none, none, none, none, none, none, none]) (fl := aCons (eC (.a (.int (3)))) (aCons (eC (.a (.int (8)))) (aCons (eC (.a (.int (40)))) aNil))) (S := S1) (x := 3) (y := 8) (z := 40) hF rfl (by simp) q1 (B := 40) (by decide) (by decide) (by decide) (by decide)
  obtain ⟨zs, S3, e3, c3, z3, p3, q3, l3, x3⟩ := drawList (i := 0) (j := 8) (vs := List.map (fun p => p.2) ([("k", 8)] : List (Str × Nat))) (f := eVar 1) (L := top) (n := 1 + n1) (eA := eBin dAdd (eC (.a (.int (1)))) (eCall F [] (aCons (eVar 0) (aCons (eIxL (aCons (eC (.a (.int (3)))) (aCons (eC (.a (.int (8)))) (aCons (eC (.a (.int (40)))) aNil))) (eCall F [] (aCons (eVar 0) (aCons (eC (.a (.int (3)))) aNil)))) aNil)))) (S := S1) (S1 := S2) (env := [some (.cel s), some (I top), none, none, none, none, none, none, none]) hF (by decide) rfl (by
    rw [eBin_eq, eC_eq, bin1_ok, e2, bin2_ok, dAdd_int, ofO_some]
    rfl) (by omega) (fun d S => by simp [wipeS]) q2 (by omega) tb
  refine st_set e3 ?_
  simp only [List.set_cons_succ, List.set_cons_zero]
  have hsl := h.lt
  have bi : S2.length ≠ s := by omega
  -- cycle
  obtain ⟨n2, S4, e4, g4, q4, l4, x4⟩ := pick3E (i := 0) (env := [some (.cel s), some (I top), some (.cel S2.length), none, none, none, none, none, none]) (fl := aCons (eC (.a (.int (2)))) (aCons (eC (.a (.int (4)))) (aCons (eC (.a (.int (10)))) aNil))) (S := S3) (x := 2) (y := 4) (z := 10) hF rfl (by simp) q3 (B := 10) (by decide) (by decide) (by decide) (by decide)
  have c4 := x4.get c3 bi
  have hz40 : zs.length ≤ 40 := by omega
  have hcl : zs.length * (1 + n2) ≤ 400 := by
    have := Nat.mul_le_mul hz40 (show 1 + n2 ≤ 10 by omega)
    omega
  refine st_set (d := .cel S4.length) (S' := S4 ++ [.lst (ilist (List.replicate (1 + n2) zs).flatten)]) (by
    rw [eBin_eq, eVar_eq]
    simp only [List.getElem?_cons_zero, List.getElem?_cons_succ, varR_some, bin1_ok]
    rw [eBin_eq, eC_eq, bin1_ok, e4, bin2_ok, dAdd_int, ofO_some, bin2_ok, show (1 : Int) + (n2 : Int) = ((1 + n2 : Nat) : Int) by omega, dMul_lst c4 (by omega) (by rw [ilist_len]; exact small_line (by omega)), ofO_some, flat_ilist]) ?_
  simp only [List.set_cons_succ, List.set_cons_zero]
  generalize hcy : (List.replicate (1 + n2) zs).flatten = cy
  have ycl : cy.length ≤ 400 := by rw [← hcy, M55.flat_len, Nat.mul_comm]; exact hcl
  have yne : cy ≠ [] := fun e => by
    have := congrArg List.length e
    rw [← hcy, M55.flat_len, List.length_nil, Nat.add_mul] at this
    omega
  have ycp : ∀ x ∈ cy, 0 ≤ x ∧ x < top := fun x hx => p3 x (mem_flat (by rw [hcy]; exact hx))
  have c5 : (S4 ++ [Cell.lst (ilist cy)])[S4.length]? = some (.lst (ilist cy)) := new_at
  have q5 : Stt (S4 ++ [Cell.lst (ilist cy)]) s := Fix.push.stt q4
  have x5 : Ext s S (S4 ++ [Cell.lst (ilist cy)]) := (((x1.trans x2).trans x3).trans x4).trans Fix.push.ext
  have l5 : (S4 ++ [Cell.lst (ilist cy)]).length = S4.length + 1 := by simp
  generalize S4 ++ [Cell.lst (ilist cy)] = S5 at *
  generalize hci : S4.length = ci at *
  have ci1 : S.length ≤ ci := by omega
  have ci2 : ci ≠ s := by omega
  -- one entry of the cycle is changed
  obtain ⟨cy6, w4, S6, e6, c6, y6l, y6p, q6, l6, x6⟩ : ∃ (cy6 : List Int) (w4 : Option D) (S6 : Sto), sIf (tBin dEq (eCall F [] (aCons (eVar 0) (aCons (eC (.a (.int (3)))) aNil))) (eC (.a (.int (0)))))
       (sSeq (sSet 4 (eCall F [] (aCons (eVar 0) (aCons (eCallB dLen (aCons (eVar 3) aNil)) aNil)))) (sSeq (sPut (eBin dMod (eCallB dInt (aCons (eBin dAdd (eBin dIx (eVar 3) (eVar 4)) (eC (.a (.int (1))))) aNil)) (eVar 1)) (eVar 3) (eVar 4)) sNil)) sNil
       [some (.cel s), some (I top), some (.cel S2.length), some (.cel ci), none, none, none, none, none] S5 = .nx [some (.cel s), some (I top), some (.cel S2.length), some (.cel ci), w4, none, none, none, none] S6 ∧
       S6[ci]? = some (.lst (ilist cy6)) ∧ cy6.length = cy.length ∧ (∀ x ∈ cy6, 0 ≤ x ∧ x < top) ∧ Stt S6 s ∧ S6.length = S5.length ∧ Ext s S S6 := by
    obtain ⟨v, Sa, ea, ga, gb, qa, la, xa⟩ := pickE (i := 0) (env := [some (.cel s), some (I top), some (.cel S2.length), some (.cel ci), none, none, none, none, none]) (f := eC (.a (.int (3)))) (L := 3) (S := S5) (S1 := S5) hF rfl rfl q5 (by decide) (by decide)
    have ca := xa.get c5 ci2
    by_cases hv : v = 0
    · obtain ⟨m, Sb, eb, hm, cb, qb, lb, xb⟩ := bump (t := 4) (ti := 1) (a := 3) (env := [some (.cel s), some (I top), some (.cel S2.length), some (.cel ci), none, none, none, none, none]) hF rfl rfl rfl (by decide) (by decide) (by decide) (by simp) ca yne (by omega) ci2 (show 0 < top by omega) qa
      refine ⟨_, some (I (m : Nat)), Sb, ?_, cb, by rw [List.length_set], bump_all t2 ycp _, qb, lb.trans la, Ext.bump (x5.trans xa) ci1 lb xb⟩
      rw [sIf_eq, tBin_eq, ea, bin1_ok, eC_eq, bin2_ok, dEq_int, ofO_some, toB_ok, decide_eq_true hv, ifR_t, eb]
      rfl
    · refine ⟨cy, none, Sa, ?_, ca, rfl, ycp, qa, la, x5.trans xa⟩
      rw [sIf_eq, tBin_eq, ea, bin1_ok, eC_eq, bin2_ok, dEq_int, ofO_some, toB_ok, decide_eq_false hv, ifR_f]
      rfl
  refine st_nx e6 ?_
  have y6ne : cy6 ≠ [] := fun e => by
    rw [e] at y6l
    exact yne (List.eq_nil_of_length_eq_zero y6l.symm)
  have y6cl : cy6.length ≤ 400 := by omega
  -- head
  obtain ⟨n7, S7, e7, g7, q7, l7, x7⟩ := pick3E (i := 0) (env := [some (.cel s), some (I top), some (.cel S2.length), some (.cel ci), w4, none, none, none, none]) (fl := aCons (eC (.a (.int (1)))) (aCons (eC (.a (.int (5)))) (aCons (eC (.a (.int (200)))) aNil))) (S := S6) (x := 1) (y := 5) (z := 200) hF rfl (by simp) q6 (B := 200) (by decide) (by decide) (by decide) (by decide)
  obtain ⟨hs, S8, e8, c8, z8, p8, q8, l8, x8⟩ := drawList (i := 0) (j := 8) (vs := List.map (fun p => p.2) ([("k", 8)] : List (Str × Nat))) (f := eVar 1) (L := top) (n := n7) (eA := eCall F [] (aCons (eVar 0) (aCons (eIxL (aCons (eC (.a (.int (1)))) (aCons (eC (.a (.int (5)))) (aCons (eC (.a (.int (200)))) aNil))) (eCall F [] (aCons (eVar 0) (aCons (eC (.a (.int (3)))) aNil)))) aNil))) (S := S6) (S1 := S7) (env := [some (.cel s), some (I top), some (.cel S2.length), some (.cel ci), w4, none, none, none, none]) hF (by decide) rfl e7 (by omega) (fun d S => by simp [wipeS]) q7 (by omega) tb
  refine st_set e8 ?_
  simp only [List.set_cons_succ, List.set_cons_zero]
  have c8c := (x7.trans x8).get c6 ci2
  have hi2 : S7.length ≠ s := by have := x6.len; omega
  have hi1 : S.length ≤ S7.length := by have := x6.len; omega
  have x8' := (x6.trans x7).trans x8
  generalize hhi : S7.length = hi at *
  -- back
  obtain ⟨n9, S9, e9, g9, q9, l9, x9⟩ := pick3E (i := 0) (env := [some (.cel s), some (I top), some (.cel S2.length), some (.cel ci), w4, some (.cel hi), none, none, none]) (fl := aCons (eC (.a (.int (1)))) (aCons (eC (.a (.int (9)))) (aCons (eC (.a (.int (200)))) aNil))) (S := S8) (x := 1) (y := 9) (z := 200) hF rfl (by simp) q8 (B := 200) (by decide) (by decide) (by decide) (by decide)
  refine st_set e9 ?_
  simp only [List.set_cons_succ, List.set_cons_zero]
  have c9 := x9.get c8c ci2
  have d9 := x9.get c8 hi2
  have x9' := x8'.trans x9
  -- more
  have hlp : 0 < cy6.length := List.length_pos_iff.mpr y6ne
  have hdm : n9 / cy6.length + 1 ≤ 200 := by
    have := Nat.div_le_self n9 cy6.length
    omega
  have hml : cy6.length * (n9 / cy6.length + 1) ≤ 100000 := by
    have := Nat.mul_le_mul y6cl hdm
    omega
  have hmg : n9 ≤ cy6.length * (n9 / cy6.length + 1) := by
    have := Nat.div_add_mod n9 cy6.length
    have := Nat.mod_lt n9 hlp
    rw [Nat.mul_add]
    omega
  have hmore : (List.replicate (n9 / cy6.length + 1) cy6).flatten.length = cy6.length * (n9 / cy6.length + 1) := by rw [M55.flat_len, Nat.mul_comm]
  have hmp : ∀ x ∈ (List.replicate (n9 / cy6.length + 1) cy6).flatten, 0 ≤ x ∧ x < top := fun x hx => y6p x (mem_flat hx)
  refine st_set (d := .cel S9.length) (S' := S9 ++ [.lst (ilist (List.replicate (n9 / cy6.length + 1) cy6).flatten)]) (by
    simp only [eBin_eq, eVar_eq, eCallB_eq, aCons_eq, aNil_eq, eC_eq, List.getElem?_cons_zero, List.getElem?_cons_succ, varR_some, bin1_ok, bin2_ok, cons1_ok, cons2_ok, cbR_ok, dLen_lst c9, ilist_len, ofO_some]
    rw [dDiv_pos (by omega) (by omega), ofO_some, bin1_ok, eC_eq, bin2_ok, dAdd_int, ofO_some, bin2_ok, show (n9 : Int) / (cy6.length : Int) + 1 = ((n9 / cy6.length + 1 : Nat) : Int) by rw [← Int.natCast_ediv]; omega, dMul_lst c9 (by omega) (by rw [ilist_len]; exact small_line (by omega)), ofO_some, flat_ilist]) ?_
  simp only [List.set_cons_succ, List.set_cons_zero]
  generalize (List.replicate (n9 / cy6.length + 1) cy6).flatten = mo at *
  have cA : (S9 ++ [Cell.lst (ilist mo)])[S9.length]? = some (.lst (ilist mo)) := new_at
  have fA : Fix S9 (S9 ++ [Cell.lst (ilist mo)]) := Fix.push
  have cAc := fA.get c9
  have cAh := fA.get d9
  have qA := fA.stt q9
  have xA : Ext s S _ := x9'.trans (fA.ext (s := s))
  have lA : (S9 ++ [Cell.lst (ilist mo)]).length = S9.length + 1 := by simp
  generalize S9 ++ [Cell.lst (ilist mo)] = SA at *
  generalize hmi : S9.length = mi at *
  -- head and the end of more
  have hcut : cutL (ilist mo) (some ((mo.length : Int) - (n9 : Int))) none = ilist (mo.drop (mo.length - n9)) := by
    rw [show (mo.length : Int) - (n9 : Int) = ((mo.length - n9 : Nat) : Int) by omega, cut_ilist, cutL_drop (by omega)]
  have fB : Fix SA (SA ++ [Cell.lst (ilist (mo.drop (mo.length - n9)))]) := Fix.push
  have cB : (SA ++ [Cell.lst (ilist (mo.drop (mo.length - n9)))])[SA.length]? = some (.lst (ilist (mo.drop (mo.length - n9)))) := new_at
  have cBh := fB.get cAh
  have cBc := fB.get cAc
  have hhl : hs.length + (mo.drop (mo.length - n9)).length ≤ 400 := by
    rw [List.length_drop]
    omega
  refine st_set (d := .cel (SA.length + 1)) (S' := (SA ++ [.lst (ilist (mo.drop (mo.length - n9)))]) ++ [.lst (ilist (hs ++ mo.drop (mo.length - n9)))]) (by
    simp only [eBin_eq, eVar_eq, eCut_eq, oSome_eq, oNone_eq, eCallB_eq, aCons_eq, aNil_eq, eC_eq, List.getElem?_cons_zero, List.getElem?_cons_succ, varR_some, bin1_ok, bin2_ok, cut1_ok, cons1_ok, cons2_ok, cbR_ok, dLen_lst cA, ilist_len, ofO_some, dSub_int, someR_ok, cut2_ok, cut3_ok, dCut_lst cA, hcut]
    rw [dAdd_lst cBh cB (by rw [ilist_len, ilist_len]; exact small_line (by omega)), ofO_some, ilist_app]
    simp) ?_
  simp only [List.set_cons_succ, List.set_cons_zero]
  have fC : Fix (SA ++ [Cell.lst (ilist (mo.drop (mo.length - n9)))]) ((SA ++ [Cell.lst (ilist (mo.drop (mo.length - n9)))]) ++ [.lst (ilist (hs ++ mo.drop (mo.length - n9)))]) := Fix.push
  have cC : ((SA ++ [Cell.lst (ilist (mo.drop (mo.length - n9)))]) ++ [Cell.lst (ilist (hs ++ mo.drop (mo.length - n9)))])[SA.length + 1]? = some (.lst (ilist (hs ++ mo.drop (mo.length - n9)))) := by
    have := new_at (S := SA ++ [Cell.lst (ilist (mo.drop (mo.length - n9)))]) (c := .lst (ilist (hs ++ mo.drop (mo.length - n9))))
    rw [List.length_append] at this
    exact this
  have cCc := fC.get cBc
  have qC := fC.stt (fB.stt qA)
  have xC : Ext s S _ := xA.trans ((fB.trans fC).ext (s := s))
  have php : ∀ x ∈ hs ++ mo.drop (mo.length - n9), 0 ≤ x ∧ x < top := fun x hx => (List.mem_append.mp hx).elim (p8 x) fun hx => hmp x (List.mem_of_mem_drop hx)
  have hhl2 : (hs ++ mo.drop (mo.length - n9)).length ≤ 400 := by rw [List.length_append]; exact hhl
  have hi3 : SA.length + 1 ≠ s := by have := x6.len; omega
  have hi4 : S.length ≤ SA.length + 1 := by have := x6.len; omega
  have hi5 : ci ≠ SA.length + 1 := by have := (List.getElem?_eq_some_iff.mp c9).1; omega
  generalize (SA ++ [Cell.lst (ilist (mo.drop (mo.length - n9)))]) ++ [Cell.lst (ilist (hs ++ mo.drop (mo.length - n9)))] = SC at *
  generalize hs ++ mo.drop (mo.length - n9) = hd at *
  generalize SA.length + 1 = di at *
  -- one entry of the head is changed
  obtain ⟨hd2, w5, SD, eD, cD, cDc, hdl, hdp, qD, xD⟩ : ∃ (hd2 : List Int) (w5 : Option D) (SD : Sto), sIf (tAnd (tBin dGt (eCallB dLen (aCons (eVar 5) aNil)) (eC (.a (.int (0))))) (tBin dEq (eCall F [] (aCons (eVar 0) (aCons (eC (.a (.int (3)))) aNil))) (eC (.a (.int (0))))))
       (sSeq (sSet 4 (eCall F [] (aCons (eVar 0) (aCons (eCallB dLen (aCons (eVar 5) aNil)) aNil)))) (sSeq (sPut (eBin dMod (eCallB dInt (aCons (eBin dAdd (eBin dIx (eVar 5) (eVar 4)) (eC (.a (.int (1))))) aNil)) (eVar 1)) (eVar 5) (eVar 4)) sNil)) sNil
       [some (.cel s), some (I top), some (.cel S2.length), some (.cel ci), w4, some (.cel di), some (.a (.int (n9 : Nat))), some (.cel mi), none] SC = .nx [some (.cel s), some (I top), some (.cel S2.length), some (.cel ci), w5, some (.cel di), some (.a (.int (n9 : Nat))), some (.cel mi), none] SD ∧
       SD[di]? = some (.lst (ilist hd2)) ∧ SD[ci]? = some (.lst (ilist cy6)) ∧ hd2.length = hd.length ∧ (∀ x ∈ hd2, 0 ≤ x ∧ x < top) ∧ Stt SD s ∧ Ext s S SD := by
    have hg : tBin dGt (eCallB dLen (aCons (eVar 5) aNil)) (eC (.a (.int (0)))) [some (.cel s), some (I top), some (.cel S2.length), some (.cel ci), w4, some (.cel di), some (.a (.int (n9 : Nat))), some (.cel mi), none] SC = .ok (decide ((0 : Int) < hd.length)) SC := by
      simp only [tBin_eq, eCallB_eq, aCons_eq, aNil_eq, eVar_eq, eC_eq, List.getElem?_cons_zero, List.getElem?_cons_succ, varR_some, cons1_ok, cons2_ok, cbR_ok, dLen_lst cC, ilist_len, ofO_some, bin1_ok, bin2_ok, dGt_int, toB_ok]
    by_cases hne : hd = []
    · refine ⟨hd, w4, SC, ?_, cC, cCc, rfl, php, qC, xC⟩
      have : decide ((0 : Int) < hd.length) = false := by rw [hne]; rfl
      rw [sIf_eq, tAnd_eq, hg, this, andR_f, ifR_f]
      rfl
    · have : decide ((0 : Int) < hd.length) = true := decide_eq_true (by have := List.length_pos_iff.mpr hne; omega)
      obtain ⟨v, Sa, ea, ga, gb, qa, la, xa⟩ := pickE (i := 0) (env := [some (.cel s), some (I top), some (.cel S2.length), some (.cel ci), w4, some (.cel di), some (.a (.int (n9 : Nat))), some (.cel mi), none]) (f := eC (.a (.int (3)))) (L := 3) (S := SC) (S1 := SC) hF rfl rfl qC (by decide) (by decide)
      have ca := xa.get cC hi3
      have cac := xa.get cCc ci2
      by_cases hv : v = 0
      · obtain ⟨m, Sb, eb, hm, cb, qb, lb, xb⟩ := bump (t := 4) (ti := 1) (a := 5) (env := [some (.cel s), some (I top), some (.cel S2.length), some (.cel ci), w4, some (.cel di), some (.a (.int (n9 : Nat))), some (.cel mi), none]) hF rfl rfl rfl (by decide) (by decide) (by decide) (by simp) ca hne (by omega) hi3 (show 0 < top by omega) qa
        refine ⟨_, some (I (m : Nat)), Sb, ?_, cb, (xb ci (List.getElem?_eq_some_iff.mp cac).1 ci2 hi5).trans cac, by rw [List.length_set], bump_all t2 php _, qb, Ext.bump (xC.trans xa) hi4 lb xb⟩
        rw [sIf_eq, tAnd_eq, hg, this, andR_t, tBin_eq, ea, bin1_ok, eC_eq, bin2_ok, dEq_int, ofO_some, toB_ok, decide_eq_true hv, ifR_t, eb]
        rfl
      · refine ⟨hd, w4, Sa, ?_, ca, cac, rfl, php, qa, xC.trans xa⟩
        rw [sIf_eq, tAnd_eq, hg, this, andR_t, tBin_eq, ea, bin1_ok, eC_eq, bin2_ok, dEq_int, ofO_some, toB_ok, decide_eq_false hv, ifR_f]
        rfl
  refine st_nx eD ?_
  refine st_ret (d := .cel SD.length) (S' := SD ++ [.lst [T hd2, T cy6, I top]]) (by
    simp only [eOfL_eq, eCallB_eq, aCons_eq, aNil_eq, eVar_eq, List.getElem?_cons_zero, List.getElem?_cons_succ, varR_some, cons1_ok, cons2_ok, cbR_ok, dTuple_lst cD, dTuple_lst cDc, ofO_some, ofLR_ok]) ?_
  exact ⟨_, _, rfl, xD.len, new_at, ⟨hd2, cy6, top, ⟨y6ne, y6cl, by omega, t2, tb, hdp, y6p⟩, rfl⟩, xD.trans Fix.push.ext, Fix.push.stt qD⟩
end K55
set_option maxRecDepth 100000
set_option exponentiation.threshold 600
namespace K55
open PySem PySem.Spec PyProof.Rows L2 G M55
theorem sq_other {h c : List Int} {t m : Nat} (hc : c ≠ []) (ht : t ≤ c.length) (hm : 0 < m) : sq (h ++ c.take t) (List.replicate m (c.drop t ++ c.take t)).flatten = sq h c := by
  have hn : 0 < c.length := List.length_pos_iff.mpr hc
  have hrot : c.drop t ++ c.take t ≠ [] := fun e => by
    have := congrArg List.length e
    rw [List.length_append, List.length_drop, List.length_take, List.length_nil] at this
    omega
  have hlt : (c.take t).length = t := by rw [List.length_take]; omega
  funext i
  unfold sq
  rw [List.length_append, hlt]
  by_cases hi : i < h.length + t
  · rw [if_pos hi]
    by_cases hh : i < h.length
    · rw [if_pos hh, getD_eq, getD_eq, List.getElem?_append_left hh]
    · rw [if_neg hh, getD_eq, List.getElem?_append_right (by omega), List.getElem?_take_of_lt (by omega), bq_lt (by omega), getD_eq]
  · rw [if_neg hi, if_neg (by omega), flat_bq hrot hm, turn_bq ht]
    congr 1
    omega
theorem min2 (a b : Int) : (if b < a then b else a) = min a b := by
  split <;> omega
theorem sem_other (k : Nat) {S : Sto} {s : Nat} {h c : List Int} {top : Int} (hq : Stt S s) (g : GR h c top) : OkP (ExtB s S fun cell => ∃ h' c', GR h' c' top ∧ sq h' c' = sq h c ∧ cell = .lst [T h', T c']) ((sem (k + 3))._law_other [.cel s, T h, T c] S) := by
  have hF := hPick k
  have hn : 0 < c.length := List.length_pos_iff.mpr g.ne
  rw [e__law_other]
  refine def_extB (n := 3) (ds := [_, _, _]) rfl hq.lt ?_
  simp only [List.map_cons, List.map_nil, List.length_cons, List.length_nil, Nat.reduceAdd, Nat.reduceSub, List.replicate, List.cons_append, List.nil_append]
  unfold b__law_other
  generalize hFe : (sem (k + 2))._law_pick = F at hF ⊢
  have g1 := g.cl
  have g2 := g.hl
  obtain ⟨v1, S1, e1, a1, b1, q1, l1, x1⟩ := pickE (i := 0) (env := [some (.cel s), some (T h), some (T c), none, none]) (f := eCallB dMin2 (aCons (eCallB dLen (aCons (eVar 2) aNil)) (aCons (eBin dSub (eC (.a (.int (401)))) (eCallB dLen (aCons (eVar 1) aNil))) aNil))) (L := min (c.length : Int) (401 - (h.length : Int))) (S := S) (S1 := S) hF rfl (by simp [min2]) hq (by omega) (by omega)
  obtain ⟨t, rfl⟩ := Int.eq_ofNat_of_zero_le a1
  have htc : t ≤ c.length := by omega
  refine st_set e1 ?_
  simp only [List.set_cons_succ, List.set_cons_zero]
  have hdv : (1 : Int) ≤ 400 / (c.length : Int) := by
    rw [Int.le_ediv_iff_mul_le (by omega)]
    omega
  obtain ⟨v2, S2, e2, a2, b2, q2, l2, x2⟩ := pickE (i := 0) (env := [some (.cel s), some (T h), some (T c), some (I (t : Nat)), none]) (f := eCallB dMin2 (aCons (eC (.a (.int (3)))) (aCons (eBin dDiv (eC (.a (.int (400)))) (eCallB dLen (aCons (eVar 2) aNil))) aNil))) (L := min 3 (400 / (c.length : Int))) (S := S1) (S1 := S1) hF rfl (by simp [min2, dDiv_pos (show (0 : Int) < c.length by omega) (show (c.length : Int) < 2 ^ 300 by omega)]) q1 (by omega) (by omega)
  obtain ⟨m, rfl⟩ := Int.eq_ofNat_of_zero_le a2
  have hm3 : m < 3 := by omega
  have hmc : c.length * (1 + m) ≤ 400 := by
    have h1 : (1 + m : Int) ≤ 400 / (c.length : Int) := by omega
    rw [Int.le_ediv_iff_mul_le (by omega)] at h1
    have : ((c.length * (1 + m) : Nat) : Int) = (1 + (m : Int)) * (c.length : Int) := by
      rw [Int.natCast_mul, Int.mul_comm]; rfl
    omega
  have ec1 : cutL (ilist c) (some (t : Int)) none = ilist (c.drop t) := by rw [cut_ilist, cutL_drop htc]
  have ec2 : cutL (ilist c) none (some (t : Int)) = ilist (c.take t) := by rw [cut_ilist, cutL_take htc]
  have hrl : (c.drop t ++ c.take t).length = c.length := by simp only [List.length_append, List.length_drop, List.length_take]; omega
  have ea1 := dAdd_tup (xs := ilist (c.drop t)) (ys := ilist (c.take t)) (S := S1) (by rw [ilist_len, ilist_len, ← List.length_append, hrl]; exact small_line (by omega))
  have hrne : ilist (c.drop t ++ c.take t) ≠ [] := fun e => by
    have := congrArg List.length e
    rw [ilist_len, hrl, List.length_nil] at this
    omega
  have em := dMul_tupG (xs := ilist (c.drop t ++ c.take t)) (k := 1 + m) (S := S2) hrne (by omega) (by omega) (by rw [ilist_len, hrl]; omega)
  rw [flat_ilist] at em
  refine st_set (d := T (List.replicate (1 + m) (c.drop t ++ c.take t)).flatten) (S' := S2) (by
    rw [eBin_eq, eBin_eq]
    simp only [eCut_eq, eVar_eq, List.getElem?_cons_zero, List.getElem?_cons_succ, varR_some, cut1_ok, oSome_eq, oNone_eq, someR_ok, cut2_ok, cut3_ok, dCut_tup, ec1, ec2, ofO_some, bin1_ok, bin2_ok, ea1, ilist_app]
    rw [eBin_eq, eC_eq, bin1_ok, e2, bin2_ok, dAdd_int, ofO_some, bin2_ok, show (1 : Int) + ((m : Nat) : Int) = ((1 + m : Nat) : Int) by omega, em, ofO_some]) ?_
  simp only [List.set_cons_succ, List.set_cons_zero]
  have hml : (h ++ c.take t).length ≤ 400 := by rw [List.length_append, List.length_take]; omega
  have ea2 := dAdd_tup (xs := ilist h) (ys := ilist (c.take t)) (S := S2) (by rw [ilist_len, ilist_len, ← List.length_append]; exact small_line (by omega))
  refine st_ret (d := .cel S2.length) (S' := S2 ++ [.lst [T (h ++ c.take t), T (List.replicate (1 + m) (c.drop t ++ c.take t)).flatten]]) (by
    simp only [eOfL_eq, aCons_eq, aNil_eq, eBin_eq, eCut_eq, eVar_eq, List.getElem?_cons_zero, List.getElem?_cons_succ, varR_some, cut1_ok, oSome_eq, oNone_eq, someR_ok, cut2_ok, cut3_ok, dCut_tup, ec2, ofO_some, bin1_ok, bin2_ok, ea2, ilist_app, cons1_ok, cons2_ok, ofLR_ok]) ?_
  refine ⟨_, _, rfl, (x1.trans x2).len, new_at, ⟨_, _, ⟨fun e => ?_, ?_, hml, g.t2, g.tb, fun x hx => ?_, fun x hx => ?_⟩, sq_other g.ne htc (by omega), rfl⟩, (x1.trans x2).trans Fix.push.ext, Fix.push.stt q2⟩
  · have := congrArg List.length e
    rw [M55.flat_len, hrl, List.length_nil, Nat.mul_comm] at this
    have := Nat.mul_pos hn (show 0 < 1 + m by omega)
    omega
  · rw [M55.flat_len, hrl, Nat.mul_comm]; exact hmc
  · exact (List.mem_append.mp hx).elim (g.hp x) fun hx => g.cp x (List.mem_of_mem_take hx)
  · exact (List.mem_append.mp (mem_flat hx)).elim (fun hx => g.cp x (List.mem_of_mem_drop hx)) fun hx => g.cp x (List.mem_of_mem_take hx)
theorem emod_ne {x top : Int} (h0 : 0 ≤ x) (h1 : x < top) (h2 : 2 ≤ top) : (x + 1) % top ≠ x := by
  by_cases h : x + 1 < top
  · rw [Int.emod_eq_of_lt (by omega) h]; omega
  · rw [show x + 1 = top by omega, Int.emod_self]; omega
theorem sem_bent (k : Nat) {S : Sto} {s : Nat} {h c : List Int} {top : Int} (hq : Stt S s) (g : GR h c top) : OkP (ExtB s S fun cell => ∃ (f r : List Int) (a : Nat), GR f r top ∧ a < f.length + r.length ∧ f.length = h.length ∧ r.length = c.length ∧ sq f r a ≠ sq h c a ∧ cell = .lst [T f, T r, I (a : Nat)]) ((sem (k + 3))._law_bent [.cel s, T h, T c, I top] S) := by
  have hF := hPick k
  have hn : 0 < c.length := List.length_pos_iff.mpr g.ne
  rw [e__law_bent]
  refine def_extB (n := 4) (ds := [_, _, _, _]) rfl hq.lt ?_
  simp only [List.map_cons, List.map_nil, List.length_cons, List.length_nil, Nat.reduceAdd, Nat.reduceSub, List.replicate, List.cons_append, List.nil_append]
  unfold b__law_bent
  generalize hFe : (sem (k + 2))._law_pick = F at hF ⊢
  have g1 := g.cl
  have g2 := g.hl
  have ht := g.t2
  obtain ⟨v1, S1, e1, a1, b1, q1, l1, x1⟩ := pickE (i := 0) (env := [some (.cel s), some (T h), some (T c), some (I top), none, none]) (f := eBin dAdd (eCallB dLen (aCons (eVar 1) aNil)) (eCallB dLen (aCons (eVar 2) aNil))) (L := (h.length : Int) + (c.length : Int)) (S := S) (S1 := S) hF rfl (by simp) hq (by omega) (by omega)
  obtain ⟨a, rfl⟩ := Int.eq_ofNat_of_zero_le a1
  have hal : a < (h ++ c).length := by rw [List.length_append]; omega
  refine st_set e1 ?_
  simp only [List.set_cons_succ, List.set_cons_zero]
  have ea := dAdd_tup (xs := ilist h) (ys := ilist c) (S := S1) (by rw [ilist_len, ilist_len]; exact small_line (by omega))
  refine st_set (d := .cel S1.length) (S' := S1 ++ [.lst (ilist (h ++ c))]) (by
    have : aListOf (eBin dAdd (eVar 1) (eVar 2)) [some (.cel s), some (T h), some (T c), some (I top), some (I (a : Nat)), none] S1 = .ok (ilist (h ++ c)) S1 := by
      unfold aListOf
      simp only [eBin_eq, eVar_eq, List.getElem?_cons_zero, List.getElem?_cons_succ, varR_some, bin1_ok, bin2_ok, ea, ofO_some, R.bind_ok, ilist_app]
      rfl
    rw [eOfL_eq, this, ofLR_ok]) ?_
  simp only [List.set_cons_succ, List.set_cons_zero]
  have c2 : (S1 ++ [Cell.lst (ilist (h ++ c))])[S1.length]? = some (.lst (ilist (h ++ c))) := new_at
  have f2 : Fix S1 (S1 ++ [Cell.lst (ilist (h ++ c))]) := Fix.push
  have q2 := f2.stt q1
  have x2 : Ext s S _ := x1.trans (f2.ext (s := s))
  have hsl := hq.lt
  have i1 : S1.length ≠ s := by omega
  have i2 : S.length ≤ S1.length := by omega
  generalize S1 ++ [Cell.lst (ilist (h ++ c))] = S2 at *
  generalize S1.length = ci at *
  have hcl : ci < S2.length := (List.getElem?_eq_some_iff.mp c2).1
  have hv := ilist_get (atI_lt hal)
  have hx : (h ++ c).getD a 0 = sq h c a := by rw [getD_eq, app_at (by omega)]; rfl
  rw [hx] at hv
  have hxr : 0 ≤ sq h c a ∧ sq h c a < top := by
    have hm : (h ++ c)[a]? = some (sq h c a) := app_at (by omega)
    exact (List.mem_append.mp (List.mem_of_getElem? hm)).elim (g.hp _) (g.cp _)
  have hp : dPut (.cel ci) (I (a : Nat)) (I ((sq h c a + 1) % top)) S2 = some (S2.set ci (.lst (ilist ((h ++ c).set a ((sq h c a + 1) % top))))) := by
    rw [dPut_lst c2 (by rw [ilist_len]; exact hal), ilist_set]
  refine st_put (v := I ((sq h c a + 1) % top)) (o := .cel ci) (i := I (a : Nat)) (S1 := S2) (S2 := S2) (S3 := S2) (by
    simp only [eBin_eq, eCallB_eq, aCons_eq, aNil_eq, eVar_eq, eC_eq, List.getElem?_cons_zero, List.getElem?_cons_succ, varR_some, bin1_ok, bin2_ok, dIx_lst c2, hv, Option.map_some, ofO_some, dAdd_int, cons1_ok, cons2_ok, cbR_ok, dInt_int, dMod_pos (show 0 < top by omega)]) rfl rfl hp ?_
  have hy := emod_ne hxr.1 hxr.2 ht
  have hy1 : 0 ≤ (sq h c a + 1) % top := Int.emod_nonneg _ (by omega)
  have hy2 : (sq h c a + 1) % top < top := Int.emod_lt_of_pos _ (by omega)
  generalize (sq h c a + 1) % top = y at *
  have c3 : (S2.set ci (.lst (ilist ((h ++ c).set a y))))[ci]? = some (.lst (ilist ((h ++ c).set a y))) := List.getElem?_set_self hcl
  have q3 : Stt (S2.set ci (.lst (ilist ((h ++ c).set a y)))) s := by
    obtain ⟨cc, seed, k, rest, ns, h1, h2, h3, h4⟩ := q2
    by_cases hc2 : cc = ci
    · subst hc2
      exact ⟨cc, seed, k, rest, _, by rw [List.getElem?_set_ne (Ne.symm h3)]; exact h1, List.getElem?_set_self hcl, h3, h4⟩
    · exact ⟨cc, seed, k, rest, ns, by rw [List.getElem?_set_ne i1]; exact h1, by rw [List.getElem?_set_ne (Ne.symm hc2)]; exact h2, h3, h4⟩
  have x3 : Ext s S (S2.set ci (.lst (ilist ((h ++ c).set a y)))) := Ext.bump x2 i2 (by rw [List.length_set]) fun i _ _ h2 => List.getElem?_set_ne (Ne.symm h2)
  generalize S2.set ci (.lst (ilist ((h ++ c).set a y))) = S3 at *
  have hel : ((h ++ c).set a y).length = h.length + c.length := by rw [List.length_set, List.length_append]
  have hall : ∀ x ∈ (h ++ c).set a y, 0 ≤ x ∧ x < top := set_all (fun x hx => (List.mem_append.mp hx).elim (g.hp x) (g.cp x)) ⟨hy1, hy2⟩
  have hay : ((h ++ c).set a y)[a]? = some y := List.getElem?_set_self hal
  generalize (h ++ c).set a y = es at *
  have ec1 : cutL (ilist es) none (some (h.length : Int)) = ilist (es.take h.length) := by rw [cut_ilist, cutL_take (by omega)]
  have ec2 : cutL (ilist es) (some (h.length : Int)) none = ilist (es.drop h.length) := by rw [cut_ilist, cutL_drop (by omega)]
  have f4 : Fix S3 (S3 ++ [Cell.lst (ilist (es.take h.length))]) := Fix.push
  have n4 : (S3 ++ [Cell.lst (ilist (es.take h.length))])[S3.length]? = some (.lst (ilist (es.take h.length))) := new_at
  have c4 := f4.get c3
  generalize hS4 : S3 ++ [Cell.lst (ilist (es.take h.length))] = S4 at *
  have f5 : Fix S4 (S4 ++ [Cell.lst (ilist (es.drop h.length))]) := Fix.push
  have n5 : (S4 ++ [Cell.lst (ilist (es.drop h.length))])[S4.length]? = some (.lst (ilist (es.drop h.length))) := new_at
  generalize hS5 : S4 ++ [Cell.lst (ilist (es.drop h.length))] = S5 at *
  refine st_ret (d := .cel S5.length) (S' := S5 ++ [.lst [T (es.take h.length), T (es.drop h.length), I (a : Nat)]]) (by
    simp only [eOfL_eq, eCallB_eq, aCons_eq, aNil_eq, eCut_eq, eVar_eq, List.getElem?_cons_zero, List.getElem?_cons_succ, varR_some, cut1_ok, oSome_eq, oNone_eq, cons1_ok, cons2_ok, cbR_ok, dLen_tup, ilist_len, ofO_some, someR_ok, cut2_ok, cut3_ok, dCut_lst c3, dCut_lst c4, ec1, ec2, hS4, dTuple_lst n4, hS5, dTuple_lst n5, ofLR_ok]) ?_
  have ft := f4.trans f5
  have hl1 : (es.take h.length).length = h.length := by rw [List.length_take]; omega
  have hl2 : (es.drop h.length).length = c.length := by rw [List.length_drop]; omega
  have hsq : sq (es.take h.length) (es.drop h.length) a = y := by
    have := app_at (h := es.take h.length) (c := es.drop h.length) (i := a) (by rw [hl1, hl2]; omega)
    rw [List.take_append_drop, hay] at this
    exact (Option.some.inj this).symm
  refine ⟨_, _, rfl, ?_, new_at, ⟨es.take h.length, es.drop h.length, a, ⟨fun e => ?_, by omega, by omega, ht, g.tb, fun x hx => hall x (List.mem_of_mem_take hx), fun x hx => hall x (List.mem_of_mem_drop hx)⟩, by rw [hl1, hl2]; omega, hl1, hl2, by rw [hsq]; exact hy, rfl⟩, x3.trans (ft.trans Fix.push).ext, (ft.trans Fix.push).stt q3⟩
  · have := x3.len
    have := ft.len
    omega
  · rw [e, List.length_nil] at hl2
    omega
end K55
set_option maxRecDepth 100000
set_option exponentiation.threshold 600
namespace K55
open PySem PySem.Spec PyProof.Rows L2 G M55
theorem try_rt {body : SX} {hit : Str → Option Bool} {i : Nat} {suite : Exn → SX} {env : Slots} {S S' : Sto} {d : D} (h : body env S = .rt d S') : sTryAs body hit i suite env S = .rt d S' := by
  unfold sTryAs
  rw [h]
theorem try_ex {body : SX} {hit : Str → Option Bool} {i : Nat} {suite : Exn → SX} {env env' : Slots} {S S' S2 : Sto} {d : D} {x : Exn} (h : body env S = .ex x env' S') (hh : hit x.cls = some true) (hi : i < env'.length) (hs : suite x (env'.set i none) S' = .rt d S2) : sTryAs body hit i suite env S = .rt d S2 := by
  unfold sTryAs
  rw [h]
  dsimp only
  rw [hh]
  dsimp only
  rw [if_pos hi, hs]
  rfl
def told (d : D) : D := .tup [.a (.str "told"), d]
def refused : D := .tup [.a (.str "refused"), .a (.bl true), .a (.bl false)]
theorem sub_t : subL [("OutOfRange", true)] "OutOfRange" = some true := by decide +kernel
theorem sub_f : subL [("OutOfRange", false)] "OutOfRange" = some false := by decide +kernel
noncomputable def askB (c c1 : Tb) : SX := (sSeq (sIf (tBin dEq (eVar 0) (eC (.a (.int (0)))))
 (sSeq (sRet (eTup (aCons (eC (.a (.str "told"))) (aCons (eIxO "Row" c1.Rowdd_getitemdd (eVar 1) (eVar 2)) aNil))))
 sNil)
 sNil)
 (sSeq (sIf (tBin dEq (eVar 0) (eC (.a (.int (1)))))
 (sSeq (sRet (eTup (aCons (eC (.a (.str "told"))) (aCons (eMethO "Row" "start" c.Row_start [] (eVar 1) (aCons (eVar 2) aNil)) aNil))))
 sNil)
 sNil)
 (sSeq (sIf (tBin dEq (eVar 0) (eC (.a (.int (2)))))
 (sSeq (sRet (eTup (aCons (eC (.a (.str "told"))) (aCons (eFld ["Row"] "head" (eMethO "Row" "after" c.Row_after [] (eVar 1) (aCons (eVar 2) aNil))) aNil))))
 sNil)
 sNil)
 (sSeq (sRet (eTup (aCons (eC (.a (.str "told"))) (aCons (eFld ["Row"] "head" (eMake "Row" c1.Rowdd_initdd [] (aCons (eVar 3) (aCons (eVar 4) aNil)))) aNil))))
 sNil))))
noncomputable def askS (x : Exn) : SX := (sSeq (sSet 6 (eOr (eIsE x (subL [("OutOfRange", false)])) (eOr (eIsE x (subL [("OutOfRange", false)])) (eIsE x (subL [("OutOfRange", false)])))))
 (sSeq (sRet (eTup (aCons (eC (.a (.str "refused"))) (aCons (eAnd (eIsE x (subL [("OutOfRange", true)])) (eIsE x (subL [("OutOfRange", true)]))) (aCons (eVar 6) aNil)))))
 sNil))
theorem ask_eq (c c1 : Tb) : b__law_asked c c1 = sSeq (sTryAs (askB c c1) (subL [("OutOfRange", true)]) 5 askS) sNil := rfl
theorem askS_eq (a b c d e : Option D) (S : Sto) : askS ⟨"OutOfRange", []⟩ [a, b, c, d, e, none, none] S = .rt refused S := by
  simp [askS, sub_t, sub_f, refused]
section
variable {k n : Nat} {S S' : Sto} {a b c d e r : D}
theorem asked_rt (h : askB (sem (k + 5)) (sem (k + 4)) [some a, some b, some c, some d, some e, none, none] S = .rt r S') (hn : noC r) (hf : Fix S S') : OkP (FixA S fun x => x = r) ((sem (k + 6))._law_asked [a, b, c, d, e] S) := by
  rw [e__law_asked]
  refine def_fixA (n := 5) (ds := [_, _, _, _, _]) rfl ?_
  rw [ask_eq, sSeq_eq]
  have := try_rt (hit := subL [("OutOfRange", true)]) (i := 5) (suite := askS) h
  simp only [List.map_cons, List.map_nil, List.length_cons, List.length_nil, Nat.reduceAdd, Nat.reduceSub, List.replicate, List.cons_append, List.nil_append]
  rw [this, sq_rt]
  exact ⟨rfl, hn, hf⟩
theorem noC_refused : noC refused := fun n => rfl
theorem asked_ex (h : askB (sem (k + 5)) (sem (k + 4)) [some a, some b, some c, some d, some e, none, none] S = .ex ⟨"OutOfRange", []⟩ [some a, some b, some c, some d, some e, none, none] S') (hf : Fix S S') : OkP (FixA S fun x => x = refused) ((sem (k + 6))._law_asked [a, b, c, d, e] S) := by
  rw [e__law_asked]
  refine def_fixA (n := 5) (ds := [_, _, _, _, _]) rfl ?_
  rw [ask_eq, sSeq_eq]
  have := try_ex (hit := subL [("OutOfRange", true)]) (i := 5) (suite := askS) h sub_t (by simp) (askS_eq (some a) (some b) (some c) (some d) (some e) S')
  simp only [List.map_cons, List.map_nil, List.length_cons, List.length_nil, Nat.reduceAdd, Nat.reduceSub, List.replicate, List.cons_append, List.nil_append]
  rw [this, sq_rt]
  exact ⟨rfl, noC_refused, hf⟩
end
section
variable {k n : Nat} {S : Sto} {h c : List Int} {d e : D}
theorem asked0 {i : Nat} (v : VR h c) (hr : S[n]? = some (rowC h c)) : OkP (FixA S fun x => x = told (I (sq h c i))) ((sem (k + 6))._law_asked [I 0, .cel n, I (i : Nat), d, e] S) := by
  have hg := sem_get (k + 2) (i := i) v.ne hr
  refine asked_rt (S' := S) ?_ (fun n => rfl) Fix.refl
  simp [askB, ixO2_at hr, hg, told]
theorem asked1 {i : Nat} (v : VR h c) (hr : S[n]? = some (rowC h c)) (hi : i ≤ 100000) : OkP (FixA S fun x => x = told (T ((List.range i).map (sq h c)))) ((sem (k + 6))._law_asked [I 1, .cel n, I (i : Nat), d, e] S) := by
  have hg := sem_start (k + 1) v.ne hr hi
  have hm : methG "Row" "start" S[n]? = true := mth hr (by decide +kernel) (by decide +kernel)
  refine asked_rt (S' := S) ?_ (fun n => ?_) Fix.refl
  · simp [askB, hm, hg, told]
  · unfold told D.lo D.loL
    show (true && (D.lo n (T _) && true)) = true
    rw [noC_ilist]
    rfl
theorem asked2 {i : Nat} (v : VR h c) (hr : S[n]? = some (rowC h c)) : OkP (FixA S fun x => ∃ f r, Behind h c i f r ∧ x = told (T (lfH f r))) ((sem (k + 6))._law_asked [I 2, .cel n, I (i : Nat), d, e] S) := by
  obtain ⟨x, S', hg, kk, cell, rfl, hk, hc, ⟨f, r, hb, rfl⟩, hf⟩ := (sem_after k (n := i) v hr).get
  have hm : methG "Row" "after" S[n]? = true := mth hr (by decide +kernel) (by decide +kernel)
  refine (asked_rt (r := told (T (lfH f r))) (S' := S') ?_ (fun n => ?_) hf).mono fun d S2 ⟨h1, h2, h3⟩ => ⟨⟨f, r, hb, h1⟩, h2, h3⟩
  · simp [askB, hm, hg, told, fld_head hc]
  · unfold told D.lo D.loL
    show (true && (D.lo n (T _) && true)) = true
    rw [noC_ilist]
    rfl
theorem askedN {w : Int} {i : Int} (hw : w = 0 ∨ w = 1 ∨ w = 2) (hi : i < 0) (hr : S[n]? = some (rowC h c)) : OkP (FixA S fun x => x = refused) ((sem (k + 6))._law_asked [I w, .cel n, I i, d, e] S) := by
  refine asked_ex (S' := S) ?_ Fix.refl
  rcases hw with rfl | rfl | rfl
  · simp [askB, ixO2_at hr, sem_getX (k + 2) hi]
  · have hm : methG "Row" "start" S[n]? = true := mth hr (by decide +kernel) (by decide +kernel)
    simp [askB, hm, sem_startX (k + 3) hi]
  · have hm : methG "Row" "after" S[n]? = true := mth hr (by decide +kernel) (by decide +kernel)
    simp [askB, hm, sem_afterX (k + 3) hi]
theorem asked3 {f r : List Int} (hl : f.length ≤ 1000) (hcl : r.length ≤ 1000) (hb : r = [] ∨ ∃ e ∈ f ++ r, e < 0) : OkP (FixA S fun x => x = refused) ((sem (k + 6))._law_asked [I 3, d, e, T f, T r] S) := by
  refine asked_ex (S' := S ++ [.ins "Row" []]) ?_ Fix.push
  have := sem_initX (k + 2) (S := S) hl hcl hb
  simp [askB, this]
end
end K55
set_option maxRecDepth 100000
set_option exponentiation.threshold 600
namespace K55
open PySem PySem.Spec PyProof.Rows L2 G M55
theorem pl_I (j : Nat) (x : Int) : pl j (I x) = true := by cases j <;> rfl
theorem same_I (k : Nat) (x : Int) (S : Sto) : (sem (k + 3))._law_same [I x, I x] S = .ok (.a (.bl true)) S := by
  have := sem_same k (I x) S 1 (pl_I 1 x)
  rw [show 1 + k + 2 = k + 3 by omega] at this
  exact this
theorem same_T (k : Nat) {x : List Int} (S : Sto) (h : x.length ≤ 100000) : (sem (k + 3))._law_same [T x, T x] S = .ok (.a (.bl true)) S := by
  have := sem_same k (T x) S 1 (pl_T (small_line h))
  rw [show 1 + k + 2 = k + 3 by omega] at this
  exact this
theorem turn_ok (k : Nat) {S : Sto} {s n j : Nat} {h c : List Int} {w5 w6 w7 w8 : Option D} (v : VR h c) (hq : Stt S s) (hr : S[n]? = some (rowC h c)) (hns : n ≠ s) :
    NxP (fun env' S' => ∃ w5 w6 w7 w8, env' = [some (.cel s), some (.cel n), some (T h), some (T c), some (I (j : Nat)), w5, w6, w7, w8, none, none] ∧ Ext s S S' ∧ Stt S' s)
     ((sSeq (sSet 5 (eCall (sem (k + 5))._law_pick [] (aCons (eVar 0) (aCons (eIxL (aCons (eC (.a (.int (4)))) (aCons (eC (.a (.int (1000)))) (aCons (eBin dPow (eC (.a (.int (10)))) (eC (.a (.int (60))))) aNil))) (eCall (sem (k + 5))._law_pick [] (aCons (eVar 0) (aCons (eC (.a (.int (3)))) aNil)))) aNil))))
 (sSeq (sIf (tNot (tOf (eCall (sem (k + 5))._law_same [] (aCons (eIxO "Row" (sem (k + 4)).Rowdd_getitemdd (eVar 1) (eVar 5)) (aCons (eCall (sem (k + 5))._law_at [] (aCons (eVar 2) (aCons (eVar 3) (aCons (eVar 5) aNil)))) aNil)))))
 (sSeq (sRet (eC (.a (.bl false))))
 sNil)
 sNil)
 (sSeq (sSet 6 (eOfL (aCons (eCall (sem (k + 5))._law_pick [] (aCons (eVar 0) (aCons (eC (.a (.int (4)))) aNil))) (aCons (eBin dAdd (eCallB dLen (aCons (eVar 2) aNil)) (eCall (sem (k + 5))._law_pick [] (aCons (eVar 0) (aCons (eC (.a (.int (3)))) aNil)))) (aCons (eCall (sem (k + 5))._law_pick [] (aCons (eVar 0) (aCons (eC (.a (.int (800)))) aNil))) (aCons (eCall (sem (k + 5))._law_pick [] (aCons (eVar 0) (aCons (eBin dPow (eC (.a (.int (10)))) (eC (.a (.int (60))))) aNil))) aNil))))))
 (sSeq (sSet 7 (eBin dIx (eVar 6) (eCall (sem (k + 5))._law_pick [] (aCons (eVar 0) (aCons (eC (.a (.int (4)))) aNil)))))
 (sSeq (sSet 8 (eMethO "Row" "after" (sem (k + 5)).Row_after [] (eVar 1) (aCons (eVar 7) aNil)))
 (sSeq (sIf (tNot (tOf (eCall (sem (k + 5))._law_is_row [] (aCons (eVar 8) (aCons (eCall (sem (k + 5))._law_behind [] (aCons (eVar 2) (aCons (eVar 3) (aCons (eVar 7) aNil)))) aNil)))))
 (sSeq (sRet (eC (.a (.bl false))))
 sNil)
 sNil)
 (sSeq (sIf (tNot (tOf (eCall (sem (k + 5))._law_same [] (aCons (eIxO "Row" (sem (k + 4)).Rowdd_getitemdd (eVar 8) (eVar 4)) (aCons (eCall (sem (k + 5))._law_at [] (aCons (eVar 2) (aCons (eVar 3) (aCons (eBin dAdd (eVar 7) (eVar 4)) aNil)))) aNil)))))
 (sSeq (sRet (eC (.a (.bl false))))
 sNil)
 sNil)
 sNil))))))) [some (.cel s), some (.cel n), some (T h), some (T c), some (I (j : Nat)), w5, w6, w7, w8, none, none] S) := by
  have hF := hPick (k + 3)
  -- place
  obtain ⟨p, S1, e1, g1, q1, l1, x1⟩ := pick3E (i := 0) (env := [some (.cel s), some (.cel n), some (T h), some (T c), some (I (j : Nat)), w5, w6, w7, w8, none, none]) (fl := aCons (eC (.a (.int (4)))) (aCons (eC (.a (.int (1000)))) (aCons (eBin dPow (eC (.a (.int (10)))) (eC (.a (.int (60))))) aNil))) (S := S) (x := 4) (y := 1000) (z := 10 ^ 60) hF rfl (by simp [dPow_lit _ pow60]) hq (B := 10 ^ 60) (by decide) (by decide) (by decide) (by decide)
  refine q_set e1 ?_
  simp only [List.set_cons_succ, List.set_cons_zero]
  have r1 := x1.get hr hns
  refine q_iff (S' := S1) (by
    have a1 := sem_get (k + 2) (i := p) v.ne r1
    have a2 := sem_at (k + 3) (i := p) (h := h) (S := S1) v.ne
    simp [ixO2_at r1, a1, a2, same_I (k + 2)]) ?_
  refine q_nil ?_
  -- counts
  obtain ⟨v1, Sa, ea, ga, qa, la, xa⟩ := pickC (i := 0) (env := [some (.cel s), some (.cel n), some (T h), some (T c), some (I (j : Nat)), some (I (p : Nat)), w6, w7, w8, none, none]) (L := 4) (S := S1) hF rfl q1 (by decide) (by decide)
  obtain ⟨v2, Sb, eb, gb, qb, lb, xb⟩ := pickC (i := 0) (env := [some (.cel s), some (.cel n), some (T h), some (T c), some (I (j : Nat)), some (I (p : Nat)), w6, w7, w8, none, none]) (L := 3) (S := Sa) hF rfl qa (by decide) (by decide)
  obtain ⟨v3, Sc, ec, gc, qc, lc, xc⟩ := pickC (i := 0) (env := [some (.cel s), some (.cel n), some (T h), some (T c), some (I (j : Nat)), some (I (p : Nat)), w6, w7, w8, none, none]) (L := 800) (S := Sb) hF rfl qb (by decide) (by decide)
  obtain ⟨v4, Sd, ed, gd, gd2, qd, ld, xd⟩ := pickE (i := 0) (env := [some (.cel s), some (.cel n), some (T h), some (T c), some (I (j : Nat)), some (I (p : Nat)), w6, w7, w8, none, none]) (f := eBin dPow (eC (.a (.int (10)))) (eC (.a (.int (60))))) (L := 10 ^ 60) (S := Sc) (S1 := Sc) hF rfl (by rw [eBin_eq, eC_eq, bin1_ok, eC_eq, bin2_ok, dPow_lit _ pow60, ofO_some]; rfl) qc (by decide) (by decide)
  obtain ⟨v4, rfl⟩ := Int.eq_ofNat_of_zero_le gd
  refine q_set (d := .cel Sd.length) (S' := Sd ++ [.lst [I (v1 : Nat), I ((h.length : Int) + (v2 : Nat)), I (v3 : Nat), I (v4 : Nat)]]) (by
    have h2 : eBin dAdd (eCallB dLen (aCons (eVar 2) aNil)) (eCall (sem (k + 5))._law_pick [] (aCons (eVar 0) (aCons (eC (.a (.int (3)))) aNil))) [some (.cel s), some (.cel n), some (T h), some (T c), some (I (j : Nat)), some (I (p : Nat)), w6, w7, w8, none, none] Sa = .ok (I ((h.length : Int) + (v2 : Nat))) Sb := by
      rw [eBin_eq, show eCallB dLen (aCons (eVar 2) aNil) [some (.cel s), some (.cel n), some (T h), some (T c), some (I (j : Nat)), some (I (p : Nat)), w6, w7, w8, none, none] Sa = .ok (I (h.length : Int)) Sa by simp, bin1_ok, eb, bin2_ok, dAdd_int, ofO_some]
    rw [eOfL_eq, aCons_eq, ea, cons1_ok, aCons_eq, h2, cons1_ok, aCons_eq, ec, cons1_ok, aCons_eq, ed, cons1_ok, aNil_eq, cons2_ok, cons2_ok, cons2_ok, cons2_ok, ofLR_ok]) ?_
  simp only [List.set_cons_succ, List.set_cons_zero]
  have hcl : (Sd ++ [Cell.lst [I (v1 : Nat), I ((h.length : Int) + (v2 : Nat)), I (v3 : Nat), I (v4 : Nat)]])[Sd.length]? = some (.lst [I (v1 : Nat), I ((h.length : Int) + (v2 : Nat)), I (v3 : Nat), I (v4 : Nat)]) := new_at
  have fe : Fix Sd (Sd ++ [Cell.lst [I (v1 : Nat), I ((h.length : Int) + (v2 : Nat)), I (v3 : Nat), I (v4 : Nat)]]) := Fix.push
  have qe := fe.stt qd
  have xe : Ext s S _ := ((((x1.trans xa).trans xb).trans xc).trans xd).trans (fe.ext (s := s))
  have hls : Sd.length ≠ s := by have := hq.lt; omega
  generalize Sd ++ [Cell.lst [I (v1 : Nat), I ((h.length : Int) + (v2 : Nat)), I (v3 : Nat), I (v4 : Nat)]] = Se at *
  generalize Sd.length = li at *
  -- count
  obtain ⟨v5, Sf, ef, gf, qf, lf, xf⟩ := pickC (i := 0) (env := [some (.cel s), some (.cel n), some (T h), some (T c), some (I (j : Nat)), some (I (p : Nat)), some (.cel li), w7, w8, none, none]) (L := 4) (S := Se) hF rfl qe (by decide) (by decide)
  have hcf := xf.get hcl hls
  obtain ⟨m, hm⟩ : ∃ m : Nat, atI [I (v1 : Nat), I ((h.length : Int) + (v2 : Nat)), I (v3 : Nat), I (v4 : Nat)] (v5 : Int) = some (I (m : Nat)) := by
    rcases at4 (x := I (v1 : Nat)) (y := I ((h.length : Int) + (v2 : Nat))) (z := I (v3 : Nat)) (u := I (v4 : Nat)) (v := (v5 : Int)) (by omega) gf with q | q | q | q
    · exact ⟨v1, q⟩
    · exact ⟨h.length + v2, q⟩
    · exact ⟨v3, q⟩
    · exact ⟨v4, q⟩
  refine q_set (d := I (m : Nat)) (S' := Sf) (by
    rw [eBin_eq, eVar_eq]
    simp only [List.getElem?_cons_zero, List.getElem?_cons_succ, varR_some, bin1_ok]
    rw [ef, bin2_ok, dIx_lst hcf, hm]
    rfl) ?_
  simp only [List.set_cons_succ, List.set_cons_zero]
  have xf' := xe.trans xf
  have rf := xf'.get hr hns
  -- after
  obtain ⟨d, Sg, eg, kk, cell, rfl, hk, hcg, ⟨f, r, hb, rfl⟩, fg⟩ := (sem_after k (n := m) v rf).get
  have hmth : methG "Row" "after" Sf[n]? = true := mth rf (by decide +kernel) (by decide +kernel)
  refine q_set (d := .cel kk) (S' := Sg) (by
    simp [hmth, eg]) ?_
  simp only [List.set_cons_succ, List.set_cons_zero]
  obtain ⟨f2, r2, hb2, e2⟩ := sem_behind (k + 2) (n := m) (S := Sg) v
  have heq := lf_eq hb2.v.ne hb.v.ne (hb2.e.trans hb.e.symm)
  rw [heq.1, heq.2] at e2
  have vlf := hb.v.lf
  have isr := sem_is_row (k + 1) (by have := vlf.hl; omega) (by have := vlf.cl; omega) hcg
  refine q_iff (S' := Sg) (by
    simp [e2, isr]) ?_
  refine q_nil ?_
  refine q_iff (S' := Sg) (by
    have a1 := sem_get (k + 2) (i := j) vlf.ne hcg
    have a2 := sem_at (k + 3) (i := m + j) (h := h) (S := Sg) v.ne
    rw [lf_sq hb.v.ne, hb.e] at a1
    rw [show ((m + j : Nat) : Int) = (m : Int) + (j : Int) by omega] at a2
    simp [ixO2_at hcg, a1, a2, same_I (k + 2)]) ?_
  refine q_nil ?_
  exact ⟨_, _, _, _, rfl, xf'.trans fg.ext, fg.stt qf⟩
theorem sem_entries (k : Nat) {S : Sto} {s n : Nat} {h c : List Int} (v : VR h c) (hq : Stt S s) (hr : S[n]? = some (rowC h c)) (hns : n ≠ s) : OkP (ExtA s S fun d => d = .a (.bl true)) ((sem (k + 6))._law_entries [.cel s, .cel n, T h, T c] S) := by
  have hF := hPick (k + 3)
  have hhl := v.hl
  rw [e__law_entries]
  refine def_extA (n := 4) (ds := [_, _, _, _]) rfl hq.lt ?_
  simp only [List.map_cons, List.map_nil, List.length_cons, List.length_nil, Nat.reduceAdd, Nat.reduceSub, List.replicate, List.cons_append, List.nil_append]
  unfold b__law_entries
  have hlp : ∀ body : SX, (∀ (S : Sto) (j : Nat) (w5 w6 w7 w8 : Option D), Stt S s → S[n]? = some (rowC h c) → NxP (fun env' S' => ∃ w5 w6 w7 w8, env' = [some (.cel s), some (.cel n), some (T h), some (T c), some (I (j : Nat)), w5, w6, w7, w8, none, none] ∧ Ext s S S' ∧ Stt S' s) (body [some (.cel s), some (.cel n), some (T h), some (T c), some (I (j : Nat)), w5, w6, w7, w8, none, none] S)) →
      ∃ w4 w5 w6 w7 w8 S', forGo none (rangeL 0 3) (gN 4) body (rangeL 0 3) [some (.cel s), some (.cel n), some (T h), some (T c), none, none, none, none, none, none, none] S = .nx [some (.cel s), some (.cel n), some (T h), some (T c), w4, w5, w6, w7, w8, none, none] S' ∧ Ext s S S' ∧ Stt S' s := fun body hb => by
    obtain ⟨env', S', e, ⟨w4, w5, w6, w7, w8, rfl⟩, x, q⟩ := forGo_nx (all := rangeL 0 3) (body := body) (i := 4) (r := rangeL 0 3) (env := [some (.cel s), some (.cel n), some (T h), some (T c), none, none, none, none, none, none, none]) (S := S) (fun _ env S' => (∃ w4 w5 w6 w7 w8, env = [some (.cel s), some (.cel n), some (T h), some (T c), w4, w5, w6, w7, w8, none, none]) ∧ Ext s S S' ∧ Stt S' s) ⟨⟨_, _, _, _, _, rfl⟩, Ext.refl, hq⟩ (by
      rintro j d env S1 hd ⟨⟨w4, w5, w6, w7, w8, rfl⟩, x, q⟩
      obtain ⟨hj, rfl⟩ := rangeL_get hd
      rw [Int.zero_add]
      obtain ⟨env', S2, e, w5', w6', w7', w8', rfl, x2, q2⟩ := (hb S1 j w5 w6 w7 w8 q (x.get hr hns)).get
      exact ⟨_, S2, e, ⟨_, _, _, _, _, rfl⟩, x.trans x2, q2⟩)
    exact ⟨w4, w5, w6, w7, w8, S', e, x, q⟩
  obtain ⟨w4, w5, w6, w7, w8, S1, e1, x1, q1⟩ := hlp _ fun S j w5 w6 w7 w8 q r => turn_ok k v q r hns
  refine q_for (it := iR1 (eC (.a (.int (3))))) (S1 := S) (gg := none) (by rw [iR1_eq, eC_eq]; exact iR1R_nat (n := 3) S (by decide)) e1 ?_
  -- length
  obtain ⟨v1, Sa, ea, ga, qa, la, xa⟩ := pickC (i := 0) (env := [some (.cel s), some (.cel n), some (T h), some (T c), w4, w5, w6, w7, w8, none, none]) (L := 3) (S := S1) hF rfl q1 (by decide) (by decide)
  obtain ⟨v2, Sb, eb, gb, qb, lb, xb⟩ := pickC (i := 0) (env := [some (.cel s), some (.cel n), some (T h), some (T c), w4, w5, w6, w7, w8, none, none]) (L := 3) (S := Sa) hF rfl qa (by decide) (by decide)
  obtain ⟨v3, Sc, ec, gc, qc, lc, xc⟩ := pickC (i := 0) (env := [some (.cel s), some (.cel n), some (T h), some (T c), w4, w5, w6, w7, w8, none, none]) (L := 1001) (S := Sb) hF rfl qb (by decide) (by decide)
  obtain ⟨v4, Sd, ed, gd, qd, ld, xd⟩ := pickC (i := 0) (env := [some (.cel s), some (.cel n), some (T h), some (T c), w4, w5, w6, w7, w8, none, none]) (L := 3) (S := Sc) hF rfl qc (by decide) (by decide)
  obtain ⟨len, hlen, hle⟩ : ∃ m : Nat, atI [I (v1 : Nat), I ((h.length : Int) + (v2 : Nat)), I (v3 : Nat)] (v4 : Int) = some (I (m : Nat)) ∧ m ≤ 2000 := by
    rcases at3 (x := I (v1 : Nat)) (y := I ((h.length : Int) + (v2 : Nat))) (z := I (v3 : Nat)) (v := (v4 : Int)) (by omega) gd with q | q | q
    · exact ⟨v1, q, by omega⟩
    · exact ⟨h.length + v2, q, by omega⟩
    · exact ⟨v3, q, by omega⟩
  refine q_set (d := I (len : Nat)) (S' := Sd) (by
    have h2 : eBin dAdd (eCallB dLen (aCons (eVar 2) aNil)) (eCall (sem (k + 5))._law_pick [] (aCons (eVar 0) (aCons (eC (.a (.int (3)))) aNil))) [some (.cel s), some (.cel n), some (T h), some (T c), w4, w5, w6, w7, w8, none, none] Sa = .ok (I ((h.length : Int) + (v2 : Nat))) Sb := by
      rw [eBin_eq, show eCallB dLen (aCons (eVar 2) aNil) [some (.cel s), some (.cel n), some (T h), some (T c), w4, w5, w6, w7, w8, none, none] Sa = .ok (I (h.length : Int)) Sa by simp, bin1_ok, eb, bin2_ok, dAdd_int, ofO_some]
    rw [eIxL_eq, aCons_eq, ea, cons1_ok, aCons_eq, h2, cons1_ok, aCons_eq, ec, cons1_ok, aNil_eq, cons2_ok, cons2_ok, cons2_ok, ixL1_ok, ed, ixL2_ok, hlen]
    rfl) ?_
  simp only [List.set_cons_succ, List.set_cons_zero]
  have xd' := (((x1.trans xa).trans xb).trans xc).trans xd
  have rd := xd'.get hr hns
  have hst := sem_start (k + 1) v.ne rd (show len ≤ 100000 by omega)
  have hm : methG "Row" "start" Sd[n]? = true := mth rd (by decide +kernel) (by decide +kernel)
  have l1 : lcGo none (rangeL 0 len) (gN 10) tTrue (eCall (sem (k + 5))._law_at [] (aCons (eVar 2) (aCons (eVar 3) (aCons (eVar 10) aNil)))) [some (.cel s), some (.cel n), some (T h), some (T c), w4, w5, w6, w7, w8, some (I (len : Nat)), none] (rangeL 0 len) Sd = .ok (ilist ((List.range len).map (sq h c))) Sd := by
    rw [← rangeL_map (sq h c)]
    refine lcGo_map _ _ fun d hd => ?_
    obtain ⟨i, hi, rfl⟩ := rangeL_mem hd
    have e : nOf (.a (.int (i : Int))) = i := nOf_nat i
    rw [e]
    have ha := sem_at (k + 3) (h := h) (c := c) (i := i) (S := Sd) v.ne
    simp [ha]
  have rr := iR1R_nat (n := len) Sd (by omega)
  have q := (lcR_rng (lo := 0) (n := len) (t := gN 10) (ifs := tTrue) (elt := eCall (sem (k + 5))._law_at [] (aCons (eVar 2) (aCons (eVar 3) (aCons (eVar 10) aNil)))) (env := [some (.cel s), some (.cel n), some (T h), some (T c), w4, w5, w6, w7, w8, some (I (len : Nat)), none]) (S := Sd) (g := none) (go := lcGo) (small_line (by omega))).trans l1
  have hs := same_T (k + 2) (x := (List.range len).map (sq h c)) Sd (by rw [List.length_map, List.length_range]; omega)
  generalize (List.range len).map (sq h c) = xs at *
  refine q_ret (d := .a (.bl true)) (S' := Sd) (by
    simp [hm, hst, rr, wipeS, q, hs]) ?_
  exact ⟨rfl, noC_atom _, xd', qd⟩
end K55
set_option maxRecDepth 100000
set_option exponentiation.threshold 600
namespace K55
open PySem PySem.Spec PyProof.Rows L2 G M55
theorem pow58 : CPow 10 58 := by decide +kernel
theorem stt_set {S : Sto} {s ei : Nat} {es es' : List Int} (q : Stt S s) (he : S[ei]? = some (.lst (ilist es))) (hes : ei ≠ s) : Stt (S.set ei (.lst (ilist es'))) s := by
  have hcl : ei < S.length := (List.getElem?_eq_some_iff.mp he).1
  obtain ⟨cc, seed, k, rest, ns, h1, h2, h3, h4⟩ := q
  by_cases hc2 : cc = ei
  · subst hc2
    exact ⟨cc, seed, k, rest, _, by rw [List.getElem?_set_ne (Ne.symm h3)]; exact h1, List.getElem?_set_self hcl, h3, h4⟩
  · exact ⟨cc, seed, k, rest, ns, by rw [List.getElem?_set_ne hes]; exact h1, by rw [List.getElem?_set_ne (Ne.symm hc2)]; exact h2, h3, h4⟩
theorem pl_refused : pl 1 refused = true := by
  unfold refused pl
  rw [decide_eq_true (show ([D.a (.str "refused"), .a (.bl true), .a (.bl false)] : List D).length ≤ sizeLine from small_line (by simp)), Bool.true_and]
  rfl
theorem same_ref (k : Nat) (S : Sto) : (sem (k + 3))._law_same [refused, refused] S = .ok (.a (.bl true)) S := by
  have := sem_same k refused S 1 pl_refused
  rw [show 1 + k + 2 = k + 3 by omega] at this
  exact this
theorem pl_told {d : D} (j : Nat) (h : pl j d = true) (hs : ∀ x : Str, pl j (.a (.str x)) = true) : pl (j + 1) (told d) = true := by
  unfold told pl
  rw [decide_eq_true (show ([D.a (.str "told"), d] : List D).length ≤ sizeLine from small_line (by simp)), Bool.true_and]
  show (pl j (.a (.str "told")) && (pl j d && true)) = true
  rw [hs, h]
  rfl
theorem same_told_I (k : Nat) (x : Int) (S : Sto) : (sem (k + 4))._law_same [told (I x), told (I x)] S = .ok (.a (.bl true)) S := by
  have := sem_same k (told (I x)) S 2 (pl_told 1 (pl_I 1 x) fun _ => rfl)
  rw [show 2 + k + 2 = k + 4 by omega] at this
  exact this
theorem same_told_T (k : Nat) {x : List Int} (S : Sto) (h : x.length ≤ 100000) : (sem (k + 4))._law_same [told (T x), told (T x)] S = .ok (.a (.bl true)) S := by
  have := sem_same k (told (T x)) S 2 (pl_told 1 (pl_T (small_line h)) fun _ => rfl)
  rw [show 2 + k + 2 = k + 4 by omega] at this
  exact this
theorem cutT1 {env : Slots} {S : Sto} {ei : Nat} {h es : List Int} (h2 : env[2]? = some (some (T h))) (h8 : env[8]? = some (some (.cel ei))) (he : S[ei]? = some (.lst (ilist es))) (hl : h.length ≤ es.length) :
    eCallB dTuple (aCons (eCut (eVar 8) oNone (oSome (eCallB dLen (aCons (eVar 2) aNil)))) aNil) env S = .ok (T (es.take h.length)) (S ++ [.lst (ilist (es.take h.length))]) := by
  have ec1 : cutL (ilist es) none (some (h.length : Int)) = ilist (es.take h.length) := by rw [cut_ilist, cutL_take (by omega)]
  have n4 : (S ++ [Cell.lst (ilist (es.take h.length))])[S.length]? = some (.lst (ilist (es.take h.length))) := new_at
  generalize hX : S ++ [Cell.lst (ilist (es.take h.length))] = X at *
  simp only [eCallB_eq, aCons_eq, aNil_eq, eCut_eq, eVar_eq, h2, h8, varR_some, cut1_ok, oSome_eq, oNone_eq, cons1_ok, cons2_ok, cbR_ok, dLen_tup, ilist_len, ofO_some, someR_ok, cut2_ok, cut3_ok, dCut_lst he, ec1, hX, dTuple_lst n4]
theorem cutT2 {env : Slots} {S : Sto} {ei : Nat} {h es : List Int} (h2 : env[2]? = some (some (T h))) (h8 : env[8]? = some (some (.cel ei))) (he : S[ei]? = some (.lst (ilist es))) (hl : h.length ≤ es.length) :
    eCallB dTuple (aCons (eCut (eVar 8) (oSome (eCallB dLen (aCons (eVar 2) aNil))) oNone) aNil) env S = .ok (T (es.drop h.length)) (S ++ [.lst (ilist (es.drop h.length))]) := by
  have ec1 : cutL (ilist es) (some (h.length : Int)) none = ilist (es.drop h.length) := by rw [cut_ilist, cutL_drop (by omega)]
  have n4 : (S ++ [Cell.lst (ilist (es.drop h.length))])[S.length]? = some (.lst (ilist (es.drop h.length))) := new_at
  generalize hX : S ++ [Cell.lst (ilist (es.drop h.length))] = X at *
  simp only [eCallB_eq, aCons_eq, aNil_eq, eCut_eq, eVar_eq, h2, h8, varR_some, cut1_ok, oSome_eq, oNone_eq, cons1_ok, cons2_ok, cbR_ok, dLen_tup, ilist_len, ofO_some, someR_ok, cut2_ok, cut3_ok, dCut_lst he, ec1, hX, dTuple_lst n4]
theorem sem_refusals (k : Nat) {S : Sto} {s n : Nat} {h c : List Int} (v : VR h c) (hq : Stt S s) (hr : S[n]? = some (rowC h c)) (hns : n ≠ s) : OkP (ExtA s S fun d => d = .a (.bl true)) ((sem (k + 7))._law_refusals [.cel s, .cel n, T h, T c] S) := by
  have hF := hPick (k + 4)
  have hhl := v.hl
  have hcl := v.cl
  have hn0 : 0 < c.length := List.length_pos_iff.mpr v.ne
  have hsl := hq.lt
  rw [e__law_refusals]
  refine def_extA (n := 4) (ds := [_, _, _, _]) rfl hq.lt ?_
  simp only [List.map_cons, List.map_nil, List.length_cons, List.length_nil, Nat.reduceAdd, Nat.reduceSub, List.replicate, List.cons_append, List.nil_append]
  unfold b__law_refusals
  refine q_set (d := refused) (S' := S) (by simp [refused]) ?_
  simp only [List.set_cons_succ, List.set_cons_zero]
  -- below
  obtain ⟨v1, S1, e1, g1, q1, l1, x1⟩ := pickC (i := 0) (env := [some (.cel s), some (.cel n), some (T h), some (T c), some refused, none, none, none, none, none, none, none]) (L := 2) (S := S) hF rfl hq (by decide) (by decide)
  obtain ⟨w, hw, hw0, hwb⟩ : ∃ w : Int, atI [I 2, I (10 ^ 58)] (v1 : Int) = some (I w) ∧ 0 < w ∧ w < 2 ^ 300 := by
    rcases at2 (x := I 2) (y := I (10 ^ 58)) (v := (v1 : Int)) (by omega) g1 with q | q
    · exact ⟨2, q, by decide, by decide⟩
    · exact ⟨10 ^ 58, q, by decide, by decide⟩
  obtain ⟨v2, S2, e2, a2, b2, q2, l2, x2⟩ := pickE (i := 0) (env := [some (.cel s), some (.cel n), some (T h), some (T c), some refused, none, none, none, none, none, none, none]) (f := eIxL (aCons (eC (.a (.int (2)))) (aCons (eBin dPow (eC (.a (.int (10)))) (eC (.a (.int (58))))) aNil)) (eCall (sem (k + 4 + 2))._law_pick [] (aCons (eVar 0) (aCons (eC (.a (.int (2)))) aNil)))) (L := w) (S := S) (S1 := S1) hF rfl (by
    have : (aCons (eC (.a (.int (2)))) (aCons (eBin dPow (eC (.a (.int (10)))) (eC (.a (.int (58))))) aNil)) [some (.cel s), some (.cel n), some (T h), some (T c), some refused, none, none, none, none, none, none, none] S = .ok [I 2, I (10 ^ 58)] S := by simp [dPow_lit _ pow58]
    rw [eIxL_eq, this, ixL1_ok, e1, ixL2_ok, hw]
    rfl) q1 hw0 hwb
  refine q_set (d := I (-1 - v2)) (S' := S2) (by
    rw [eBin_eq, eUn_eq, eC_eq, un1_ok, dNeg_int, ofO_some, bin1_ok, e2, bin2_ok, dSub_int, ofO_some]) ?_
  simp only [List.set_cons_succ, List.set_cons_zero]
  have hbl : -1 - v2 < 0 := by omega
  generalize -1 - v2 = bl at *
  -- the three ways
  have x2' := x1.trans x2
  have r2 := x2'.get hr hns
  have hlp : ∃ w6 S3, forGo none (rangeL 0 3) (gN 6) (sSeq (sIf (tNot (tOf (eCall (sem (k + 6))._law_same [] (aCons (eCall (sem (k + 6))._law_asked [] (aCons (eVar 6) (aCons (eVar 1) (aCons (eVar 5) (aCons (eVar 2) (aCons (eVar 3) aNil)))))) (aCons (eVar 4) aNil)))))
       (sSeq (sRet (eC (.a (.bl false)))) sNil) sNil) sNil) (rangeL 0 3) [some (.cel s), some (.cel n), some (T h), some (T c), some refused, some (I bl), none, none, none, none, none, none] S2 = .nx [some (.cel s), some (.cel n), some (T h), some (T c), some refused, some (I bl), w6, none, none, none, none, none] S3 ∧ Fix S2 S3 := by
    obtain ⟨env', S', e, ⟨w6, rfl⟩, x⟩ := forGo_nx (all := rangeL 0 3) (body := sSeq (sIf (tNot (tOf (eCall (sem (k + 6))._law_same [] (aCons (eCall (sem (k + 6))._law_asked [] (aCons (eVar 6) (aCons (eVar 1) (aCons (eVar 5) (aCons (eVar 2) (aCons (eVar 3) aNil)))))) (aCons (eVar 4) aNil)))))
       (sSeq (sRet (eC (.a (.bl false)))) sNil) sNil) sNil) (i := 6) (r := rangeL 0 3) (env := [some (.cel s), some (.cel n), some (T h), some (T c), some refused, some (I bl), none, none, none, none, none, none]) (S := S2) (fun _ env S' => (∃ w6, env = [some (.cel s), some (.cel n), some (T h), some (T c), some refused, some (I bl), w6, none, none, none, none, none]) ∧ Fix S2 S') ⟨⟨_, rfl⟩, Fix.refl⟩ (by
      rintro j d env Sj hd ⟨⟨w6, rfl⟩, x⟩
      obtain ⟨hj, rfl⟩ := rangeL_get hd
      rw [Int.zero_add]
      obtain ⟨d, Sk, ek, rfl, _, fk⟩ := (askedN (k := k) (w := (j : Int)) (d := T h) (e := T c) (by omega) hbl (x.get r2)).get
      have hs := same_ref (k + 3) Sk
      refine ⟨[some (.cel s), some (.cel n), some (T h), some (T c), some refused, some (I bl), some (I (j : Int)), none, none, none, none, none], Sk, ?_, ⟨_, rfl⟩, x.trans fk⟩
      simp [ek, hs])
    exact ⟨w6, S', e, x⟩
  obtain ⟨w6, S3, e3, f3⟩ := hlp
  refine q_for (it := iR1 (eC (.a (.int (3))))) (S1 := S2) (gg := none) (by rw [iR1_eq, eC_eq]; exact iR1R_nat (n := 3) S2 (by decide)) e3 ?_
  have r3 := f3.get r2
  have q3 := f3.stt q2
  have x3 := x2'.trans (f3.ext (s := s))
  -- spot
  obtain ⟨v4, S4, e4, a4, b4, q4, l4, x4⟩ := pickE (i := 0) (env := [some (.cel s), some (.cel n), some (T h), some (T c), some refused, some (I bl), w6, none, none, none, none, none]) (f := eBin dAdd (eCallB dLen (aCons (eVar 2) aNil)) (eCallB dLen (aCons (eVar 3) aNil))) (L := (h.length : Int) + (c.length : Int)) (S := S3) (S1 := S3) hF rfl (by simp) q3 (by omega) (by omega)
  obtain ⟨a, rfl⟩ := Int.eq_ofNat_of_zero_le a4
  have hal : a < (h ++ c).length := by rw [List.length_append]; omega
  refine q_set e4 ?_
  simp only [List.set_cons_succ, List.set_cons_zero]
  have r4 := x4.get r3 hns
  have x4' := x3.trans x4
  -- entries
  have ea := dAdd_tup (xs := ilist h) (ys := ilist c) (S := S4) (by rw [ilist_len, ilist_len]; exact small_line (by omega))
  refine q_set (d := .cel S4.length) (S' := S4 ++ [.lst (ilist (h ++ c))]) (by
    have : aListOf (eBin dAdd (eVar 2) (eVar 3)) [some (.cel s), some (.cel n), some (T h), some (T c), some refused, some (I bl), w6, some (I (a : Nat)), none, none, none, none] S4 = .ok (ilist (h ++ c)) S4 := by
      unfold aListOf
      simp only [eBin_eq, eVar_eq, List.getElem?_cons_zero, List.getElem?_cons_succ, varR_some, bin1_ok, bin2_ok, ea, ofO_some, R.bind_ok, ilist_app]
      rfl
    rw [eOfL_eq, this, ofLR_ok]) ?_
  simp only [List.set_cons_succ, List.set_cons_zero]
  have c5 : (S4 ++ [Cell.lst (ilist (h ++ c))])[S4.length]? = some (.lst (ilist (h ++ c))) := new_at
  have f5 : Fix S4 (S4 ++ [Cell.lst (ilist (h ++ c))]) := Fix.push
  have q5 := f5.stt q4
  have r5 := f5.get r4
  have x5 := x4'.trans (f5.ext (s := s))
  have hnl := (List.getElem?_eq_some_iff.mp r4).1
  have i1 : S4.length ≠ s := by have := x4'.len; omega
  have i2 : S.length ≤ S4.length := x4'.len
  have i3 : n ≠ S4.length := by omega
  generalize S4 ++ [Cell.lst (ilist (h ++ c))] = S5 at *
  generalize S4.length = ei at *
  have hel := (List.getElem?_eq_some_iff.mp c5).1
  have hp6 : dPut (.cel ei) (I (a : Nat)) (I bl) S5 = some (S5.set ei (.lst (ilist ((h ++ c).set a bl)))) := by
    rw [dPut_lst c5 (by rw [ilist_len]; exact hal), ilist_set]
  refine q_put (v := I bl) (o := .cel ei) (i := I (a : Nat)) (S1 := S5) (S2 := S5) (S3 := S5) rfl rfl rfl hp6 ?_
  have c6 : (S5.set ei (.lst (ilist ((h ++ c).set a bl))))[ei]? = some (.lst (ilist ((h ++ c).set a bl))) := List.getElem?_set_self hel
  have q6 : Stt (S5.set ei (.lst (ilist ((h ++ c).set a bl)))) s := stt_set q5 c5 i1
  have r6 : (S5.set ei (.lst (ilist ((h ++ c).set a bl))))[n]? = some (rowC h c) := by rw [List.getElem?_set_ne (Ne.symm i3)]; exact r5
  have x6 : Ext s S (S5.set ei (.lst (ilist ((h ++ c).set a bl)))) := Ext.bump x5 i2 (by rw [List.length_set]) fun i _ _ h2 => List.getElem?_set_ne (Ne.symm h2)
  generalize S5.set ei (.lst (ilist ((h ++ c).set a bl))) = S6 at *
  have hl6 : ((h ++ c).set a bl).length = h.length + c.length := by rw [List.length_set, List.length_append]
  have hb6 : ∃ e ∈ (h ++ c).set a bl, e < 0 := ⟨bl, List.mem_of_getElem? (List.getElem?_set_self hal), hbl⟩
  have hset : ∀ y, ((h ++ c).set a bl).set a y = (h ++ c).set a y := fun y => List.set_set ..
  generalize (h ++ c).set a bl = es at *
  refine q_set (cutT1 (ei := ei) (h := h) rfl rfl c6 (by omega)) ?_
  simp only [List.set_cons_succ, List.set_cons_zero]
  have f7 : Fix S6 (S6 ++ [Cell.lst (ilist (es.take h.length))]) := Fix.push
  have c7 := f7.get c6
  generalize S6 ++ [Cell.lst (ilist (es.take h.length))] = S7 at *
  refine q_set (cutT2 (ei := ei) (h := h) rfl rfl c7 (by omega)) ?_
  simp only [List.set_cons_succ, List.set_cons_zero]
  have f8 : Fix S7 (S7 ++ [Cell.lst (ilist (es.drop h.length))]) := Fix.push
  have c8 := f8.get c7
  have f68 := f7.trans f8
  have r8 := f68.get r6
  have q8 := f68.stt q6
  have x8 := x6.trans (f68.ext (s := s))
  generalize S7 ++ [Cell.lst (ilist (es.drop h.length))] = S8 at *
  have hl1 : (es.take h.length).length = h.length := by rw [List.length_take]; omega
  have hl2 : (es.drop h.length).length = c.length := by rw [List.length_drop]; omega
  have hjoin : es.take h.length ++ es.drop h.length = es := List.take_append_drop ..
  generalize hF1 : es.take h.length = ff at *
  generalize hR1 : es.drop h.length = rr at *
  -- the six pairs
  have hpairs : ∀ d ∈ [D.tup [T ff, T rr], .tup [T h, .tup []], .tup [T ff, .tup []], .tup [.tup [], .tup []], .tup [.tup [I bl], T c], .tup [T h, .tup [I bl]]], ∃ f r : List Int, d = .tup [T f, T r] ∧ f.length ≤ 1000 ∧ r.length ≤ 1000 ∧ (r = [] ∨ ∃ e ∈ f ++ r, e < 0) := by
    intro d hd
    simp only [List.mem_cons, List.not_mem_nil, or_false] at hd
    rcases hd with rfl | rfl | rfl | rfl | rfl | rfl
    · exact ⟨ff, rr, rfl, by omega, by omega, .inr (by rw [hjoin]; exact hb6)⟩
    · exact ⟨h, [], rfl, by omega, by simp, .inl rfl⟩
    · exact ⟨ff, [], rfl, by omega, by simp, .inl rfl⟩
    · exact ⟨[], [], rfl, by simp, by simp, .inl rfl⟩
    · exact ⟨[bl], c, rfl, by simp, by omega, .inr ⟨bl, by simp, hbl⟩⟩
    · exact ⟨h, [bl], rfl, by omega, by simp, .inr ⟨bl, by simp, hbl⟩⟩
  have hit9 : iTmp (aCons (eTup (aCons (eVar 9) (aCons (eVar 10) aNil))) (aCons (eTup (aCons (eVar 2) (aCons (eTup aNil) aNil))) (aCons (eTup (aCons (eVar 9) (aCons (eTup aNil) aNil))) (aCons (eTup (aCons (eTup aNil) (aCons (eTup aNil) aNil))) (aCons (eTup (aCons (eTup (aCons (eVar 5) aNil)) (aCons (eVar 3) aNil))) (aCons (eTup (aCons (eVar 2) (aCons (eTup (aCons (eVar 5) aNil)) aNil))) aNil)))))) [some (.cel s), some (.cel n), some (T h), some (T c), some refused, some (I bl), w6, some (I (a : Nat)), some (.cel ei), some (T ff), some (T rr), none] S8 =
      .ok ([D.tup [T ff, T rr], .tup [T h, .tup []], .tup [T ff, .tup []], .tup [.tup [], .tup []], .tup [.tup [I bl], T c], .tup [T h, .tup [I bl]]], none) S8 := by simp
  generalize [D.tup [T ff, T rr], .tup [T h, .tup []], .tup [T ff, .tup []], .tup [.tup [], .tup []], .tup [.tup [I bl], T c], .tup [T h, .tup [I bl]]] = ps at *
  have hlp9 : ∃ w11 S9, forGo none ps (gN 11) (sSeq (sIf (tNot (tOf (eCall (sem (k + 6))._law_same [] (aCons (eCall (sem (k + 6))._law_asked [] (aCons (eC (.a (.int (3)))) (aCons (eVar 1) (aCons (eC (.a (.int (0)))) (aCons (eBin dIx (eVar 11) (eC (.a (.int (0))))) (aCons (eBin dIx (eVar 11) (eC (.a (.int (1))))) aNil)))))) (aCons (eVar 4) aNil)))))
       (sSeq (sRet (eC (.a (.bl false)))) sNil) sNil) sNil) ps [some (.cel s), some (.cel n), some (T h), some (T c), some refused, some (I bl), w6, some (I (a : Nat)), some (.cel ei), some (T ff), some (T rr), none] S8 = .nx [some (.cel s), some (.cel n), some (T h), some (T c), some refused, some (I bl), w6, some (I (a : Nat)), some (.cel ei), some (T ff), some (T rr), w11] S9 ∧ Fix S8 S9 := by
    obtain ⟨env', S', e, ⟨w11, rfl⟩, x⟩ := forGo_nx (all := ps) (body := sSeq (sIf (tNot (tOf (eCall (sem (k + 6))._law_same [] (aCons (eCall (sem (k + 6))._law_asked [] (aCons (eC (.a (.int (3)))) (aCons (eVar 1) (aCons (eC (.a (.int (0)))) (aCons (eBin dIx (eVar 11) (eC (.a (.int (0))))) (aCons (eBin dIx (eVar 11) (eC (.a (.int (1))))) aNil)))))) (aCons (eVar 4) aNil)))))
       (sSeq (sRet (eC (.a (.bl false)))) sNil) sNil) sNil) (i := 11) (r := ps) (env := [some (.cel s), some (.cel n), some (T h), some (T c), some refused, some (I bl), w6, some (I (a : Nat)), some (.cel ei), some (T ff), some (T rr), none]) (S := S8) (fun _ env S' => (∃ w11, env = [some (.cel s), some (.cel n), some (T h), some (T c), some refused, some (I bl), w6, some (I (a : Nat)), some (.cel ei), some (T ff), some (T rr), w11]) ∧ Fix S8 S') ⟨⟨_, rfl⟩, Fix.refl⟩ (by
      rintro j d env Sj hd ⟨⟨w11, rfl⟩, x⟩
      obtain ⟨f, r, rfl, g1, g2, g3⟩ := hpairs d (List.mem_of_getElem? hd)
      obtain ⟨d, Sk, ek, rfl, _, fk⟩ := (asked3 (k := k) (S := Sj) (d := .cel n) (e := I 0) g1 g2 g3).get
      have hs := same_ref (k + 3) Sk
      have t0 : atI [T f, T r] 0 = some (T f) := rfl
      have t1 : atI [T f, T r] 1 = some (T r) := rfl
      refine ⟨[some (.cel s), some (.cel n), some (T h), some (T c), some refused, some (I bl), w6, some (I (a : Nat)), some (.cel ei), some (T ff), some (T rr), some (.tup [T f, T r])], Sk, ?_, ⟨_, rfl⟩, x.trans fk⟩
      simp [t0, t1, ek, hs])
    exact ⟨w11, S', e, x⟩
  obtain ⟨w11, S9, e9, f9⟩ := hlp9
  refine q_for (gg := none) hit9 e9 ?_
  have c9 := f9.get c8
  have r9 := f9.get r8
  have q9 := f9.stt q8
  have x9 := x8.trans (f9.ext (s := s))
  have hel9 := (List.getElem?_eq_some_iff.mp c9).1
  -- the entry is 0
  have hp10 : dPut (.cel ei) (I (a : Nat)) (I 0) S9 = some (S9.set ei (.lst (ilist ((h ++ c).set a 0)))) := by
    rw [dPut_lst c9 (by rw [ilist_len, hl6]; rw [List.length_append] at hal; exact hal), ilist_set, hset]
  refine q_put (v := I 0) (o := .cel ei) (i := I (a : Nat)) (S1 := S9) (S2 := S9) (S3 := S9) rfl rfl rfl hp10 ?_
  have cA : (S9.set ei (.lst (ilist ((h ++ c).set a 0))))[ei]? = some (.lst (ilist ((h ++ c).set a 0))) := List.getElem?_set_self hel9
  have qA : Stt (S9.set ei (.lst (ilist ((h ++ c).set a 0)))) s := stt_set q9 c9 i1
  have rA : (S9.set ei (.lst (ilist ((h ++ c).set a 0))))[n]? = some (rowC h c) := by rw [List.getElem?_set_ne (Ne.symm i3)]; exact r9
  have xA : Ext s S (S9.set ei (.lst (ilist ((h ++ c).set a 0)))) := Ext.bump x9 i2 (by rw [List.length_set]) fun i _ _ h2 => List.getElem?_set_ne (Ne.symm h2)
  generalize S9.set ei (.lst (ilist ((h ++ c).set a 0))) = SA at *
  have hlA : ((h ++ c).set a 0).length = h.length + c.length := by rw [List.length_set, List.length_append]
  have hbA : ∀ e ∈ (h ++ c).set a 0, 0 ≤ e := set_all (fun x hx => (List.mem_append.mp hx).elim (v.hp x) (v.cp x)) (Int.le_refl 0)
  generalize (h ++ c).set a 0 = et at *
  refine q_set (cutT1 (ei := ei) (h := h) rfl rfl cA (by omega)) ?_
  simp only [List.set_cons_succ, List.set_cons_zero]
  have fB : Fix SA (SA ++ [Cell.lst (ilist (et.take h.length))]) := Fix.push
  have cB := fB.get cA
  generalize SA ++ [Cell.lst (ilist (et.take h.length))] = SB at *
  refine q_set (cutT2 (ei := ei) (h := h) rfl rfl cB (by omega)) ?_
  simp only [List.set_cons_succ, List.set_cons_zero]
  have fC : Fix SB (SB ++ [Cell.lst (ilist (et.drop h.length))]) := Fix.push
  have fAC := fB.trans fC
  have rC := fAC.get rA
  have qC := fAC.stt qA
  have xC := xA.trans (fAC.ext (s := s))
  generalize SB ++ [Cell.lst (ilist (et.drop h.length))] = SC at *
  have vt : VR (et.take h.length) (et.drop h.length) := ⟨fun e => by
      have := congrArg List.length e
      rw [List.length_drop, List.length_nil] at this
      omega, by rw [List.length_drop]; omega, by rw [List.length_take]; omega, fun x hx => hbA x (List.mem_of_mem_take hx), fun x hx => hbA x (List.mem_of_mem_drop hx)⟩
  generalize et.take h.length = ft at *
  generalize et.drop h.length = rt at *
  -- the least form of the new row
  have mk := make_row (k + 3) (S := SC) vt
  have fD : Fix SC (SC ++ [rowC ft rt]) := Fix.push
  have rD : (SC ++ [rowC ft rt])[SC.length]? = some (rowC ft rt) := new_at
  have mD : methG "Row" "least" (SC ++ [rowC ft rt])[SC.length]? = true := mth rD (by decide +kernel) (by decide +kernel)
  have lD := sem_rleast (k + 2) vt rD
  generalize hSD : SC ++ [rowC ft rt] = SD at *
  have fE : Fix SD (SD ++ [rowC (lfH ft rt) (lfC ft rt)]) := Fix.push
  have rE : (SD ++ [rowC (lfH ft rt) (lfC ft rt)])[SD.length]? = some (rowC (lfH ft rt) (lfC ft rt)) := new_at
  have fCE := fD.trans fE
  generalize hSE : SD ++ [rowC (lfH ft rt) (lfC ft rt)] = SE at *
  have ll := sem_lleast (k + 4) (S := SE) vt.ne vt.cl vt.hl
  have isr := sem_is_row (k + 2) (by have := vt.lf.hl; omega) (by have := vt.lf.cl; omega) rE
  refine q_iff (S' := SE) (by
    simp [mk, mD, lD, ll, isr]) ?_
  refine q_nil ?_
  have r10 := fCE.get rC
  have q10 := fCE.stt qC
  have x10 := xC.trans (fCE.ext (s := s))
  -- asked at 0
  obtain ⟨d0, SF, e0, rfl, _, fF⟩ := (asked0 (k := k) (i := 0) (d := T h) (e := T c) v r10).get
  have at0 := sem_at (k + 4) (i := 0) (h := h) (S := SF) v.ne
  have s0 := same_told_I (k + 2) (sq h c 0) SF
  have e0' : (sem (k + 6))._law_asked [I 0, .cel n, I 0, T h, T c] SE = .ok (told (I (sq h c 0))) SF := e0
  have at0' : (sem (k + 6))._law_at [T h, T c, I 0] SF = .ok (I (sq h c 0)) SF := at0
  refine q_iff (S' := SF) (by
    unfold told at e0' s0
    simp [e0', at0', s0]) ?_
  refine q_nil ?_
  have r11 := fF.get r10
  obtain ⟨d1, SG, e1', rfl, _, fG⟩ := (asked1 (k := k) (i := 0) (d := T h) (e := T c) v r11 (by decide)).get
  have s1 := same_told_T (k + 2) (x := []) SG (by simp)
  have e1'' : (sem (k + 6))._law_asked [I 1, .cel n, I 0, T h, T c] SF = .ok (told (.tup [])) SG := e1'
  have s1' : (sem (k + 6))._law_same [told (.tup []), told (.tup [])] SG = .ok (.a (.bl true)) SG := s1
  refine q_iff (S' := SG) (by
    unfold told at e1'' s1'
    simp [e1'', s1']) ?_
  refine q_nil ?_
  have r12 := fG.get r11
  obtain ⟨d2, SH, e2', ⟨f2, rr2, hb2, rfl⟩, _, fH⟩ := (asked2 (k := k) (i := 0) (d := T h) (e := T c) v r12).get
  have heq := lf_eq hb2.v.ne v.ne (hb2.e.trans (by funext i; rw [Nat.zero_add]))
  rw [heq.1] at e2'
  have e2'' : (sem (k + 6))._law_asked [I 2, .cel n, I 0, T h, T c] SG = .ok (told (T (lfH h c))) SH := e2'
  have ll2 := sem_lleast (k + 4) (S := SH) v.ne v.cl v.hl
  have s2 := same_told_T (k + 2) (x := lfH h c) SH (by have := v.lf.hl; omega)
  have t0 : atI [T (lfH h c), T (lfC h c)] 0 = some (T (lfH h c)) := rfl
  refine q_ret (d := .a (.bl true)) (S' := SH) (by
    unfold told at e2'' s2
    simp [e2'', ll2, t0, s2]) ?_
  exact ⟨rfl, noC_atom _, x10.trans ((fF.trans fG).trans fH).ext, ((fF.trans fG).trans fH).stt q10⟩
end K55
set_option maxRecDepth 100000
set_option exponentiation.threshold 600
namespace K55
open PySem PySem.Spec PyProof.Rows L2 G M55
theorem tn (X : EX) {env : Slots} {S S' : Sto} (h : X env S = .ok (.a (.bl true)) S') : tNot (tOf X) env S = .ok false S' := by
  rw [tNot_eq, tOf_eq, h, trR_ok, truth_bl, ofB_some, notR_ok]
  rfl
theorem or_ff {A B : BX} {env : Slots} {S S1 S2 : Sto} (h1 : A env S = .ok false S1) (h2 : B env S1 = .ok false S2) : tOr A B env S = .ok false S2 := by
  rw [tOr_eq, h1, orR_f, h2]
section
variable {k : Nat} {env : Slots} {S : Sto} {h c h' c' : List Int} {i j n m : Nat}
theorem is_plain (hi : env[i]? = some (some (.cel n))) (v : VR h c) (hr : S[n]? = some (rowC h c)) {e2 : EX} (h2 : e2 env S = .ok (.tup [T h, T c]) S) : eCall (sem (k + 9))._law_is_row [] (aCons (eVar i) (aCons e2 aNil)) env S = .ok (.a (.bl true)) S := by
  have isr := sem_is_row (k + 5) (by have := v.hl; omega) (by have := v.cl; omega) hr
  simp [hi, h2, isr]
theorem is_least (hi : env[i]? = some (some (.cel n))) (v : VR h c) (hr : S[n]? = some (rowC h c)) {e2 : EX} (h2 : ∀ S', e2 env S' = .ok (.tup [T (lfH h c), T (lfC h c)]) S') :
    ∃ S', Fix S S' ∧ eCall (sem (k + 9))._law_is_row [] (aCons (eMethO "Row" "least" (sem (k + 9)).Row_least [] (eVar i) aNil) (aCons e2 aNil)) env S = .ok (.a (.bl true)) S' := by
  have mD : methG "Row" "least" S[n]? = true := mth hr (by decide +kernel) (by decide +kernel)
  have lD := sem_rleast (k + 5) v hr
  have fE : Fix S (S ++ [rowC (lfH h c) (lfC h c)]) := Fix.push
  have rE : (S ++ [rowC (lfH h c) (lfC h c)])[S.length]? = some (rowC (lfH h c) (lfC h c)) := new_at
  generalize hSE : S ++ [rowC (lfH h c) (lfC h c)] = SE at *
  have isr := sem_is_row (k + 5) (by have := v.lf.hl; omega) (by have := v.lf.cl; omega) rE
  exact ⟨SE, fE, by simp [hi, mD, lD, h2, isr]⟩
open Classical in
theorem same_rows_e {B : Bool} (hi : env[i]? = some (some (.cel n))) (hj : env[j]? = some (some (.cel m))) (v : VR h c) (v' : VR h' c') (hr : S[n]? = some (rowC h c)) (hr' : S[m]? = some (rowC h' c')) (hB : decide (sq h c = sq h' c') = B) :
    ∃ S', Fix S S' ∧ tBin dIsNot (eCall (sem (k + 9)).same_rows [] (aCons (eVar i) (aCons (eVar j) aNil))) (eC (.a (.bl B))) env S = .ok false S' := by
  obtain ⟨d, S', e, rfl, _, f⟩ := (sem_same_rows (k + 3) v v' hr hr').get
  rw [hB] at e
  exact ⟨S', f, by simp [hi, hj, e]⟩
theorem make_e (hi : env[i]? = some (some (T h))) (hj : env[j]? = some (some (T c))) (v : VR h c) : eMake "Row" (sem (k + 8)).Rowdd_initdd [] (aCons (eVar i) (aCons (eVar j) aNil)) env S = .ok (.cel S.length) (S ++ [rowC h c]) := by
  have mk := make_row (k + 6) (S := S) v
  simp [hi, hj, mk]
theorem lleast_e (hi : env[i]? = some (some (T h))) (hj : env[j]? = some (some (T c))) (v : VR h c) : eCall (sem (k + 9))._law_least [] (aCons (eVar i) (aCons (eVar j) aNil)) env S = .ok (.tup [T (lfH h c), T (lfC h c)]) S := by
  have ll := sem_lleast (k + 7) (S := S) v.ne v.cl v.hl
  simp [hi, hj, ll]
theorem pair_e (hi : env[i]? = some (some (T h))) (hj : env[j]? = some (some (T c))) : eTup (aCons (eVar i) (aCons (eVar j) aNil)) env S = .ok (.tup [T h, T c]) S := by
  simp [hi, hj]
end
theorem gT_cel {n i : Nat} {u : List D → Slots → Sto → Option (Slots × Sto)} {env : Slots} {S : Sto} {ds : List D} (h : S[i]? = some (.lst ds)) (hl : ds.length = n) : gT n u (.cel i) env S = u ds env S := by
  unfold gT itemsOf
  dsimp only
  rw [h]
  dsimp only
  rw [if_pos hl]
open Classical in
theorem law_k (k : Nat) (ns : List Int) (hns : ns.length ≤ 63) : ∃ S', defSem 1 15 (b_law (sem (k + 9)) (sem (k + 8))) [.ils (ilist ns)] [] = .ok (.a (.bl true)) S' := by
  have main : OkP (FixA [] fun d => d = .a (.bl true)) (defSem 1 15 (b_law (sem (k + 9)) (sem (k + 8))) [.ils (ilist ns)] []) := by
    have hst := start_spec ns hns
    have hss : (sem (k + 9))._law_start = defSem 1 3 bStart := by rw [e__law_start (k + 7)]; rfl
    rw [← hss] at hst
    generalize hbl : b_law (sem (k + 9)) (sem (k + 8)) = bl
    generalize hS0 : ([] : Sto) = S0 at hst ⊢
    obtain ⟨S1, s, e1', q1⟩ := hst
    refine def_fixA (n := 1) (N := 15) (b := bl) (ds := [.ils (ilist ns)]) (S := S0) (Q := fun d => d = .a (.bl true)) rfl ?_
    subst hbl
    simp only [List.map_cons, List.map_nil, List.length_cons, List.length_nil, Nat.reduceAdd, Nat.reduceSub, List.replicate, List.cons_append, List.nil_append]
    unfold b_law
    generalize hQ : RtP (FixA S0 fun d => d = .a (.bl true)) = Q
    -- the state
    refine q_set (d := .cel s) (S' := S1) (by simp [e1']) ?_
    simp only [List.set_cons_succ, List.set_cons_zero]
    -- the row
    obtain ⟨d2, S2, e2, i2, cell, rfl, hi2, c2, ⟨h, c, top, g, rfl⟩, x2, q2⟩ := (sem_law_row (k + 6) q1).get
    refine q_asg (d := .cel i2) (S1 := S2) (env' := [some (.ils (ilist ns)), some (.cel s), some (T h), some (T c), some (I top), none, none, none, none, none, none, none, none, none, none]) (S' := S2) (by simp [e2]) (by rw [gT_cel (n := 3) c2 rfl]; rfl) ?_
    have v1 := g.v
    -- another form
    obtain ⟨d3, S3, e3, i3, cell, rfl, hi3, c3, ⟨h2, c2', g2, eq2, rfl⟩, x3, q3⟩ := (sem_other (k + 6) q2 g).get
    refine q_asg (d := .cel i3) (S1 := S3) (env' := [some (.ils (ilist ns)), some (.cel s), some (T h), some (T c), some (I top), some (T h2), some (T c2'), none, none, none, none, none, none, none, none]) (S' := S3) (by simp [e3]) (by rw [gT_cel (n := 2) c3 rfl]; rfl) ?_
    have v2 := g2.v
    -- a bent one
    obtain ⟨d4, S4, e4, i4, cell, rfl, hi4, c4, ⟨f, r, a, g3, ha, hfl, hrl, hne, rfl⟩, x4, q4⟩ := (sem_bent (k + 6) q3 g2).get
    refine q_asg (d := .cel i4) (S1 := S4) (env' := [some (.ils (ilist ns)), some (.cel s), some (T h), some (T c), some (I top), some (T h2), some (T c2'), some (T f), some (T r), some (I (a : Nat)), none, none, none, none, none]) (S' := S4) (by simp [e4]) (by rw [gT_cel (n := 3) c4 rfl]; rfl) ?_
    have v3 := g3.v
    have hne2 : sq f r ≠ sq h2 c2' := fun z => hne (congrFun z a)
    have hne1 : sq h c ≠ sq f r := fun z => hne2 (z.symm.trans eq2.symm)
    -- three rows
    refine q_set (make_e (k := k) rfl rfl v1) ?_
    simp only [List.set_cons_succ, List.set_cons_zero]
    have f5 : Fix S4 (S4 ++ [rowC h c]) := Fix.push
    have r5 : (S4 ++ [rowC h c])[S4.length]? = some (rowC h c) := new_at
    have q5 := f5.stt q4
    have n1s : S4.length ≠ s := by have := q4.lt; omega
    generalize S4 ++ [rowC h c] = S5 at *
    generalize S4.length = n1 at *
    refine q_set (make_e (k := k) rfl rfl v2) ?_
    simp only [List.set_cons_succ, List.set_cons_zero]
    have f6 : Fix S5 (S5 ++ [rowC h2 c2']) := Fix.push
    have o6 : (S5 ++ [rowC h2 c2'])[S5.length]? = some (rowC h2 c2') := new_at
    have r6 := f6.get r5
    have q6 := f6.stt q5
    have n2s : S5.length ≠ s := by have := q5.lt; omega
    generalize S5 ++ [rowC h2 c2'] = S6 at *
    generalize S5.length = n2 at *
    refine q_set (make_e (k := k) rfl rfl v3) ?_
    simp only [List.set_cons_succ, List.set_cons_zero]
    have f7 : Fix S6 (S6 ++ [rowC f r]) := Fix.push
    have b7 : (S6 ++ [rowC f r])[S6.length]? = some (rowC f r) := new_at
    have r7 := f7.get r6
    have o7 := f7.get o6
    have q7 := f7.stt q6
    have n3s : S6.length ≠ s := by have := q6.lt; omega
    generalize S6 ++ [rowC f r] = S7 at *
    generalize S6.length = n3 at *
    -- due
    refine q_set (lleast_e (k := k) rfl rfl v1) ?_
    simp only [List.set_cons_succ, List.set_cons_zero]
    refine q_iff (or_ff (tn _ (is_plain (k := k) rfl v1 r7 (pair_e rfl rfl))) (tn _ (is_plain (k := k) rfl v2 o7 (pair_e rfl rfl)))) ?_
    refine q_nil ?_
    -- least forms
    obtain ⟨S8, f8, e8⟩ := is_least (k := k) (i := 10) (n := n1) (env := [some (.ils (ilist ns)), some (.cel s), some (T h), some (T c), some (I top), some (T h2), some (T c2'), some (T f), some (T r), some (I (a : Nat)), some (.cel n1), some (.cel n2), some (.cel n3), some (.tup [T (lfH h c), T (lfC h c)]), none]) (e2 := eVar 13) rfl v1 r7 (fun _ => rfl)
    have o8 := f8.get o7
    have hl2 := lf_eq v2.ne v1.ne eq2
    obtain ⟨S9, f9, e9⟩ := is_least (k := k) (i := 11) (n := n2) (env := [some (.ils (ilist ns)), some (.cel s), some (T h), some (T c), some (I top), some (T h2), some (T c2'), some (T f), some (T r), some (I (a : Nat)), some (.cel n1), some (.cel n2), some (.cel n3), some (.tup [T (lfH h c), T (lfC h c)]), none]) (e2 := eVar 13) rfl v2 o8 (fun _ => by rw [hl2.1, hl2.2]; rfl)
    refine q_iff (or_ff (tn _ e8) (tn _ e9)) ?_
    refine q_nil ?_
    have F9 := f8.trans f9
    have r9 := F9.get r7
    have o9 := F9.get o7
    have b9 := F9.get b7
    have q9 := F9.stt q7
    obtain ⟨SA, fA, eA⟩ := is_least (k := k) (i := 12) (n := n3) (env := [some (.ils (ilist ns)), some (.cel s), some (T h), some (T c), some (I top), some (T h2), some (T c2'), some (T f), some (T r), some (I (a : Nat)), some (.cel n1), some (.cel n2), some (.cel n3), some (.tup [T (lfH h c), T (lfC h c)]), none]) (e2 := eCall (sem (k + 9))._law_least [] (aCons (eVar 7) (aCons (eVar 8) aNil))) rfl v3 b9 (fun _ => lleast_e (k := k) rfl rfl v3)
    refine q_iff (tn _ eA) ?_
    refine q_nil ?_
    have rA := fA.get r9
    have oA := fA.get o9
    have bA := fA.get b9
    have qA := fA.stt q9
    -- the same rows
    obtain ⟨SB, fB, eB⟩ := same_rows_e (k := k) (B := true) (i := 10) (j := 11) (n := n1) (m := n2) (env := [some (.ils (ilist ns)), some (.cel s), some (T h), some (T c), some (I top), some (T h2), some (T c2'), some (T f), some (T r), some (I (a : Nat)), some (.cel n1), some (.cel n2), some (.cel n3), some (.tup [T (lfH h c), T (lfC h c)]), none]) rfl rfl v1 v2 rA oA (decide_eq_true eq2.symm)
    obtain ⟨SC, fC, eC'⟩ := same_rows_e (k := k) (B := true) (i := 11) (j := 10) (n := n2) (m := n1) (env := [some (.ils (ilist ns)), some (.cel s), some (T h), some (T c), some (I top), some (T h2), some (T c2'), some (T f), some (T r), some (I (a : Nat)), some (.cel n1), some (.cel n2), some (.cel n3), some (.tup [T (lfH h c), T (lfC h c)]), none]) rfl rfl v2 v1 (fB.get oA) (fB.get rA) (decide_eq_true eq2)
    refine q_iff (or_ff eB eC') ?_
    refine q_nil ?_
    have FC := fB.trans fC
    have rC := FC.get rA
    have oC := FC.get oA
    have bC := FC.get bA
    have qC := FC.stt qA
    obtain ⟨SD, fD, eD⟩ := same_rows_e (k := k) (B := false) (i := 10) (j := 12) (n := n1) (m := n3) (env := [some (.ils (ilist ns)), some (.cel s), some (T h), some (T c), some (I top), some (T h2), some (T c2'), some (T f), some (T r), some (I (a : Nat)), some (.cel n1), some (.cel n2), some (.cel n3), some (.tup [T (lfH h c), T (lfC h c)]), none]) rfl rfl v1 v3 rC bC (decide_eq_false hne1)
    obtain ⟨SE, fE, eE⟩ := same_rows_e (k := k) (B := false) (i := 12) (j := 11) (n := n3) (m := n2) (env := [some (.ils (ilist ns)), some (.cel s), some (T h), some (T c), some (I top), some (T h2), some (T c2'), some (T f), some (T r), some (I (a : Nat)), some (.cel n1), some (.cel n2), some (.cel n3), some (.tup [T (lfH h c), T (lfC h c)]), none]) rfl rfl v3 v2 (fD.get bC) (fD.get oC) (decide_eq_false hne2)
    refine q_iff (or_ff eD eE) ?_
    refine q_nil ?_
    have FE := fD.trans fE
    have rE := FE.get rC
    have oE := FE.get oC
    have bE := FE.get bC
    have qE := FE.stt qC
    -- an entry
    have t1 : tNot (tOf (eCall (sem (k + 9))._law_same [] (aCons (eIxO "Row" (sem (k + 8)).Rowdd_getitemdd (eVar 12) (eVar 9)) (aCons (eBin dIx (eBin dAdd (eVar 7) (eVar 8)) (eVar 9)) aNil)))) [some (.ils (ilist ns)), some (.cel s), some (T h), some (T c), some (I top), some (T h2), some (T c2'), some (T f), some (T r), some (I (a : Nat)), some (.cel n1), some (.cel n2), some (.cel n3), some (.tup [T (lfH h c), T (lfC h c)]), none] SE = .ok false SE := by
      have a1 := sem_get (k + 6) (i := a) v3.ne bE
      have ad := dAdd_tup (xs := ilist f) (ys := ilist r) (S := SE) (by rw [ilist_len, ilist_len]; have := g3.cl; have := g3.hl; exact small_line (by omega))
      have a2 := app_ix (h := f) (c := r) (i := a) ha
      simp [ixO2_at bE, a1, ad, ilist_app, a2, same_I (k + 6)]
    have t2 : tNot (tOf (eCall (sem (k + 9))._law_same [] (aCons (eIxO "Row" (sem (k + 8)).Rowdd_getitemdd (eVar 11) (eVar 9)) (aCons (eBin dIx (eBin dAdd (eVar 5) (eVar 6)) (eVar 9)) aNil)))) [some (.ils (ilist ns)), some (.cel s), some (T h), some (T c), some (I top), some (T h2), some (T c2'), some (T f), some (T r), some (I (a : Nat)), some (.cel n1), some (.cel n2), some (.cel n3), some (.tup [T (lfH h c), T (lfC h c)]), none] SE = .ok false SE := by
      have a1 := sem_get (k + 6) (i := a) v2.ne oE
      have ad := dAdd_tup (xs := ilist h2) (ys := ilist c2') (S := SE) (by rw [ilist_len, ilist_len]; have := g2.cl; have := g2.hl; exact small_line (by omega))
      have a2 := app_ix (h := h2) (c := c2') (i := a) (by omega)
      simp [ixO2_at oE, a1, ad, ilist_app, a2, same_I (k + 6)]
    refine q_iff (or_ff t1 t2) ?_
    refine q_nil ?_
    -- entries
    obtain ⟨d, SF, eF, rfl, _, xF, qF⟩ := (sem_entries (k + 3) v1 qE rE n1s).get
    have oF := xF.get oE n2s
    obtain ⟨d, SG, eG, rfl, _, xG, qG⟩ := (sem_entries (k + 3) v2 qF oF n2s).get
    refine q_iff (or_ff (S1 := SF) (tn _ (by simp [eF])) (tn _ (S' := SG) (by simp [eG]))) ?_
    refine q_nil ?_
    have XG := xF.trans xG
    have rG := XG.get rE n1s
    -- refusals
    obtain ⟨d, SH, eH, rfl, _, xH, qH⟩ := (sem_refusals (k + 2) v1 qG rG n1s).get
    refine q_iff (tn _ (S' := SH) (by simp [eH])) ?_
    refine q_nil ?_
    have XH := XG.trans xH
    have rH := XH.get rE n1s
    have oH := XH.get oE n2s
    have bH := XH.get bE n3s
    -- a row of one entry over and over
    have v4 : VR h [0] := ⟨by simp, by simp, v1.hl, v1.hp, fun x hx => by rw [List.mem_singleton.mp hx]; exact Int.le_refl 0⟩
    have mk : make2 ((sem (k + 8)).Rowdd_initdd [.cel SH.length, T h, .tup [I 0]] (SH ++ [.ins "Row" []])) SH.length = .ok (.cel SH.length) (SH ++ [rowC h [0]]) := make_row (k + 6) (S := SH) v4
    refine q_set (d := .cel SH.length) (S' := SH ++ [rowC h [0]]) (by simp [dd_Rowdd_initdd_1, mk]) ?_
    simp only [List.set_cons_succ, List.set_cons_zero]
    have fI : Fix SH (SH ++ [rowC h [0]]) := Fix.push
    have pI : (SH ++ [rowC h [0]])[SH.length]? = some (rowC h [0]) := new_at
    have rI := fI.get rH
    have oI := fI.get oH
    have bI := fI.get bH
    generalize SH ++ [rowC h [0]] = SI at *
    generalize SH.length = n4 at *
    have pz : ∀ S' : Sto, eTup (aCons (eC (.a (.int (0)))) aNil) [some (.ils (ilist ns)), some (.cel s), some (T h), some (T c), some (I top), some (T h2), some (T c2'), some (T f), some (T r), some (I (a : Nat)), some (.cel n1), some (.cel n2), some (.cel n3), some (.tup [T (lfH h c), T (lfC h c)]), some (.cel n4)] S' = .ok (T [0]) S' := fun S' => rfl
    have ll4 : ∀ S' : Sto, eCall (sem (k + 9))._law_least [] (aCons (eVar 2) (aCons (eTup (aCons (eC (.a (.int (0)))) aNil)) aNil)) [some (.ils (ilist ns)), some (.cel s), some (T h), some (T c), some (I top), some (T h2), some (T c2'), some (T f), some (T r), some (I (a : Nat)), some (.cel n1), some (.cel n2), some (.cel n3), some (.tup [T (lfH h c), T (lfC h c)]), some (.cel n4)] S' = .ok (.tup [T (lfH h [0]), T (lfC h [0])]) S' := fun S' => by
      have ll := sem_lleast (k + 7) (S := S') v4.ne v4.cl v4.hl
      rw [eCall_eq, aCons_eq, eVar_eq]
      simp only [List.getElem?_cons_succ, List.getElem?_cons_zero, varR_some, cons1_ok, aCons_eq, pz, aNil_eq, cons2_ok, callR_ok]
      exact ll
    obtain ⟨SJ, fJ, eJ⟩ := is_least (k := k) (i := 14) (n := n4) (env := [some (.ils (ilist ns)), some (.cel s), some (T h), some (T c), some (I top), some (T h2), some (T c2'), some (T f), some (T r), some (I (a : Nat)), some (.cel n1), some (.cel n2), some (.cel n3), some (.tup [T (lfH h c), T (lfC h c)]), some (.cel n4)]) (e2 := eCall (sem (k + 9))._law_least [] (aCons (eVar 2) (aCons (eTup (aCons (eC (.a (.int (0)))) aNil)) aNil))) rfl v4 pI ll4
    refine q_iff (or_ff (tn _ (is_plain (k := k) rfl v4 pI rfl)) (tn _ eJ)) ?_
    refine q_nil ?_
    have rJ := fJ.get rI
    have oJ := fJ.get oI
    have bJ := fJ.get bI
    -- nothing has changed
    obtain ⟨SK, fK, eK⟩ := is_least (k := k) (i := 10) (n := n1) (env := [some (.ils (ilist ns)), some (.cel s), some (T h), some (T c), some (I top), some (T h2), some (T c2'), some (T f), some (T r), some (I (a : Nat)), some (.cel n1), some (.cel n2), some (.cel n3), some (.tup [T (lfH h c), T (lfC h c)]), some (.cel n4)]) (e2 := eVar 13) rfl v1 rJ (fun _ => rfl)
    obtain ⟨SL, fL, eL⟩ := same_rows_e (k := k) (B := true) (i := 10) (j := 11) (n := n1) (m := n2) (env := [some (.ils (ilist ns)), some (.cel s), some (T h), some (T c), some (I top), some (T h2), some (T c2'), some (T f), some (T r), some (I (a : Nat)), some (.cel n1), some (.cel n2), some (.cel n3), some (.tup [T (lfH h c), T (lfC h c)]), some (.cel n4)]) rfl rfl v1 v2 (fK.get rJ) (fK.get oJ) (decide_eq_true eq2.symm)
    have FL := fK.trans fL
    obtain ⟨SM, fM, eM⟩ := same_rows_e (k := k) (B := false) (i := 12) (j := 10) (n := n3) (m := n1) (env := [some (.ils (ilist ns)), some (.cel s), some (T h), some (T c), some (I top), some (T h2), some (T c2'), some (T f), some (T r), some (I (a : Nat)), some (.cel n1), some (.cel n2), some (.cel n3), some (.tup [T (lfH h c), T (lfC h c)]), some (.cel n4)]) rfl rfl v3 v1 (FL.get bJ) (FL.get rJ) (decide_eq_false fun z => hne1 z.symm)
    refine q_iff (or_ff (tn _ eK) (or_ff eL eM)) ?_
    refine q_nil ?_
    have FM := FL.trans fM
    have rM := FM.get rJ
    have bM := FM.get bJ
    refine q_ret (d := .a (.bl true)) (S' := SM) (by
      rw [eAnd_eq, is_plain (k := k) rfl v1 rM (pair_e rfl rfl), eAndR_t]
      exact is_plain (k := k) rfl v3 bM (pair_e rfl rfl)) ?_
    subst hQ
    subst hS0
    exact ⟨rfl, noC_atom _, ⟨Nat.zero_le _, fun i hi => absurd hi (Nat.not_lt_zero i)⟩⟩
  obtain ⟨d, S', e, rfl, _⟩ := main.get
  exact ⟨S', e⟩
def LV : Nat := 100
theorem law_true : ∀ ns : List Int, ns.length ≤ 63 → (∀ z ∈ ns, Builtin.Int.intBits z ≤ 1048576) → ∃ S', defSem 1 (NN_law).length (b_law (sem (LV + 1)) (sem LV)) [.ils (ns.map fun i => .a (.int i))] [] = .ok (.a (.bl true)) S' := fun ns hl _ => law_k 92 ns hl
end K55
namespace K55
open PySem PySem.Spec PyProof.Rows L2 G
theorem facts_mk {K : PySem.W.Frag} {h : Heap} {mg : Str → Option Value} (X : K.In h) (G : h.Ns mainGlobals mg)
    {f_law f__law_is_row f_Row_least C_Row f_same_rows f__law_least f_Rowdd_initdd T_Rowdd_initdd U2 f__law_refusals f__law_entries f__law_same f_Rowdd_getitemdd f__law_bent f__law_other f__law_row f__law_start f_turned f_loose_entries f_shortest_cycle f__law_asked f__law_at f__law_pick f_Row_start f__law_behind f_Row_after C_OutOfRange C_SizeMismatch C_TooLarge C_InvalidTerm C_ProofsError : Addr} {od_law an_law od__law_is_row an__law_is_row od_Row_least an_Row_least od_same_rows an_same_rows od__law_least an__law_least od_Rowdd_initdd an_Rowdd_initdd to_Rowdd_initdd uo2 od__law_refusals an__law_refusals od__law_entries an__law_entries od__law_same an__law_same od_Rowdd_getitemdd an_Rowdd_getitemdd od__law_bent an__law_bent od__law_other an__law_other od__law_row an__law_row od__law_start an__law_start od_turned an_turned od_loose_entries an_loose_entries od_shortest_cycle an_shortest_cycle od__law_asked an__law_asked od__law_at an__law_at od__law_pick an__law_pick od_Row_start an_Row_start od__law_behind an__law_behind od_Row_after an_Row_after : Option Addr} {sl_law sl__law_is_row sl_Row_least sl_same_rows sl__law_least sl_Rowdd_initdd ts_Rowdd_initdd us2 sl__law_refusals sl__law_entries sl__law_same sl_Rowdd_getitemdd sl__law_bent sl__law_other sl__law_row sl__law_start sl_turned sl_loose_entries sl_shortest_cycle sl__law_asked sl__law_at sl__law_pick sl_Row_start sl__law_behind sl_Row_after : Array (Option Value)} {oc_law kV_law dc_law pm_law cd_law ct_law oc__law_is_row kV__law_is_row dc__law_is_row pm__law_is_row cd__law_is_row ct__law_is_row oc_Row_least kV_Row_least dc_Row_least pm_Row_least cd_Row_least ct_Row_least oc_same_rows kV_same_rows dc_same_rows pm_same_rows cd_same_rows ct_same_rows oc__law_least kV__law_least dc__law_least pm__law_least cd__law_least ct__law_least oc_Rowdd_initdd kV_Rowdd_initdd dc_Rowdd_initdd pm_Rowdd_initdd cd_Rowdd_initdd ct_Rowdd_initdd tc_Rowdd_initdd oc__law_refusals kV__law_refusals dc__law_refusals pm__law_refusals cd__law_refusals ct__law_refusals oc__law_entries kV__law_entries dc__law_entries pm__law_entries cd__law_entries ct__law_entries oc__law_same kV__law_same dc__law_same pm__law_same cd__law_same ct__law_same oc_Rowdd_getitemdd kV_Rowdd_getitemdd dc_Rowdd_getitemdd pm_Rowdd_getitemdd cd_Rowdd_getitemdd ct_Rowdd_getitemdd oc__law_bent kV__law_bent dc__law_bent pm__law_bent cd__law_bent ct__law_bent oc__law_other kV__law_other dc__law_other pm__law_other cd__law_other ct__law_other oc__law_row kV__law_row dc__law_row pm__law_row cd__law_row ct__law_row oc__law_start kV__law_start dc__law_start pm__law_start cd__law_start ct__law_start oc_turned kV_turned dc_turned pm_turned cd_turned ct_turned oc_loose_entries kV_loose_entries dc_loose_entries pm_loose_entries cd_loose_entries ct_loose_entries oc_shortest_cycle kV_shortest_cycle dc_shortest_cycle pm_shortest_cycle cd_shortest_cycle ct_shortest_cycle oc__law_asked kV__law_asked dc__law_asked pm__law_asked cd__law_asked ct__law_asked oc__law_at kV__law_at dc__law_at pm__law_at cd__law_at ct__law_at oc__law_pick kV__law_pick dc__law_pick pm__law_pick cd__law_pick ct__law_pick oc_Row_start kV_Row_start dc_Row_start pm_Row_start cd_Row_start ct_Row_start oc__law_behind kV__law_behind dc__law_behind pm__law_behind cd__law_behind ct__law_behind oc_Row_after kV_Row_after dc_Row_after pm_Row_after cd_Row_after ct_Row_after : Value}
    {tn_Rowdd_initdd un2 : Nat}
    {tk1 : _}
    (aC_Row : PySem.W.nsIn K mainGlobals "Row" = some (some (.ref C_Row)))
    (aC_OutOfRange : PySem.W.nsIn K mainGlobals "OutOfRange" = some (some (.ref C_OutOfRange)))
    (aC_SizeMismatch : PySem.W.nsIn K mainGlobals "SizeMismatch" = some (some (.ref C_SizeMismatch)))
    (aC_TooLarge : PySem.W.nsIn K mainGlobals "TooLarge" = some (some (.ref C_TooLarge)))
    (aC_InvalidTerm : PySem.W.nsIn K mainGlobals "InvalidTerm" = some (some (.ref C_InvalidTerm)))
    (aC_ProofsError : PySem.W.nsIn K mainGlobals "ProofsError" = some (some (.ref C_ProofsError)))
    (a_law : PySem.W.nsIn K mainGlobals "law" = some (some (.ref f_law)))
    (l_law : K.lookup f_law = some ⟨oc_law, od_law, .func (PySem.W.fnOf "law" "law" (defArgs st_law) (defBody st_law) (defScope st_law) .none kV_law dc_law pm_law an_law cd_law ct_law), sl_law⟩)
    (c_law : PySem.W.codeIn K cd_law "law" = true)
    (k_law : PySem.W.keepIn K (.ref f_law) = true)
    (a__law_is_row : PySem.W.nsIn K mainGlobals "_law_is_row" = some (some (.ref f__law_is_row)))
    (l__law_is_row : K.lookup f__law_is_row = some ⟨oc__law_is_row, od__law_is_row, .func (PySem.W.fnOf "_law_is_row" "_law_is_row" (defArgs st__law_is_row) (defBody st__law_is_row) (defScope st__law_is_row) .none kV__law_is_row dc__law_is_row pm__law_is_row an__law_is_row cd__law_is_row ct__law_is_row), sl__law_is_row⟩)
    (c__law_is_row : PySem.W.codeIn K cd__law_is_row "_law_is_row" = true)
    (k__law_is_row : PySem.W.keepIn K (.ref f__law_is_row) = true)
    (a_Row_least : PySem.W.findIn K (.ref C_Row) "least" = some (some (.ref f_Row_least)))
    (i_Row_least : PySem.W.isFn K (.ref f_Row_least) = true)
    (l_Row_least : K.lookup f_Row_least = some ⟨oc_Row_least, od_Row_least, .func (PySem.W.fnOf "least" "Row.least" (defArgs st_Row_least) (defBody st_Row_least) (defScope st_Row_least) .none kV_Row_least dc_Row_least pm_Row_least an_Row_least cd_Row_least ct_Row_least), sl_Row_least⟩)
    (c_Row_least : PySem.W.codeIn K cd_Row_least "Row.least" = true)
    (k_Row_least : PySem.W.keepIn K (.ref f_Row_least) = true)
    (pg_Row : PySem.W.plainGet K C_Row Str.empty = true)
    (hd_Row : PySem.W.hasDictIn K C_Row = true)
    (po_Row : PySem.W.plainOver K C_Row = true)
    (sa_Row : PySem.W.findIn K (.ref C_Row) "__setattr__" = some (some (.builtin "object.__setattr__")))
    (a_same_rows : PySem.W.nsIn K mainGlobals "same_rows" = some (some (.ref f_same_rows)))
    (l_same_rows : K.lookup f_same_rows = some ⟨oc_same_rows, od_same_rows, .func (PySem.W.fnOf "same_rows" "same_rows" (defArgs st_same_rows) (defBody st_same_rows) (defScope st_same_rows) .none kV_same_rows dc_same_rows pm_same_rows an_same_rows cd_same_rows ct_same_rows), sl_same_rows⟩)
    (c_same_rows : PySem.W.codeIn K cd_same_rows "same_rows" = true)
    (k_same_rows : PySem.W.keepIn K (.ref f_same_rows) = true)
    (a__law_least : PySem.W.nsIn K mainGlobals "_law_least" = some (some (.ref f__law_least)))
    (l__law_least : K.lookup f__law_least = some ⟨oc__law_least, od__law_least, .func (PySem.W.fnOf "_law_least" "_law_least" (defArgs st__law_least) (defBody st__law_least) (defScope st__law_least) .none kV__law_least dc__law_least pm__law_least an__law_least cd__law_least ct__law_least), sl__law_least⟩)
    (c__law_least : PySem.W.codeIn K cd__law_least "_law_least" = true)
    (k__law_least : PySem.W.keepIn K (.ref f__law_least) = true)
    (a_Rowdd_initdd : PySem.W.findIn K (.ref C_Row) "__init__" = some (some (.ref f_Rowdd_initdd)))
    (i_Rowdd_initdd : PySem.W.isFn K (.ref f_Rowdd_initdd) = true)
    (l_Rowdd_initdd : K.lookup f_Rowdd_initdd = some ⟨oc_Rowdd_initdd, od_Rowdd_initdd, .func (PySem.W.fnOf "__init__" "Row.__init__" (defArgs st_Rowdd_initdd) (defBody st_Rowdd_initdd) (defScope st_Rowdd_initdd) (.ref T_Rowdd_initdd) kV_Rowdd_initdd dc_Rowdd_initdd pm_Rowdd_initdd an_Rowdd_initdd cd_Rowdd_initdd ct_Rowdd_initdd), sl_Rowdd_initdd⟩)
    (c_Rowdd_initdd : PySem.W.codeIn K cd_Rowdd_initdd "Row.__init__" = true)
    (k_Rowdd_initdd : PySem.W.keepIn K (.ref f_Rowdd_initdd) = true)
    (lT_Rowdd_initdd : K.lookup T_Rowdd_initdd = some ⟨tc_Rowdd_initdd, to_Rowdd_initdd, .seq #[(.ref U2)] tn_Rowdd_initdd, ts_Rowdd_initdd⟩)
    (lU2 : K.lookup U2 = some ⟨.type "tuple", uo2, .seq #[(.int (0) tk1)] un2, us2⟩)
    (mk_Row : PySem.W.makesIn K C_Row = true)
    (kc_Row : PySem.W.keepIn K (.ref C_Row) = true)
    (a__law_refusals : PySem.W.nsIn K mainGlobals "_law_refusals" = some (some (.ref f__law_refusals)))
    (l__law_refusals : K.lookup f__law_refusals = some ⟨oc__law_refusals, od__law_refusals, .func (PySem.W.fnOf "_law_refusals" "_law_refusals" (defArgs st__law_refusals) (defBody st__law_refusals) (defScope st__law_refusals) .none kV__law_refusals dc__law_refusals pm__law_refusals an__law_refusals cd__law_refusals ct__law_refusals), sl__law_refusals⟩)
    (c__law_refusals : PySem.W.codeIn K cd__law_refusals "_law_refusals" = true)
    (k__law_refusals : PySem.W.keepIn K (.ref f__law_refusals) = true)
    (a__law_entries : PySem.W.nsIn K mainGlobals "_law_entries" = some (some (.ref f__law_entries)))
    (l__law_entries : K.lookup f__law_entries = some ⟨oc__law_entries, od__law_entries, .func (PySem.W.fnOf "_law_entries" "_law_entries" (defArgs st__law_entries) (defBody st__law_entries) (defScope st__law_entries) .none kV__law_entries dc__law_entries pm__law_entries an__law_entries cd__law_entries ct__law_entries), sl__law_entries⟩)
    (c__law_entries : PySem.W.codeIn K cd__law_entries "_law_entries" = true)
    (k__law_entries : PySem.W.keepIn K (.ref f__law_entries) = true)
    (a__law_same : PySem.W.nsIn K mainGlobals "_law_same" = some (some (.ref f__law_same)))
    (l__law_same : K.lookup f__law_same = some ⟨oc__law_same, od__law_same, .func (PySem.W.fnOf "_law_same" "_law_same" (defArgs st__law_same) (defBody st__law_same) (defScope st__law_same) .none kV__law_same dc__law_same pm__law_same an__law_same cd__law_same ct__law_same), sl__law_same⟩)
    (c__law_same : PySem.W.codeIn K cd__law_same "_law_same" = true)
    (k__law_same : PySem.W.keepIn K (.ref f__law_same) = true)
    (a_Rowdd_getitemdd : PySem.W.findIn K (.ref C_Row) "__getitem__" = some (some (.ref f_Rowdd_getitemdd)))
    (i_Rowdd_getitemdd : PySem.W.isFn K (.ref f_Rowdd_getitemdd) = true)
    (l_Rowdd_getitemdd : K.lookup f_Rowdd_getitemdd = some ⟨oc_Rowdd_getitemdd, od_Rowdd_getitemdd, .func (PySem.W.fnOf "__getitem__" "Row.__getitem__" (defArgs st_Rowdd_getitemdd) (defBody st_Rowdd_getitemdd) (defScope st_Rowdd_getitemdd) .none kV_Rowdd_getitemdd dc_Rowdd_getitemdd pm_Rowdd_getitemdd an_Rowdd_getitemdd cd_Rowdd_getitemdd ct_Rowdd_getitemdd), sl_Rowdd_getitemdd⟩)
    (c_Rowdd_getitemdd : PySem.W.codeIn K cd_Rowdd_getitemdd "Row.__getitem__" = true)
    (k_Rowdd_getitemdd : PySem.W.keepIn K (.ref f_Rowdd_getitemdd) = true)
    (fn_Rowdd_getitemdd : PySem.W.fnIn K f_Rowdd_getitemdd = true)
    (a__law_bent : PySem.W.nsIn K mainGlobals "_law_bent" = some (some (.ref f__law_bent)))
    (l__law_bent : K.lookup f__law_bent = some ⟨oc__law_bent, od__law_bent, .func (PySem.W.fnOf "_law_bent" "_law_bent" (defArgs st__law_bent) (defBody st__law_bent) (defScope st__law_bent) .none kV__law_bent dc__law_bent pm__law_bent an__law_bent cd__law_bent ct__law_bent), sl__law_bent⟩)
    (c__law_bent : PySem.W.codeIn K cd__law_bent "_law_bent" = true)
    (k__law_bent : PySem.W.keepIn K (.ref f__law_bent) = true)
    (a__law_other : PySem.W.nsIn K mainGlobals "_law_other" = some (some (.ref f__law_other)))
    (l__law_other : K.lookup f__law_other = some ⟨oc__law_other, od__law_other, .func (PySem.W.fnOf "_law_other" "_law_other" (defArgs st__law_other) (defBody st__law_other) (defScope st__law_other) .none kV__law_other dc__law_other pm__law_other an__law_other cd__law_other ct__law_other), sl__law_other⟩)
    (c__law_other : PySem.W.codeIn K cd__law_other "_law_other" = true)
    (k__law_other : PySem.W.keepIn K (.ref f__law_other) = true)
    (a__law_row : PySem.W.nsIn K mainGlobals "_law_row" = some (some (.ref f__law_row)))
    (l__law_row : K.lookup f__law_row = some ⟨oc__law_row, od__law_row, .func (PySem.W.fnOf "_law_row" "_law_row" (defArgs st__law_row) (defBody st__law_row) (defScope st__law_row) .none kV__law_row dc__law_row pm__law_row an__law_row cd__law_row ct__law_row), sl__law_row⟩)
    (c__law_row : PySem.W.codeIn K cd__law_row "_law_row" = true)
    (k__law_row : PySem.W.keepIn K (.ref f__law_row) = true)
    (a__law_start : PySem.W.nsIn K mainGlobals "_law_start" = some (some (.ref f__law_start)))
    (l__law_start : K.lookup f__law_start = some ⟨oc__law_start, od__law_start, .func (PySem.W.fnOf "_law_start" "_law_start" (defArgs st__law_start) (defBody st__law_start) (defScope st__law_start) .none kV__law_start dc__law_start pm__law_start an__law_start cd__law_start ct__law_start), sl__law_start⟩)
    (c__law_start : PySem.W.codeIn K cd__law_start "_law_start" = true)
    (k__law_start : PySem.W.keepIn K (.ref f__law_start) = true)
    (a_turned : PySem.W.nsIn K mainGlobals "turned" = some (some (.ref f_turned)))
    (l_turned : K.lookup f_turned = some ⟨oc_turned, od_turned, .func (PySem.W.fnOf "turned" "turned" (defArgs st_turned) (defBody st_turned) (defScope st_turned) .none kV_turned dc_turned pm_turned an_turned cd_turned ct_turned), sl_turned⟩)
    (c_turned : PySem.W.codeIn K cd_turned "turned" = true)
    (k_turned : PySem.W.keepIn K (.ref f_turned) = true)
    (a_loose_entries : PySem.W.nsIn K mainGlobals "loose_entries" = some (some (.ref f_loose_entries)))
    (l_loose_entries : K.lookup f_loose_entries = some ⟨oc_loose_entries, od_loose_entries, .func (PySem.W.fnOf "loose_entries" "loose_entries" (defArgs st_loose_entries) (defBody st_loose_entries) (defScope st_loose_entries) .none kV_loose_entries dc_loose_entries pm_loose_entries an_loose_entries cd_loose_entries ct_loose_entries), sl_loose_entries⟩)
    (c_loose_entries : PySem.W.codeIn K cd_loose_entries "loose_entries" = true)
    (k_loose_entries : PySem.W.keepIn K (.ref f_loose_entries) = true)
    (a_shortest_cycle : PySem.W.nsIn K mainGlobals "shortest_cycle" = some (some (.ref f_shortest_cycle)))
    (l_shortest_cycle : K.lookup f_shortest_cycle = some ⟨oc_shortest_cycle, od_shortest_cycle, .func (PySem.W.fnOf "shortest_cycle" "shortest_cycle" (defArgs st_shortest_cycle) (defBody st_shortest_cycle) (defScope st_shortest_cycle) .none kV_shortest_cycle dc_shortest_cycle pm_shortest_cycle an_shortest_cycle cd_shortest_cycle ct_shortest_cycle), sl_shortest_cycle⟩)
    (c_shortest_cycle : PySem.W.codeIn K cd_shortest_cycle "shortest_cycle" = true)
    (k_shortest_cycle : PySem.W.keepIn K (.ref f_shortest_cycle) = true)
    (a__law_asked : PySem.W.nsIn K mainGlobals "_law_asked" = some (some (.ref f__law_asked)))
    (l__law_asked : K.lookup f__law_asked = some ⟨oc__law_asked, od__law_asked, .func (PySem.W.fnOf "_law_asked" "_law_asked" (defArgs st__law_asked) (defBody st__law_asked) (defScope st__law_asked) .none kV__law_asked dc__law_asked pm__law_asked an__law_asked cd__law_asked ct__law_asked), sl__law_asked⟩)
    (c__law_asked : PySem.W.codeIn K cd__law_asked "_law_asked" = true)
    (k__law_asked : PySem.W.keepIn K (.ref f__law_asked) = true)
    (a__law_at : PySem.W.nsIn K mainGlobals "_law_at" = some (some (.ref f__law_at)))
    (l__law_at : K.lookup f__law_at = some ⟨oc__law_at, od__law_at, .func (PySem.W.fnOf "_law_at" "_law_at" (defArgs st__law_at) (defBody st__law_at) (defScope st__law_at) .none kV__law_at dc__law_at pm__law_at an__law_at cd__law_at ct__law_at), sl__law_at⟩)
    (c__law_at : PySem.W.codeIn K cd__law_at "_law_at" = true)
    (k__law_at : PySem.W.keepIn K (.ref f__law_at) = true)
    (a__law_pick : PySem.W.nsIn K mainGlobals "_law_pick" = some (some (.ref f__law_pick)))
    (l__law_pick : K.lookup f__law_pick = some ⟨oc__law_pick, od__law_pick, .func (PySem.W.fnOf "_law_pick" "_law_pick" (defArgs st__law_pick) (defBody st__law_pick) (defScope st__law_pick) .none kV__law_pick dc__law_pick pm__law_pick an__law_pick cd__law_pick ct__law_pick), sl__law_pick⟩)
    (c__law_pick : PySem.W.codeIn K cd__law_pick "_law_pick" = true)
    (k__law_pick : PySem.W.keepIn K (.ref f__law_pick) = true)
    (a_Row_start : PySem.W.findIn K (.ref C_Row) "start" = some (some (.ref f_Row_start)))
    (i_Row_start : PySem.W.isFn K (.ref f_Row_start) = true)
    (l_Row_start : K.lookup f_Row_start = some ⟨oc_Row_start, od_Row_start, .func (PySem.W.fnOf "start" "Row.start" (defArgs st_Row_start) (defBody st_Row_start) (defScope st_Row_start) .none kV_Row_start dc_Row_start pm_Row_start an_Row_start cd_Row_start ct_Row_start), sl_Row_start⟩)
    (c_Row_start : PySem.W.codeIn K cd_Row_start "Row.start" = true)
    (k_Row_start : PySem.W.keepIn K (.ref f_Row_start) = true)
    (a__law_behind : PySem.W.nsIn K mainGlobals "_law_behind" = some (some (.ref f__law_behind)))
    (l__law_behind : K.lookup f__law_behind = some ⟨oc__law_behind, od__law_behind, .func (PySem.W.fnOf "_law_behind" "_law_behind" (defArgs st__law_behind) (defBody st__law_behind) (defScope st__law_behind) .none kV__law_behind dc__law_behind pm__law_behind an__law_behind cd__law_behind ct__law_behind), sl__law_behind⟩)
    (c__law_behind : PySem.W.codeIn K cd__law_behind "_law_behind" = true)
    (k__law_behind : PySem.W.keepIn K (.ref f__law_behind) = true)
    (a_Row_after : PySem.W.findIn K (.ref C_Row) "after" = some (some (.ref f_Row_after)))
    (i_Row_after : PySem.W.isFn K (.ref f_Row_after) = true)
    (l_Row_after : K.lookup f_Row_after = some ⟨oc_Row_after, od_Row_after, .func (PySem.W.fnOf "after" "Row.after" (defArgs st_Row_after) (defBody st_Row_after) (defScope st_Row_after) .none kV_Row_after dc_Row_after pm_Row_after an_Row_after cd_Row_after ct_Row_after), sl_Row_after⟩)
    (c_Row_after : PySem.W.codeIn K cd_Row_after "Row.after" = true)
    (k_Row_after : PySem.W.keepIn K (.ref f_Row_after) = true)
    (zz_all : PySem.W.nsIn K mainGlobals "all" = some none)
    (zz_bool : PySem.W.nsIn K mainGlobals "bool" = some none)
    (zz_int : PySem.W.nsIn K mainGlobals "int" = some none)
    (zz_isinstance : PySem.W.nsIn K mainGlobals "isinstance" = some none)
    (zz_len : PySem.W.nsIn K mainGlobals "len" = some none)
    (zz_list : PySem.W.nsIn K mainGlobals "list" = some none)
    (zz_max : PySem.W.nsIn K mainGlobals "max" = some none)
    (zz_min : PySem.W.nsIn K mainGlobals "min" = some none)
    (zz_range : PySem.W.nsIn K mainGlobals "range" = some none)
    (zz_str : PySem.W.nsIn K mainGlobals "str" = some none)
    (zz_tuple : PySem.W.nsIn K mainGlobals "tuple" = some none)
    (xa_Row : PySem.W.findIn K (.ref C_Row) "__class__" = some (some (.builtin "object.__class__")))
    (xn : PySem.W.specialIn K (.builtin "object.__class__") "__get__" = some (some (.builtin "getset_descriptor.__get__")))
    (xt : PySem.W.takesIn K (.builtin "object.__class__") = some true)
    (xm_Row : PySem.W.mroIn K C_Row (.type "object") = some true)
    (ci_Row : PySem.W.isClsIn K C_Row = true)
    (ti_Row : PySem.W.typeIn K (.ref C_Row) = some (.type "type"))
    (ss_Row : PySem.W.subIn K (.ref C_Row) (.ref C_Row) = some true)
    (nf_Row_head : PySem.W.findIn K (.ref C_Row) "head" = some none)
    (nf_Row_cycle : PySem.W.findIn K (.ref C_Row) "cycle" = some none)
    (xx_OutOfRange : PySem.W.excIn K C_OutOfRange [.type "ValueError", .type "Exception", .type "BaseException", .type "object"] "ValueError.__new__" = true)
    (kc_OutOfRange : PySem.W.keepIn K (.ref C_OutOfRange) = true)
    (xb_OutOfRange : PySem.W.subIn K (.ref C_OutOfRange) (.type "BaseException") = some true)
    (ti_OutOfRange : PySem.W.typeIn K (.ref C_OutOfRange) = some (.type "type"))
    (xg_OutOfRange : PySem.W.findIn K (.ref C_OutOfRange) "__getattribute__" = some (some (.builtin "BaseException.__getattribute__")))
    (xk_OutOfRange : PySem.W.findIn K (.ref C_OutOfRange) "__getattr__" = some none)
    (xd_OutOfRange : PySem.W.hasDictIn K C_OutOfRange = true)
    (xa_OutOfRange : PySem.W.findIn K (.ref C_OutOfRange) "__class__" = some (some (.builtin "object.__class__")))
    (xm_OutOfRange : PySem.W.mroIn K C_OutOfRange (.type "object") = some true)
    (ci_OutOfRange : PySem.W.isClsIn K C_OutOfRange = true)
    (ss_OutOfRange : PySem.W.subIn K (.ref C_OutOfRange) (.ref C_OutOfRange) = some true)
    (zz_ValueError : PySem.W.nsIn K mainGlobals "ValueError" = some none)
    (sb_OutOfRange_ValueError : PySem.W.subIn K (.ref C_OutOfRange) (.type "ValueError") = some true)
    (ci_SizeMismatch : PySem.W.isClsIn K C_SizeMismatch = true)
    (ti_SizeMismatch : PySem.W.typeIn K (.ref C_SizeMismatch) = some (.type "type"))
    (sb_OutOfRange_SizeMismatch : PySem.W.subIn K (.ref C_OutOfRange) (.ref C_SizeMismatch) = some false)
    (ci_TooLarge : PySem.W.isClsIn K C_TooLarge = true)
    (ti_TooLarge : PySem.W.typeIn K (.ref C_TooLarge) = some (.type "type"))
    (sb_OutOfRange_TooLarge : PySem.W.subIn K (.ref C_OutOfRange) (.ref C_TooLarge) = some false)
    (ci_InvalidTerm : PySem.W.isClsIn K C_InvalidTerm = true)
    (ti_InvalidTerm : PySem.W.typeIn K (.ref C_InvalidTerm) = some (.type "type"))
    (sb_OutOfRange_InvalidTerm : PySem.W.subIn K (.ref C_OutOfRange) (.ref C_InvalidTerm) = some false)
    (ci_ProofsError : PySem.W.isClsIn K C_ProofsError = true)
    (ti_ProofsError : PySem.W.typeIn K (.ref C_ProofsError) = some (.type "type"))
    (xb_ProofsError : PySem.W.subIn K (.ref C_ProofsError) (.type "BaseException") = some true)
    (sb_OutOfRange_ProofsError : PySem.W.subIn K (.ref C_OutOfRange) (.ref C_ProofsError) = some true)
    : Facts K mg where
  c_law := ⟨_, _, (fun_mk (st := st_law) l_law c_law k_law), PySem.W.mg_of X G a_law, (Fun.binds (fun_mk (st := st_law) l_law c_law k_law) (ps := ["script"]) fun _ _ _ _ _ _ us hl => match us, hl with | [_], _ => rfl)⟩
  c__law_is_row := ⟨_, _, (fun_mk (st := st__law_is_row) l__law_is_row c__law_is_row k__law_is_row), PySem.W.mg_of X G a__law_is_row, (Fun.binds (fun_mk (st := st__law_is_row) l__law_is_row c__law_is_row k__law_is_row) (ps := ["actual", "due"]) fun _ _ _ _ _ _ us hl => match us, hl with | [_, _], _ => rfl)⟩
  c_Row_least := ⟨_, _, _, (fun_mk (st := st_Row_least) l_Row_least c_Row_least k_Row_least), (clsAt_of (PySem.W.mg_of X G aC_Row)), (⟨pg_Row, hd_Row, po_Row, sa_Row⟩ : Cls K C_Row), ⟨a_Row_least, i_Row_least, k_Row_least⟩, (Fun.binds (fun_mk (st := st_Row_least) l_Row_least c_Row_least k_Row_least) (ps := ["self"]) fun _ _ _ _ _ _ us hl => match us, hl with | [_], _ => rfl)⟩
  c_same_rows := ⟨_, _, (fun_mk (st := st_same_rows) l_same_rows c_same_rows k_same_rows), PySem.W.mg_of X G a_same_rows, (Fun.binds (fun_mk (st := st_same_rows) l_same_rows c_same_rows k_same_rows) (ps := ["first", "second"]) fun _ _ _ _ _ _ us hl => match us, hl with | [_, _], _ => rfl)⟩
  c__law_least := ⟨_, _, (fun_mk (st := st__law_least) l__law_least c__law_least k__law_least), PySem.W.mg_of X G a__law_least, (Fun.binds (fun_mk (st := st__law_least) l__law_least c__law_least k__law_least) (ps := ["head", "cycle"]) fun _ _ _ _ _ _ us hl => match us, hl with | [_, _], _ => rfl)⟩
  c_Rowdd_initdd_1 := by
    obtain ⟨ds, hv, hb⟩ := FunD.binds1 (ps := ["self", "head", "cycle"]) (⟨⟨_, _, _, _, _, _, _, _, _, _, rfl, l_Rowdd_initdd, c_Rowdd_initdd, .inr ⟨by simp, T_Rowdd_initdd, _, [(.ref U2)], _, rfl, lT_Rowdd_initdd, rfl, (.cons rfl Paired.nil)⟩, .inl rfl⟩, k_Rowdd_initdd⟩ : FunD K "__init__" "Row.__init__" (defArgs st_Rowdd_initdd) (defBody st_Rowdd_initdd) (defScope st_Rowdd_initdd) [(.ref U2)] [] f_Rowdd_initdd _) 2 0 (by simp) rfl fun T kV doc pm an cdv ct us its h1 h2 => (match us, its, h1, h2 with | [_, _], [_], _, _ => ⟨_, rfl, rfl⟩)
    exact ⟨_, _, _, _, _, _, ds, (⟨⟨_, _, _, _, _, _, _, _, _, _, rfl, l_Rowdd_initdd, c_Rowdd_initdd, .inr ⟨by simp, T_Rowdd_initdd, _, [(.ref U2)], _, rfl, lT_Rowdd_initdd, rfl, (.cons rfl Paired.nil)⟩, .inl rfl⟩, k_Rowdd_initdd⟩ : FunD K "__init__" "Row.__init__" (defArgs st_Rowdd_initdd) (defBody st_Rowdd_initdd) (defScope st_Rowdd_initdd) [(.ref U2)] [] f_Rowdd_initdd _), PySem.W.mg_of X G aC_Row, ⟨mk_Row, a_Rowdd_initdd, i_Rowdd_initdd, kc_Row⟩, hb, hv, fun m N H => ⟨_, _, rfl, ⟨_, [(.int (0))], rfl, .inr ⟨_, _, _, lU2, rfl, rfl, (by show 1 ≤ sizeLine; decide), (.cons ⟨_, rfl⟩ Paired.nil)⟩, (by show 1 ≤ sizeLine; decide), ⟨_, _, rfl, rfl, rfl⟩⟩, rfl⟩⟩
  c__law_refusals := ⟨_, _, (fun_mk (st := st__law_refusals) l__law_refusals c__law_refusals k__law_refusals), PySem.W.mg_of X G a__law_refusals, (Fun.binds (fun_mk (st := st__law_refusals) l__law_refusals c__law_refusals k__law_refusals) (ps := ["state", "row", "head", "cycle"]) fun _ _ _ _ _ _ us hl => match us, hl with | [_, _, _, _], _ => rfl)⟩
  c__law_entries := ⟨_, _, (fun_mk (st := st__law_entries) l__law_entries c__law_entries k__law_entries), PySem.W.mg_of X G a__law_entries, (Fun.binds (fun_mk (st := st__law_entries) l__law_entries c__law_entries k__law_entries) (ps := ["state", "row", "head", "cycle"]) fun _ _ _ _ _ _ us hl => match us, hl with | [_, _, _, _], _ => rfl)⟩
  c__law_same := ⟨_, _, (fun_mk (st := st__law_same) l__law_same c__law_same k__law_same), PySem.W.mg_of X G a__law_same, (Fun.binds (fun_mk (st := st__law_same) l__law_same c__law_same k__law_same) (ps := ["actual", "due"]) fun _ _ _ _ _ _ us hl => match us, hl with | [_, _], _ => rfl)⟩
  c_Rowdd_getitemdd := ⟨_, _, _, (fun_mk (st := st_Rowdd_getitemdd) l_Rowdd_getitemdd c_Rowdd_getitemdd k_Rowdd_getitemdd), (clsAt_of (PySem.W.mg_of X G aC_Row)), ⟨a_Rowdd_getitemdd, fn_Rowdd_getitemdd, i_Rowdd_getitemdd⟩, (Fun.binds (fun_mk (st := st_Rowdd_getitemdd) l_Rowdd_getitemdd c_Rowdd_getitemdd k_Rowdd_getitemdd) (ps := ["self", "place"]) fun _ _ _ _ _ _ us hl => match us, hl with | [_, _], _ => rfl)⟩
  c_Rowdd_initdd := by
    obtain ⟨ds, hv, hb⟩ := FunD.binds1 (ps := ["self", "head", "cycle"]) (⟨⟨_, _, _, _, _, _, _, _, _, _, rfl, l_Rowdd_initdd, c_Rowdd_initdd, .inr ⟨by simp, T_Rowdd_initdd, _, [(.ref U2)], _, rfl, lT_Rowdd_initdd, rfl, (.cons rfl Paired.nil)⟩, .inl rfl⟩, k_Rowdd_initdd⟩ : FunD K "__init__" "Row.__init__" (defArgs st_Rowdd_initdd) (defBody st_Rowdd_initdd) (defScope st_Rowdd_initdd) [(.ref U2)] [] f_Rowdd_initdd _) 3 1 (by simp) rfl fun T kV doc pm an cdv ct us its h1 h2 => (match us, its, h1, h2 with | [_, _, _], [_], _, _ => ⟨_, rfl, rfl⟩)
    exact ⟨_, _, _, _, _, _, ds, (⟨⟨_, _, _, _, _, _, _, _, _, _, rfl, l_Rowdd_initdd, c_Rowdd_initdd, .inr ⟨by simp, T_Rowdd_initdd, _, [(.ref U2)], _, rfl, lT_Rowdd_initdd, rfl, (.cons rfl Paired.nil)⟩, .inl rfl⟩, k_Rowdd_initdd⟩ : FunD K "__init__" "Row.__init__" (defArgs st_Rowdd_initdd) (defBody st_Rowdd_initdd) (defScope st_Rowdd_initdd) [(.ref U2)] [] f_Rowdd_initdd _), PySem.W.mg_of X G aC_Row, ⟨mk_Row, a_Rowdd_initdd, i_Rowdd_initdd, kc_Row⟩, hb, hv, fun m N H => rfl⟩
  c__law_bent := ⟨_, _, (fun_mk (st := st__law_bent) l__law_bent c__law_bent k__law_bent), PySem.W.mg_of X G a__law_bent, (Fun.binds (fun_mk (st := st__law_bent) l__law_bent c__law_bent k__law_bent) (ps := ["state", "head", "cycle", "top"]) fun _ _ _ _ _ _ us hl => match us, hl with | [_, _, _, _], _ => rfl)⟩
  c__law_other := ⟨_, _, (fun_mk (st := st__law_other) l__law_other c__law_other k__law_other), PySem.W.mg_of X G a__law_other, (Fun.binds (fun_mk (st := st__law_other) l__law_other c__law_other k__law_other) (ps := ["state", "head", "cycle"]) fun _ _ _ _ _ _ us hl => match us, hl with | [_, _, _], _ => rfl)⟩
  c__law_row := ⟨_, _, (fun_mk (st := st__law_row) l__law_row c__law_row k__law_row), PySem.W.mg_of X G a__law_row, (Fun.binds (fun_mk (st := st__law_row) l__law_row c__law_row k__law_row) (ps := ["state"]) fun _ _ _ _ _ _ us hl => match us, hl with | [_], _ => rfl)⟩
  c__law_start := ⟨_, _, (fun_mk (st := st__law_start) l__law_start c__law_start k__law_start), PySem.W.mg_of X G a__law_start, (Fun.binds (fun_mk (st := st__law_start) l__law_start c__law_start k__law_start) (ps := ["script"]) fun _ _ _ _ _ _ us hl => match us, hl with | [_], _ => rfl)⟩
  c_turned := ⟨_, _, (fun_mk (st := st_turned) l_turned c_turned k_turned), PySem.W.mg_of X G a_turned, (Fun.binds (fun_mk (st := st_turned) l_turned c_turned k_turned) (ps := ["cycle", "count"]) fun _ _ _ _ _ _ us hl => match us, hl with | [_, _], _ => rfl)⟩
  c_loose_entries := ⟨_, _, (fun_mk (st := st_loose_entries) l_loose_entries c_loose_entries k_loose_entries), PySem.W.mg_of X G a_loose_entries, (Fun.binds (fun_mk (st := st_loose_entries) l_loose_entries c_loose_entries k_loose_entries) (ps := ["head", "cycle"]) fun _ _ _ _ _ _ us hl => match us, hl with | [_, _], _ => rfl)⟩
  c_shortest_cycle := ⟨_, _, (fun_mk (st := st_shortest_cycle) l_shortest_cycle c_shortest_cycle k_shortest_cycle), PySem.W.mg_of X G a_shortest_cycle, (Fun.binds (fun_mk (st := st_shortest_cycle) l_shortest_cycle c_shortest_cycle k_shortest_cycle) (ps := ["cycle"]) fun _ _ _ _ _ _ us hl => match us, hl with | [_], _ => rfl)⟩
  c__law_asked := ⟨_, _, (fun_mk (st := st__law_asked) l__law_asked c__law_asked k__law_asked), PySem.W.mg_of X G a__law_asked, (Fun.binds (fun_mk (st := st__law_asked) l__law_asked c__law_asked k__law_asked) (ps := ["way", "row", "number", "head", "cycle"]) fun _ _ _ _ _ _ us hl => match us, hl with | [_, _, _, _, _], _ => rfl)⟩
  c__law_at := ⟨_, _, (fun_mk (st := st__law_at) l__law_at c__law_at k__law_at), PySem.W.mg_of X G a__law_at, (Fun.binds (fun_mk (st := st__law_at) l__law_at c__law_at k__law_at) (ps := ["head", "cycle", "place"]) fun _ _ _ _ _ _ us hl => match us, hl with | [_, _, _], _ => rfl)⟩
  c__law_pick := ⟨_, _, (fun_mk (st := st__law_pick) l__law_pick c__law_pick k__law_pick), PySem.W.mg_of X G a__law_pick, (Fun.binds (fun_mk (st := st__law_pick) l__law_pick c__law_pick k__law_pick) (ps := ["state", "limit"]) fun _ _ _ _ _ _ us hl => match us, hl with | [_, _], _ => rfl)⟩
  c_Row_start := ⟨_, _, _, (fun_mk (st := st_Row_start) l_Row_start c_Row_start k_Row_start), (clsAt_of (PySem.W.mg_of X G aC_Row)), (⟨pg_Row, hd_Row, po_Row, sa_Row⟩ : Cls K C_Row), ⟨a_Row_start, i_Row_start, k_Row_start⟩, (Fun.binds (fun_mk (st := st_Row_start) l_Row_start c_Row_start k_Row_start) (ps := ["self", "length"]) fun _ _ _ _ _ _ us hl => match us, hl with | [_, _], _ => rfl)⟩
  c__law_behind := ⟨_, _, (fun_mk (st := st__law_behind) l__law_behind c__law_behind k__law_behind), PySem.W.mg_of X G a__law_behind, (Fun.binds (fun_mk (st := st__law_behind) l__law_behind c__law_behind k__law_behind) (ps := ["head", "cycle", "count"]) fun _ _ _ _ _ _ us hl => match us, hl with | [_, _, _], _ => rfl)⟩
  c_Row_after := ⟨_, _, _, (fun_mk (st := st_Row_after) l_Row_after c_Row_after k_Row_after), (clsAt_of (PySem.W.mg_of X G aC_Row)), (⟨pg_Row, hd_Row, po_Row, sa_Row⟩ : Cls K C_Row), ⟨a_Row_after, i_Row_after, k_Row_after⟩, (Fun.binds (fun_mk (st := st_Row_after) l_Row_after c_Row_after k_Row_after) (ps := ["self", "count"]) fun _ _ _ _ _ _ us hl => match us, hl with | [_, _], _ => rfl)⟩
  z_all := PySem.W.mg_none_of X G zz_all
  z_bool := PySem.W.mg_none_of X G zz_bool
  z_int := PySem.W.mg_none_of X G zz_int
  z_isinstance := PySem.W.mg_none_of X G zz_isinstance
  z_len := PySem.W.mg_none_of X G zz_len
  z_list := PySem.W.mg_none_of X G zz_list
  z_max := PySem.W.mg_none_of X G zz_max
  z_min := PySem.W.mg_none_of X G zz_min
  z_range := PySem.W.mg_none_of X G zz_range
  z_str := PySem.W.mg_none_of X G zz_str
  z_tuple := PySem.W.mg_none_of X G zz_tuple
  ic_Row := ⟨C_Row, PySem.W.mg_of X G aC_Row, fun c b h => lookup_of (Pr := fun c b => ∃ C, clsAt mg c = some C ∧ InsF K C ∧ PySem.W.kitOne K (.ref C) (.ref C_Row) = some b) (List.forall_mem_cons.mpr ⟨⟨C_Row, (clsAt_of (PySem.W.mg_of X G aC_Row)), ⟨(⟨pg_Row, hd_Row, po_Row, sa_Row⟩ : Cls K C_Row), xa_Row, xn, xt, xm_Row⟩, (kit_own ci_Row ti_Row ss_Row ss_Row)⟩, (by intro _ h; cases h)⟩) h⟩
  fl_head := (List.forall_mem_cons.mpr ⟨⟨C_Row, (clsAt_of (PySem.W.mg_of X G aC_Row)), (⟨pg_Row, hd_Row, po_Row, sa_Row⟩ : Cls K C_Row), nf_Row_head⟩, (by intro _ h; cases h)⟩)
  fl_cycle := (List.forall_mem_cons.mpr ⟨⟨C_Row, (clsAt_of (PySem.W.mg_of X G aC_Row)), (⟨pg_Row, hd_Row, po_Row, sa_Row⟩ : Cls K C_Row), nf_Row_cycle⟩, (by intro _ h; cases h)⟩)
  er_OutOfRange := ⟨C_OutOfRange, xx_OutOfRange, PySem.W.mg_of X G aC_OutOfRange, kc_OutOfRange, xb_OutOfRange, ti_OutOfRange⟩
  is_OutOfRange := ⟨.ref C_OutOfRange, .ref C_OutOfRange, .inl (PySem.W.mg_of X G aC_OutOfRange), rfl, fun w h => h, fun c b h => lookup_of (Pr := fun c b => ∀ C, clsAt mg c = some C → ExcC K C ∧ PySem.W.kitOne K (.ref C) (.ref C_OutOfRange) = some b) (List.forall_mem_cons.mpr ⟨(fun C hC => by rw [clsAt_inj hC (clsAt_of (PySem.W.mg_of X G aC_OutOfRange))]; exact ⟨⟨xg_OutOfRange, xk_OutOfRange, xb_OutOfRange, xd_OutOfRange, xa_OutOfRange, xn, xt, xm_OutOfRange⟩, (kit_own ci_OutOfRange ti_OutOfRange ss_OutOfRange ss_OutOfRange)⟩), (by intro _ h; cases h)⟩) h⟩
  is_ValueError := ⟨.ty "ValueError", .type "ValueError", .inr ⟨PySem.W.mg_none_of X G zz_ValueError, by decide +kernel, by decide⟩, rfl, fun w h => h, fun c b h => lookup_of (Pr := fun c b => ∀ C, clsAt mg c = some C → ExcC K C ∧ PySem.W.kitOne K (.ref C) (.type "ValueError") = some b) (List.forall_mem_cons.mpr ⟨(fun C hC => by rw [clsAt_inj hC (clsAt_of (PySem.W.mg_of X G aC_OutOfRange))]; exact ⟨⟨xg_OutOfRange, xk_OutOfRange, xb_OutOfRange, xd_OutOfRange, xa_OutOfRange, xn, xt, xm_OutOfRange⟩, (kit_typ (by decide +kernel) sb_OutOfRange_ValueError)⟩), (by intro _ h; cases h)⟩) h⟩
  is_SizeMismatch := ⟨.ref C_SizeMismatch, .ref C_SizeMismatch, .inl (PySem.W.mg_of X G aC_SizeMismatch), rfl, fun w h => h, fun c b h => lookup_of (Pr := fun c b => ∀ C, clsAt mg c = some C → ExcC K C ∧ PySem.W.kitOne K (.ref C) (.ref C_SizeMismatch) = some b) (List.forall_mem_cons.mpr ⟨(fun C hC => by rw [clsAt_inj hC (clsAt_of (PySem.W.mg_of X G aC_OutOfRange))]; exact ⟨⟨xg_OutOfRange, xk_OutOfRange, xb_OutOfRange, xd_OutOfRange, xa_OutOfRange, xn, xt, xm_OutOfRange⟩, (kit_own ci_SizeMismatch ti_SizeMismatch ss_OutOfRange sb_OutOfRange_SizeMismatch)⟩), (by intro _ h; cases h)⟩) h⟩
  is_TooLarge := ⟨.ref C_TooLarge, .ref C_TooLarge, .inl (PySem.W.mg_of X G aC_TooLarge), rfl, fun w h => h, fun c b h => lookup_of (Pr := fun c b => ∀ C, clsAt mg c = some C → ExcC K C ∧ PySem.W.kitOne K (.ref C) (.ref C_TooLarge) = some b) (List.forall_mem_cons.mpr ⟨(fun C hC => by rw [clsAt_inj hC (clsAt_of (PySem.W.mg_of X G aC_OutOfRange))]; exact ⟨⟨xg_OutOfRange, xk_OutOfRange, xb_OutOfRange, xd_OutOfRange, xa_OutOfRange, xn, xt, xm_OutOfRange⟩, (kit_own ci_TooLarge ti_TooLarge ss_OutOfRange sb_OutOfRange_TooLarge)⟩), (by intro _ h; cases h)⟩) h⟩
  is_InvalidTerm := ⟨.ref C_InvalidTerm, .ref C_InvalidTerm, .inl (PySem.W.mg_of X G aC_InvalidTerm), rfl, fun w h => h, fun c b h => lookup_of (Pr := fun c b => ∀ C, clsAt mg c = some C → ExcC K C ∧ PySem.W.kitOne K (.ref C) (.ref C_InvalidTerm) = some b) (List.forall_mem_cons.mpr ⟨(fun C hC => by rw [clsAt_inj hC (clsAt_of (PySem.W.mg_of X G aC_OutOfRange))]; exact ⟨⟨xg_OutOfRange, xk_OutOfRange, xb_OutOfRange, xd_OutOfRange, xa_OutOfRange, xn, xt, xm_OutOfRange⟩, (kit_own ci_InvalidTerm ti_InvalidTerm ss_OutOfRange sb_OutOfRange_InvalidTerm)⟩), (by intro _ h; cases h)⟩) h⟩
  ht_ProofsError := ⟨.ref C_ProofsError, .inl (PySem.W.mg_of X G aC_ProofsError), fun c b h => lookup_of (Pr := fun c b => ∀ C, clsAt mg c = some C → PySem.W.exmOne K (.ref C) (.ref C_ProofsError) = some b) (List.forall_mem_cons.mpr ⟨(fun C hC => by rw [clsAt_inj hC (clsAt_of (PySem.W.mg_of X G aC_OutOfRange))]; exact (exm_own xb_ProofsError ci_ProofsError ti_ProofsError sb_OutOfRange_ProofsError)), (by intro _ h; cases h)⟩) h⟩
theorem law_mk {P : Program} {w : World} {K : PySem.W.Frag} {mg : Str → Option Value} {fa : Addr} (F : Facts K mg) (hfa : mg "law" = some (.ref fa)) :
    ∃ fd : FuncData, (∀ (s : Shared) (v : Value), BindsTo s fd ⟨[v], []⟩ [("script", v)]) ∧ ∀ base : Heap, K.In base → base.Ns mainGlobals mg → FnOk P w K mg base (L2.CX P w) (LV + 2) fa fd ["script"] (spLaw K) :=
  law_fn F.c_law hfa sc_law rfl (fun _ _ _ _ _ _ _ => rfl) (fun base => ok_law F (cals_all F (LV + 1)) (cals_all F LV)) law_true
end K55
open PySem PySem.W PyProof.Rows
set_option maxRecDepth 100000 in
set_option maxHeartbeats 0 in
theorem PySem.Challenge.cw_pathschosen_k55_endless_rows_in_least_fo_holds : PySem.Challenge.rw_pathschosen_k55_endless_rows_in_least_fo.Holds := by
  w_on; o_law; k_head; (case hw => w_witness2)
  k_fill
  refine G.law_walk (l := PySem.Challenge.rw_pathschosen_k55_endless_rows_in_least_fo) (k := K55.LV + 2) rfl rfl ⟨rfl, by decide, by decide⟩ (fun w h Y => PySem.W.kIn_of Y) ?F
  case F =>
    intro w mg fa h KX G hmg
    refine K55.law_mk ?FF hmg
    refine' K55.facts_mk KX G ?aC_Row ?aC_OutOfRange ?aC_SizeMismatch ?aC_TooLarge ?aC_InvalidTerm ?aC_ProofsError ?a_law ?l_law ?c_law ?k_law ?a__law_is_row ?l__law_is_row ?c__law_is_row ?k__law_is_row ?a_Row_least ?i_Row_least ?l_Row_least ?c_Row_least ?k_Row_least ?pg_Row ?hd_Row ?po_Row ?sa_Row ?a_same_rows ?l_same_rows ?c_same_rows ?k_same_rows ?a__law_least ?l__law_least ?c__law_least ?k__law_least ?a_Rowdd_initdd ?i_Rowdd_initdd ?l_Rowdd_initdd ?c_Rowdd_initdd ?k_Rowdd_initdd ?lT_Rowdd_initdd ?lU2 ?mk_Row ?kc_Row ?a__law_refusals ?l__law_refusals ?c__law_refusals ?k__law_refusals ?a__law_entries ?l__law_entries ?c__law_entries ?k__law_entries ?a__law_same ?l__law_same ?c__law_same ?k__law_same ?a_Rowdd_getitemdd ?i_Rowdd_getitemdd ?l_Rowdd_getitemdd ?c_Rowdd_getitemdd ?k_Rowdd_getitemdd ?fn_Rowdd_getitemdd ?a__law_bent ?l__law_bent ?c__law_bent ?k__law_bent ?a__law_other ?l__law_other ?c__law_other ?k__law_other ?a__law_row ?l__law_row ?c__law_row ?k__law_row ?a__law_start ?l__law_start ?c__law_start ?k__law_start ?a_turned ?l_turned ?c_turned ?k_turned ?a_loose_entries ?l_loose_entries ?c_loose_entries ?k_loose_entries ?a_shortest_cycle ?l_shortest_cycle ?c_shortest_cycle ?k_shortest_cycle ?a__law_asked ?l__law_asked ?c__law_asked ?k__law_asked ?a__law_at ?l__law_at ?c__law_at ?k__law_at ?a__law_pick ?l__law_pick ?c__law_pick ?k__law_pick ?a_Row_start ?i_Row_start ?l_Row_start ?c_Row_start ?k_Row_start ?a__law_behind ?l__law_behind ?c__law_behind ?k__law_behind ?a_Row_after ?i_Row_after ?l_Row_after ?c_Row_after ?k_Row_after ?zz_all ?zz_bool ?zz_int ?zz_isinstance ?zz_len ?zz_list ?zz_max ?zz_min ?zz_range ?zz_str ?zz_tuple ?xa_Row ?xn ?xt ?xm_Row ?ci_Row ?ti_Row ?ss_Row ?nf_Row_head ?nf_Row_cycle ?xx_OutOfRange ?kc_OutOfRange ?xb_OutOfRange ?ti_OutOfRange ?xg_OutOfRange ?xk_OutOfRange ?xd_OutOfRange ?xa_OutOfRange ?xm_OutOfRange ?ci_OutOfRange ?ss_OutOfRange ?zz_ValueError ?sb_OutOfRange_ValueError ?ci_SizeMismatch ?ti_SizeMismatch ?sb_OutOfRange_SizeMismatch ?ci_TooLarge ?ti_TooLarge ?sb_OutOfRange_TooLarge ?ci_InvalidTerm ?ti_InvalidTerm ?sb_OutOfRange_InvalidTerm ?ci_ProofsError ?ti_ProofsError ?xb_ProofsError ?sb_OutOfRange_ProofsError
    (case aC_Row => k_is)
    (case aC_OutOfRange => k_is)
    (case aC_SizeMismatch => k_is)
    (case aC_TooLarge => k_is)
    (case aC_InvalidTerm => k_is)
    (case aC_ProofsError => k_is)
    (case a_law => k_is)
    (case l_law => k_is)
    (case c_law => k_is)
    (case k_law => k_is)
    (case a__law_is_row => k_is)
    (case l__law_is_row => k_is)
    (case c__law_is_row => k_is)
    (case k__law_is_row => k_is)
    (case a_Row_least => k_is)
    (case i_Row_least => k_is)
    (case l_Row_least => k_is)
    (case c_Row_least => k_is)
    (case k_Row_least => k_is)
    (case pg_Row => k_is)
    (case hd_Row => k_is)
    (case po_Row => k_is)
    (case sa_Row => k_is)
    (case a_same_rows => k_is)
    (case l_same_rows => k_is)
    (case c_same_rows => k_is)
    (case k_same_rows => k_is)
    (case a__law_least => k_is)
    (case l__law_least => k_is)
    (case c__law_least => k_is)
    (case k__law_least => k_is)
    (case a_Rowdd_initdd => k_is)
    (case i_Rowdd_initdd => k_is)
    (case l_Rowdd_initdd => k_is)
    (case c_Rowdd_initdd => k_is)
    (case k_Rowdd_initdd => k_is)
    (case lT_Rowdd_initdd => k_is)
    (case lU2 => k_is)
    (case mk_Row => k_is)
    (case kc_Row => k_is)
    (case a__law_refusals => k_is)
    (case l__law_refusals => k_is)
    (case c__law_refusals => k_is)
    (case k__law_refusals => k_is)
    (case a__law_entries => k_is)
    (case l__law_entries => k_is)
    (case c__law_entries => k_is)
    (case k__law_entries => k_is)
    (case a__law_same => k_is)
    (case l__law_same => k_is)
    (case c__law_same => k_is)
    (case k__law_same => k_is)
    (case a_Rowdd_getitemdd => k_is)
    (case i_Rowdd_getitemdd => k_is)
    (case l_Rowdd_getitemdd => k_is)
    (case c_Rowdd_getitemdd => k_is)
    (case k_Rowdd_getitemdd => k_is)
    (case fn_Rowdd_getitemdd => k_is)
    (case a__law_bent => k_is)
    (case l__law_bent => k_is)
    (case c__law_bent => k_is)
    (case k__law_bent => k_is)
    (case a__law_other => k_is)
    (case l__law_other => k_is)
    (case c__law_other => k_is)
    (case k__law_other => k_is)
    (case a__law_row => k_is)
    (case l__law_row => k_is)
    (case c__law_row => k_is)
    (case k__law_row => k_is)
    (case a__law_start => k_is)
    (case l__law_start => k_is)
    (case c__law_start => k_is)
    (case k__law_start => k_is)
    (case a_turned => k_is)
    (case l_turned => k_is)
    (case c_turned => k_is)
    (case k_turned => k_is)
    (case a_loose_entries => k_is)
    (case l_loose_entries => k_is)
    (case c_loose_entries => k_is)
    (case k_loose_entries => k_is)
    (case a_shortest_cycle => k_is)
    (case l_shortest_cycle => k_is)
    (case c_shortest_cycle => k_is)
    (case k_shortest_cycle => k_is)
    (case a__law_asked => k_is)
    (case l__law_asked => k_is)
    (case c__law_asked => k_is)
    (case k__law_asked => k_is)
    (case a__law_at => k_is)
    (case l__law_at => k_is)
    (case c__law_at => k_is)
    (case k__law_at => k_is)
    (case a__law_pick => k_is)
    (case l__law_pick => k_is)
    (case c__law_pick => k_is)
    (case k__law_pick => k_is)
    (case a_Row_start => k_is)
    (case i_Row_start => k_is)
    (case l_Row_start => k_is)
    (case c_Row_start => k_is)
    (case k_Row_start => k_is)
    (case a__law_behind => k_is)
    (case l__law_behind => k_is)
    (case c__law_behind => k_is)
    (case k__law_behind => k_is)
    (case a_Row_after => k_is)
    (case i_Row_after => k_is)
    (case l_Row_after => k_is)
    (case c_Row_after => k_is)
    (case k_Row_after => k_is)
    (case zz_all => k_is)
    (case zz_bool => k_is)
    (case zz_int => k_is)
    (case zz_isinstance => k_is)
    (case zz_len => k_is)
    (case zz_list => k_is)
    (case zz_max => k_is)
    (case zz_min => k_is)
    (case zz_range => k_is)
    (case zz_str => k_is)
    (case zz_tuple => k_is)
    (case xa_Row => k_is)
    (case xn => k_is)
    (case xt => k_is)
    (case xm_Row => k_is)
    (case ci_Row => k_is)
    (case ti_Row => k_is)
    (case ss_Row => k_is)
    (case nf_Row_head => k_is)
    (case nf_Row_cycle => k_is)
    (case xx_OutOfRange => k_exc)
    (case kc_OutOfRange => k_is)
    (case xb_OutOfRange => k_is)
    (case ti_OutOfRange => k_is)
    (case xg_OutOfRange => k_is)
    (case xk_OutOfRange => k_is)
    (case xd_OutOfRange => k_is)
    (case xa_OutOfRange => k_is)
    (case xm_OutOfRange => k_is)
    (case ci_OutOfRange => k_is)
    (case ss_OutOfRange => k_is)
    (case zz_ValueError => k_is)
    (case sb_OutOfRange_ValueError => k_is)
    (case ci_SizeMismatch => k_is)
    (case ti_SizeMismatch => k_is)
    (case sb_OutOfRange_SizeMismatch => k_is)
    (case ci_TooLarge => k_is)
    (case ti_TooLarge => k_is)
    (case sb_OutOfRange_TooLarge => k_is)
    (case ci_InvalidTerm => k_is)
    (case ti_InvalidTerm => k_is)
    (case sb_OutOfRange_InvalidTerm => k_is)
    (case ci_ProofsError => k_is)
    (case ti_ProofsError => k_is)
    (case xb_ProofsError => k_is)
    (case sb_OutOfRange_ProofsError => k_is)

