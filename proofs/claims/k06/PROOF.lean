import PyProof.Rows.All
import Wide.All
import OpenK.AllK
import Wide.FinOn
import HandS.ForMost
import HandS.ForExc
import HandS.Wide
import HandS.IsInst
import HandS.ExcIs
import HandS.CallSlots
import HandS.TupAny
import HandS.Defaults
import HandS.Style
import HandS.TupMul
import HandS.TupLe
import HandS.Conv
import HandS.Flow
import HandS.Rev
import HandS.Star
import HandS.TryMany
import HandS.EndBits
import HandS.More
import PySem.Challenge.RW_pathschosen_k06_sentences_alike
set_option Elab.async false
set_option linter.all false
set_option maxRecDepth 100000
set_option maxRecDepth 100000
/-! The layer G, part 0: plain data, a store of cells, how they stand in the abstract heap. -/
namespace G
open PySem PySem.Spec PyProof.Rows L2

/-- plain data: an atom, a tuple, a list that nobody writes, a cell of the store -/
inductive D where
  | a (v : V)
  | tup (ds : List D)
  | ils (ds : List D)
  | cel (n : Nat)

/-- what a cell holds -/
inductive Cell where
  | lst (ds : List D)
  | dic (kvs : List (Key × D))
  | fdc (kvs : List (Key × D))
  | dit (kvs : List (List Key × D))
  | ins (c : Str) (fs : List (Str × D))

abbrev Sto := List Cell
abbrev Slots := List (Option D)
/-- an exception: the name of its class, its own fields -/
structure Exn where
  cls : Str
  fs : List (Str × D)

inductive R (α : Type) where
  | ok (x : α) (S : Sto)
  | exc (e : Exn) (S : Sto)
  | bad

def R.bind {α β : Type} (r : R α) (k : α → Sto → R β) : R β := match r with
  | .ok x S => k x S
  | .exc e S => .exc e S
  | .bad => .bad
@[simp] theorem R.bind_ok {α β : Type} (x : α) (S : Sto) (k : α → Sto → R β) : (R.ok x S).bind k = k x S := rfl
@[simp] theorem R.bind_exc {α β : Type} (e : Exn) (S : Sto) (k : α → Sto → R β) : (R.exc e S : R α).bind k = .exc e S := rfl
@[simp] theorem R.bind_bad {α β : Type} (k : α → Sto → R β) : (R.bad : R α).bind k = .bad := rfl

/-- a list that is only read: frozen, or of the written part -/
def ILs (K : PySem.W.Frag) (H : Hp) (p : Addr) (vs : List V) : Prop :=
  (∃ o, H p = some (.frz o (.lst vs))) ∨
    ∃ (o : Obj) (its : Array Value) (n : Nat), K.lookup p = some o ∧ o.cls = .type "list" ∧ o.dict = none ∧ o.data = .seq its n ∧ its.size ≤ sizeLine ∧ Vals vs its.toList

mutual
def Rep (K : PySem.W.Frag) (m : Nat → Addr) (N : Nat) (H : Hp) : D → V → Prop
  | .a v, w => w = v
  | .tup ds, w => ∃ p vs, w = .ref p ∧ SqT K H p vs ∧ vs.length ≤ sizeLine ∧ RepL K m N H ds vs
  | .ils ds, w => ∃ p vs, w = .ref p ∧ ILs K H p vs ∧ vs.length ≤ sizeLine ∧ RepL K m N H ds vs
  | .cel n, w => n < N ∧ w = .ref (m n)
def RepL (K : PySem.W.Frag) (m : Nat → Addr) (N : Nat) (H : Hp) : List D → List V → Prop
  | [], vs => vs = []
  | d :: ds, vs => ∃ v r, vs = v :: r ∧ Rep K m N H d v ∧ RepL K m N H ds r
end
def RepP {κ : Type} (K : PySem.W.Frag) (m : Nat → Addr) (N : Nat) (H : Hp) : List (κ × D) → List (κ × V) → Prop
  | [], ws => ws = []
  | (k, d) :: r, ws => ∃ v r', ws = (k, v) :: r' ∧ Rep K m N H d v ∧ RepP K m N H r r'

/-- the address of a class, by its name in the module -/
def clsAt (mg : Str → Option Value) (c : Str) : Option Addr := match mg c with
  | some (.ref C) => some C
  | _ => none

def CellOk (K : PySem.W.Frag) (mg : Str → Option Value) (m : Nat → Addr) (N : Nat) (H : Hp) (p : Addr) : Cell → Prop
  | .lst ds => ∃ vs, H p = some (.lst vs) ∧ vs.length ≤ sizeLine ∧ RepL K m N H ds vs
  | .dic kvs => ∃ ws, H p = some (.dK ws) ∧ ws.length ≤ sizeLine ∧ RepP K m N H kvs ws
  | .fdc kvs => ∃ o ws, H p = some (.frz o (.dK ws)) ∧ ws.length ≤ sizeLine ∧ RepP K m N H kvs ws
  | .dit kvs => ∃ ws, H p = some (.dT ws) ∧ ws.length ≤ sizeLine ∧ RepP K m N H kvs ws
  | .ins c fs => ∃ C dx ws, clsAt mg c = some C ∧ H p = some (.ins C dx ws) ∧ H dx = some (.own p) ∧ RepP K m N H fs ws

structure SRel (K : PySem.W.Frag) (mg : Str → Option Value) (m : Nat → Addr) (S : Sto) (H : Hp) : Prop where
  at_ : ∀ n c, S[n]? = some c → CellOk K mg m S.length H (m n) c
  inj : ∀ i j, i < S.length → j < S.length → m i = m j → i = j

/-- what is between two states: the store grows, the old cells stay where they are, what is no cell stays -/
structure Post (K : PySem.W.Frag) (mg : Str → Option Value) (m : Nat → Addr) (S : Sto) (H : Hp) (m' : Nat → Addr) (S' : Sto) (H' : Hp) : Prop where
  rel : SRel K mg m' S' H'
  len : S.length ≤ S'.length
  ext : ∀ i, i < S.length → m' i = m i
  frame : ∀ p o, H p = some o → (∀ i, i < S.length → m i ≠ p) → H' p = some o
  fresh : ∀ i, S.length ≤ i → i < S'.length → H (m' i) = none
  frz : ∀ p o u, H p = some (.frz o u) → H' p = some (.frz o u)

/-- a cell's object is of a kind that may be written -/
def cellish : HO → Bool
  | .lst _ | .dK _ | .dT _ | .ins _ _ _ => true
  | .frz _ (.dK _) => true
  | _ => false

section
variable {K : PySem.W.Frag} {mg : Str → Option Value} {m m' m'' : Nat → Addr} {S S' S'' : Sto} {H H' H'' : Hp} {N N' : Nat}

theorem CellOk.there {p : Addr} {c : Cell} (h : CellOk K mg m N H p c) : ∃ o, H p = some o ∧ cellish o = true := by
  cases c with
  | lst ds => obtain ⟨vs, e, _⟩ := h; exact ⟨_, e, rfl⟩
  | dic kvs => obtain ⟨vs, e, _⟩ := h; exact ⟨_, e, rfl⟩
  | fdc kvs => obtain ⟨o, vs, e, _⟩ := h; exact ⟨_, e, rfl⟩
  | dit kvs => obtain ⟨vs, e, _⟩ := h; exact ⟨_, e, rfl⟩
  | ins c fs => obtain ⟨C, dx, ws, _, e, _⟩ := h; exact ⟨_, e, rfl⟩
theorem SRel.there (r : SRel K mg m S H) {i : Nat} (hi : i < S.length) : ∃ o, H (m i) = some o ∧ cellish o = true :=
  (r.at_ i _ (List.getElem?_eq_getElem hi)).there
/-- what is no cell's kind stands apart from the cells -/
theorem SRel.apart (r : SRel K mg m S H) {p : Addr} {o : HO} (h : H p = some o) (hc : cellish o = false) : ∀ i, i < S.length → m i ≠ p := fun i hi e => by
  obtain ⟨u, hu, cu⟩ := r.there hi
  rw [e, h] at hu
  cases hu
  rw [hc] at cu
  cases cu
theorem SRel.apart0 (r : SRel K mg m S H) {p : Addr} (h : H p = none) : ∀ i, i < S.length → m i ≠ p := fun i hi e => by
  obtain ⟨u, hu, cu⟩ := r.there hi
  rw [e, h] at hu
  cases hu

/-- what data leans on: the places of the cells, the tuples, the frozen things -/
structure Keep (m : Nat → Addr) (N : Nat) (H : Hp) (m' : Nat → Addr) (N' : Nat) (H' : Hp) : Prop where
  len : N ≤ N'
  ext : ∀ i, i < N → m' i = m i
  keep : ∀ p o, H p = some o → cellish o = false → H' p = some o
theorem Keep.sqT (k : Keep m N H m' N' H') {p : Addr} {vs : List V} (h : SqT K H p vs) : SqT K H' p vs := by
  rcases h with (h | ⟨o, h⟩) | h
  · exact .inl (.inl (k.keep _ _ h rfl))
  · exact .inl (.inr ⟨o, k.keep _ _ h rfl⟩)
  · exact .inr h
theorem Keep.ils (k : Keep m N H m' N' H') {p : Addr} {vs : List V} (h : ILs K H p vs) : ILs K H' p vs := by
  rcases h with ⟨o, h⟩ | h
  · exact .inl ⟨o, k.keep _ _ h rfl⟩
  · exact .inr h
mutual
theorem Keep.rep (k : Keep m N H m' N' H') : ∀ (d : D) (v : V), Rep K m N H d v → Rep K m' N' H' d v
  | .a _, _, h => h
  | .tup ds, _, ⟨p, vs, e, s, z, r⟩ => ⟨p, vs, e, k.sqT s, z, Keep.repL k ds vs r⟩
  | .ils ds, _, ⟨p, vs, e, s, z, r⟩ => ⟨p, vs, e, k.ils s, z, Keep.repL k ds vs r⟩
  | .cel n, _, ⟨h, e⟩ => ⟨Nat.lt_of_lt_of_le h k.len, by rw [k.ext n h]; exact e⟩
theorem Keep.repL (k : Keep m N H m' N' H') : ∀ (ds : List D) (vs : List V), RepL K m N H ds vs → RepL K m' N' H' ds vs
  | [], _, h => h
  | d :: ds, _, ⟨v, r, e, h1, h2⟩ => ⟨v, r, e, Keep.rep k d v h1, Keep.repL k ds r h2⟩
end
theorem Keep.repP {κ : Type} (k : Keep m N H m' N' H') : ∀ (ds : List (κ × D)) (vs : List (κ × V)), RepP K m N H ds vs → RepP K m' N' H' ds vs
  | [], _, h => h
  | (x, d) :: ds, _, ⟨v, r, e, h1, h2⟩ => ⟨v, r, e, Keep.rep k d v h1, Keep.repP k ds r h2⟩
theorem Post.keep (r : SRel K mg m S H) (p : Post K mg m S H m' S' H') : Keep m S.length H m' S'.length H' :=
  ⟨p.len, p.ext, fun q o h hc => p.frame q o h (r.apart h hc)⟩
theorem Post.refl (r : SRel K mg m S H) : Post K mg m S H m S H :=
  ⟨r, Nat.le_refl _, fun _ _ => rfl, fun _ _ h _ => h, fun i h1 h2 => absurd h2 (Nat.not_lt.mpr h1), fun _ _ _ h => h⟩
theorem Post.trans (a : Post K mg m S H m' S' H') (b : Post K mg m' S' H' m'' S'' H'') : Post K mg m S H m'' S'' H'' := by
  refine ⟨b.rel, Nat.le_trans a.len b.len, fun i hi => (b.ext i (Nat.lt_of_lt_of_le hi a.len)).trans (a.ext i hi), fun p o h hn => ?_, fun i h1 h2 => ?_, fun p o u h => b.frz p o u (a.frz p o u h)⟩
  · refine b.frame p o (a.frame p o h hn) fun i hi e => ?_
    by_cases hl : i < S.length
    · exact hn i hl ((a.ext i hl).symm.trans e)
    · have z := a.fresh i (Nat.le_of_not_lt hl) hi
      rw [e, h] at z
      cases z
  · by_cases hl : i < S'.length
    · rw [b.ext i hl]
      exact a.fresh i h1 hl
    · have z := b.fresh i (Nat.le_of_not_lt hl) h2
      cases q : H (m'' i) with
      | none => rfl
      | some o =>
        have q' := a.frame _ o q fun j hj e => by
          have e1 : m'' j = m j := (b.ext j (Nat.lt_of_lt_of_le hj a.len)).trans (a.ext j hj)
          have e2 := b.rel.inj j i (Nat.lt_of_lt_of_le hj (Nat.le_trans a.len b.len)) h2 (e1.trans e)
          subst e2
          exact hl (Nat.lt_of_lt_of_le hj a.len)
        rw [z] at q'
        cases q'

/-! ### lengths, places -/
theorem RepL.len : ∀ {ds : List D} {vs : List V}, RepL K m N H ds vs → vs.length = ds.length
  | [], _, h => by rw [show _ = [] from h]; rfl
  | d :: ds, _, ⟨v, r, e, _, h⟩ => by rw [e, List.length_cons, List.length_cons, RepL.len h]
theorem RepP.len {κ : Type} : ∀ {ds : List (κ × D)} {vs : List (κ × V)}, RepP K m N H ds vs → vs.length = ds.length
  | [], _, h => by rw [show _ = [] from h]; rfl
  | (k, d) :: ds, _, ⟨v, r, e, _, h⟩ => by rw [e, List.length_cons, List.length_cons, RepP.len h]
theorem RepL.get : ∀ {ds : List D} {vs : List V} {i : Nat} {d : D}, RepL K m N H ds vs → ds[i]? = some d → ∃ v, vs[i]? = some v ∧ Rep K m N H d v
  | [], _, _, _, _, e => by simp at e
  | x :: ds, _, 0, d, ⟨v, r, rfl, h, _⟩, e => by
    have e' : x = d := by simpa using e
    subst e'
    exact ⟨v, by simp, h⟩
  | x :: ds, _, i + 1, d, ⟨v, r, rfl, _, h⟩, e => by
    obtain ⟨w, h1, h2⟩ := RepL.get (i := i) h (by simpa using e)
    exact ⟨w, by simpa using h1, h2⟩
theorem RepL.append : ∀ {ds es : List D} {vs ws : List V}, RepL K m N H ds vs → RepL K m N H es ws → RepL K m N H (ds ++ es) (vs ++ ws)
  | [], es, _, ws, h, q => by rw [show _ = [] from h]; exact q
  | d :: ds, es, _, ws, ⟨v, r, rfl, h1, h2⟩, q => ⟨v, r ++ ws, rfl, h1, RepL.append h2 q⟩
theorem RepL.set : ∀ {ds : List D} {vs : List V} {d : D} {v : V} (i : Nat), RepL K m N H ds vs → Rep K m N H d v → RepL K m N H (ds.set i d) (vs.set i v)
  | [], _, _, _, _, h, _ => by rw [show _ = [] from h]; exact rfl
  | x :: ds, _, d, v, 0, ⟨u, r, rfl, _, h⟩, q => ⟨v, r, rfl, q, h⟩
  | x :: ds, _, d, v, i + 1, ⟨u, r, rfl, h1, h⟩, q => ⟨u, r.set i v, rfl, h1, RepL.set i h q⟩
theorem RepL.take : ∀ {ds : List D} {vs : List V} (i : Nat), RepL K m N H ds vs → RepL K m N H (ds.take i) (vs.take i)
  | _, _, 0, h => by rw [List.take_zero, List.take_zero]; exact rfl
  | [], _, i + 1, h => by rw [show _ = [] from h]; exact rfl
  | x :: ds, _, i + 1, ⟨u, r, rfl, h1, h⟩ => ⟨u, r.take i, rfl, h1, RepL.take i h⟩
theorem RepL.drop : ∀ {ds : List D} {vs : List V} (i : Nat), RepL K m N H ds vs → RepL K m N H (ds.drop i) (vs.drop i)
  | _, _, 0, h => h
  | [], _, i + 1, h => by rw [show _ = [] from h]; exact rfl
  | x :: ds, _, i + 1, ⟨u, r, rfl, h1, h⟩ => RepL.drop i h
theorem RepL.one {d : D} {v : V} (h : Rep K m N H d v) : RepL K m N H [d] [v] := ⟨v, [], rfl, h, rfl⟩
theorem RepL.reverse : ∀ {ds : List D} {vs : List V}, RepL K m N H ds vs → RepL K m N H ds.reverse vs.reverse
  | [], _, h => by rw [show _ = [] from h]; exact rfl
  | x :: ds, _, ⟨u, r, rfl, h1, h⟩ => by
    rw [List.reverse_cons, List.reverse_cons]
    exact (RepL.reverse h).append (RepL.one h1)
theorem RepP.get {κ : Type} [BEq κ] [LawfulBEq κ] : ∀ {ds : List (κ × D)} {vs : List (κ × V)} {k : κ}, RepP K m N H ds vs →
    (ds.lookup k = none ∧ vs.lookup k = none) ∨ ∃ d v, ds.lookup k = some d ∧ vs.lookup k = some v ∧ Rep K m N H d v
  | [], _, _, h => by rw [show _ = [] from h]; exact .inl ⟨rfl, rfl⟩
  | (x, d) :: ds, _, k, ⟨u, r, rfl, h1, h⟩ => by
    by_cases e : k = x
    · subst e
      exact .inr ⟨d, u, by simp [List.lookup], by simp [List.lookup], h1⟩
    · have e' : (k == x) = false := by simpa using e
      simp only [List.lookup, e']
      exact RepP.get h

/-! ### allocation -/
theorem Same.keep (s : Same H H') : Keep m N H m N H' := ⟨Nat.le_refl _, fun _ _ => rfl, fun p o h _ => s p o h⟩
theorem CellOk.mono {p : Addr} {c : Cell} (k : Keep m N H m' N' H') (hp : ∀ o, H p = some o → H' p = some o) (h : CellOk K mg m N H p c) : CellOk K mg m' N' H' p c := by
  cases c with
  | lst ds => obtain ⟨vs, e, z, r⟩ := h; exact ⟨vs, hp _ e, z, k.repL _ _ r⟩
  | dic kvs => obtain ⟨vs, e, z, r⟩ := h; exact ⟨vs, hp _ e, z, k.repP _ _ r⟩
  | fdc kvs => obtain ⟨o, vs, e, z, r⟩ := h; exact ⟨o, vs, hp _ e, z, k.repP _ _ r⟩
  | dit kvs => obtain ⟨vs, e, z, r⟩ := h; exact ⟨vs, hp _ e, z, k.repP _ _ r⟩
  | ins c fs => obtain ⟨C, dx, ws, h1, e, h2, r⟩ := h; exact ⟨C, dx, ws, h1, hp _ e, k.keep _ _ h2 rfl, k.repP _ _ r⟩
/-- things that are new and no cells -/
theorem Post.same (r : SRel K mg m S H) (s : Same H H') : Post K mg m S H m S H' :=
  ⟨⟨fun n c e => (r.at_ n c e).mono (Same.keep s) fun o h => s _ _ h, r.inj⟩, Nat.le_refl _, fun _ _ => rfl, fun p o h _ => s p o h, fun i h1 h2 => absurd h2 (Nat.not_lt.mpr h1), fun p o u h => s p _ h⟩
theorem same_upd {p : Addr} {o : HO} (h : H p = none) : Same H (upd H p o) := fun b u e => by
  rw [upd_ne (ne_of_none e h)]
  exact e
/-- the places with one more -/
def mAt (m : Nat → Addr) (n : Nat) (p : Addr) : Nat → Addr := fun i => if i = n then p else m i
theorem mAt_self {n : Nat} {p : Addr} : mAt m n p n = p := if_pos rfl
theorem mAt_lt {n i : Nat} {p : Addr} (h : i < n) : mAt m n p i = m i := if_neg (Nat.ne_of_lt h)
/-- a new cell -/
theorem Post.push {p : Addr} {c : Cell} (r : SRel K mg m S H) (s : Same H H') (hn : H p = none) (hc : CellOk K mg (mAt m S.length p) (S.length + 1) H' p c) :
    Post K mg m S H (mAt m S.length p) (S ++ [c]) H' := by
  have k : Keep m S.length H (mAt m S.length p) (S.length + 1) H' := ⟨Nat.le_succ _, fun i hi => mAt_lt hi, fun q o h _ => s q o h⟩
  refine ⟨⟨fun n c' e => ?_, fun i j hi hj e => ?_⟩, by simp, fun i hi => mAt_lt hi, fun q o h _ => s q o h, fun i h1 h2 => ?_, fun q o u h => s q _ h⟩
  · rw [List.length_append, List.length_singleton]
    by_cases hl : n < S.length
    · rw [List.getElem?_append_left hl] at e
      rw [mAt_lt hl]
      exact (r.at_ n c' e).mono k fun o h => s _ _ h
    · have hn' : n = S.length := by
        have := (List.getElem?_eq_some_iff.mp e).1
        rw [List.length_append, List.length_singleton] at this
        omega
      subst hn'
      rw [List.getElem?_append_right (Nat.le_refl _), Nat.sub_self] at e
      have e' : c = c' := by simpa using e
      subst e'
      rw [mAt_self]
      exact hc
  · rw [List.length_append, List.length_singleton] at hi hj
    by_cases h1 : i < S.length
    · by_cases h2 : j < S.length
      · rw [mAt_lt h1, mAt_lt h2] at e
        exact r.inj i j h1 h2 e
      · have : j = S.length := by omega
        subst this
        rw [mAt_lt h1, mAt_self] at e
        exact absurd e (r.apart0 hn i h1)
    · have : i = S.length := by omega
      subst this
      by_cases h2 : j < S.length
      · rw [mAt_lt h2, mAt_self] at e
        exact absurd e.symm (r.apart0 hn j h2)
      · omega
  · rw [List.length_append, List.length_singleton] at h2
    have : i = S.length := by omega
    subst this
    rw [mAt_self]
    exact hn
/-- a cell written -/
theorem Post.write {n : Nat} {c : Cell} {o : HO} (r : SRel K mg m S H) (hn : n < S.length) (hz : ∀ o u, H (m n) ≠ some (.frz o u)) (hc : CellOk K mg m S.length (upd H (m n) o) (m n) c) : Post K mg m S H m (S.set n c) (upd H (m n) o) := by
  have k : Keep m S.length H m S.length (upd H (m n) o) := ⟨Nat.le_refl _, fun _ _ => rfl, fun q u h hc => by
    rw [upd_ne fun e => r.apart h hc n hn e.symm]
    exact h⟩
  refine ⟨⟨fun i c' e => ?_, fun i j hi hj e => ?_⟩, by simp, fun _ _ => rfl, fun q u h hq => ?_, fun i h1 h2 => ?_, fun q o u h => by rw [upd_ne fun e => hz o u (by rw [← e]; exact h)]; exact h⟩
  · rw [List.length_set]
    by_cases hi : i = n
    · subst hi
      rw [List.getElem?_set_self hn] at e
      have e' : c = c' := by simpa using e
      subst e'
      exact hc
    · rw [List.getElem?_set_ne (Ne.symm hi)] at e
      refine (r.at_ i c' e).mono k fun u h => ?_
      rw [upd_ne fun z => hi (r.inj i n (List.getElem?_eq_some_iff.mp e).1 hn z)]
      exact h
  · rw [List.length_set] at hi hj
    exact r.inj i j hi hj e
  · rw [upd_ne fun e => hq n hn e.symm]
    exact h
  · rw [List.length_set] at h2
    exact absurd h2 (Nat.not_lt.mpr h1)
end
end G
set_option maxRecDepth 100000
/-! The layer G, part 1: the judgements, how they are put together. -/
namespace G
open PySem PySem.Spec PyProof.Rows L2

/-- the slots hold the data; a slot of which nothing is known may hold anything. pin: a slot that holds the exception of a suite -/
structure SlotsOk (K : PySem.W.Frag) (pin : Option (Nat × Addr)) (m : Nat → Addr) (N : Nat) (H : Hp) (env : Slots) (σ : L2.St) : Prop where
  len : env.length = σ.length
  at_ : ∀ (i : Nat) (d : D), env[i]? = some (some d) → ∃ v, σ[i]? = some (some v) ∧ Rep K m N H d v
  pin : ∀ i p, pin = some (i, p) → σ[i]? = some (some (.ref p))

/-- an exception in the air -/
def ExR (K : PySem.W.Frag) (mg : Str → Option Value) (m : Nat → Addr) (N : Nat) (H : Hp) (e : Exn) (cls : Value) (d : Option Addr) : Prop :=
  ∃ C, clsAt mg e.cls = some C ∧ cls = .ref C ∧ match e.fs with
    | [] => d = none
    | f :: fs => ∃ q ws, d = some q ∧ H q = some (.xd ws) ∧ RepP K m N H (f :: fs) ws

section
variable (K : PySem.W.Frag) (mg : Str → Option Value)
/-- what an expression's result promises of what follows -/
def Sat {α β : Type} (W : WX) (σ : L2.St) (m : Nat → Addr) (S : Sto) (H : Hp) (Rl : (Nat → Addr) → Nat → Hp → α → β → Prop) (Q : β → Hp → Prop) : R α → Prop
  | .ok x S' => ∀ m' H' y, Post K mg m S H m' S' H' → Rl m' S'.length H' x y → Q y H'
  | .exc e S' => ∀ m' H' cls d, Post K mg m S H m' S' H' → ExR K mg m' S'.length H' e cls d → W cls d σ H'
  | .bad => False
def relB : (Nat → Addr) → Nat → Hp → Bool → Bool → Prop := fun _ _ _ x y => y = x
end
section
variable {K : PySem.W.Frag} {mg : Str → Option Value} {m m' m1 : Nat → Addr} {S S' S1 : Sto} {H H' H1 : Hp} {W : WX} {σ : L2.St} {env : Slots} {pin : Option (Nat × Addr)} {N N' : Nat}
theorem SlotsOk.keep (e : SlotsOk K pin m N H env σ) (k : Keep m N H m' N' H') : SlotsOk K pin m' N' H' env σ :=
  ⟨e.len, fun i d h => let ⟨v, h1, h2⟩ := e.at_ i d h; ⟨v, h1, k.rep d v h2⟩, e.pin⟩
theorem SlotsOk.set (e : SlotsOk K pin m N H env σ) {i : Nat} {d : D} {v : V} (r : Rep K m N H d v) (hp : ∀ p, pin ≠ some (i, p)) : SlotsOk K pin m N H (env.set i (some d)) (σ.set i (some v)) := by
  refine ⟨by rw [List.length_set, List.length_set]; exact e.len, fun j x h => ?_, fun j p h => ?_⟩
  · by_cases hj : i = j
    · subst hj
      by_cases hl : i < env.length
      · rw [List.getElem?_set_self hl] at h
        have h' : d = x := by simpa using h
        subst h'
        exact ⟨v, List.getElem?_set_self (e.len ▸ hl), r⟩
      · rw [List.getElem?_eq_none (by rw [List.length_set]; omega)] at h
        cases h
    · rw [List.getElem?_set_ne hj] at h ⊢
      exact e.at_ j x h
  · have hj : i ≠ j := fun z => hp p (by rw [z]; exact h)
    rw [List.getElem?_set_ne hj]
    exact e.pin j p h
theorem SlotsOk.forget (e : SlotsOk K pin m N H env σ) (i : Nat) (w : Option V) (hp : ∀ p, pin ≠ some (i, p)) : SlotsOk K pin m N H (env.set i none) (σ.set i w) := by
  refine ⟨by rw [List.length_set, List.length_set]; exact e.len, fun j x h => ?_, fun j p h => ?_⟩
  · by_cases hj : i = j
    · subst hj
      by_cases hl : i < env.length
      · rw [List.getElem?_set_self hl] at h
        cases h
      · rw [List.getElem?_eq_none (by rw [List.length_set]; omega)] at h
        cases h
    · rw [List.getElem?_set_ne hj] at h ⊢
      exact e.at_ j x h
  · have hj : i ≠ j := fun z => hp p (by rw [z]; exact h)
    rw [List.getElem?_set_ne hj]
    exact e.pin j p h

theorem Sat.mono {α β : Type} {Rl : (Nat → Addr) → Nat → Hp → α → β → Prop} {Q Q' : β → Hp → Prop} {r : R α} (h : Sat K mg W σ m S H Rl Q r) (hq : ∀ y H', Q y H' → Q' y H') : Sat K mg W σ m S H Rl Q' r := by
  cases r with
  | ok x S' => exact fun m' H' y p q => hq _ _ (h m' H' y p q)
  | exc e S' => exact h
  | bad => exact h
/-- from a later state -/
theorem Sat.step {α β : Type} {Rl : (Nat → Addr) → Nat → Hp → α → β → Prop} {Q : β → Hp → Prop} {r : R α} (p : Post K mg m S H m1 S1 H1) (h : Sat K mg W σ m S H Rl Q r) : Sat K mg W σ m1 S1 H1 Rl Q r := by
  cases r with
  | ok x S' => exact fun m' H' y p' q => h m' H' y (p.trans p') q
  | exc e S' => exact fun m' H' c d p' q => h m' H' c d (p.trans p') q
  | bad => exact h
/-- one after the other -/
theorem Sat.bind {α α' β β' : Type} {Rl : (Nat → Addr) → Nat → Hp → α → β → Prop} {Rl' : (Nat → Addr) → Nat → Hp → α' → β' → Prop} {Q : β → Hp → Prop} {r : R α'} {k : α' → Sto → R α} (h : Sat K mg W σ m S H Rl Q (r.bind k)) :
    Sat K mg W σ m S H Rl' (fun y H1 => ∃ m1 S1 x, Post K mg m S H m1 S1 H1 ∧ Rl' m1 S1.length H1 x y ∧ Sat K mg W σ m1 S1 H1 Rl Q (k x S1)) r := by
  cases r with
  | ok x S' => exact fun m' H' y p q => ⟨m', S', x, p, q, Sat.step p h⟩
  | exc e S' => exact h
  | bad => exact h
theorem Sat.ok {α β : Type} {Rl : (Nat → Addr) → Nat → Hp → α → β → Prop} {Q : β → Hp → Prop} {x : α} {y : β} (h : Sat K mg W σ m S H Rl Q (.ok x S')) (p : Post K mg m S H m' S' H') (r : Rl m' S'.length H' x y) : Q y H' := h m' H' y p r
/-- the state as it is -/
theorem Sat.here {α β : Type} {Rl : (Nat → Addr) → Nat → Hp → α → β → Prop} {Q : β → Hp → Prop} {x : α} {y : β} (h : Sat K mg W σ m S H Rl Q (.ok x S)) (r : SRel K mg m S H) (q : Rl m S.length H x y) : Q y H := h m H y (Post.refl r) q
/-- no exception: the wish does not matter -/
theorem Sat.wish {α β : Type} {Rl : (Nat → Addr) → Nat → Hp → α → β → Prop} {Q : β → Hp → Prop} {W' : WX} {σ' : L2.St} {r : R α} (hr : ∀ e S', r ≠ .exc e S') (h : Sat K mg W σ m S H Rl Q r) : Sat K mg W' σ' m S H Rl Q r := by
  cases r with
  | ok x S' => exact h
  | exc e S' => exact absurd rfl (hr e S')
  | bad => exact h
end

/-! ### expressions -/
abbrev EX := Slots → Sto → R D
abbrev BX := Slots → Sto → R Bool
abbrev AX := Slots → Sto → R (List D)
def rdE (K : PySem.W.Frag) (mg : Str → Option Value) (W : WX) (pin : Option (Nat × Addr)) (f : EX) : TE := fun σ H Q => ∃ m env S, SlotsOk K pin m S.length H env σ ∧ SRel K mg m S H ∧ Sat K mg W σ m S H (Rep K) Q (f env S)
def rdT (K : PySem.W.Frag) (mg : Str → Option Value) (W : WX) (pin : Option (Nat × Addr)) (f : BX) : TT := fun σ H Q => ∃ m env S, SlotsOk K pin m S.length H env σ ∧ SRel K mg m S H ∧ Sat K mg W σ m S H relB Q (f env S)
def rdA (K : PySem.W.Frag) (mg : Str → Option Value) (W : WX) (pin : Option (Nat × Addr)) (f : AX) : TA := fun σ H Q => ∃ m env S, SlotsOk K pin m S.length H env σ ∧ SRel K mg m S H ∧ Sat K mg W σ m S H (RepL K) Q (f env S)
/-- the expression e computes f -/
def GE (X : Cx) (W : WX) (pin : Option (Nat × Addr)) (e : Expr) (f : EX) : Prop := PE X e (rdE X.K X.mg W pin f)
def GT (X : Cx) (W : WX) (pin : Option (Nat × Addr)) (e : Expr) (f : BX) : Prop := PT X e (rdT X.K X.mg W pin f)
def GW (X : Cx) (W : WX) (pin : Option (Nat × Addr)) (e : Expr) (f : BX) : Prop := PW X e (rdT X.K X.mg W pin f)
structure GA (X : Cx) (W : WX) (pin : Option (Nat × Addr)) (es : List Expr) (f : AX) : Prop where
  run : PA X es (rdA X.K X.mg W pin f)
  len : ∀ env S ds S', f env S = .ok ds S' → ds.length = es.length

theorem PE.weak {X : Cx} {e : Expr} {t t' : TE} (h : PE X e t) (w : ∀ σ H Q, t' σ H Q → t σ H Q) : PE X e t' := ⟨fun pins s σ H Q I q => h.run pins s σ H Q I (w _ _ _ q)⟩
theorem PT.weak {X : Cx} {e : Expr} {t t' : TT} (h : PT X e t) (w : ∀ σ H Q, t' σ H Q → t σ H Q) : PT X e t' := ⟨fun pins s σ H Q I q => h.run pins s σ H Q I (w _ _ _ q)⟩
theorem PW.weak {X : Cx} {e : Expr} {t t' : TT} (h : PW X e t) (w : ∀ σ H Q, t' σ H Q → t σ H Q) : PW X e t' := ⟨fun wh pins s σ H Q I q => h.run wh pins s σ H Q I (w _ _ _ q)⟩
theorem PA.weak {X : Cx} {e : List Expr} {t t' : TA} (h : PA X e t) (w : ∀ σ H Q, t' σ H Q → t σ H Q) : PA X e t' := ⟨fun p pins s σ H Q I q => h.run p pins s σ H Q I (w _ _ _ q)⟩
theorem PS.weak {X : Cx} {e : Stmt} {t t' : TS} (h : PS X e t) (w : ∀ D σ H, t' D σ H → t D σ H) : PS X e t' := ⟨fun pins s σ H D I q => h.run pins s σ H D I (w _ _ _ q)⟩
theorem PSs.weak {X : Cx} {e : List Stmt} {t t' : TS} (h : PSs X e t) (w : ∀ D σ H, t' D σ H → t D σ H) : PSs X e t' := ⟨fun pins s σ H D I q => h.run pins s σ H D I (w _ _ _ q)⟩

section
variable {X : Cx} {W : WX} {pin : Option (Nat × Addr)} {e : Expr} {es : List Expr} {f : EX} {fb : BX} {fa : AX} {m : Nat → Addr} {S : Sto} {H : Hp} {σ : L2.St} {env : Slots}
variable {α : Type} {β : Type} {Rl : (Nat → Addr) → Nat → Hp → α → β → Prop} {Q : β → Hp → Prop}
/-- an expression, then the rest -/
theorem rdE_bind {k : D → Sto → R α} (E : SlotsOk X.K pin m S.length H env σ) (r : SRel X.K X.mg m S H) (s : Sat X.K X.mg W σ m S H Rl Q ((f env S).bind k)) {T : VK}
    (hT : ∀ v H1 m1 S1 d, Post X.K X.mg m S H m1 S1 H1 → SlotsOk X.K pin m1 S1.length H1 env σ → SRel X.K X.mg m1 S1 H1 → Rep X.K m1 S1.length H1 d v → Sat X.K X.mg W σ m1 S1 H1 Rl Q (k d S1) → T v H1) : rdE X.K X.mg W pin f σ H T :=
  ⟨m, env, S, E, r, s.bind.mono fun v H1 ⟨m1, S1, d, p, rd, q⟩ => hT v H1 m1 S1 d p (E.keep (p.keep r)) p.rel rd q⟩
theorem rdT_bind {k : Bool → Sto → R α} (E : SlotsOk X.K pin m S.length H env σ) (r : SRel X.K X.mg m S H) (s : Sat X.K X.mg W σ m S H Rl Q ((fb env S).bind k)) {T : Bool → Hp → Prop}
    (hT : ∀ b H1 m1 S1, Post X.K X.mg m S H m1 S1 H1 → SlotsOk X.K pin m1 S1.length H1 env σ → SRel X.K X.mg m1 S1 H1 → Sat X.K X.mg W σ m1 S1 H1 Rl Q (k b S1) → T b H1) : rdT X.K X.mg W pin fb σ H T :=
  ⟨m, env, S, E, r, s.bind.mono fun v H1 ⟨m1, S1, d, p, rd, q⟩ => hT v H1 m1 S1 p (E.keep (p.keep r)) p.rel (by rw [show v = d from rd]; exact q)⟩
theorem rdA_bind {k : List D → Sto → R α} (E : SlotsOk X.K pin m S.length H env σ) (r : SRel X.K X.mg m S H) (s : Sat X.K X.mg W σ m S H Rl Q ((fa env S).bind k)) {T : List V → Hp → Prop}
    (hT : ∀ vs H1 m1 S1 ds, Post X.K X.mg m S H m1 S1 H1 → SlotsOk X.K pin m1 S1.length H1 env σ → SRel X.K X.mg m1 S1 H1 → RepL X.K m1 S1.length H1 ds vs → Sat X.K X.mg W σ m1 S1 H1 Rl Q (k ds S1) → T vs H1) : rdA X.K X.mg W pin fa σ H T :=
  ⟨m, env, S, E, r, s.bind.mono fun v H1 ⟨m1, S1, d, p, rd, q⟩ => hT v H1 m1 S1 d p (E.keep (p.keep r)) p.rel rd q⟩
end

/-! ### statements -/
inductive SR where
  | nx (env : Slots) (S : Sto)
  | rt (d : D) (S : Sto)
  | bk (env : Slots) (S : Sto)
  | ct (env : Slots) (S : Sto)
  | ex (e : Exn) (env : Slots) (S : Sto)
  | bad
abbrev SX := Slots → Sto → SR

def SSat (K : PySem.W.Frag) (mg : Str → Option Value) (W : WX) (pin : Option (Nat × Addr)) (E : Ends) (m : Nat → Addr) (S : Sto) (H : Hp) : SR → Prop
  | .nx env' S' => ∀ m' H' σ', Post K mg m S H m' S' H' → SlotsOk K pin m' S'.length H' env' σ' → E.nx σ' H'
  | .rt d S' => ∀ m' H' v, Post K mg m S H m' S' H' → Rep K m' S'.length H' d v → E.rt v H'
  | .bk env' S' => ∀ m' H' σ', Post K mg m S H m' S' H' → SlotsOk K pin m' S'.length H' env' σ' → E.bk σ' H'
  | .ct env' S' => ∀ m' H' σ', Post K mg m S H m' S' H' → SlotsOk K pin m' S'.length H' env' σ' → E.ct σ' H'
  | .ex e env' S' => ∀ m' H' σ' cls d, Post K mg m S H m' S' H' → SlotsOk K pin m' S'.length H' env' σ' → ExR K mg m' S'.length H' e cls d → W cls d σ' H'
  | .bad => False
def rdS (K : PySem.W.Frag) (mg : Str → Option Value) (W : WX) (pin : Option (Nat × Addr)) (f : SX) : TS := fun E σ H => ∃ m env S, SlotsOk K pin m S.length H env σ ∧ SRel K mg m S H ∧ SSat K mg W pin E m S H (f env S)
def GS (X : Cx) (W : WX) (pin : Option (Nat × Addr)) (st : Stmt) (f : SX) : Prop := PS X st (rdS X.K X.mg W pin f)
def GSs (X : Cx) (W : WX) (pin : Option (Nat × Addr)) (st : List Stmt) (f : SX) : Prop := PSs X st (rdS X.K X.mg W pin f)

/-- an expression's result, then a statement's rest -/
def R.then {α : Type} (r : R α) (env : Slots) (k : α → Sto → SR) : SR := match r with
  | .ok x S => k x S
  | .exc e S => .ex e env S
  | .bad => .bad
@[simp] theorem R.then_ok {α : Type} (x : α) (S : Sto) (env : Slots) (k : α → Sto → SR) : (R.ok x S).then env k = k x S := rfl
@[simp] theorem R.then_exc {α : Type} (e : Exn) (S : Sto) (env : Slots) (k : α → Sto → SR) : (R.exc e S : R α).then env k = .ex e env S := rfl
@[simp] theorem R.then_bad {α : Type} (env : Slots) (k : α → Sto → SR) : (R.bad : R α).then env k = .bad := rfl

section
variable {K : PySem.W.Frag} {mg : Str → Option Value} {m m' m1 : Nat → Addr} {S S' S1 : Sto} {H H' H1 : Hp} {W : WX} {σ : L2.St} {env : Slots} {pin : Option (Nat × Addr)} {E E' : Ends}
theorem SSat.step {r : SR} (p : Post K mg m S H m1 S1 H1) (h : SSat K mg W pin E m S H r) : SSat K mg W pin E m1 S1 H1 r := by
  cases r with
  | nx env' S' => exact fun m' H' σ' p' q => h m' H' σ' (p.trans p') q
  | rt d S' => exact fun m' H' v p' q => h m' H' v (p.trans p') q
  | bk env' S' => exact fun m' H' σ' p' q => h m' H' σ' (p.trans p') q
  | ct env' S' => exact fun m' H' σ' p' q => h m' H' σ' (p.trans p') q
  | ex e env' S' => exact fun m' H' σ' c d p' q => h m' H' σ' c d (p.trans p') q
  | bad => exact h
theorem SSat.then {α β : Type} {Rl : (Nat → Addr) → Nat → Hp → α → β → Prop} {r : R α} {k : α → Sto → SR} (e : SlotsOk K pin m S.length H env σ) (rl : SRel K mg m S H) (h : SSat K mg W pin E m S H (r.then env k)) :
    Sat K mg W σ m S H Rl (fun y H1 => ∃ m1 S1 x, Post K mg m S H m1 S1 H1 ∧ SlotsOk K pin m1 S1.length H1 env σ ∧ Rl m1 S1.length H1 x y ∧ SSat K mg W pin E m1 S1 H1 (k x S1)) r := by
  cases r with
  | ok x S' => exact fun m' H' y p q => ⟨m', S', x, p, e.keep (p.keep rl), q, SSat.step p h⟩
  | exc x S' => exact fun m' H' c d p q => h m' H' σ c d p (e.keep (p.keep rl)) q
  | bad => exact h
end

/-! ### names, constants, sequences of statements -/
def eVar (i : Nat) : EX := fun env S => match env[i]? with
  | some (some d) => .ok d S
  | _ => .bad
def eC (d : D) : EX := fun _ S => .ok d S
/-- a value that needs no place -/
def sNil : SX := fun env S => .nx env S
def sSeq (f g : SX) : SX := fun env S => match f env S with
  | .nx env' S' => g env' S'
  | r => r
def sIf (c : BX) (f g : SX) : SX := fun env S => (c env S).then env fun b S1 => bif b then f env S1 else g env S1
def sSet (i : Nat) (f : EX) : SX := fun env S => (f env S).then env fun d S1 => .nx (env.set i (some d)) S1
def sRet (f : EX) : SX := fun env S => (f env S).then env fun d S1 => .rt d S1
def sDo (f : EX) : SX := fun env S => (f env S).then env fun _ S1 => .nx env S1

section
variable {X : Cx} {W : WX} {pin : Option (Nat × Addr)} {pos : Pos}
theorem ge_var {i : Nat} {x : Str} (h : PE X (.Name x pos) (tVar i)) : GE X W pin (.Name x pos) (eVar i) := PE.weak h fun σ H Q ⟨m, env, S, E, r, s⟩ => by
  unfold eVar at s
  split at s
  · rename_i d hd
    obtain ⟨v, h1, h2⟩ := E.at_ i d hd
    exact ⟨v, h1, s.here r h2⟩
  · exact s.elim
/-- what gives one value, whatever the state is -/
theorem ge_const {e : Expr} {v : V} (h : PE X e (tC v)) : GE X W pin e (eC (.a v)) := PE.weak h fun σ H Q ⟨m, env, S, E, r, s⟩ => s.here r (show v = v from rfl)
theorem ge_int {i : Int} {j} : GE X W pin (.Constant (.int i) j pos) (eC (.a (.int i))) := ge_const pe_int
theorem ge_str {x : String} {j} : GE X W pin (.Constant (.str x) j pos) (eC (.a (.str x))) := ge_const pe_str
theorem ge_bl {b : Bool} {j} : GE X W pin (.Constant (.bool b) j pos) (eC (.a (.bl b))) := ge_const pe_bl
theorem ge_non {j} : GE X W pin (.Constant .none j pos) (eC (.a .non)) := ge_const pe_non

theorem gs_nil : GSs X W pin [] sNil := PSs.weak pss_nil fun E σ H ⟨m, env, S, e, r, s⟩ => s m H σ (Post.refl r) e
theorem gs_cons {st : Stmt} {rest : List Stmt} {f g : SX} (h1 : GS X W pin st f) (h2 : GSs X W pin rest g) : GSs X W pin (st :: rest) (sSeq f g) := PSs.weak (pss_cons h1 h2) fun E σ H ⟨m, env, S, e, r, s⟩ => by
  refine ⟨m, env, S, e, r, ?_⟩
  unfold sSeq at s
  cases hf : f env S with
  | nx env' S' =>
    rw [hf] at s
    exact fun m' H' σ' p e' => ⟨m', env', S', e', p.rel, s.step p⟩
  | rt d S' => rw [hf] at s; exact s
  | bk env' S' => rw [hf] at s; exact s
  | ct env' S' => rw [hf] at s; exact s
  | ex x env' S' => rw [hf] at s; exact s
  | bad => rw [hf] at s; exact s
theorem gs_if {c : Expr} {body orelse : List Stmt} {fc : BX} {f g : SX} (hc : GT X W pin c fc) (hb : GSs X W pin body f) (ho : GSs X W pin orelse g) : GS X W pin (.If c body orelse pos) (sIf fc f g) :=
  PS.weak (ps_if hc hb ho) fun E σ H ⟨m, env, S, e, r, s⟩ => by
    refine ⟨m, env, S, e, r, (SSat.then (Rl := relB) e r s).mono fun y H1 ⟨m1, S1, b, p, e1, eb, s1⟩ => ?_⟩
    obtain rfl : y = b := eb
    cases y with
    | true => exact ⟨m1, env, S1, e1, p.rel, s1⟩
    | false => exact ⟨m1, env, S1, e1, p.rel, s1⟩
theorem gs_set {i : Nat} {x : Str} {px : Pos} {e : Expr} {f : EX} (hN : X.N.Nodup) (hi : X.N[i]? = some x) (hx : Loc X.env.scope x) (he : GE X W pin e f) (hp : ∀ p, pin ≠ some (i, p) := by first | exact fun _ z => nomatch z | (intro p z; injection z with z; injection z with z _; revert z; decide))
    (hf : X.fn x = true ∨ X.env.scope.names.lookup x = some .local := by first | exact .inl rfl | exact .inr rfl) (hs : swapsWithSole [.Name x px] e pos.line X.env = pure false := by rfl) (hw : swappedStores [.Name x px] e X.env = pure none := by rfl) : GS X W pin (.Assign [.Name x px] e pos) (sSet i f) :=
  PS.weak (ps_asg he (pg_name hN hi hx hf) hs hw) fun E σ H ⟨m, env, S, E0, r, s⟩ => by
    refine ⟨m, env, S, E0, r, (SSat.then (Rl := Rep X.K) E0 r s).mono fun y H1 ⟨m1, S1, d, p, e1, rd, s1⟩ => ?_⟩
    exact s1 m1 H1 _ (Post.refl p.rel) (e1.set rd hp)
theorem gs_ret {e : Expr} {f : EX} (he : GE X W pin e f) : GS X W pin (.Return (some e) pos) (sRet f) := PS.weak (ps_ret he) fun E σ H ⟨m, env, S, E0, r, s⟩ => by
  refine ⟨m, env, S, E0, r, (SSat.then (Rl := Rep X.K) E0 r s).mono fun y H1 ⟨m1, S1, d, p, e1, rd, s1⟩ => ?_⟩
  exact s1 m1 H1 y (Post.refl p.rel) rd
theorem gs_do {e : Expr} {f : EX} (he : GE X W pin e f) (hs : swapsWith e none pos.line X.env = pure false := by rfl) : GS X W pin (.Expr e pos) (sDo f) := PS.weak (ps_expr he hs) fun E σ H ⟨m, env, S, E0, r, s⟩ => by
  refine ⟨m, env, S, E0, r, (SSat.then (Rl := Rep X.K) E0 r s).mono fun y H1 ⟨m1, S1, d, p, e1, rd, s1⟩ => ?_⟩
  exact s1 m1 H1 σ (Post.refl p.rel) e1
end
end G
set_option maxRecDepth 100000
set_option exponentiation.threshold 600
/-! The layer G, part 2: operators, comparisons, truth, tuples, lists. -/
namespace G
open PySem PySem.Spec PyProof.Rows L2

/-- an operator on two data; none: not served -/
abbrev Op2 := D → D → Sto → Option (D × Sto)
def ofO {α : Type} : Option (α × Sto) → R α
  | some (x, S) => .ok x S
  | none => .bad
@[simp] theorem ofO_some {α : Type} (x : α) (S : Sto) : ofO (some (x, S)) = .ok x S := rfl
@[simp] theorem ofO_none {α : Type} : ofO (none : Option (α × Sto)) = .bad := rfl
def wNo : WX := fun _ _ _ _ => False
/-- the reading of an operator -/
def rdO (K : PySem.W.Frag) (mg : Str → Option Value) (g : Op2) : R2 := fun x y H Q => ∃ m S d e, SRel K mg m S H ∧ Rep K m S.length H d x ∧ Rep K m S.length H e y ∧ Sat K mg wNo [] m S H (Rep K) Q (ofO (g d e S))
def rdO1 (K : PySem.W.Frag) (mg : Str → Option Value) (g : D → Sto → Option (D × Sto)) : V → Hp → VK → Prop := fun x H Q => ∃ m S d, SRel K mg m S H ∧ Rep K m S.length H d x ∧ Sat K mg wNo [] m S H (Rep K) Q (ofO (g d S))
theorem ofO_exc {α : Type} {o : Option (α × Sto)} (e : Exn) (S' : Sto) : ofO o ≠ .exc e S' := by
  cases o with
  | none => exact fun h => nomatch h
  | some p => exact fun h => nomatch h
def eBin (g : Op2) (fa fb : EX) : EX := fun env S => (fa env S).bind fun d S1 => (fb env S1).bind fun e S2 => ofO (g d e S2)
def eUn (g : D → Sto → Option (D × Sto)) (fa : EX) : EX := fun env S => (fa env S).bind fun d S1 => ofO (g d S1)
def tBin (g : Op2) (fa fb : EX) : BX := fun env S => (fa env S).bind fun d S1 => (fb env S1).bind fun e S2 => (ofO (g d e S2)).bind fun r S3 => match r with
  | .a (.bl b) => .ok b S3
  | _ => .bad

section
variable {X : Cx} {W : WX} {pin : Option (Nat × Addr)} {pos : Pos} {a b : Expr} {fa fb : EX}
theorem rdO_mk {K : PySem.W.Frag} {mg : Str → Option Value} {g : Op2} {m : Nat → Addr} {S : Sto} {H : Hp} {d e : D} {x y : V} {Q : VK} {σ : L2.St} (r : SRel K mg m S H) (h1 : Rep K m S.length H d x) (h2 : Rep K m S.length H e y)
    (s : Sat K mg W σ m S H (Rep K) Q (ofO (g d e S))) : rdO K mg g x y H Q := ⟨m, S, d, e, r, h1, h2, s.wish ofO_exc⟩
theorem ge_op {op : Operator} {g : Op2} (ho : OpR X (binaryOp op) (rdO X.K X.mg g)) (ha : GE X W pin a fa) (hb : GE X W pin b fb) : GE X W pin (.BinOp a op b pos) (eBin g fa fb) :=
  PE.weak (pe_op ho ha hb) fun σ H Q ⟨m, env, S, E, r, s⟩ => rdE_bind E r s fun x H1 m1 S1 d p1 E1 r1 rd s1 => rdE_bind E1 r1 s1 fun y H2 m2 S2 e p2 E2 r2 re s2 => rdO_mk r2 ((p2.keep r1).rep _ _ rd) re s2
theorem ge_un {op : UnaryOp} {g : D → Sto → Option (D × Sto)} (ho : UnR X (unaryOp op) (rdO1 X.K X.mg g)) (ha : GE X W pin a fa) : GE X W pin (.UnaryOp op a pos) (eUn g fa) :=
  PE.weak (pe_un ho ha) fun σ H Q ⟨m, env, S, E, r, s⟩ => rdE_bind E r s fun x H1 m1 S1 d p1 E1 r1 rd s1 => ⟨m1, S1, d, r1, rd, s1.wish ofO_exc⟩
theorem ge_cmp {op : CmpOp} {g : Op2} (ho : OpR X (compareOp op) (rdO X.K X.mg g)) (ha : GE X W pin a fa) (hb : GE X W pin b fb) (hm : behindInMarks op b = false) : GE X W pin (.Compare a [op] [b] pos) (eBin g fa fb) :=
  PE.weak (pe_cmpR ho ha hb hm) fun σ H Q ⟨m, env, S, E, r, s⟩ => rdE_bind E r s fun x H1 m1 S1 d p1 E1 r1 rd s1 => rdE_bind E1 r1 s1 fun y H2 m2 S2 e p2 E2 r2 re s2 => rdO_mk r2 ((p2.keep r1).rep _ _ rd) re s2
theorem gt_cmp {op : CmpOp} {g : Op2} (ho : OpR X (compareOp op) (rdO X.K X.mg g)) (ha : GE X W pin a fa) (hb : GE X W pin b fb) (hm : behindInMarks op b = false) : GT X W pin (.Compare a [op] [b] pos) (tBin g fa fb) :=
  PT.weak (pt_cmpR ho ha hb hm) fun σ H Q ⟨m, env, S, E, r, s⟩ => rdE_bind E r s fun x H1 m1 S1 d p1 E1 r1 rd s1 => rdE_bind E1 r1 s1 fun y H2 m2 S2 e p2 E2 r2 re s2 => by
    refine rdO_mk r2 ((p2.keep r1).rep _ _ rd) re ((s2.bind (Rl' := Rep X.K)).mono fun z H3 ⟨m3, S3, d3, p3, rz, s3⟩ => ?_)
    cases d3 with
    | a v =>
      cases v with
      | bl c =>
        obtain rfl : z = .bl c := rz
        exact ⟨c, rfl, s3.here p3.rel rfl⟩
      | _ => exact s3.elim
    | _ => exact s3.elim

instance decMul (i j : Int) : Decidable (CMul i j) := by unfold CMul; exact inferInstance
instance decPow (i j : Int) : Decidable (CPow i j) := by unfold CPow; exact inferInstance
/-! ### numbers, texts, tuples, lists by + -/
def dSub : Op2 := fun x y S => match x, y with
  | .a (.int i), .a (.int j) => some (.a (.int (i - j)), S)
  | _, _ => none
def dAdd : Op2 := fun x y S => match x, y with
  | .a (.int i), .a (.int j) => some (.a (.int (i + j)), S)
  | .a (.str s), .a (.str t) => if s.length + t.length ≤ sizeLine then some (.a (.str (s ++ t)), S) else none
  | .tup xs, .tup ys => if xs.length + ys.length ≤ sizeLine then some (.tup (xs ++ ys), S) else none
  | .cel i, .cel j => match S[i]?, S[j]? with
    | some (.lst xs), some (.lst ys) => if xs.length + ys.length ≤ sizeLine then some (.cel S.length, S ++ [.lst (xs ++ ys)]) else none
    | _, _ => none
  | _, _ => none
def dMul : Op2 := fun x y S => match x, y with
  | .a (.int i), .a (.int j) => if CMul i j then some (.a (.int (i * j)), S) else none
  | .tup xs, .a (.int k) => if xs ≠ [] ∧ 2 ≤ k ∧ k ≤ 1000 ∧ xs.length ≤ 1000 then some (.tup (List.replicate k.toNat xs).flatten, S) else if k = 1 then some (.tup xs, S) else none
  | .cel i, .a (.int k) => match S[i]? with
    | some (.lst xs) => if -(2 ^ 63) ≤ k ∧ k < 2 ^ 63 ∧ xs.length * k.toNat ≤ sizeLine then some (.cel S.length, S ++ [.lst (List.replicate k.toNat xs).flatten]) else none
    | _ => none
  | _, _ => none
def dDiv : Op2 := fun x y S => match x, y with
  | .a (.int i), .a (.int j) => if 0 < j ∧ j < 2 ^ 300 then some (.a (.int (i / j)), S) else none
  | _, _ => none
def dMod : Op2 := fun x y S => match x, y with
  | .a (.int i), .a (.int j) => if 0 < j then some (.a (.int (i % j)), S) else none
  | _, _ => none
def dPow : Op2 := fun x y S => match x, y with
  | .a (.int i), .a (.int j) => if CPow i j then some (.a (.int (i ^ j.toNat)), S) else none
  | _, _ => none
def dNeg : D → Sto → Option (D × Sto) := fun x S => match x with
  | .a (.int i) => some (.a (.int (-i)), S)
  | _ => none
/-- two ints to a truth -/
def dInts (p : Int → Int → Bool) : Op2 := fun x y S => match x, y with
  | .a (.int i), .a (.int j) => some (.a (.bl (p i j)), S)
  | _, _ => none
def dLt : Op2 := dInts fun i j => decide (i < j)
def dLe : Op2 := dInts fun i j => decide (i ≤ j)
def dGt : Op2 := dInts fun i j => decide (j < i)
def dGe : Op2 := dInts fun i j => decide (j ≤ i)

section
variable {K : PySem.W.Frag} {mg : Str → Option Value} {m : Nat → Addr} {S : Sto} {H : Hp} {N : Nat}
theorem rep_int {i : Int} {v : V} (h : Rep K m N H (.a (.int i)) v) : v = .int i := h
/-- two ints with a pure answer -/
theorem op_ints {f : Value → Value → Sem Value} {C : Int → Int → Prop} {gv : Int → Int → V} {g : Op2} (ho : OpR X f (rI C gv))
    (hg : ∀ d e S r, g d e S = some r → ∃ i j, d = .a (.int i) ∧ e = .a (.int j) ∧ C i j ∧ r = (.a (gv i j), S)) : OpR X f (rdO X.K X.mg g) := by
  intro pins s σ H x y v u Q I rx ry ⟨m, S, d, e, r, h1, h2, sa⟩
  cases hq : g d e S with
  | none => rw [hq] at sa; exact sa.elim
  | some w =>
    rw [hq] at sa
    obtain ⟨i, j, rfl, rfl, hc, rfl⟩ := hg d e S w hq
    obtain rfl : x = .int i := h1
    obtain rfl : y = .int j := h2
    exact ho pins s σ H _ _ v u Q I rx ry ⟨i, j, rfl, rfl, hc, sa.here r rfl⟩
theorem op_ints0 {f : Value → Value → Sem Value} {gv : Int → Int → V} {g : Op2} (ho : OpR X f (rI0 gv))
    (hg : ∀ d e S r, g d e S = some r → ∃ i j, d = .a (.int i) ∧ e = .a (.int j) ∧ r = (.a (gv i j), S)) : OpR X f (rdO X.K X.mg g) := by
  intro pins s σ H x y v u Q I rx ry ⟨m, S, d, e, r, h1, h2, sa⟩
  cases hq : g d e S with
  | none => rw [hq] at sa; exact sa.elim
  | some w =>
    rw [hq] at sa
    obtain ⟨i, j, rfl, rfl, rfl⟩ := hg d e S w hq
    obtain rfl : x = .int i := h1
    obtain rfl : y = .int j := h2
    exact ho pins s σ H _ _ v u Q I rx ry ⟨i, j, rfl, rfl, sa.here r rfl⟩
end
theorem o_sub : OpR X (binaryOp .Sub) (rdO X.K X.mg dSub) := op_ints0 op_sub fun d e S r h => by
  unfold dSub at h
  split at h
  · exact ⟨_, _, rfl, rfl, (Option.some.inj h).symm⟩
  · cases h
theorem o_div : OpR X (binaryOp .FloorDiv) (rdO X.K X.mg dDiv) := op_ints op_fdivW fun d e S r h => by
  unfold dDiv at h
  split at h
  · split at h
    · rename_i i j hc
      refine ⟨i, j, rfl, rfl, wide_div (b := 300) hc.1 ?_ (by decide) (by decide), (Option.some.inj h).symm⟩
      have h2 : (j.natAbs : Int) = j := Int.natAbs_of_nonneg (Int.le_of_lt hc.1)
      have h3 : (j.natAbs : Int) < ((2 ^ 300 : Nat) : Int) := by rw [h2]; exact hc.2
      exact Int.ofNat_lt.mp h3
    · cases h
  · cases h
theorem o_mod : OpR X (binaryOp .Mod) (rdO X.K X.mg dMod) := op_ints op_mod fun d e S r h => by
  unfold dMod at h
  split at h
  · split at h
    · rename_i i j hc
      exact ⟨_, _, rfl, rfl, hc, (Option.some.inj h).symm⟩
    · cases h
  · cases h
theorem o_pow : OpR X (binaryOp .Pow) (rdO X.K X.mg dPow) := op_ints op_pow fun d e S r h => by
  unfold dPow at h
  split at h
  · split at h
    · rename_i i j hc
      exact ⟨_, _, rfl, rfl, hc, (Option.some.inj h).symm⟩
    · cases h
  · cases h
theorem ints_of {p : Int → Int → Bool} : ∀ d e S r, dInts p d e S = some r → ∃ i j, d = .a (.int i) ∧ e = .a (.int j) ∧ r = (.a (.bl (p i j)), S) := fun d e S r h => by
  unfold dInts at h
  split at h
  · exact ⟨_, _, rfl, rfl, (Option.some.inj h).symm⟩
  · cases h
theorem o_lt : OpR X (compareOp .Lt) (rdO X.K X.mg dLt) := op_ints0 op_lt ints_of
theorem o_le : OpR X (compareOp .LtE) (rdO X.K X.mg dLe) := op_ints0 op_le ints_of
theorem o_gt : OpR X (compareOp .Gt) (rdO X.K X.mg dGt) := op_ints0 op_gt ints_of
theorem o_ge : OpR X (compareOp .GtE) (rdO X.K X.mg dGe) := op_ints0 op_ge ints_of
theorem u_neg : UnR X (unaryOp .USub) (rdO1 X.K X.mg dNeg) := by
  intro pins s σ H x v Q I rx ⟨m, S, d, r, h1, sa⟩
  unfold dNeg at sa
  split at sa
  · obtain rfl := rep_int h1
    exact un_neg pins s σ H _ v Q I rx ⟨_, rfl, sa.here r rfl⟩
  · exact sa.elim
theorem o_add (hu : True := trivial) : OpR X (binaryOp .Add) (rdO X.K X.mg dAdd) := by
  intro pins s σ H x y v u Q I rx ry ⟨m, S, d, e, r, h1, h2, sa⟩
  unfold dAdd at sa
  split at sa
  · rename_i i j
    obtain rfl := rep_int h1
    obtain rfl := rep_int h2
    exact op_add pins s σ H _ _ v u Q I rx ry ⟨i, j, rfl, rfl, sa.here r rfl⟩
  · rename_i i j
    obtain rfl : x = .str i := h1
    obtain rfl : y = .str j := h2
    split at sa
    · rename_i hz
      exact op_add_str pins s σ H _ _ v u Q I rx ry ⟨i, j, rfl, rfl, hz, sa.here r rfl⟩
    · exact sa.elim
  · rename_i xs ys
    obtain ⟨p, vs, rfl, hp, zp, rp⟩ := h1
    obtain ⟨q, ws, rfl, hq, zq, rq⟩ := h2
    split at sa
    · rename_i hz
      have hz' : vs.length + ws.length ≤ sizeLine := by rw [rp.len, rq.len]; exact hz
      refine op_catA pins s σ H _ _ v u Q I rx ry ⟨p, q, vs, ws, rfl, rfl, hp, hq, hz', fun e => ?_, fun _ e => ?_, fun _ _ t ht => ?_⟩
      · subst e
        refine sa.here r ⟨q, ws, rfl, hq, zq, ?_⟩
        have : xs = [] := by cases xs with
          | nil => rfl
          | cons z zs => have := rp.len; simp at this
        subst this
        exact rq
      · subst e
        refine sa.here r ⟨p, vs, rfl, hp, zp, ?_⟩
        have : ys = [] := by cases ys with
          | nil => rfl
          | cons z zs => have := rq.len; simp at this
        subst this
        rw [List.append_nil]
        exact rp
      · have p1 := Post.same r (same_upd (o := .tup (vs ++ ws)) ht)
        have k1 := p1.keep r
        exact sa.ok p1 ⟨t, vs ++ ws, rfl, SqT.of upd_same, by rw [List.length_append]; exact hz', (k1.repL _ _ rp).append (k1.repL _ _ rq)⟩
    · exact sa.elim
  · rename_i i j
    obtain ⟨hi, rfl⟩ := h1
    obtain ⟨hj, rfl⟩ := h2
    split at sa
    · rename_i xs ys hx hy
      obtain ⟨vs, ev, zv, rv⟩ := r.at_ _ _ hx
      obtain ⟨ws, ew, zw, rw'⟩ := r.at_ _ _ hy
      split at sa
      · rename_i hz
        have hz' : vs.length + ws.length ≤ sizeLine := by rw [rv.len, rw'.len]; exact hz
        refine op_cat pins s σ H _ _ v u Q I rx ry ⟨_, _, vs, ws, rfl, rfl, ev, ew, hz', fun t ht => ?_⟩
        have k1 : Keep m S.length H (mAt m S.length t) (S.length + 1) (upd H t (.lst (vs ++ ws))) := ⟨Nat.le_succ _, fun i hi => mAt_lt hi, fun q o h _ => same_upd ht q o h⟩
        have p1 := Post.push (c := .lst (xs ++ ys)) r (same_upd (o := .lst (vs ++ ws)) ht) ht ⟨vs ++ ws, upd_same, by rw [List.length_append]; exact hz', (k1.repL _ _ rv).append (k1.repL _ _ rw')⟩
        exact sa.ok p1 ⟨by simp, by rw [mAt_self]⟩
      · exact sa.elim
    · exact sa.elim
  · exact sa.elim
theorem flat_rep {K : PySem.W.Frag} {m : Nat → Addr} {N : Nat} {H : Hp} {xs : List D} {vs : List V} (r : RepL K m N H xs vs) : ∀ k : Nat, RepL K m N H (List.replicate k xs).flatten (List.replicate k vs).flatten
  | 0 => rfl
  | k + 1 => by
    rw [List.replicate_succ, List.replicate_succ, List.flatten_cons, List.flatten_cons]
    exact r.append (flat_rep r k)
theorem flat_len {α : Type} (xs : List α) : ∀ k : Nat, (List.replicate k xs).flatten.length = xs.length * k
  | 0 => rfl
  | k + 1 => by rw [List.replicate_succ, List.flatten_cons, List.length_append, flat_len xs k, Nat.mul_succ]; omega
set_option maxHeartbeats 4000000 in
theorem tuple_mul1 (l : Addr) (items : Array Value) (n : Nat) (dd : Option Addr) (sl : Array (Option Value)) (u : Tok) :
    Meets (Builtin.«tuple.__mul__» ⟨[.ref l, .int 1 u], []⟩) (fun _ R s => s.heap.get? l = some { cls := .type "tuple", dict := dd, data := .seq items n, slots := sl } ∧
      R (.ok (.ret (Value.ref l))) s) :=
  .of_wp fun prog w A R s h => by
    obtain ⟨hp, g, d, tk, os⟩ := s
    obtain ⟨hl, h⟩ := h
    have f1 := AutoSeq1.idx_int
    wp_walk using wpAny_loadPart' hl
    exact ⟨_, rfl, h⟩
/-- a tuple by 1: the same tuple -/
theorem op_rep1 : OpR X (binaryOp .Mult) (fun x y H Q => ∃ l xs, x = .ref l ∧ y = .int 1 ∧ SqT X.K H l xs ∧ Q (.ref l) H) := by
  intro pins s σ H x y v u Q I rx ry h
  obtain ⟨l, xs, rfl, rfl, hT, q⟩ := h
  cases rx
  obtain ⟨t, rfl⟩ := ry
  obtain ⟨its, r, ⟨⟨cls, dd, data, sl⟩, ho, hc, n, hd⟩, hs⟩ := I.tuple hT
  simp only at hc hd
  subst hc hd
  refine wpAny_binaryOp_repeat_ref (T := "tuple") (U := "int") (by decide) ⟨_, ho, rfl⟩ (fun s' => typeIs_int s' 1 t) noFill_tuple_mul F.fills_int_mul F.slot_int_rmul repeat_tuple F.slot_int_index.lookup
    (call_meets F.slot_int_rmul (typeIs_int s 1 t) F.entry_int_rmul (F.args_int_rmul_2 _ _) (int_rmul_tuple 1 t l its.toArray n dd sl)
      ⟨ho, rfl, ⟨_, ho, rfl⟩, call_meets F.slot_tuple_mul ⟨_, ho, rfl⟩ F.entry_tuple_mul (F.args_tuple_mul_2 _ _) (tuple_mul1 l its.toArray n dd sl t) ⟨ho, ?_⟩⟩)
  exact ⟨.ref l, H, I, rfl, q⟩
theorem o_mul : OpR X (binaryOp .Mult) (rdO X.K X.mg dMul) := by
  intro pins s σ H x y v u Q I rx ry ⟨m, S, d, e, r, h1, h2, sa⟩
  unfold dMul at sa
  split at sa
  · rename_i i j
    obtain rfl := rep_int h1
    obtain rfl := rep_int h2
    split at sa
    · rename_i hz
      exact op_mul pins s σ H _ _ v u Q I rx ry ⟨i, j, rfl, rfl, hz, sa.here r rfl⟩
    · exact sa.elim
  · rename_i xs k
    obtain ⟨p, vs, rfl, hp, zp, rp⟩ := h1
    obtain rfl := rep_int h2
    split at sa
    · rename_i hc
      obtain ⟨c1, c2, c3, c4⟩ := hc
      have hl := rp.len
      refine op_repT pins s σ H _ _ v u Q I rx ry ⟨p, k, vs, rfl, rfl, hp, fun e => c1 ?_, c2, c3, by rw [hl]; exact c4, fun t ht => ?_⟩
      · rw [e] at hl
        exact List.eq_nil_of_length_eq_zero hl.symm
      · have p1 := Post.same r (same_upd (o := .tup (List.replicate k.toNat vs).flatten) ht)
        refine sa.ok p1 ⟨t, _, rfl, SqT.of upd_same, ?_, flat_rep ((p1.keep r).repL _ _ rp) _⟩
        rw [flat_len]
        have h3 : k.toNat ≤ 1000 := by omega
        have h4 : vs.length * k.toNat ≤ 1000 * 1000 := Nat.mul_le_mul (by omega) h3
        have h5 : 1000 * 1000 ≤ sizeLine := by decide
        omega
    · split at sa
      · rename_i hk
        subst hk
        exact op_rep1 pins s σ H _ _ v u Q I rx ry ⟨p, vs, rfl, rfl, hp, sa.here r ⟨p, vs, rfl, hp, zp, rp⟩⟩
      · exact sa.elim
  · rename_i i k
    obtain ⟨hi, rfl⟩ := h1
    obtain rfl := rep_int h2
    split at sa
    · rename_i xs hx
      obtain ⟨vs, ev, zv, rv⟩ := r.at_ _ _ hx
      split at sa
      · rename_i hc
        obtain ⟨c1, c2, c3⟩ := hc
        have hl := rv.len
        refine op_rep pins s σ H _ _ v u Q I rx ry ⟨_, k, vs, rfl, rfl, ev, c1, c2, by rw [hl]; exact c3, fun t ht => ?_⟩
        have k1 : Keep m S.length H (mAt m S.length t) (S.length + 1) (upd H t (.lst (List.replicate k.toNat vs).flatten)) := ⟨Nat.le_succ _, fun i hi => mAt_lt hi, fun q o h _ => same_upd ht q o h⟩
        have p1 := Post.push (c := .lst (List.replicate k.toNat xs).flatten) r (same_upd (o := .lst (List.replicate k.toNat vs).flatten) ht) ht ⟨_, upd_same, by rw [flat_len, hl]; exact c3, flat_rep (k1.repL _ _ rv) _⟩
        exact sa.ok p1 ⟨by simp, by rw [mAt_self]⟩
      · exact sa.elim
    · exact sa.elim
  · exact sa.elim
end
end G
set_option maxRecDepth 100000
/-! The layer G, part 3: truth, and, or, not; comparisons; displays; subscripts; calls of built-ins. -/
namespace G
open PySem PySem.Spec PyProof.Rows L2

/-! ### truth -/
def dTruth : D → Sto → Option Bool := fun d S => match d with
  | .a .non => some false
  | .a (.bl b) => some b
  | .a (.int i) => some (i != 0)
  | .a (.str y) => if y.length ≤ sizeLine then some (y.length != 0) else none
  | .tup ds => some (!ds.isEmpty)
  | .ils ds => some (!ds.isEmpty)
  | .cel n => match S[n]? with
    | some (.lst ds) => some (!ds.isEmpty)
    | some (.dic kvs) => some (!kvs.isEmpty)
    | _ => none
  | _ => none
def ofB : Option Bool → Sto → R Bool
  | some b, S => .ok b S
  | none, _ => .bad
@[simp] theorem ofB_some (b : Bool) (S : Sto) : ofB (some b) S = .ok b S := rfl
@[simp] theorem ofB_none (S : Sto) : ofB none S = .bad := rfl
def tOf (f : EX) : BX := fun env S => (f env S).bind fun d S1 => ofB (dTruth d S1) S1
def tAnd (f g : BX) : BX := fun env S => (f env S).bind fun b S1 => bif b then g env S1 else .ok false S1
def tOr (f g : BX) : BX := fun env S => (f env S).bind fun b S1 => bif b then .ok true S1 else g env S1
def tNot (f : BX) : BX := fun env S => (f env S).bind fun b S1 => .ok (!b) S1
def eAnd (f g : EX) : EX := fun env S => (f env S).bind fun d S1 => match d with
  | .a (.bl true) => g env S1
  | .a (.bl false) => .ok (.a (.bl false)) S1
  | _ => .bad
def eOr (f g : EX) : EX := fun env S => (f env S).bind fun d S1 => match d with
  | .a (.bl false) => g env S1
  | .a (.bl true) => .ok (.a (.bl true)) S1
  | _ => .bad
def eNot (f : EX) : EX := fun env S => (f env S).bind fun d S1 => match d with
  | .a (.bl b) => .ok (.a (.bl (!b))) S1
  | _ => .bad
def eIf (c : BX) (f g : EX) : EX := fun env S => (c env S).bind fun b S1 => bif b then f env S1 else g env S1

section
variable {X : Cx} {W : WX} {pin : Option (Nat × Addr)} {pos : Pos} {a b c : Expr} {fa fb : EX} {ta tb tc : BX} {rest : List Expr}
theorem repL_emp {K : PySem.W.Frag} {m : Nat → Addr} {N : Nat} {H : Hp} {ds : List D} {vs : List V} (h : RepL K m N H ds vs) : (!ds.isEmpty) = !vs.isEmpty := by
  cases ds with
  | nil => rw [show vs = [] from h]; rfl
  | cons d ds => obtain ⟨v, r, rfl, _⟩ := h; rfl
theorem truth_rep {K : PySem.W.Frag} {mg : Str → Option Value} {m : Nat → Addr} {S : Sto} {H : Hp} {d : D} {v : V} {k : Bool} (r : SRel K mg m S H) (h : Rep K m S.length H d v) (e : dTruth d S = some k) : TruV K v H k := by
  unfold dTruth at e
  cases d with
  | a w =>
    obtain rfl : v = w := h
    cases v with
    | non => exact (Option.some.inj e).symm
    | bl b => exact (Option.some.inj e).symm
    | int i => exact (Option.some.inj e).symm
    | str y =>
      dsimp only at e
      split at e
      · rename_i hz
        refine ⟨hz, ?_⟩
        rw [← Option.some.inj e]
        by_cases h0 : y.length = 0
        · rw [h0]; rfl
        · have h1 : ((y.length : Int) != 0) = true := by simp; omega
          rw [h1]; simpa using h0
      · cases e
    | _ => cases e
  | tup ds =>
    obtain ⟨p, vs, rfl, hp, _, rp⟩ := h
    exact .inr (.inl ⟨vs, hp, by rw [← Option.some.inj e, repL_emp rp]⟩)
  | ils ds =>
    obtain ⟨p, vs, rfl, hp, _, rp⟩ := h
    refine .inl ⟨vs, ?_, by rw [← Option.some.inj e, repL_emp rp]⟩
    rcases hp with ⟨o, h⟩ | h
    · exact .inl (.inr ⟨o, h⟩)
    · exact .inr h
  | cel n =>
    obtain ⟨hn, rfl⟩ := h
    dsimp only at e
    split at e
    · rename_i ds hS
      obtain ⟨vs, ev, _, rv⟩ := r.at_ _ _ hS
      exact .inl ⟨vs, SqL.of ev, by rw [← Option.some.inj e, repL_emp rv]⟩
    · rename_i kvs hS
      obtain ⟨ws, ev, _, rv⟩ := r.at_ _ _ hS
      refine .inr (.inr ⟨ws, ev, ?_⟩)
      rw [← Option.some.inj e]
      cases kvs with
      | nil => rw [show ws = [] from rv]; rfl
      | cons d ds => obtain ⟨v, r, rfl, _⟩ := rv; rfl
    · cases e
theorem gt_of (he : GE X W pin a fa) (ht : ∀ whole, isTrue a X.env whole = (do let v ← whole; standAt a.pos; holding [v] (truthy v)) := by intro _; rfl) : GT X W pin a (tOf fa) :=
  PT.weak (pt_truth he ht) fun σ H Q ⟨m, env, S, E, r, s⟩ => rdE_bind E r s fun x H1 m1 S1 d p1 E1 r1 rd s1 => by
    cases e : dTruth d S1 with
    | none => rw [e] at s1; exact s1.elim
    | some k =>
      rw [e] at s1
      exact ⟨k, truth_rep r1 rd e, s1.here r1 rfl⟩
theorem gw_and1 (ha : GT X W pin a ta) : GW X W pin (.BoolOp .And [a] pos) ta := pw_and1 ha
theorem gw_or1 (ha : GT X W pin a ta) : GW X W pin (.BoolOp .Or [a] pos) ta := pw_or1 ha
theorem gw_and (ha : GT X W pin a ta) (hb : GW X W pin (.BoolOp .And (b :: rest) pos) tb) : GW X W pin (.BoolOp .And (a :: b :: rest) pos) (tAnd ta tb) :=
  PW.weak (pw_and ha hb) fun σ H Q ⟨m, env, S, E, r, s⟩ => rdT_bind E r s fun k H1 m1 S1 p1 E1 r1 s1 => by
    cases k with
    | true => exact ⟨m1, env, S1, E1, r1, s1⟩
    | false => exact s1.here r1 rfl
theorem gw_or (ha : GT X W pin a ta) (hb : GW X W pin (.BoolOp .Or (b :: rest) pos) tb) : GW X W pin (.BoolOp .Or (a :: b :: rest) pos) (tOr ta tb) :=
  PW.weak (pw_or ha hb) fun σ H Q ⟨m, env, S, E, r, s⟩ => rdT_bind E r s fun k H1 m1 S1 p1 E1 r1 s1 => by
    cases k with
    | false => exact ⟨m1, env, S1, E1, r1, s1⟩
    | true => exact s1.here r1 rfl
theorem gt_w (h : GW X W pin a ta) : GT X W pin a ta := PW.pt h
theorem gt_not (ha : GT X W pin a ta) : GT X W pin (.UnaryOp .Not a pos) (tNot ta) :=
  PT.weak (pt_not ha) fun σ H Q ⟨m, env, S, E, r, s⟩ => rdT_bind E r s fun k H1 m1 S1 p1 E1 r1 s1 => s1.here r1 rfl
theorem ge_one {op} (h : GE X W pin a fa) : GE X W pin (.BoolOp op [a] pos) fa := pe_one h
theorem ge_and (ha : GE X W pin a fa) (hb : GE X W pin (.BoolOp .And (b :: rest) pos) fb) : GE X W pin (.BoolOp .And (a :: b :: rest) pos) (eAnd fa fb) :=
  PE.weak (pe_and ha hb) fun σ H Q ⟨m, env, S, E, r, s⟩ => rdE_bind E r s fun x H1 m1 S1 d p1 E1 r1 rd s1 => by
    cases d with
    | a v =>
      cases v with
      | bl k =>
        obtain rfl : x = .bl k := rd
        cases k with
        | true => exact ⟨true, rfl, m1, env, S1, E1, r1, s1⟩
        | false => exact ⟨false, rfl, s1.here r1 rfl⟩
      | _ => exact s1.elim
    | _ => exact s1.elim
theorem ge_or (ha : GE X W pin a fa) (hb : GE X W pin (.BoolOp .Or (b :: rest) pos) fb) : GE X W pin (.BoolOp .Or (a :: b :: rest) pos) (eOr fa fb) :=
  PE.weak (pe_or ha hb) fun σ H Q ⟨m, env, S, E, r, s⟩ => rdE_bind E r s fun x H1 m1 S1 d p1 E1 r1 rd s1 => by
    cases d with
    | a v =>
      cases v with
      | bl k =>
        obtain rfl : x = .bl k := rd
        cases k with
        | false => exact ⟨false, rfl, m1, env, S1, E1, r1, s1⟩
        | true => exact ⟨true, rfl, s1.here r1 rfl⟩
      | _ => exact s1.elim
    | _ => exact s1.elim
theorem ge_not (ha : GE X W pin a fa) : GE X W pin (.UnaryOp .Not a pos) (eNot fa) :=
  PE.weak (pe_not ha) fun σ H Q ⟨m, env, S, E, r, s⟩ => rdE_bind E r s fun x H1 m1 S1 d p1 E1 r1 rd s1 => by
    cases d with
    | a v =>
      cases v with
      | bl k =>
        obtain rfl : x = .bl k := rd
        exact ⟨k, rfl, s1.here r1 rfl⟩
      | _ => exact s1.elim
    | _ => exact s1.elim
theorem ge_if (hc : GT X W pin c tc) (ha : GE X W pin a fa) (hb : GE X W pin b fb) : GE X W pin (.IfExp c a b pos) (eIf tc fa fb) :=
  PE.weak (pe_ifExp hc ha hb) fun σ H Q ⟨m, env, S, E, r, s⟩ => rdT_bind E r s fun k H1 m1 S1 p1 E1 r1 s1 => by
    cases k with
    | true => exact ⟨m1, env, S1, E1, r1, s1⟩
    | false => exact ⟨m1, env, S1, E1, r1, s1⟩
end

/-! ### equality, is -/
mutual
def pd : D → Option PyData
  | .a .non => some .none
  | .a (.bl b) => some (.bool b)
  | .a (.int i) => some (.int i)
  | .a (.str x) => some (.str x)
  | .tup ds => (pdL ds).map .tuple
  | .ils ds => (pdL ds).map .list
  | _ => none
def pdL : List D → Option (List PyData)
  | [] => some []
  | d :: ds => match pd d, pdL ds with
    | some x, some xs => some (x :: xs)
    | _, _ => none
end
/-- lists of cells at one depth -/
def pdS (S : Sto) : D → Option PyData
  | .cel n => match S[n]? with
    | some (.lst ds) => (pdL ds).map .list
    | _ => none
  | d => pd d
def eqD (S : Sto) (x y : D) : Option Bool := match x, y with
  | .a (.int i), .a (.int j) => some (decide (i = j))
  | .a (.str i), .a (.str j) => some (decide (i = j))
  | .a (.bl i), .a (.bl j) => some (decide (i = j))
  | x, y => match pdS S x, pdS S y with
    | some d, some e => if SeqAt.shaped d = true ∧ SeqAt.shaped e = true then some (PyData.eqv d e) else none
    | _, _ => none
def dEq : Op2 := fun x y S => (eqD S x y).map fun b => (.a (.bl b), S)
def dNe : Op2 := fun x y S => (eqD S x y).map fun b => (.a (.bl (!b)), S)
/-- is, is not: None, truths -/
def isD (x y : D) : Option Bool := match x, y with
  | .a (.bl i), .a (.bl j) => some (decide (i = j))
  | .a .non, .a .non => some true
  | _, .a .non => some false
  | _, _ => none
def dIs : Op2 := fun x y S => (isD x y).map fun b => (.a (.bl b), S)
def dIsNot : Op2 := fun x y S => (isD x y).map fun b => (.a (.bl (!b)), S)

section
variable {K : PySem.W.Frag} {mg : Str → Option Value} {m : Nat → Addr} {S : Sto} {H : Hp} {N : Nat}
mutual
theorem pd_rep : ∀ (d : D) (v : V) (x : PyData), Rep K m N H d v → pd d = some x → Dp K H v x
  | .a w, v, x, h, e => by
    obtain rfl : v = w := h
    cases v with
    | non => cases e; exact .non
    | bl b => cases e; exact .bl b
    | int i => cases e; exact .int i
    | str y => cases e; exact .str y
    | _ => cases e
  | .tup ds, v, x, ⟨p, vs, hv, hp, _, rp⟩, e => by
    subst hv
    unfold pd at e
    cases q : pdL ds with
    | none => rw [q] at e; cases e
    | some xs =>
      rw [q] at e
      cases e
      exact .tup hp (pdL_rep ds vs xs rp q)
  | .ils ds, v, x, ⟨p, vs, hv, hp, _, rp⟩, e => by
    subst hv
    unfold pd at e
    cases q : pdL ds with
    | none => rw [q] at e; cases e
    | some xs =>
      rw [q] at e
      cases e
      refine .lst ?_ (pdL_rep ds vs xs rp q)
      rcases hp with ⟨o, h⟩ | h
      · exact .inl (.inr ⟨o, h⟩)
      · exact .inr h
  | .cel n, v, x, _, e => by
    unfold pd at e
    cases e
theorem pdL_rep : ∀ (ds : List D) (vs : List V) (xs : List PyData), RepL K m N H ds vs → pdL ds = some xs → DpAll K H vs xs
  | [], vs, xs, h, e => by
    rw [show vs = [] from h]
    unfold pdL at e
    cases e
    exact .nil
  | d :: ds, vs, xs, ⟨v, r, hv, h1, h2⟩, e => by
    subst hv
    unfold pdL at e
    split at e
    · rename_i y ys h3 h4
      cases e
      exact .cons (pd_rep d v y h1 h3) (pdL_rep ds r ys h2 h4)
    · cases e
end
theorem pdS_rep (r : SRel K mg m S H) {d : D} {v : V} {x : PyData} (h : Rep K m S.length H d v) (e : pdS S d = some x) : Dp K H v x := by
  unfold pdS at e
  split at e
  · rename_i n
    obtain ⟨hn, rfl⟩ := h
    split at e
    · rename_i ds hS
      obtain ⟨vs, ev, _, rv⟩ := r.at_ _ _ hS
      cases q : pdL ds with
      | none => rw [q] at e; cases e
      | some xs =>
        rw [q] at e
        cases e
        exact .lst (SqL.of ev) (pdL_rep ds vs xs rv q)
    · cases e
  · exact pd_rep _ _ _ h e
end
section
variable {X : Cx}
theorem o_eqG {op : CmpOp} {rs : R2} {rp : R2} {neg : Bool → Bool} (h1 : OpR X (compareOp op) (fun x y H Q => scal x y = true ∧ Q (.bl (neg (decide (x = y)))) H))
    (h2 : OpR X (compareOp op) (fun x y H Q => ∃ d e, Dp X.K H x d ∧ Dp X.K H y e ∧ SeqAt.shaped d = true ∧ SeqAt.shaped e = true ∧ Q (.bl (neg (PyData.eqv d e))) H)) :
    OpR X (compareOp op) (rdO X.K X.mg fun x y S => (eqD S x y).map fun b => (.a (.bl (neg b)), S)) := by
  intro pins s σ H x y v u Q I rx ry ⟨m, S, d, e, r, hd, he, sa⟩
  dsimp only at sa
  cases hq : eqD S d e with
  | none => rw [hq] at sa; exact sa.elim
  | some k =>
    rw [hq] at sa
    have q : Q (.bl (neg k)) H := sa.here r rfl
    unfold eqD at hq
    split at hq
    · rename_i i j
      obtain rfl := rep_int hd
      obtain rfl := rep_int he
      refine h1 pins s σ H _ _ v u Q I rx ry ⟨rfl, ?_⟩
      rw [← Option.some.inj hq] at q
      rw [show decide ((V.int i) = V.int j) = decide (i = j) by simp]
      exact q
    · rename_i i j
      obtain rfl : x = .str i := hd
      obtain rfl : y = .str j := he
      refine h1 pins s σ H _ _ v u Q I rx ry ⟨rfl, ?_⟩
      rw [← Option.some.inj hq] at q
      rw [show decide ((V.str i) = V.str j) = decide (i = j) by simp]
      exact q
    · rename_i i j
      obtain rfl : x = .bl i := hd
      obtain rfl : y = .bl j := he
      refine h1 pins s σ H _ _ v u Q I rx ry ⟨rfl, ?_⟩
      rw [← Option.some.inj hq] at q
      rw [show decide ((V.bl i) = V.bl j) = decide (i = j) by simp]
      exact q
    · split at hq
      · rename_i d' e' hd' he'
        split at hq
        · rename_i hs
          refine h2 pins s σ H _ _ v u Q I rx ry ⟨d', e', pdS_rep r hd hd', pdS_rep r he he', hs.1, hs.2, ?_⟩
          rw [← Option.some.inj hq] at q
          exact q
        · cases hq
      · cases hq
theorem o_eq (hu : X.A.units + 64 < cLine) : OpR X (compareOp .Eq) (rdO X.K X.mg dEq) := o_eqG (rs := rEq) (rp := rEqD X.K) (neg := id) op_eq (op_eqD hu)
theorem o_ne (hu : X.A.units + 64 < cLine) : OpR X (compareOp .NotEq) (rdO X.K X.mg dNe) := o_eqG (rs := rNe) (rp := rNeD X.K) (neg := not) op_ne (op_neD hu)
theorem o_isG {op : CmpOp} {neg : Bool → Bool} (h1 : OpR X (compareOp op) (fun x y H Q => y = .non ∧ Q (.bl (neg (decide (x = .non)))) H))
    (h2 : OpR X (compareOp op) (fun x y H Q => ∃ a b : Bool, x = .bl a ∧ y = .bl b ∧ Q (.bl (neg (decide (a = b)))) H)) :
    OpR X (compareOp op) (rdO X.K X.mg fun x y S => (isD x y).map fun b => (.a (.bl (neg b)), S)) := by
  intro pins s σ H x y v u Q I rx ry ⟨m, S, d, e, r, hd, he, sa⟩
  dsimp only at sa
  cases hq : isD d e with
  | none => rw [hq] at sa; exact sa.elim
  | some k =>
    rw [hq] at sa
    have q : Q (.bl (neg k)) H := sa.here r rfl
    unfold isD at hq
    split at hq
    · rename_i i j
      obtain rfl : x = .bl i := hd
      obtain rfl : y = .bl j := he
      refine h2 pins s σ H _ _ v u Q I rx ry ⟨i, j, rfl, rfl, ?_⟩
      rw [← Option.some.inj hq] at q
      exact q
    · obtain rfl : x = .non := hd
      obtain rfl : y = .non := he
      refine h1 pins s σ H _ _ v u Q I rx ry ⟨rfl, ?_⟩
      rw [← Option.some.inj hq] at q
      exact q
    · rename_i hne
      obtain rfl : y = .non := he
      refine h1 pins s σ H _ _ v u Q I rx ry ⟨rfl, ?_⟩
      rw [← Option.some.inj hq] at q
      have hx : decide (x = V.non) = false := decide_eq_false fun z => by
        subst z
        cases d with
        | a w =>
          obtain rfl : V.non = w := hd
          exact hne rfl
        | tup ds => obtain ⟨_, _, e, _⟩ := hd; cases e
        | ils ds => obtain ⟨_, _, e, _⟩ := hd; cases e
        | cel n => obtain ⟨_, e⟩ := hd; cases e
      rw [hx]
      exact q
    · cases hq
theorem o_is : OpR X (compareOp .Is) (rdO X.K X.mg dIs) := o_isG (neg := id) op_isN op_isBl
theorem o_isnot : OpR X (compareOp .IsNot) (rdO X.K X.mg dIsNot) := o_isG (neg := not) op_notN op_notBl
end

/-! ### arguments, displays -/
def aNil : AX := fun _ S => .ok [] S
def aCons (f : EX) (g : AX) : AX := fun env S => (f env S).bind fun d S1 => (g env S1).bind fun ds S2 => .ok (d :: ds) S2
def eTup (f : AX) : EX := fun env S => (f env S).bind fun ds S1 => .ok (.tup ds) S1
section
variable {X : Cx} {W : WX} {pin : Option (Nat × Addr)} {pos : Pos} {e : Expr} {es : List Expr} {f : EX} {fa : AX}
theorem ga_nil : GA X W pin [] aNil := ⟨PA.weak pa_nil fun σ H Q ⟨m, env, S, E, r, s⟩ => s.here r (show RepL X.K m S.length H [] [] from rfl), fun _ _ _ _ h => by cases h; rfl⟩
theorem ga_cons (he : GE X W pin e f) (hr : GA X W pin es fa) (hs : starEach (e :: es) X.env = (false, eval e X.env) :: starEach es X.env := by rfl) : GA X W pin (e :: es) (aCons f fa) :=
  ⟨PA.weak (pa_cons he hr.run hs) fun σ H Q ⟨m, env, S, E, r, s⟩ => rdE_bind E r s fun x H1 m1 S1 d p1 E1 r1 rd s1 => rdA_bind E1 r1 s1 fun xs H2 m2 S2 ds p2 E2 r2 rs s2 =>
    s2.here r2 (show RepL X.K m2 S2.length H2 (d :: ds) (x :: xs) from ⟨x, xs, rfl, (p2.keep r1).rep _ _ rd, rs⟩), fun env S ds S' h => by
    unfold aCons at h
    cases h1 : f env S with
    | bad => rw [h1] at h; cases h
    | exc e S' => rw [h1] at h; cases h
    | ok d S1 =>
      rw [h1, R.bind_ok] at h
      cases h2 : fa env S1 with
      | bad => rw [h2] at h; cases h
      | exc e S' => rw [h2] at h; cases h
      | ok es S2 =>
        rw [h2, R.bind_ok] at h
        cases h
        rw [List.length_cons, List.length_cons, hr.len env S1 es _ h2]⟩
/-- the arguments, with their number -/
theorem ga_len {α : Type} {β : Type} {Rl : (Nat → Addr) → Nat → Hp → α → β → Prop} {Q : β → Hp → Prop} {m : Nat → Addr} {S : Sto} {H : Hp} {σ : L2.St} {env : Slots} {k : List D → Sto → R α} (h : GA X W pin es fa) (E : SlotsOk X.K pin m S.length H env σ) (r : SRel X.K X.mg m S H) (s : Sat X.K X.mg W σ m S H Rl Q ((fa env S).bind k)) {T : List V → Hp → Prop}
    (hT : ∀ vs H1 m1 S1 ds, ds.length = es.length → Post X.K X.mg m S H m1 S1 H1 → SlotsOk X.K pin m1 S1.length H1 env σ → SRel X.K X.mg m1 S1 H1 → RepL X.K m1 S1.length H1 ds vs → Sat X.K X.mg W σ m1 S1 H1 Rl Q (k ds S1) → T vs H1) : rdA X.K X.mg W pin fa σ H T := by
  refine ⟨m, env, S, E, r, ?_⟩
  have hl := h.len env S
  cases hf : fa env S with
  | bad => rw [hf] at s; exact s.elim
  | exc e S' => rw [hf] at s; exact s
  | ok ds S' =>
    rw [hf] at s
    intro m1 H1 vs p1 rx
    exact hT vs H1 m1 S' ds (hl ds S' hf) p1 (E.keep (p1.keep r)) p1.rel rx (Sat.step p1 s)
theorem ge_tup {x1} (h : GA X W pin es fa) (hz : es.length ≤ sizeLine := by decide) : GE X W pin (.Tuple es x1 pos) (eTup fa) :=
  PE.weak (pe_tup h.run) fun σ H Q ⟨m, env, S, E, r, s⟩ => ga_len h E r s fun xs H1 m1 S1 ds hn p1 E1 r1 rx s1 => by
    have hl : xs.length ≤ sizeLine := by rw [rx.len, hn]; exact hz
    refine ⟨hl, fun t ht => ?_⟩
    have p2 := Post.same r1 (same_upd (o := .tup xs) ht)
    exact s1.ok p2 ⟨t, xs, rfl, SqT.of upd_same, hl, (p2.keep r1).repL _ _ rx⟩
end
end G
set_option maxRecDepth 100000
/-! The layer G, part 4: subscripts, slices, temporary lists, calls of built-ins. -/
namespace G
open PySem PySem.Spec PyProof.Rows L2

theorem Post.none_back {K : PySem.W.Frag} {mg : Str → Option Value} {m m' : Nat → Addr} {S S' : Sto} {H H' : Hp} (p : Post K mg m S H m' S' H') {q : Addr} (h : H' q = none) : H q = none := by
  cases e : H q with
  | none => rfl
  | some o =>
    have z := p.frame q o e fun i hi e2 => by
      have h1 := p.ext i hi
      exact p.rel.apart0 h i (Nat.lt_of_lt_of_le hi p.len) (h1.trans e2)
    rw [h] at z
    cases z
/-- a new thing becomes a cell -/
theorem Post.adopt {K : PySem.W.Frag} {mg : Str → Option Value} {m m' : Nat → Addr} {S S' : Sto} {H H' : Hp} (p1 : Post K mg m S H m' S' H') {p : Addr} {c : Cell} (hn : H p = none) (ap : ∀ i, i < S'.length → m' i ≠ p)
    (hc : CellOk K mg (mAt m' S'.length p) (S'.length + 1) H' p c) : Post K mg m S H (mAt m' S'.length p) (S' ++ [c]) H' := by
  have k : Keep m' S'.length H' (mAt m' S'.length p) (S'.length + 1) H' := ⟨Nat.le_succ _, fun i hi => mAt_lt hi, fun q o h _ => h⟩
  refine ⟨⟨fun n c' e => ?_, fun i j hi hj e => ?_⟩, ?_, fun i hi => ?_, p1.frame, fun i h1 h2 => ?_, p1.frz⟩
  · rw [List.length_append, List.length_singleton]
    by_cases hl : n < S'.length
    · rw [List.getElem?_append_left hl] at e
      rw [mAt_lt hl]
      exact (p1.rel.at_ n c' e).mono k fun o h => h
    · have hn' : n = S'.length := by
        have := (List.getElem?_eq_some_iff.mp e).1
        rw [List.length_append, List.length_singleton] at this
        omega
      subst hn'
      rw [List.getElem?_append_right (Nat.le_refl _), Nat.sub_self] at e
      have e' : c = c' := by simpa using e
      subst e'
      rw [mAt_self]
      exact hc
  · rw [List.length_append, List.length_singleton] at hi hj
    by_cases h1 : i < S'.length
    · by_cases h2 : j < S'.length
      · rw [mAt_lt h1, mAt_lt h2] at e
        exact p1.rel.inj i j h1 h2 e
      · have : j = S'.length := by omega
        subst this
        rw [mAt_lt h1, mAt_self] at e
        exact absurd e (ap i h1)
    · have : i = S'.length := by omega
      subst this
      by_cases h2 : j < S'.length
      · rw [mAt_lt h2, mAt_self] at e
        exact absurd e.symm (ap j h2)
      · omega
  · rw [List.length_append]
    exact Nat.le_trans p1.len (Nat.le_add_right _ _)
  · rw [mAt_lt (Nat.lt_of_lt_of_le hi p1.len)]
    exact p1.ext i hi
  · rw [List.length_append, List.length_singleton] at h2
    by_cases h3 : i < S'.length
    · rw [mAt_lt h3]
      exact p1.fresh i h1 h3
    · have : i = S'.length := by omega
      subst this
      rw [mAt_self]
      exact hn

/-! ### temporary lists -/
def SatL (K : PySem.W.Frag) (mg : Str → Option Value) (W : WX) (σ : L2.St) (m : Nat → Addr) (S : Sto) (H : Hp) (Q : V → Hp → Prop) : R (List D) → Prop
  | .ok ds S' => ∀ m' H' p vs, Post K mg m S H m' S' H' → H p = none → H' p = some (.lst vs) → (∀ i, i < S'.length → m' i ≠ p) → vs.length ≤ sizeLine → RepL K m' S'.length H' ds vs → Q (.ref p) H'
  | .exc e S' => ∀ m' H' cls d, Post K mg m S H m' S' H' → ExR K mg m' S'.length H' e cls d → W cls d σ H'
  | .bad => False
def rdL (K : PySem.W.Frag) (mg : Str → Option Value) (W : WX) (pin : Option (Nat × Addr)) (f : AX) : TE := fun σ H Q => ∃ m env S, SlotsOk K pin m S.length H env σ ∧ SRel K mg m S H ∧ SatL K mg W σ m S H Q (f env S)
/-- e gives a new list that nobody else has -/
def GL (X : Cx) (W : WX) (pin : Option (Nat × Addr)) (e : Expr) (f : AX) : Prop := PE X e (rdL X.K X.mg W pin f)
/-- it becomes a cell -/
def eOfL (f : AX) : EX := fun env S => (f env S).bind fun ds S1 => .ok (.cel S1.length) (S1 ++ [.lst ds])
section
variable {X : Cx} {W : WX} {pin : Option (Nat × Addr)} {pos : Pos} {e : Expr} {es : List Expr} {f : AX}
theorem ge_ofL (h : GL X W pin e f) : GE X W pin e (eOfL f) := PE.weak h fun σ H Q ⟨m, env, S, E, r, s⟩ => by
  refine ⟨m, env, S, E, r, ?_⟩
  unfold eOfL at s
  cases hf : f env S with
  | bad => rw [hf] at s; exact s.elim
  | exc x S' => rw [hf] at s; exact s
  | ok ds S' =>
    rw [hf] at s
    intro m' H' p vs p1 hn hp ap hl rx
    have k1 : Keep m' S'.length H' (mAt m' S'.length p) (S'.length + 1) H' := ⟨Nat.le_succ _, fun i hi => mAt_lt hi, fun q o h _ => h⟩
    exact s.ok (p1.adopt hn ap (c := .lst ds) ⟨vs, hp, hl, k1.repL _ _ rx⟩) ⟨by simp, by rw [mAt_self]⟩
theorem gl_lst (h : GA X W pin es f) (hz : es.length ≤ sizeLine := by decide) : GL X W pin (.List es pos) f := PE.weak (pe_lst h.run) fun σ H Q ⟨m, env, S, E, r, s⟩ => by
  refine ⟨m, env, S, E, r, ?_⟩
  have hl := h.len env S
  cases hf : f env S with
  | bad => rw [hf] at s; exact s.elim
  | exc x S' => rw [hf] at s; exact s
  | ok ds S' =>
    rw [hf] at s
    intro m1 H1 xs p1 rx
    have hl : xs.length ≤ sizeLine := by rw [rx.len, hl ds S' hf]; exact hz
    refine ⟨hl, fun t ht => ?_⟩
    have p2 := Post.same p1.rel (same_upd (o := .lst xs) ht)
    exact s m1 _ t xs (p1.trans p2) (p1.none_back ht) upd_same (p1.rel.apart0 ht) hl ((p2.keep p1.rel).repL _ _ rx)
/-- what a temporary list is used for -/
theorem rdL_bind {α β : Type} {Rl : (Nat → Addr) → Nat → Hp → α → β → Prop} {Q : β → Hp → Prop} {m : Nat → Addr} {S : Sto} {H : Hp} {σ : L2.St} {env : Slots} {k : List D → Sto → R α} (E : SlotsOk X.K pin m S.length H env σ) (r : SRel X.K X.mg m S H)
    (s : Sat X.K X.mg W σ m S H Rl Q ((f env S).bind k)) {T : VK}
    (hT : ∀ p vs H1 m1 S1 ds, Post X.K X.mg m S H m1 S1 H1 → SlotsOk X.K pin m1 S1.length H1 env σ → SRel X.K X.mg m1 S1 H1 → H1 p = some (.lst vs) → (∀ i, i < S1.length → m1 i ≠ p) → vs.length ≤ sizeLine → RepL X.K m1 S1.length H1 ds vs →
      Sat X.K X.mg W σ m1 S1 H1 Rl Q (k ds S1) → T (.ref p) H1) : rdL X.K X.mg W pin f σ H T := by
  refine ⟨m, env, S, E, r, ?_⟩
  cases hf : f env S with
  | bad => rw [hf] at s; exact s.elim
  | exc e S' => rw [hf] at s; exact s
  | ok ds S' =>
    rw [hf] at s
    intro m1 H1 p vs p1 hn hp ap hl rx
    exact hT p vs H1 m1 S' ds p1 (E.keep (p1.keep r)) p1.rel hp ap hl rx (Sat.step p1 s)
end

/-! ### keys of dicts -/
section
variable {κ : Type} [DecidableEq κ]
def getK (kvs : List (κ × D)) (k : κ) : Option D := (kvs.find? fun kv => decide (kv.1 = k)).map (·.2)
def setK (kvs : List (κ × D)) (k : κ) (d : D) : List (κ × D) := if (kvs.any fun kv => decide (kv.1 = k)) = true then kvs.map (fun kv => if kv.1 = k then (kv.1, d) else kv) else kvs ++ [(k, d)]
theorem getK_rep {K : PySem.W.Frag} {m : Nat → Addr} {N : Nat} {H : Hp} (k : κ) : ∀ {kvs : List (κ × D)} {ws : List (κ × V)}, RepP K m N H kvs ws →
    (getK kvs k = none ∧ valV ws k = none) ∨ ∃ d v, getK kvs k = some d ∧ valV ws k = some v ∧ Rep K m N H d v
  | [], _, h => by rw [show _ = [] from h]; exact .inl ⟨rfl, rfl⟩
  | (x, d) :: r, _, ⟨v, r', e, h1, h2⟩ => by
    subst e
    by_cases hx : x = k
    · exact .inr ⟨d, v, by simp [getK, List.find?_cons, hx], valV_pos hx, h1⟩
    · rw [valV_neg (p := (x, v)) hx, show getK ((x, d) :: r) k = getK r k by simp [getK, List.find?_cons, hx]]
      exact getK_rep k h2
theorem any_rep {K : PySem.W.Frag} {m : Nat → Addr} {N : Nat} {H : Hp} (p : κ → Bool) : ∀ {kvs : List (κ × D)} {ws : List (κ × V)}, RepP K m N H kvs ws → (kvs.any fun kv => p kv.1) = ws.any fun kv => p kv.1
  | [], _, h => by rw [show _ = [] from h]; rfl
  | (x, d) :: r, _, ⟨v, r', e, h1, h2⟩ => by
    subst e
    rw [List.any_cons, List.any_cons, any_rep p h2]
theorem map_rep {K : PySem.W.Frag} {m : Nat → Addr} {N : Nat} {H : Hp} {k : κ} {d : D} {v : V} (h : Rep K m N H d v) : ∀ {kvs : List (κ × D)} {ws : List (κ × V)}, RepP K m N H kvs ws →
    RepP K m N H (kvs.map fun kv => if kv.1 = k then (kv.1, d) else kv) (ws.map fun kv => if kv.1 = k then (kv.1, v) else kv)
  | [], _, h => by rw [show _ = [] from h]; exact rfl
  | (x, e) :: r, _, ⟨u, r', he, h1, h2⟩ => by
    subst he
    by_cases hx : x = k
    · rw [List.map_cons, List.map_cons, if_pos hx, if_pos hx]
      exact ⟨v, _, rfl, h, map_rep h h2⟩
    · rw [List.map_cons, List.map_cons, if_neg hx, if_neg hx]
      exact ⟨u, _, rfl, h1, map_rep h h2⟩
theorem app_rep {K : PySem.W.Frag} {m : Nat → Addr} {N : Nat} {H : Hp} : ∀ {kvs ls : List (κ × D)} {ws us : List (κ × V)}, RepP K m N H kvs ws → RepP K m N H ls us → RepP K m N H (kvs ++ ls) (ws ++ us)
  | [], _, _, _, h, q => by rw [show _ = [] from h]; exact q
  | (x, e) :: r, _, _, _, ⟨u, r', he, h1, h2⟩, q => by
    subst he
    exact ⟨u, _, rfl, h1, app_rep h2 q⟩
theorem setK_rep {K : PySem.W.Frag} {m : Nat → Addr} {N : Nat} {H : Hp} {k : κ} {d : D} {v : V} {kvs : List (κ × D)} {ws : List (κ × V)} (h : Rep K m N H d v) (r : RepP K m N H kvs ws) : RepP K m N H (setK kvs k d) (putK ws k v) := by
  unfold setK putK
  rw [any_rep (fun x => decide (x = k)) r]
  split
  · exact map_rep h r
  · exact app_rep r ⟨v, [], rfl, h, rfl⟩
end
def keyOf : D → Option Key
  | .a (.int i) => some (.inl i)
  | .a (.str x) => some (.inr x)
  | _ => none
theorem keyOf_rep {K : PySem.W.Frag} {m : Nat → Addr} {N : Nat} {H : Hp} {d : D} {v : V} {k : Key} (h : Rep K m N H d v) (e : keyOf d = some k) : v = kV k := by
  unfold keyOf at e
  split at e
  · cases e; exact h
  · cases e; exact h
  · cases e

/-! ### subscripts -/
def dIx : Op2 := fun x y S => match x, y with
  | .tup ds, .a (.int k) => (atI ds k).map fun d => (d, S)
  | .ils ds, .a (.int k) => (atI ds k).map fun d => (d, S)
  | .a (.str z), .a (.int k) => if z.length ≤ sizeLine then (atI z.cps.toList k).map fun c => (.a (.str ⟨#[c]⟩), S) else none
  | .cel n, y => match S[n]? with
    | some (.lst ds) => match y with
      | .a (.int k) => (atI ds k).map fun d => (d, S)
      | _ => none
    | some (.dic kvs) => ((keyOf y).bind fun k => getK kvs k).map fun d => (d, S)
    | some (.fdc kvs) => ((keyOf y).bind fun k => getK kvs k).map fun d => (d, S)
    | _ => none
  | _, _ => none
theorem dget_frz {H : Hp} {a : Addr} {o : Obj} {kvs : List (Key × V)} {k : Key} (e : H a = some (.frz o (.dK kvs))) : DGet H a (kV k) (valV kvs k) := .inl ⟨kvs, k, .inr ⟨o, e⟩, rfl, rfl⟩
theorem atI_rep {K : PySem.W.Frag} {m : Nat → Addr} {N : Nat} {H : Hp} {ds : List D} {vs : List V} {k : Int} {d : D} (r : RepL K m N H ds vs) (h : atI ds k = some d) : ∃ v, atI vs k = some v ∧ Rep K m N H d v := by
  unfold atI at h ⊢
  rw [r.len]
  cases q : ixN ds.length k with
  | none => rw [q] at h; cases h
  | some j =>
    rw [q] at h
    exact r.get h
theorem ils_sq {K : PySem.W.Frag} {H : Hp} {p : Addr} {vs : List V} (h : ILs K H p vs) : SqL K H p vs := by
  rcases h with ⟨o, h⟩ | h
  · exact .inl (.inr ⟨o, h⟩)
  · exact .inr h
section
variable {X : Cx} {W : WX} {pin : Option (Nat × Addr)} {pos p2 : Pos} {a b : Expr} {fa fb : EX} {lo hi : Option Expr}
theorem i_ix (hu : X.A.units + 1 < cLine) : IxR X (rdO X.K X.mg dIx) := by
  intro value slice pins s σ H x y v u Q I rx ry ⟨m, S, d, e, r, hd, he, sa⟩ hs
  unfold dIx at sa
  split at sa
  · rename_i ds k
    obtain ⟨p, vs, rfl, hp, _, rp⟩ := hd
    obtain rfl := rep_int he
    cases hq : atI ds k with
    | none => rw [hq] at sa; exact sa.elim
    | some d =>
      rw [hq] at sa
      obtain ⟨w, h1, h2⟩ := atI_rep rp hq
      exact ix_tup value slice pins s σ H _ _ v u Q I rx ry ⟨p, vs, k, w, rfl, rfl, hp, h1, sa.here r h2⟩ hs
  · rename_i ds k
    obtain ⟨p, vs, rfl, hp, _, rp⟩ := hd
    obtain rfl := rep_int he
    cases hq : atI ds k with
    | none => rw [hq] at sa; exact sa.elim
    | some d =>
      rw [hq] at sa
      obtain ⟨w, h1, h2⟩ := atI_rep rp hq
      exact ix_list value slice pins s σ H _ _ v u Q I rx ry ⟨p, vs, k, w, rfl, rfl, ils_sq hp, h1, sa.here r h2⟩ hs
  · rename_i z k
    obtain rfl : x = .str z := hd
    obtain rfl := rep_int he
    split at sa
    · rename_i hz
      cases hq : atI z.cps.toList k with
      | none => rw [hq] at sa; exact sa.elim
      | some c =>
        rw [hq] at sa
        exact ix_str value slice pins s σ H _ _ v u Q I rx ry ⟨z, k, c, rfl, rfl, hz, hq, sa.here r rfl⟩ hs
    · exact sa.elim
  · obtain ⟨hn, rfl⟩ := hd
    split at sa
    · rename_i ds hS
      obtain ⟨vs, ev, _, rv⟩ := r.at_ _ _ hS
      split at sa
      · rename_i k
        obtain rfl := rep_int he
        cases hq : atI ds k with
        | none => rw [hq] at sa; exact sa.elim
        | some d =>
          rw [hq] at sa
          obtain ⟨w, h1, h2⟩ := atI_rep rv hq
          exact ix_list value slice pins s σ H _ _ v u Q I rx ry ⟨_, vs, k, w, rfl, rfl, SqL.of ev, h1, sa.here r h2⟩ hs
      · exact sa.elim
    · rename_i kvs hS
      obtain ⟨ws, ev, _, rv⟩ := r.at_ _ _ hS
      cases hk : keyOf e with
      | none => rw [hk] at sa; exact sa.elim
      | some k =>
        rw [hk] at sa
        rcases getK_rep k rv with ⟨g1, g2⟩ | ⟨d, w, g1, g2, g3⟩
        · rw [show ((some k).bind fun k => getK kvs k) = none from g1] at sa
          exact sa.elim
        · rw [show ((some k).bind fun k => getK kvs k) = some d from g1] at sa
          obtain rfl := keyOf_rep he hk
          have g := DGet.k (k := k) ev
          rw [g2] at g
          obtain rfl : v = Value.ref _ := rx
          exact tail_any (dict_typeIs I g) PySem.F.slot_dict_getitem.lookup (d_getItem hu I g ry fun w' s3 I3 rw' => ⟨w, H, I3, rw', sa.here r g3⟩) hs
    · rename_i kvs hS
      obtain ⟨oo, ws, ev, _, rv⟩ := r.at_ _ _ hS
      cases hk : keyOf e with
      | none => rw [hk] at sa; exact sa.elim
      | some k =>
        rw [hk] at sa
        rcases getK_rep k rv with ⟨g1, g2⟩ | ⟨d, w, g1, g2, g3⟩
        · rw [show ((some k).bind fun k => getK kvs k) = none from g1] at sa
          exact sa.elim
        · rw [show ((some k).bind fun k => getK kvs k) = some d from g1] at sa
          obtain rfl := keyOf_rep he hk
          have g := dget_frz (k := k) ev
          rw [g2] at g
          obtain rfl : v = Value.ref _ := rx
          exact tail_any (dict_typeIs I g) PySem.F.slot_dict_getitem.lookup (d_getItem hu I g ry fun w' s3 I3 rw' => ⟨w, H, I3, rw', sa.here r g3⟩) hs
    · exact sa.elim
  · exact sa.elim
theorem ge_ix (hu : X.A.units + 1 < cLine) (ha : GE X W pin a fa) (hb : GE X W pin b fb) (hs : PlainIx b := by exact fun _ _ => rfl) : GE X W pin (.Subscript a b pos) (eBin dIx fa fb) :=
  PE.weak (pe_ix (i_ix hu) ha hb hs) fun σ H Q ⟨m, env, S, E, r, s⟩ => rdE_bind E r s fun x H1 m1 S1 d p1 E1 r1 rd s1 => rdE_bind E1 r1 s1 fun y H2 m2 S2 e p2 E2 r2 re s2 => rdO_mk r2 ((p2.keep r1).rep _ _ rd) re s2
/-- an item of a temporary list -/
def eIxL (fl : AX) (fb : EX) : EX := fun env S => (fl env S).bind fun ds S1 => (fb env S1).bind fun e S2 => match e with
  | .a (.int k) => match atI ds k with
    | some d => .ok d S2
    | none => .bad
  | _ => .bad
theorem ge_ixL {fl : AX} (ha : GL X W pin a fl) (hb : GE X W pin b fb) (hs : PlainIx b := by exact fun _ _ => rfl) : GE X W pin (.Subscript a b pos) (eIxL fl fb) :=
  PE.weak (pe_ix ix_list ha hb hs) fun σ H Q ⟨m, env, S, E, r, s⟩ => rdL_bind E r s fun p vs H1 m1 S1 ds p1 E1 r1 hp ap hl rx s1 => rdE_bind E1 r1 s1 fun y H2 m2 S2 e p2 E2 r2 re s2 => by
    split at s2
    · rename_i k
      obtain rfl := rep_int re
      split at s2
      · rename_i d hq
        obtain ⟨w, h1, h2⟩ := atI_rep ((p2.keep r1).repL _ _ rx) hq
        exact ⟨p, vs, k, w, rfl, rfl, SqL.of (p2.frame p _ hp ap), h1, s2.here r2 h2⟩
      · exact s2.elim
    · exact s2.elim

/-! ### slices -/
abbrev OX := Slots → Sto → R (Option Int)
def oNone : OX := fun _ S => .ok none S
def oSome (f : EX) : OX := fun env S => (f env S).bind fun d S1 => match d with
  | .a (.int i) => .ok (some i) S1
  | _ => .bad
def rdOp (K : PySem.W.Frag) (mg : Str → Option Value) (W : WX) (pin : Option (Nat × Addr)) (f : OX) : TO := fun σ H Q => ∃ m env S, SlotsOk K pin m S.length H env σ ∧ SRel K mg m S H ∧ Sat K mg W σ m S H (fun _ _ _ x y => y = x) Q (f env S)
def GO (X : Cx) (W : WX) (pin : Option (Nat × Addr)) (e : Option Expr) (f : OX) : Prop := PO X e (rdOp X.K X.mg W pin f)
theorem PO.weak {X : Cx} {e : Option Expr} {t t' : TO} (h : PO X e t) (w : ∀ σ H Q, t' σ H Q → t σ H Q) : PO X e t' := ⟨fun pins s σ H Q I q => h.run pins s σ H Q I (w _ _ _ q)⟩
theorem go_none : GO X W pin none oNone := PO.weak po_none fun σ H Q ⟨m, env, S, E, r, s⟩ => s.here r rfl
theorem go_some (h : GE X W pin a fa) : GO X W pin (some a) (oSome fa) := PO.weak (po_some h) fun σ H Q ⟨m, env, S, E, r, s⟩ => rdE_bind E r s fun x H1 m1 S1 d p1 E1 r1 rd s1 => by
  split at s1
  · rename_i i
    exact ⟨i, rd, s1.here r1 rfl⟩
  · exact s1.elim
/-- the part of a list -/
def cutL {α : Type} (xs : List α) (lo hi : Option Int) : List α := (xs.drop (HT.sIx xs.length 0 lo)).take (HT.sIx xs.length xs.length hi - HT.sIx xs.length 0 lo)
def dCut (x : D) (lo hi : Option Int) (S : Sto) : Option (D × Sto) := match x with
  | .tup ds => some (.tup (cutL ds lo hi), S)
  | .a (.str z) => if z.length ≤ sizeLine then some (.a (.str (cutS z lo hi)), S) else none
  | .ils ds => some (.cel S.length, S ++ [.lst (cutL ds lo hi)])
  | .cel n => match S[n]? with
    | some (.lst ds) => some (.cel S.length, S ++ [.lst (cutL ds lo hi)])
    | _ => none
  | _ => none
def eCut (fa : EX) (fl fh : OX) : EX := fun env S => (fa env S).bind fun d S1 => (fl env S1).bind fun lo S2 => (fh env S2).bind fun hi S3 => ofO (dCut d lo hi S3)
theorem cut_rep {K : PySem.W.Frag} {m : Nat → Addr} {N : Nat} {H : Hp} {ds : List D} {vs : List V} (r : RepL K m N H ds vs) (lo hi : Option Int) : RepL K m N H (cutL ds lo hi) (cutV vs lo hi) := by
  unfold cutL cutV
  rw [r.len]
  exact (r.drop _).take _
theorem cut_len {α : Type} (xs : List α) (lo hi : Option Int) : (cutL xs lo hi).length ≤ xs.length := by
  unfold cutL
  rw [List.length_take, List.length_drop]
  omega
theorem cut_all {α : Type} {xs : List α} {lo hi : Option Int} (h : HT.sIx xs.length 0 lo = 0 ∧ HT.sIx xs.length xs.length hi = xs.length) : cutL xs lo hi = xs := by
  unfold cutL
  rw [h.1, h.2, List.drop_zero, Nat.sub_zero, List.take_length]
/-- the reading of a slice -/
def rdCut (K : PySem.W.Frag) (mg : Str → Option Value) : V → Option Int → Option Int → Hp → VK → Prop := fun x lo hi H Q => ∃ m S d, SRel K mg m S H ∧ Rep K m S.length H d x ∧ Sat K mg wNo [] m S H (Rep K) Q (ofO (dCut d lo hi S))
theorem sl_cut : SlR X (rdCut X.K X.mg) := by
  intro pins s σ H x v vl vu lo hi sl Q I rx hs pl pu ⟨m, S, d, r, hd, sa⟩
  have newL : ∀ {p : Addr} {ds : List D} {vs : List V}, x = .ref p → SqL X.K H p vs → vs.length ≤ sizeLine → RepL X.K m S.length H ds vs → Sat X.K X.mg wNo [] m S H (Rep X.K) Q (.ok (.cel S.length) (S ++ [.lst (cutL ds lo hi)])) → rSlL X.K x lo hi H Q := fun {p ds vs} ex hq hz rv sa => by
    refine ⟨p, vs, ex, hq, fun t ht => ?_⟩
    have k1 : Keep m S.length H (mAt m S.length t) (S.length + 1) (upd H t (.lst (cutV vs lo hi))) := ⟨Nat.le_succ _, fun i hi => mAt_lt hi, fun q o h _ => same_upd ht q o h⟩
    have p1 := Post.push (c := .lst (cutL ds lo hi)) r (same_upd (o := .lst (cutV vs lo hi)) ht) ht ⟨_, upd_same, by
      rw [(cut_rep rv lo hi).len]
      exact Nat.le_trans (cut_len _ _ _) (by rw [← rv.len]; exact hz), k1.repL _ _ (cut_rep rv lo hi)⟩
    exact sa.ok p1 ⟨by simp, by rw [mAt_self]⟩
  unfold dCut at sa
  split at sa
  · rename_i ds
    obtain ⟨p, vs, rfl, hp, hz, rp⟩ := hd
    refine sl_tupA pins s σ H _ v vl vu lo hi sl Q I rx hs pl pu ⟨p, vs, rfl, hp, fun h => ?_, fun _ t ht => ?_⟩
    · have h' : HT.sIx ds.length 0 lo = 0 ∧ HT.sIx ds.length ds.length hi = ds.length := by rw [← rp.len]; exact h
      rw [cut_all h'] at sa
      exact sa.here r ⟨p, vs, rfl, hp, hz, rp⟩
    · have p1 := Post.same r (same_upd (o := .tup (cutV vs lo hi)) ht)
      refine sa.ok p1 ⟨t, _, rfl, SqT.of upd_same, ?_, (p1.keep r).repL _ _ (cut_rep rp lo hi)⟩
      rw [(cut_rep rp lo hi).len]
      exact Nat.le_trans (cut_len _ _ _) (by rw [← rp.len]; exact hz)
  · rename_i z
    obtain rfl : x = .str z := hd
    split at sa
    · rename_i hz
      exact sl_str pins s σ H _ v vl vu lo hi sl Q I rx hs pl pu ⟨z, rfl, hz, sa.here r rfl⟩
    · exact sa.elim
  · rename_i ds
    obtain ⟨p, vs, rfl, hp, hz, rp⟩ := hd
    exact sl_list pins s σ H _ v vl vu lo hi sl Q I rx hs pl pu (newL rfl (ils_sq hp) hz rp sa)
  · obtain ⟨hn, rfl⟩ := hd
    split at sa
    · rename_i ds hS
      obtain ⟨vs, ev, hz, rv⟩ := r.at_ _ _ hS
      exact sl_list pins s σ H _ v vl vu lo hi sl Q I rx hs pl pu (newL rfl (SqL.of ev) hz rv sa)
    · exact sa.elim
  · exact sa.elim
theorem ge_cut {fl fh : OX} (ha : GE X W pin a fa) (hl : GO X W pin lo fl) (hh : GO X W pin hi fh) : GE X W pin (.Subscript a (.Slice lo hi none p2) pos) (eCut fa fl fh) :=
  PE.weak (pe_slice sl_cut ha hl hh) fun σ H Q ⟨m, env, S, E, r, s⟩ => rdE_bind E r s fun x H1 m1 S1 d p1 E1 r1 rd s1 => by
    refine ⟨m1, env, S1, E1, r1, s1.bind.mono fun l H2 ⟨m2, S2, l', p2, el, s2⟩ => ?_⟩
    obtain rfl : l = l' := el
    refine ⟨m2, env, S2, E1.keep (p2.keep r1), p2.rel, s2.bind.mono fun h H3 ⟨m3, S3, h', p3, eh, s3⟩ => ?_⟩
    obtain rfl : h = h' := eh
    exact ⟨m3, S3, d, p3.rel, (p3.keep p2.rel).rep _ _ ((p2.keep r1).rep _ _ rd), s3.wish ofO_exc⟩
end

/-! ### calls of built-ins -/
abbrev OpC := List D → Sto → Option (D × Sto)
def rdC (K : PySem.W.Frag) (mg : Str → Option Value) (g : OpC) : List V → Hp → VK → Prop := fun xs H Q => ∃ m S ds, SRel K mg m S H ∧ RepL K m S.length H ds xs ∧ Sat K mg wNo [] m S H (Rep K) Q (ofO (g ds S))
def eCallB (g : OpC) (fa : AX) : EX := fun env S => (fa env S).bind fun ds S1 => ofO (g ds S1)
/-- .. of one temporary list -/
def rdCT (K : PySem.W.Frag) (mg : Str → Option Value) (g : List D → Sto → Option (D × Sto)) : List V → Hp → VK → Prop := fun xs H Q => ∃ m S ds p vs, xs = [.ref p] ∧ SRel K mg m S H ∧ H p = some (.lst vs) ∧ vs.length ≤ sizeLine ∧ RepL K m S.length H ds vs ∧ Sat K mg wNo [] m S H (Rep K) Q (ofO (g ds S))
def eCallT (g : List D → Sto → Option (D × Sto)) (fl : AX) : EX := fun env S => (fl env S).bind fun ds S1 => ofO (g ds S1)
section
variable {X : Cx} {W : WX} {pin : Option (Nat × Addr)} {pos p : Pos} {x : Str} {id T : String} {e : Expr} {es : List Expr} {fa fl : AX} {g : OpC}
theorem ge_callB (hc : CallR X (.builtin id) (rdC X.K X.mg g)) (hg : Gl X x) (hm : X.mg x = none) (hv : bootBuiltins x = some (.builtin id)) (ha : GA X W pin (e :: es) fa) (hn : x ≠ "__name__" := by decide) (hdb : (x == ("__debug__" : Str)) = false := by decide)
    (he : starEach (e :: es) X.env = (false, eval e X.env) :: starEach es X.env := by rfl) (hpl : (backTo pos (starEach es X.env)).any (·.1) = false := by rfl) : GE X W pin (.Call (.Name x p) (e :: es) [] pos) (eCallB g fa) :=
  PE.weak (pe_callB hc hg hm hv ha.run hn hdb he hpl) fun σ H Q ⟨m, env, S, E, r, s⟩ => rdA_bind E r s fun xs H1 m1 S1 ds p1 E1 r1 rs s1 => ⟨m1, S1, ds, r1, rs, s1.wish ofO_exc⟩
theorem ge_callTy (hc : CallR X (.type T) (rdC X.K X.mg g)) (hg : Gl X x) (hm : X.mg x = none) (hv : bootBuiltins x = some (.type T)) (ha : GA X W pin (e :: es) fa) (hn : x ≠ "__name__" := by decide) (hdb : (x == ("__debug__" : Str)) = false := by decide)
    (he : starEach (e :: es) X.env = (false, eval e X.env) :: starEach es X.env := by rfl) (hpl : (backTo pos (starEach es X.env)).any (·.1) = false := by rfl) : GE X W pin (.Call (.Name x p) (e :: es) [] pos) (eCallB g fa) :=
  PE.weak (pe_callTy hc hg hm hv ha.run hn hdb he hpl) fun σ H Q ⟨m, env, S, E, r, s⟩ => rdA_bind E r s fun xs H1 m1 S1 ds p1 E1 r1 rs s1 => ⟨m1, S1, ds, r1, rs, s1.wish ofO_exc⟩
/-- one temporary list as the only argument -/
theorem pa_tmp (ha : GL X W pin e fl) (he : starEach [e] X.env = (false, eval e X.env) :: starEach [] X.env := by rfl) : PA X [e] (tCons (rdL X.K X.mg W pin fl) tNil) := pa_cons ha pa_nil he
theorem tmp_rd {σ : L2.St} {H : Hp} {Q : VK} {g : List D → Sto → Option (D × Sto)} (h : rdE X.K X.mg W pin (eCallT g fl) σ H Q) : tCons (rdL X.K X.mg W pin fl) tNil σ H fun vs H1 => rdCT X.K X.mg g vs H1 Q := by
  obtain ⟨m, env, S, E, r, s⟩ := h
  exact rdL_bind E r s fun p vs H1 m1 S1 ds p1 E1 r1 hp ap hl rx s1 => ⟨m1, S1, ds, p, vs, rfl, r1, hp, hl, rx, s1.wish ofO_exc⟩
theorem ge_callBT {g : List D → Sto → Option (D × Sto)} (hc : CallR X (.builtin id) (rdCT X.K X.mg g)) (hg : Gl X x) (hm : X.mg x = none) (hv : bootBuiltins x = some (.builtin id)) (ha : GL X W pin e fl) (hn : x ≠ "__name__" := by decide) (hdb : (x == ("__debug__" : Str)) = false := by decide)
    (he : starEach [e] X.env = (false, eval e X.env) :: starEach [] X.env := by rfl) (hpl : (backTo pos (starEach [] X.env)).any (·.1) = false := by rfl) : GE X W pin (.Call (.Name x p) [e] [] pos) (eCallT g fl) :=
  PE.weak (pe_callB hc hg hm hv (pa_tmp ha he) hn hdb he hpl) fun σ H Q h => tmp_rd h
theorem ge_callTyT {g : List D → Sto → Option (D × Sto)} (hc : CallR X (.type T) (rdCT X.K X.mg g)) (hg : Gl X x) (hm : X.mg x = none) (hv : bootBuiltins x = some (.type T)) (ha : GL X W pin e fl) (hn : x ≠ "__name__" := by decide) (hdb : (x == ("__debug__" : Str)) = false := by decide)
    (he : starEach [e] X.env = (false, eval e X.env) :: starEach [] X.env := by rfl) (hpl : (backTo pos (starEach [] X.env)).any (·.1) = false := by rfl) : GE X W pin (.Call (.Name x p) [e] [] pos) (eCallT g fl) :=
  PE.weak (pe_callTy hc hg hm hv (pa_tmp ha he) hn hdb he hpl) fun σ H Q h => tmp_rd h
end
end G
set_option maxRecDepth 100000
/-! The layer G, part 5: built-ins, methods of lists, stores, targets. -/
namespace G
open PySem PySem.Spec PyProof.Rows L2

/-- the items of a sequence -/
def itemsOf (S : Sto) : D → Option (List D)
  | .tup ds => some ds
  | .ils ds => some ds
  | .cel n => match S[n]? with
    | some (.lst ds) => some ds
    | _ => none
  | _ => none
def dLen : OpC := fun xs S => match xs with
  | [.a (.str z)] => if z.length ≤ sizeLine then some (.a (.int z.length), S) else none
  | [d] => match itemsOf S d with
    | some ds => some (.a (.int ds.length), S)
    | none => match d with
      | .cel n => match S[n]? with
        | some (.dic kvs) => some (.a (.int kvs.length), S)
        | _ => none
      | _ => none
  | _ => none
def dInt : OpC := fun xs S => match xs with
  | [.a (.int i)] => some (.a (.int i), S)
  | [.a (.bl k)] => some (.a (.int (bif k then 1 else 0)), S)
  | _ => none
def dMax2 : OpC := fun xs S => match xs with
  | [.a (.int i), .a (.int j)] => some (.a (.int (if j > i then j else i)), S)
  | _ => none
def dMin2 : OpC := fun xs S => match xs with
  | [.a (.int i), .a (.int j)] => some (.a (.int (if j < i then j else i)), S)
  | _ => none
def dTuple : OpC := fun xs S => match xs with
  | [d] => (itemsOf S d).map fun ds => (.tup ds, S)
  | _ => none
def tTuple : List D → Sto → Option (D × Sto) := fun ds S => some (.tup ds, S)
def asBls : List D → Option (List Bool)
  | [] => some []
  | .a (.bl b) :: r => (asBls r).map (b :: ·)
  | _ => none
def asInts : List D → Option (List Int)
  | [] => some []
  | .a (.int b) :: r => (asInts r).map (b :: ·)
  | _ => none
def tAll : List D → Sto → Option (D × Sto) := fun ds S => (asBls ds).map fun bs => (.a (.bl (bs.all id)), S)
def tAny : List D → Sto → Option (D × Sto) := fun ds S => (asBls ds).map fun bs => (.a (.bl (bs.any id)), S)
def tSum : List D → Sto → Option (D × Sto) := fun ds S => (asInts ds).map fun bs => (.a (.int bs.sum), S)
def maxI : Int → List Int → Int
  | m, [] => m
  | m, x :: r => maxI (if x > m then x else m) r
def minI : Int → List Int → Int
  | m, [] => m
  | m, x :: r => minI (if x < m then x else m) r
def tMax : List D → Sto → Option (D × Sto) := fun ds S => match asInts ds with
  | some (x :: r) => some (.a (.int (maxI x r)), S)
  | _ => none
def tMin : List D → Sto → Option (D × Sto) := fun ds S => match asInts ds with
  | some (x :: r) => some (.a (.int (minI x r)), S)
  | _ => none
/-- of one list that stands -/
def dOf (g : List D → Sto → Option (D × Sto)) : OpC := fun xs S => match xs with
  | [.cel n] => match S[n]? with
    | some (.lst ds) => g ds S
    | _ => none
  | [.ils ds] => g ds S
  | _ => none

section
variable {K : PySem.W.Frag} {mg : Str → Option Value} {m : Nat → Addr} {S : Sto} {H : Hp} {N : Nat}
theorem items_rep (r : SRel K mg m S H) {d : D} {v : V} {ds : List D} (h : Rep K m S.length H d v) (e : itemsOf S d = some ds) : ∃ p vs, v = .ref p ∧ (SqL K H p vs ∨ SqT K H p vs) ∧ vs.length ≤ sizeLine ∧ RepL K m S.length H ds vs := by
  unfold itemsOf at e
  split at e
  · cases e
    obtain ⟨p, vs, rfl, hp, hz, rp⟩ := h
    exact ⟨p, vs, rfl, .inr hp, hz, rp⟩
  · cases e
    obtain ⟨p, vs, rfl, hp, hz, rp⟩ := h
    exact ⟨p, vs, rfl, .inl (ils_sq hp), hz, rp⟩
  · obtain ⟨hn, rfl⟩ := h
    split at e
    · rename_i ds' hS
      cases e
      obtain ⟨vs, ev, hz, rv⟩ := r.at_ _ _ hS
      exact ⟨_, vs, rfl, .inl (SqL.of ev), hz, rv⟩
    · cases e
  · cases e
theorem asBls_rep : ∀ {ds : List D} {vs : List V} {bs : List Bool}, RepL K m N H ds vs → asBls ds = some bs → vs = bs.map V.bl
  | [], vs, bs, h, e => by
    unfold asBls at e
    cases e
    exact h
  | d :: ds, vs, bs, ⟨v, r, hv, h1, h2⟩, e => by
    subst hv
    unfold asBls at e
    split at e
    · rename_i h; cases h
    · rename_i b r' h
      cases h
      cases q : asBls ds with
      | none => rw [q] at e; cases e
      | some bs' =>
        rw [q] at e
        cases e
        rw [show v = .bl b from h1, asBls_rep h2 q]
        rfl
    · cases e
theorem asInts_rep : ∀ {ds : List D} {vs : List V} {bs : List Int}, RepL K m N H ds vs → asInts ds = some bs → vs = bs.map V.int
  | [], vs, bs, h, e => by
    unfold asInts at e
    cases e
    exact h
  | d :: ds, vs, bs, ⟨v, r, hv, h1, h2⟩, e => by
    subst hv
    unfold asInts at e
    split at e
    · rename_i h; cases h
    · rename_i b r' h
      cases h
      cases q : asInts ds with
      | none => rw [q] at e; cases e
      | some bs' =>
        rw [q] at e
        cases e
        rw [show v = .int b from h1, asInts_rep h2 q]
        rfl
    · cases e
theorem maxI_spec : ∀ (r : List Int) (m : Int), m ≤ maxI m r ∧ (∀ y ∈ r, y ≤ maxI m r) ∧ (maxI m r = m ∨ maxI m r ∈ r)
  | [], m => ⟨Int.le_refl _, fun _ h => (List.not_mem_nil h).elim, Or.inl rfl⟩
  | x :: r, m => by
    show m ≤ maxI (if x > m then x else m) r ∧ (∀ y ∈ x :: r, y ≤ maxI (if x > m then x else m) r) ∧ (maxI (if x > m then x else m) r = m ∨ maxI (if x > m then x else m) r ∈ x :: r)
    by_cases c : x > m
    · rw [if_pos c]
      obtain ⟨h1, h2, h3⟩ := maxI_spec r x
      refine ⟨by omega, fun y hy => ?_, ?_⟩
      · rcases List.mem_cons.mp hy with rfl | hy
        · exact h1
        · exact h2 y hy
      · rcases h3 with h3 | h3
        · rw [h3]; exact Or.inr List.mem_cons_self
        · exact Or.inr (List.mem_cons_of_mem _ h3)
    · rw [if_neg c]
      obtain ⟨h1, h2, h3⟩ := maxI_spec r m
      refine ⟨h1, fun y hy => ?_, ?_⟩
      · rcases List.mem_cons.mp hy with rfl | hy
        · omega
        · exact h2 y hy
      · rcases h3 with h3 | h3
        · exact Or.inl h3
        · exact Or.inr (List.mem_cons_of_mem _ h3)
theorem minI_spec : ∀ (r : List Int) (m : Int), minI m r ≤ m ∧ (∀ y ∈ r, minI m r ≤ y) ∧ (minI m r = m ∨ minI m r ∈ r)
  | [], m => ⟨Int.le_refl _, fun _ h => (List.not_mem_nil h).elim, Or.inl rfl⟩
  | x :: r, m => by
    show minI (if x < m then x else m) r ≤ m ∧ (∀ y ∈ x :: r, minI (if x < m then x else m) r ≤ y) ∧ (minI (if x < m then x else m) r = m ∨ minI (if x < m then x else m) r ∈ x :: r)
    by_cases c : x < m
    · rw [if_pos c]
      obtain ⟨h1, h2, h3⟩ := minI_spec r x
      refine ⟨by omega, fun y hy => ?_, ?_⟩
      · rcases List.mem_cons.mp hy with rfl | hy
        · exact h1
        · exact h2 y hy
      · rcases h3 with h3 | h3
        · rw [h3]; exact Or.inr List.mem_cons_self
        · exact Or.inr (List.mem_cons_of_mem _ h3)
    · rw [if_neg c]
      obtain ⟨h1, h2, h3⟩ := minI_spec r m
      refine ⟨h1, fun y hy => ?_, ?_⟩
      · rcases List.mem_cons.mp hy with rfl | hy
        · omega
        · exact h2 y hy
      · rcases h3 with h3 | h3
        · exact Or.inl h3
        · exact Or.inr (List.mem_cons_of_mem _ h3)
theorem maxI_the {x : Int} {r : List Int} {w : Int} (h1 : w ∈ x :: r) (h2 : ∀ y, y ∈ x :: r → y ≤ w) : w = maxI x r := by
  obtain ⟨a, b, c⟩ := maxI_spec r x
  have h3 : w ≤ maxI x r := by
    rcases List.mem_cons.mp h1 with rfl | h
    · exact a
    · exact b _ h
  have h4 : maxI x r ≤ w := by
    rcases c with c | c
    · rw [c]; exact h2 _ List.mem_cons_self
    · exact h2 _ (List.mem_cons_of_mem _ c)
  omega
theorem minI_the {x : Int} {r : List Int} {w : Int} (h1 : w ∈ x :: r) (h2 : ∀ y, y ∈ x :: r → w ≤ y) : w = minI x r := by
  obtain ⟨a, b, c⟩ := minI_spec r x
  have h3 : minI x r ≤ w := by
    rcases List.mem_cons.mp h1 with rfl | h
    · exact a
    · exact b _ h
  have h4 : w ≤ minI x r := by
    rcases c with c | c
    · rw [c]; exact h2 _ List.mem_cons_self
    · exact h2 _ (List.mem_cons_of_mem _ c)
  omega
end
section
variable {X : Cx}
/-- what a temporary list is given to: any list's rule -/
def rdG (K : PySem.W.Frag) (mg : Str → Option Value) (g : List D → Sto → Option (D × Sto)) : List V → Hp → VK → Prop := fun xs H Q => ∃ m S ds p vs, xs = [.ref p] ∧ SRel K mg m S H ∧ SqL K H p vs ∧ vs.length ≤ sizeLine ∧ RepL K m S.length H ds vs ∧ Sat K mg wNo [] m S H (Rep K) Q (ofO (g ds S))
theorem c_tmp {f : Value} {g : List D → Sto → Option (D × Sto)} (h : CallR X f (rdG X.K X.mg g)) : CallR X f (rdCT X.K X.mg g) := by
  intro pins s σ H xs us Q I rx ⟨m, S, ds, p, vs, e, r, hp, hz, rv, sa⟩
  exact h pins s σ H xs us Q I rx ⟨m, S, ds, p, vs, e, r, SqL.of hp, hz, rv, sa⟩
theorem c_of {f : Value} {g : List D → Sto → Option (D × Sto)} (h : CallR X f (rdG X.K X.mg g)) : CallR X f (rdC X.K X.mg (dOf g)) := by
  intro pins s σ H xs us Q I rx ⟨m, S, ds, r, rs, sa⟩
  unfold dOf at sa
  split at sa
  · rename_i n
    obtain ⟨v, r', rfl, ⟨hn, rfl⟩, e⟩ := rs
    obtain rfl : r' = [] := e
    split at sa
    · rename_i ds' hS
      obtain ⟨vs, ev, hz, rv⟩ := r.at_ _ _ hS
      exact h pins s σ H _ us Q I rx ⟨m, S, ds', _, vs, rfl, r, SqL.of ev, hz, rv, sa⟩
    · exact sa.elim
  · rename_i ds'
    obtain ⟨v, r', rfl, ⟨p, vs, rfl, hp, hz, rv⟩, e⟩ := rs
    obtain rfl : r' = [] := e
    exact h pins s σ H _ us Q I rx ⟨m, S, ds', p, vs, rfl, r, ils_sq hp, hz, rv, sa⟩
  · exact sa.elim
theorem c_all (hc : X.calm = true) : CallR X (.builtin "all") (rdG X.K X.mg tAll) := by
  intro pins s σ H xs us Q I rx ⟨m, S, ds, p, vs, e, r, hp, hz, rv, sa⟩
  unfold tAll at sa
  cases q : asBls ds with
  | none => rw [q] at sa; exact sa.elim
  | some bs =>
    rw [q] at sa
    rw [asBls_rep rv q] at hp
    exact cr_all hc pins s σ H xs us Q I rx ⟨p, bs, e, hp, sa.here r rfl⟩
theorem c_any (hc : X.calm = true) : CallR X (.builtin "any") (rdG X.K X.mg tAny) := by
  intro pins s σ H xs us Q I rx ⟨m, S, ds, p, vs, e, r, hp, hz, rv, sa⟩
  unfold tAny at sa
  cases q : asBls ds with
  | none => rw [q] at sa; exact sa.elim
  | some bs =>
    rw [q] at sa
    rw [asBls_rep rv q] at hp
    exact cr_any hc pins s σ H xs us Q I rx ⟨p, bs, e, hp, sa.here r rfl⟩
theorem c_sum (hc : X.calm = true) : CallR X (.builtin "sum") (rdG X.K X.mg tSum) := by
  intro pins s σ H xs us Q I rx ⟨m, S, ds, p, vs, e, r, hp, hz, rv, sa⟩
  unfold tSum at sa
  cases q : asInts ds with
  | none => rw [q] at sa; exact sa.elim
  | some bs =>
    rw [q] at sa
    rw [asInts_rep rv q] at hp
    exact cr_sum hc pins s σ H xs us Q I rx ⟨p, bs, e, hp, sa.here r rfl⟩
theorem c_max (hc : X.calm = true) : CallR X (.builtin "max") (rdG X.K X.mg tMax) := by
  intro pins s σ H xs us Q I rx ⟨m, S, ds, p, vs, e, r, hp, hz, rv, sa⟩
  unfold tMax at sa
  split at sa
  · rename_i x l q
    rw [asInts_rep rv q] at hp
    refine cr_max hc pins s σ H xs us Q I rx ⟨p, x :: l, e, hp, by simp, fun w h1 h2 => ?_⟩
    rw [maxI_the h1 h2]
    exact sa.here r rfl
  · exact sa.elim
theorem c_min (hc : X.calm = true) : CallR X (.builtin "min") (rdG X.K X.mg tMin) := by
  intro pins s σ H xs us Q I rx ⟨m, S, ds, p, vs, e, r, hp, hz, rv, sa⟩
  unfold tMin at sa
  split at sa
  · rename_i x l q
    rw [asInts_rep rv q] at hp
    refine cr_min hc pins s σ H xs us Q I rx ⟨p, x :: l, e, hp, by simp, fun w h1 h2 => ?_⟩
    rw [minI_the h1 h2]
    exact sa.here r rfl
  · exact sa.elim
theorem c_max2 (hc : X.calm = true) : CallR X (.builtin "max") (rdC X.K X.mg dMax2) := by
  intro pins s σ H xs us Q I rx ⟨m, S, ds, r, rs, sa⟩
  unfold dMax2 at sa
  split at sa
  · rename_i i j
    obtain ⟨v, r', rfl, h1, w, r2, rfl, h2, e⟩ := rs
    obtain rfl : r2 = [] := e
    obtain rfl := rep_int h1
    obtain rfl := rep_int h2
    exact call_max2 hc pins s σ H _ us Q I rx ⟨i, j, rfl, sa.here r rfl⟩
  · exact sa.elim
theorem c_min2 (hc : X.calm = true) : CallR X (.builtin "min") (rdC X.K X.mg dMin2) := by
  intro pins s σ H xs us Q I rx ⟨m, S, ds, r, rs, sa⟩
  unfold dMin2 at sa
  split at sa
  · rename_i i j
    obtain ⟨v, r', rfl, h1, w, r2, rfl, h2, e⟩ := rs
    obtain rfl : r2 = [] := e
    obtain rfl := rep_int h1
    obtain rfl := rep_int h2
    exact call_min2 hc pins s σ H _ us Q I rx ⟨i, j, rfl, sa.here r rfl⟩
  · exact sa.elim
theorem c_int : CallR X (.type "int") (rdC X.K X.mg dInt) := by
  intro pins s σ H xs us Q I rx ⟨m, S, ds, r, rs, sa⟩
  unfold dInt at sa
  split at sa
  · rename_i i
    obtain ⟨v, r', rfl, h1, e⟩ := rs
    obtain rfl : r' = [] := e
    obtain rfl := rep_int h1
    exact call_int1 pins s σ H _ us Q I rx (.inl ⟨i, rfl, sa.here r rfl⟩)
  · rename_i k
    obtain ⟨v, r', rfl, h1, e⟩ := rs
    obtain rfl : r' = [] := e
    obtain rfl : v = .bl k := h1
    refine call_int1 pins s σ H _ us Q I rx (.inr ⟨k, rfl, ?_⟩)
    have q := sa.here r (show Rep X.K m S.length H (.a (.int (bif k then 1 else 0))) (.int (bif k then 1 else 0)) from rfl)
    cases k <;> exact q
  · exact sa.elim
theorem c_len : CallR X (.builtin "len") (rdC X.K X.mg dLen) := by
  intro pins s σ H xs us Q I rx ⟨m, S, ds, r, rs, sa⟩
  unfold dLen at sa
  split at sa
  · rename_i z
    obtain ⟨v, r', rfl, h1, e⟩ := rs
    obtain rfl : r' = [] := e
    obtain rfl : v = .str z := h1
    split at sa
    · rename_i hz
      exact call_len_str pins s σ H _ us Q I rx ⟨z, rfl, hz, sa.here r rfl⟩
    · exact sa.elim
  · rename_i d _
    obtain ⟨v, r', rfl, h1, e⟩ := rs
    obtain rfl : r' = [] := e
    split at sa
    · rename_i ds' hi
      obtain ⟨p, vs, rfl, hp, hz, rv⟩ := items_rep r h1 hi
      refine call_len_seq pins s σ H _ us Q I rx ⟨p, vs, rfl, hp, ?_⟩
      rw [rv.len]
      exact sa.here r rfl
    · split at sa
      · rename_i n hi
        obtain ⟨hn, rfl⟩ := h1
        split at sa
        · rename_i kvs hS
          obtain ⟨ws, ev, hz, rv⟩ := r.at_ _ _ hS
          refine call_lenD pins s σ H _ us Q I rx ⟨_, ws, rfl, ev, ?_⟩
          rw [rv.len]
          exact sa.here r rfl
        · exact sa.elim
      · exact sa.elim
  · exact sa.elim
theorem c_tuple : CallR X (.type "tuple") (rdC X.K X.mg dTuple) := by
  intro pins s σ H xs us Q I rx ⟨m, S, ds, r, rs, sa⟩
  unfold dTuple at sa
  split at sa
  · rename_i d
    obtain ⟨v, r', rfl, h1, e⟩ := rs
    obtain rfl : r' = [] := e
    cases hi : itemsOf S d with
    | none => rw [hi] at sa; exact sa.elim
    | some ds' =>
      rw [hi] at sa
      obtain ⟨p, vs, rfl, hp, hz, rv⟩ := items_rep r h1 hi
      rcases hp with hp | hp
      · refine call_tuple_of pins s σ H _ us Q I rx ⟨p, vs, rfl, .inl ⟨hp, fun t ht => ?_⟩⟩
        have p1 := Post.same r (same_upd (o := .tup vs) ht)
        exact sa.ok p1 ⟨t, vs, rfl, SqT.of upd_same, hz, (p1.keep r).repL _ _ rv⟩
      · exact call_tuple_of pins s σ H _ us Q I rx ⟨p, vs, rfl, .inr ⟨hp, sa.here r ⟨p, vs, rfl, hp, hz, rv⟩⟩⟩
  · exact sa.elim
theorem c_tupleT : CallR X (.type "tuple") (rdCT X.K X.mg tTuple) := by
  intro pins s σ H xs us Q I rx ⟨m, S, ds, p, vs, e, r, hp, hz, rv, sa⟩
  refine call_tuple_of pins s σ H _ us Q I rx ⟨p, vs, e, .inl ⟨SqL.of hp, fun t ht => ?_⟩⟩
  have p1 := Post.same r (same_upd (o := .tup vs) ht)
  exact sa.ok p1 ⟨t, vs, rfl, SqT.of upd_same, hz, (p1.keep r).repL _ _ rv⟩
end

/-! ### list(x): a new list -/
def aListOf (f : EX) : AX := fun env S => (f env S).bind fun d S1 => match itemsOf S1 d with
  | some ds => .ok ds S1
  | none => .bad
section
variable {X : Cx} {W : WX} {pin : Option (Nat × Addr)} {pos p : Pos} {e : Expr} {es : List Expr} {f : EX}
theorem gl_listOf (hg : Gl X "list") (hm : X.mg "list" = none) (ha : GE X W pin e f) (he : starEach [e] X.env = (false, eval e X.env) :: starEach [] X.env := by rfl) (hpl : (backTo pos (starEach [] X.env)).any (·.1) = false := by rfl)
    (hv : bootBuiltins "list" = some (.type "list") := by decide +kernel) :
    GL X W pin (.Call (.Name "list" p) [e] [] pos) (aListOf f) :=
  PE.weak (pe_callTy call_list_of hg hm hv (pa_cons ha pa_nil he) (by decide) (by decide) he hpl) fun σ H Q ⟨m, env, S, E, r, s⟩ => by
    show rdE X.K X.mg W pin f σ H fun x H1 => tNil σ H1 fun xs H2 => _
    refine ⟨m, env, S, E, r, ?_⟩
    unfold aListOf at s
    cases hf : f env S with
    | bad => rw [hf] at s; exact s.elim
    | exc x S' => rw [hf] at s; exact s
    | ok d S1 =>
      rw [hf, R.bind_ok] at s
      intro m1 H1 x p1 rx
      cases hi : itemsOf S1 d with
      | none => rw [hi] at s; exact s.elim
      | some ds =>
        rw [hi] at s
        obtain ⟨q, vs, rfl, hp, hz, rv⟩ := items_rep p1.rel rx hi
        refine ⟨q, vs, rfl, hp, fun t ht => ?_⟩
        have p2 := Post.same p1.rel (same_upd (o := .lst vs) ht)
        exact s m1 _ t vs (p1.trans p2) (p1.none_back ht) upd_same (p1.rel.apart0 ht) hz ((p2.keep p1.rel).repL _ _ rv)
end

/-! ### isinstance with a built-in class -/
def tyOf (S : Sto) : D → Option String
  | .a .non => some "NoneType"
  | .a (.bl _) => some "bool"
  | .a (.int _) => some "int"
  | .a (.str _) => some "str"
  | .tup _ => some "tuple"
  | .ils _ => some "list"
  | .cel n => match S[n]? with
    | some (.lst _) => some "list"
    | some (.dic _) => some "dict"
    | _ => none
  | _ => none
def dIsi : OpC := fun xs S => match xs with
  | [d, .a (.ty T)] => ((tyOf S d).bind fun t => kitB t T).map fun b => (.a (.bl b), S)
  | _ => none
theorem tyOf_rep {K : PySem.W.Frag} {mg : Str → Option Value} {m : Nat → Addr} {S : Sto} {H : Hp} (r : SRel K mg m S H) {d : D} {v : V} {t : String} (h : Rep K m S.length H d v) (e : tyOf S d = some t) : TyX K H v (.type t) := by
  unfold tyOf at e
  split at e
  · cases e; obtain rfl : v = _ := h; exact .base .non
  · cases e; obtain rfl : v = _ := h; exact .base (.bl _)
  · cases e; obtain rfl : v = _ := h; exact .base (.int _)
  · cases e; obtain rfl : v = _ := h; exact .base (.str _)
  · cases e
    obtain ⟨p, vs, rfl, hp, _, _⟩ := h
    rcases hp with (hp | ⟨o, hp⟩) | ⟨o, its, n, hk, hc, _⟩
    · exact .base (.tup hp)
    · exact .fTuple hp
    · exact .kTuple hk hc
  · cases e
    obtain ⟨p, vs, rfl, hp, _, _⟩ := h
    rcases hp with ⟨o, hp⟩ | ⟨o, its, n, hk, hc, _⟩
    · exact .base (.frz hp)
    · exact .kList hk hc
  · obtain ⟨hn, rfl⟩ := h
    split at e
    · rename_i ds hS
      cases e
      obtain ⟨vs, ev, _, _⟩ := r.at_ _ _ hS
      exact .base (.lst ev)
    · rename_i ds hS
      cases e
      obtain ⟨vs, ev, _, _⟩ := r.at_ _ _ hS
      exact .base (.dK ev)
    · cases e
  · cases e
theorem c_isi {X : Cx} : CallR X (.builtin "isinstance") (rdC X.K X.mg dIsi) := by
  intro pins s σ H xs us Q I rx ⟨m, S, ds, r, rs, sa⟩
  unfold dIsi at sa
  split at sa
  · rename_i d T
    obtain ⟨v, r', rfl, h1, w, r2, rfl, h2, e⟩ := rs
    obtain rfl : r2 = [] := e
    obtain rfl : w = .ty T := h2
    cases ht : tyOf S d with
    | none => rw [ht] at sa; exact sa.elim
    | some t =>
      rw [ht] at sa
      cases hk : kitB t T with
      | none => rw [show ((some t).bind fun t => kitB t T) = none from hk] at sa; exact sa.elim
      | some b =>
        rw [show ((some t).bind fun t => kitB t T) = some b from hk] at sa
        exact call_isi pins s σ H _ us Q I rx ⟨v, .ty T, .type t, .type T, b, rfl, .ty T, tyOf_rep r h1 ht, kit_ty hk, sa.here r rfl⟩
  · exact sa.elim

/-! ### methods of built-in types by values -/
abbrev OpM := D → List D → Sto → Option (D × Sto)
def rdM (K : PySem.W.Frag) (mg : Str → Option Value) (g : OpM) : V → List V → Hp → VK → Prop := fun x xs H Q => ∃ m S d ds, SRel K mg m S H ∧ Rep K m S.length H d x ∧ RepL K m S.length H ds xs ∧ Sat K mg wNo [] m S H (Rep K) Q (ofO (g d ds S))
/-- of that built-in type -/
def isTy (T : String) (d : D) (S : Sto) : Bool := match d with
  | .a (.str _) => T == "str"
  | .ils _ => T == "list"
  | .cel n => match S[n]? with
    | some (.lst _) => T == "list"
    | some (.dic _) => T == "dict"
    | _ => false
  | _ => false
def eMeth (T : String) (g : OpM) (fo : EX) (fa : AX) : EX := fun env S => (fo env S).bind fun d S1 => bif isTy T d S1 then (fa env S1).bind fun ds S2 => ofO (g d ds S2) else .bad
theorem isTy_rep {K : PySem.W.Frag} {mg : Str → Option Value} {m : Nat → Addr} {S : Sto} {H : Hp} (r : SRel K mg m S H) {d : D} {v : V} {T : String} (h : Rep K m S.length H d v) (e : isTy T d S = true) : tyV K T v H := by
  unfold isTy at e
  split at e
  · obtain rfl : v = _ := h; exact beq_iff_eq.mp e
  · obtain ⟨p, vs, rfl, hp, _, _⟩ := h
    exact .inl ⟨beq_iff_eq.mp e, vs, ils_sq hp⟩
  · obtain ⟨hn, rfl⟩ := h
    split at e
    · rename_i ds hS
      obtain ⟨vs, ev, _, _⟩ := r.at_ _ _ hS
      exact .inl ⟨beq_iff_eq.mp e, vs, SqL.of ev⟩
    · rename_i ds hS
      obtain ⟨vs, ev, _, _⟩ := r.at_ _ _ hS
      exact .inr (.inr (.inl ⟨beq_iff_eq.mp e, .inl ⟨vs, ev⟩⟩))
    · cases e
  · cases e
section
variable {X : Cx} {W : WX} {pin : Option (Nat × Addr)} {apos cpos : Pos} {o e : Expr} {es : List Expr} {fo : EX} {fa : AX} {T id : String} {name : Str} {g : OpM}
theorem ge_bm (pa : PlainAttrs T) (slot : Slot T name id) (hty : typeOf (.builtin id) = pure (.type "method_descriptor")) (hm : MtR X id (rdM X.K X.mg g)) (ho : GE X W pin o fo) (ha : GA X W pin (e :: es) fa)
    (hbase : attributeBase o name X.env (eval o X.env) = eval o X.env := by rfl)
    (hfew : ((backTo cpos (starEach (e :: es) X.env)).all (fun x => !x.1) && (backToKw cpos (keywordEach [] X.env)).all (fun x => x.1.isSome)
      && decide ((e :: es).length + ([] : List Keyword).length + (if ([] : List Keyword).isEmpty then 0 else 1) < 30)) = true := by rfl)
    (hline : (apos.endLine == cpos.line) = true := by rfl) (hs : starEach (e :: es) X.env = (false, eval e X.env) :: starEach es X.env := by rfl) (hplain : (backTo cpos (starEach es X.env)).any (·.1) = false := by rfl) :
    GE X W pin (.Call (.Attribute o name apos) (e :: es) [] cpos) (eMeth T g fo fa) :=
  PE.weak (pe_bm pa slot hty hm ho ha.run hbase hfew hline hs hplain) fun σ H Q ⟨m, env, S, E, r, s⟩ => rdE_bind E r s fun x H1 m1 S1 d p1 E1 r1 rd s1 => by
    cases ht : isTy T d S1 with
    | false => rw [ht] at s1; exact s1.elim
    | true =>
      rw [ht] at s1
      exact ⟨isTy_rep r1 rd ht, rdA_bind E1 r1 s1 fun xs H2 m2 S2 ds p2 E2 r2 rs s2 => ⟨m2, S2, d, ds, r2, (p2.keep r1).rep _ _ rd, rs, s2.wish ofO_exc⟩⟩
theorem ge_bm0 (pa : PlainAttrs T) (slot : Slot T name id) (hty : typeOf (.builtin id) = pure (.type "method_descriptor")) (hm : MtR X id (rdM X.K X.mg g)) (ho : GE X W pin o fo)
    (hbase : attributeBase o name X.env (eval o X.env) = eval o X.env := by rfl) (hline : (apos.endLine == cpos.line) = true := by rfl) : GE X W pin (.Call (.Attribute o name apos) [] [] cpos) (eMeth T g fo aNil) :=
  PE.weak (pe_bm0 pa slot hty hm ho hbase hline) fun σ H Q ⟨m, env, S, E, r, s⟩ => rdE_bind E r s fun x H1 m1 S1 d p1 E1 r1 rd s1 => by
    cases ht : isTy T d S1 with
    | false => rw [ht] at s1; exact s1.elim
    | true =>
      rw [ht] at s1
      exact ⟨isTy_rep r1 rd ht, m1, S1, d, [], r1, rd, rfl, s1.wish ofO_exc⟩
end
/-- a list's own change -/
def dAppend : OpM := fun d xs S => match d, xs with
  | .cel n, [e] => match S[n]? with
    | some (.lst ds) => if ds.length < sizeLine then some (.a .non, S.set n (.lst (ds ++ [e]))) else none
    | _ => none
  | _, _ => none
def dPop : OpM := fun d xs S => match d, xs with
  | .cel n, [] => match S[n]? with
    | some (.lst ds) => match ds[ds.length - 1]? with
      | some e => some (e, S.set n (.lst ds.dropLast))
      | none => none
    | _ => none
  | _, _ => none
def dReverse : OpM := fun d xs S => match d, xs with
  | .cel n, [] => match S[n]? with
    | some (.lst ds) => some (.a .non, S.set n (.lst ds.reverse))
    | _ => none
  | _, _ => none
def dExtend : OpM := fun d xs S => match d, xs with
  | .cel n, [.cel k] => match S[n]?, S[k]? with
    | some (.lst ds), some (.lst es) => if ds.length + es.length ≤ sizeLine then some (.a .non, S.set n (.lst (ds ++ es))) else none
    | _, _ => none
  | _, _ => none
section
variable {K : PySem.W.Frag} {mg : Str → Option Value} {m : Nat → Addr} {S : Sto} {H : Hp} {X : Cx}
/-- a list written -/
theorem Post.wlst {n : Nat} {ds : List D} {vs : List V} (r : SRel K mg m S H) (hn : n < S.length) {vs0 : List V} (ev : H (m n) = some (.lst vs0)) (hz : vs.length ≤ sizeLine) (rv : RepL K m S.length H ds vs) : Post K mg m S H m (S.set n (.lst ds)) (upd H (m n) (.lst vs)) := by
  refine Post.write r hn (by rw [ev]; intro _ _ z; cases z) ⟨vs, upd_same, hz, ?_⟩
  have k : Keep m S.length H m S.length (upd H (m n) (.lst vs)) := ⟨Nat.le_refl _, fun _ _ => rfl, fun q u h hc => by
    rw [upd_ne fun e => r.apart h hc n hn e.symm]
    exact h⟩
  exact k.repL _ _ rv
theorem dropLast_rep {K : PySem.W.Frag} {m : Nat → Addr} {N : Nat} {H : Hp} {ds : List D} {vs : List V} (r : RepL K m N H ds vs) : RepL K m N H ds.dropLast vs.dropLast := by
  rw [List.dropLast_eq_take, List.dropLast_eq_take, r.len]
  exact r.take _
theorem m_append : MtR X "list.append" (rdM X.K X.mg dAppend) := by
  intro pins s σ H x xs v us Q I rx rs ⟨m, S, d, ds, r, hd, hs, sa⟩
  unfold dAppend at sa
  split at sa
  · rename_i n e
    obtain ⟨hn, rfl⟩ := hd
    obtain ⟨w, r2, rfl, h1, e2⟩ := hs
    obtain rfl : r2 = [] := e2
    split at sa
    · rename_i ds' hS
      obtain ⟨vs, ev, hz, rv⟩ := r.at_ _ _ hS
      split at sa
      · rename_i hl
        have hl' : vs.length < sizeLine := by rw [rv.len]; exact hl
        refine mt_append pins s σ H _ _ v us Q I rx rs ⟨_, vs, w, rfl, rfl, ev, hl', ?_⟩
        exact sa.ok (Post.wlst r hn ev (by rw [List.length_append]; exact hl') (rv.append (RepL.one h1))) rfl
      · exact sa.elim
    · exact sa.elim
  · exact sa.elim
theorem m_pop : MtR X "list.pop" (rdM X.K X.mg dPop) := by
  intro pins s σ H x xs v us Q I rx rs ⟨m, S, d, ds, r, hd, hs, sa⟩
  unfold dPop at sa
  split at sa
  · rename_i n
    obtain ⟨hn, rfl⟩ := hd
    obtain rfl : xs = [] := hs
    split at sa
    · rename_i ds' hS
      obtain ⟨vs, ev, hz, rv⟩ := r.at_ _ _ hS
      split at sa
      · rename_i e he
        obtain ⟨w, h1, h2⟩ := rv.get he
        have p1 := Post.wlst r hn ev (vs := vs.dropLast) (by rw [List.length_dropLast]; omega) (dropLast_rep rv)
        refine mt_pop pins s σ H _ _ v us Q I rx rs ⟨_, vs, w, rfl, rfl, ev, by rw [rv.len]; exact h1, ?_⟩
        exact sa.ok p1 ((p1.keep r).rep _ _ h2)
      · exact sa.elim
    · exact sa.elim
  · exact sa.elim
theorem m_reverse : MtR X "list.reverse" (rdM X.K X.mg dReverse) := by
  intro pins s σ H x xs v us Q I rx rs ⟨m, S, d, ds, r, hd, hs, sa⟩
  unfold dReverse at sa
  split at sa
  · rename_i n
    obtain ⟨hn, rfl⟩ := hd
    obtain rfl : xs = [] := hs
    split at sa
    · rename_i ds' hS
      obtain ⟨vs, ev, hz, rv⟩ := r.at_ _ _ hS
      refine mt_reverse pins s σ H _ _ v us Q I rx rs ⟨_, vs, rfl, rfl, ev, ?_⟩
      exact sa.ok (Post.wlst r hn ev (by rw [List.length_reverse]; exact hz) rv.reverse) rfl
    · exact sa.elim
  · exact sa.elim
theorem m_extend : MtR X "list.extend" (rdM X.K X.mg dExtend) := by
  intro pins s σ H x xs v us Q I rx rs ⟨m, S, d, ds, r, hd, hs, sa⟩
  unfold dExtend at sa
  split at sa
  · rename_i n k
    obtain ⟨hn, rfl⟩ := hd
    obtain ⟨w, r2, rfl, ⟨hk, rfl⟩, e2⟩ := hs
    obtain rfl : r2 = [] := e2
    split at sa
    · rename_i ds' es' hS hT
      obtain ⟨vs, ev, hz, rv⟩ := r.at_ _ _ hS
      obtain ⟨ws, ew, hy, rw'⟩ := r.at_ _ _ hT
      split at sa
      · rename_i hl
        have hl' : vs.length + ws.length ≤ sizeLine := by rw [rv.len, rw'.len]; exact hl
        refine mt_extend pins s σ H _ _ v us Q I rx rs ⟨_, _, vs, ws, rfl, rfl, ev, ew, hl', ?_⟩
        exact sa.ok (Post.wlst r hn ev (by rw [List.length_append]; exact hl') (rv.append rw')) rfl
      · exact sa.elim
    · exact sa.elim
  · exact sa.elim
end

/-! ### targets -/
abbrev TgX := D → Slots → Sto → Option (Slots × Sto)
/-- all slots but those at ws are as they were -/
def Agree (ws : List Nat) (σ σ' : L2.St) : Prop := σ'.length = σ.length ∧ ∀ j, j ∉ ws → σ'[j]? = σ[j]?
theorem Agree.refl {ws : List Nat} {σ : L2.St} : Agree ws σ σ := ⟨rfl, fun _ _ => rfl⟩
theorem Agree.app {ws us : List Nat} {σ σ1 σ2 : L2.St} (a : Agree ws σ σ1) (b : Agree us σ1 σ2) : Agree (ws ++ us) σ σ2 :=
  ⟨b.1.trans a.1, fun j hj => (b.2 j fun h => hj (List.mem_append_right _ h)).trans (a.2 j fun h => hj (List.mem_append_left _ h))⟩
def rdG1 (K : PySem.W.Frag) (mg : Str → Option Value) (pin : Option (Nat × Addr)) (t : TgX) (ws : List Nat) : TG := fun v σ H Q => ∃ m d env S, SlotsOk K pin m S.length H env σ ∧ SRel K mg m S H ∧ Rep K m S.length H d v ∧ match t d env S with
  | some (env', S') => ∀ m' H' σ', Post K mg m S H m' S' H' → SlotsOk K pin m' S'.length H' env' σ' → Agree ws σ σ' → Q σ' H'
  | none => False
def rdGs (K : PySem.W.Frag) (mg : Str → Option Value) (pin : Option (Nat × Addr)) (t : List D → Slots → Sto → Option (Slots × Sto)) (ws : List Nat) : TGs := fun vs σ H Q => ∃ m ds env S, SlotsOk K pin m S.length H env σ ∧ SRel K mg m S H ∧ RepL K m S.length H ds vs ∧ match t ds env S with
  | some (env', S') => ∀ m' H' σ', Post K mg m S H m' S' H' → SlotsOk K pin m' S'.length H' env' σ' → Agree ws σ σ' → Q σ' H'
  | none => False
def GG (X : Cx) (pin : Option (Nat × Addr)) (tg : Expr) (t : TgX) (ws : List Nat) : Prop := PG X tg (rdG1 X.K X.mg pin t ws)
def GGs (X : Cx) (pin : Option (Nat × Addr)) (tg : List Expr) (t : List D → Slots → Sto → Option (Slots × Sto)) (ws : List Nat) : Prop := PGs X tg (rdGs X.K X.mg pin t ws)
theorem PG.weak {X : Cx} {tg : Expr} {t t' : TG} (h : PG X tg t) (w : ∀ v σ H Q, t' v σ H Q → t v σ H Q) : PG X tg t' := ⟨fun pins s σ H v u Q I r q => h.run pins s σ H v u Q I r (w _ _ _ _ q)⟩
theorem PGs.weak {X : Cx} {tg : List Expr} {t t' : TGs} (h : PGs X tg t) (w : ∀ v σ H Q, t' v σ H Q → t v σ H Q) : PGs X tg t' := ⟨fun pins s σ H v u Q I r q => h.run pins s σ H v u Q I r (w _ _ _ _ q)⟩
def gN (i : Nat) : TgX := fun d env S => some (env.set i (some d), S)
def gsNil : List D → Slots → Sto → Option (Slots × Sto) := fun ds env S => match ds with
  | [] => some (env, S)
  | _ => none
def gsCons (t : TgX) (u : List D → Slots → Sto → Option (Slots × Sto)) : List D → Slots → Sto → Option (Slots × Sto) := fun ds env S => match ds with
  | d :: r => match t d env S with
    | some (env', S') => u r env' S'
    | none => none
  | [] => none
def gT (n : Nat) (u : List D → Slots → Sto → Option (Slots × Sto)) : TgX := fun d env S => match itemsOf S d with
  | some ds => if ds.length = n then u ds env S else none
  | none => none
section
variable {X : Cx} {pin : Option (Nat × Addr)} {pos : Pos}
theorem gg_name {i : Nat} {x : Str} (hN : X.N.Nodup) (hi : X.N[i]? = some x) (hx : Loc X.env.scope x) (hp : ∀ p, pin ≠ some (i, p) := by first | exact fun _ z => nomatch z | (intro p z; injection z with z; injection z with z _; revert z; decide)) (hf : X.fn x = true ∨ X.env.scope.names.lookup x = some .local := by first | exact .inl rfl | exact .inr rfl | assumption) : GG X pin (.Name x pos) (gN i) [i] :=
  PG.weak (pg_name hN hi hx hf) fun v σ H Q ⟨m, d, env, S, E, r, rd, q⟩ => q m H _ (Post.refl r) (E.set rd hp) ⟨by rw [List.length_set], fun j hj => by rw [List.getElem?_set_ne fun e => hj (by rw [e]; exact List.mem_singleton.mpr rfl)]⟩
theorem ggs_nil : GGs X pin [] gsNil [] := PGs.weak pgs_nil fun vs σ H Q ⟨m, ds, env, S, E, r, rd, q⟩ => by
  unfold gsNil at q
  split at q
  · rename_i e' S' hq
    split at hq
    · cases hq
      exact ⟨rd, q m H σ (Post.refl r) E Agree.refl⟩
    · cases hq
  · exact q.elim
theorem ggs_cons {e : Expr} {es : List Expr} {t : TgX} {u : List D → Slots → Sto → Option (Slots × Sto)} {ws us : List Nat} (h1 : GG X pin e t ws) (h2 : GGs X pin es u us)
    (hs : (assignEach (e :: es) X.env).map (·.2) = assign e X.env :: (assignEach es X.env).map (·.2) := by rfl) : GGs X pin (e :: es) (gsCons t u) (ws ++ us) :=
  PGs.weak (pgs_cons h1 h2 hs) fun vs σ H Q ⟨m, ds, env, S, E, r, rd, q⟩ => by
    cases ds with
    | nil => exact q.elim
    | cons d ds =>
      obtain ⟨v, r', rfl, hd, hr⟩ := rd
      refine ⟨v, r', rfl, m, d, env, S, E, r, hd, ?_⟩
      have q' : match (match t d env S with | some (env', S') => u ds env' S' | none => none) with
        | some (env', S') => ∀ m' H' σ', Post X.K X.mg m S H m' S' H' → SlotsOk X.K pin m' S'.length H' env' σ' → Agree (ws ++ us) σ σ' → Q σ' H'
        | none => False := q
      cases ht : t d env S with
      | none => rw [ht] at q'; exact q'.elim
      | some w =>
        obtain ⟨env1, S1⟩ := w
        rw [ht] at q'
        intro m1 H1 σ1 p1 E1 a1
        refine ⟨m1, ds, env1, S1, E1, p1.rel, (p1.keep r).repL _ _ hr, ?_⟩
        dsimp only at q'
        cases hu : u ds env1 S1 with
        | none => rw [hu] at q'; exact q'.elim
        | some w2 =>
          obtain ⟨env2, S2⟩ := w2
          rw [hu] at q'
          exact fun m' H' σ' p' E' a' => q' m' H' σ' (p1.trans p') E' (a1.app a')
theorem pg_either {es : List Expr} {k : Nat} {t : TGs} {n : Nat} (h1 : PG X (.Tuple es k pos) (gTup X.K n t)) (h2 : PG X (.Tuple es k pos) (gLst X.K n t)) : PG X (.Tuple es k pos) (fun v σ H Q => ∃ a xs, v = .ref a ∧ (SqL X.K H a xs ∨ SqT X.K H a xs) ∧ xs.length = n ∧ t xs σ H Q) := by
  refine ⟨fun pins s σ H v u Q I r ⟨a, xs, e, hq, hl, q⟩ => ?_⟩
  rcases hq with hq | hq
  · exact h2.run pins s σ H v u Q I r ⟨a, xs, e, hq, hl, q⟩
  · exact h1.run pins s σ H v u Q I r ⟨a, xs, e, hq, hl, q⟩
theorem gg_tup {es : List Expr} {k : Nat} {n : Nat} {u : List D → Slots → Sto → Option (Slots × Sto)} {ws : List Nat} (hc : X.calm = true) (h : GGs X pin es u ws)
    (hn : (assignEach es X.env).length = n := by rfl) (hst : (assignEach es X.env).findIdx? (·.1) = none := by rfl) : GG X pin (.Tuple es k pos) (gT n u) ws :=
  PG.weak (pg_either (pg_tup hc h hn hst) (pg_lst hc h hn hst)) fun v σ H Q ⟨m, d, env, S, E, r, rd, q⟩ => by
    unfold gT at q
    cases hi : itemsOf S d with
    | none => rw [hi] at q; exact q.elim
    | some ds =>
      rw [hi] at q
      dsimp only at q
      obtain ⟨p, vs, rfl, hp, hz, rv⟩ := items_rep r rd hi
      by_cases hl : ds.length = n
      · rw [if_pos hl] at q
        exact ⟨p, vs, rfl, hp, by rw [rv.len]; exact hl, m, ds, env, S, E, r, rv, q⟩
      · rw [if_neg hl] at q
        exact q.elim
end

/-! ### assignments to targets, to items -/
def sAsg (f : EX) (t : TgX) : SX := fun env S => (f env S).then env fun d S1 => match t d env S1 with
  | some (env', S') => .nx env' S'
  | none => .bad
/-- o[i] = v: a list, a dict -/
def dPut (o i v : D) (S : Sto) : Option Sto := match o with
  | .cel n => match S[n]? with
    | some (.lst ds) => match i with
      | .a (.int k) => match ixN ds.length k with
        | some j => some (S.set n (.lst (ds.set j v)))
        | none => none
      | _ => none
    | some (.dic kvs) => match keyOf i with
      | some k => if kvs.length < sizeLine then some (S.set n (.dic (setK kvs k v))) else none
      | none => none
    | _ => none
  | _ => none
def sPut (fv fo fi : EX) : SX := fun env S => (fv env S).then env fun v S1 => (fo env S1).then env fun o S2 => (fi env S2).then env fun i S3 => match dPut o i v S3 with
  | some S4 => .nx env S4
  | none => .bad
section
variable {X : Cx} {W : WX} {pin : Option (Nat × Addr)} {pos pos' : Pos}
theorem gs_asg {tg e : Expr} {f : EX} {t : TgX} {ws : List Nat} (he : GE X W pin e f) (hg : GG X pin tg t ws) (hs : swapsWithSole [tg] e pos.line X.env = pure false := by rfl) (hw : swappedStores [tg] e X.env = pure none := by rfl)
    (h1 : (assignEach [tg] X.env).map (·.2) = [assign tg X.env] := by rfl) : GS X W pin (.Assign [tg] e pos) (sAsg f t) :=
  PS.weak (ps_asg he hg hs hw h1) fun E σ H ⟨m, env, S, E0, r, s⟩ => by
    refine ⟨m, env, S, E0, r, (SSat.then (Rl := Rep X.K) E0 r s).mono fun y H1 ⟨m1, S1, d, p, e1, rd, s1⟩ => ?_⟩
    refine ⟨m1, d, env, S1, e1, p.rel, rd, ?_⟩
    cases ht : t d env S1 with
    | none => rw [ht] at s1; exact s1.elim
    | some w =>
      obtain ⟨env', S'⟩ := w
      rw [ht] at s1
      exact fun m' H' σ' p' e' _ => s1 m' H' σ' p' e'
theorem len_put {κ : Type} [DecidableEq κ] {kvs : List (κ × V)} {k : κ} {v : V} : (putK kvs k v).length ≤ kvs.length + 1 := by
  unfold putK
  split
  · rw [List.length_map]; omega
  · rw [List.length_append]; exact Nat.le_refl _
/-- the reading of a store -/
def rdPut (K : PySem.W.Frag) (mg : Str → Option Value) : TSet := fun o i v H Q => ∃ m S d e w, SRel K mg m S H ∧ Rep K m S.length H d o ∧ Rep K m S.length H e i ∧ Rep K m S.length H w v ∧ match dPut d e w S with
  | some S' => ∀ m' H', Post K mg m S H m' S' H' → Q H'
  | none => False
theorem p_put (hu : X.A.units + 1 < cLine) : PSet X (rdPut X.K X.mg) := by
  intro pins s σ H o i v ov iv u Q I ro ri rv ⟨m, S, d, e, w, r, hd, he, hw, q⟩
  unfold dPut at q
  cases d with
  | cel n =>
    obtain ⟨hn, rfl⟩ := hd
    dsimp only at q
    cases hS : S[n]? with
    | none => rw [hS] at q; exact q.elim
    | some c =>
      rw [hS] at q
      cases c with
      | lst ds =>
        dsimp only at q
        obtain ⟨vs, ev, hz, rvs⟩ := r.at_ _ _ hS
        cases e with
        | a x =>
          cases x with
          | int k =>
            dsimp only at q
            obtain rfl := rep_int he
            cases hj : ixN ds.length k with
            | none => rw [hj] at q; exact q.elim
            | some j =>
              rw [hj] at q
              refine set_list pins s σ H _ _ v ov iv u Q I ro ri rv ⟨_, vs, k, j, rfl, rfl, ev, by rw [rvs.len]; exact hj, ?_⟩
              exact q m _ (Post.wlst r hn ev (by rw [List.length_set]; exact hz) (rvs.set j hw))
          | _ => exact q.elim
        | _ => exact q.elim
      | dic kvs =>
        dsimp only at q
        obtain ⟨ws, ev, hz, rvs⟩ := r.at_ _ _ hS
        cases hk : keyOf e with
        | none => rw [hk] at q; exact q.elim
        | some k =>
          rw [hk] at q
          dsimp only at q
          by_cases hl : kvs.length < sizeLine
          · rw [if_pos hl] at q
            obtain rfl := keyOf_rep he hk
            have hl' : ws.length < sizeLine := by rw [rvs.len]; exact hl
            have kp : Keep m S.length H m S.length (upd H (m n) (.dK (putK ws k v))) := ⟨Nat.le_refl _, fun _ _ => rfl, fun q u h hc => by
              rw [upd_ne fun e => r.apart h hc n hn e.symm]
              exact h⟩
            have p1 := Post.write (c := .dic (setK kvs k w)) r hn (by rw [ev]; intro _ _ z; cases z) (o := .dK (putK ws k v)) ⟨_, upd_same, Nat.le_trans len_put hl', kp.repP _ _ (setK_rep hw rvs)⟩
            obtain rfl : ov = Value.ref _ := ro
            exact d_setItem hu I (DPut.k ev hl') ri rv fun s' I' => ⟨_, I', q m _ p1⟩
          · rw [if_neg hl] at q; exact q.elim
      | _ => exact q.elim
  | _ => exact q.elim
theorem gs_put (hu : X.A.units + 1 < cLine) {o i e : Expr} {fo fi fv : EX} (hv : GE X W pin e fv) (ho : GE X W pin o fo) (hi : GE X W pin i fi) (hs : swapsWithSole [.Subscript o i pos'] e pos.line X.env = pure false := by rfl) (hw : swappedStores [.Subscript o i pos'] e X.env = pure none := by rfl)
    (h1 : (assignEach [.Subscript o i pos'] X.env).map (·.2) = [assign (.Subscript o i pos') X.env] := by rfl)
    (ha : ∀ v, assign (.Subscript o i pos') X.env v = (do
      let ov ← holding [v] (eval o X.env)
      let iv ← holding [v, ov] (eval i X.env)
      standAt pos'
      holding [v, ov, iv] (setItem ov iv v)
      release [v, ov, iv] []) := by intro _; rfl) : GS X W pin (.Assign [.Subscript o i pos'] e pos) (sPut fv fo fi) :=
  PS.weak (ps_asg hv (pg_sub ho hi (p_put hu) ha) hs hw h1) fun E σ H ⟨m, env, S, E0, r, s⟩ => by
    refine ⟨m, env, S, E0, r, (SSat.then (Rl := Rep X.K) E0 r s).mono fun y H1 ⟨m1, S1, v, p1, e1, rv, s1⟩ => ?_⟩
    refine ⟨m1, env, S1, e1, p1.rel, (SSat.then (Rl := Rep X.K) e1 p1.rel s1).mono fun y2 H2 ⟨m2, S2, o, p2, e2, ro, s2⟩ => ?_⟩
    refine ⟨m2, env, S2, e2, p2.rel, (SSat.then (Rl := Rep X.K) e2 p2.rel s2).mono fun y3 H3 ⟨m3, S3, i, p3, e3, ri, s3⟩ => ?_⟩
    refine ⟨m3, S3, o, i, v, p3.rel, (p3.keep p2.rel).rep _ _ ro, ri, (p3.keep p2.rel).rep _ _ ((p2.keep p1.rel).rep _ _ rv), ?_⟩
    cases hq : dPut o i v S3 with
    | none => rw [hq] at s3; exact s3.elim
    | some S4 =>
      rw [hq] at s3
      exact fun m' H' p' => s3 m' H' σ p' (e3.keep (p'.keep p3.rel))
end
end G
set_option maxRecDepth 100000
/-! The layer G, part 6: what is walked; for, while, comprehensions; x op= e. -/
namespace G
open PySem PySem.Spec PyProof.Rows L2

/-- the list that is walked stands still -/
abbrev Gd := Option (Nat × Cell)
def held (g : Gd) (ds : List D) (S : Sto) : Prop := ∀ n c, g = some (n, c) → S[n]? = some c
@[simp] theorem held_none (ds : List D) (S : Sto) : held none ds S ↔ True := ⟨fun _ => trivial, fun _ _ _ h => nomatch h⟩
@[simp] theorem held_some (n : Nat) (c : Cell) (ds : List D) (S : Sto) : held (some (n, c)) ds S ↔ S[n]? = some c := ⟨fun h => h n c rfl, fun h k d e => by cases e; exact h⟩

/-- a walk gives these items -/
structure WalkOk (K : PySem.W.Frag) (mg : Str → Option Value) (J : It) (ds : List D) (g : Gd) (m : Nat → Addr) (S : Sto) (H : Hp) : Prop where
  go : ∀ m' S' H' i d, Post K mg m S H m' S' H' → held g ds S' → ds[i]? = some d → J.go i H' ∧ ∀ x H'', J.yld i H' x H'' → Same H' H'' ∧ Rep K m' S'.length H'' d x
  stop : ∀ m' S' H', Post K mg m S H m' S' H' → held g ds S' → J.stop ds.length H'
abbrev IX := Slots → Sto → R (List D × Gd)
def rdI (K : PySem.W.Frag) (mg : Str → Option Value) (W : WX) (pin : Option (Nat × Addr)) (f : IX) : TI := fun σ H Q => ∃ m env S, SlotsOk K pin m S.length H env σ ∧ SRel K mg m S H ∧ match f env S with
  | .ok w S' => ∀ m' H' J, Post K mg m S H m' S' H' → WalkOk K mg J w.1 w.2 m' S' H' → Q J H'
  | .exc e S' => ∀ m' H' cls d, Post K mg m S H m' S' H' → ExR K mg m' S'.length H' e cls d → W cls d σ H'
  | .bad => False
def GI (X : Cx) (W : WX) (pin : Option (Nat × Addr)) (tg iter : Expr) (f : IX) : Prop := PI X tg iter (rdI X.K X.mg W pin f)
theorem PI.weak {X : Cx} {tg iter : Expr} {t t' : TI} (h : PI X tg iter t) (w : ∀ σ H Q, t' σ H Q → t σ H Q) : PI X tg iter t' := ⟨fun pins s σ H Q I q => h.run pins s σ H Q I (w _ _ _ q)⟩

/-- the items of a sequence, and the cell that must stand still -/
def walkOf (S : Sto) : D → Option (List D × Gd)
  | .tup ds => some (ds, none)
  | .ils ds => some (ds, none)
  | .cel n => match S[n]? with
    | some (.lst ds) => some (ds, some (n, .lst ds))
    | _ => none
  | _ => none
def iSeq (f : EX) : IX := fun env S => (f env S).bind fun d S1 => match walkOf S1 d with
  | some w => .ok w S1
  | none => .bad
def iTmp (f : AX) : IX := fun env S => (f env S).bind fun ds S1 => .ok (ds, none) S1
def rangeL (lo : Int) (n : Nat) : List D := (List.range n).map fun i => .a (.int (lo + (i : Nat)))
def iR1 (f : EX) : IX := fun env S => (f env S).bind fun d S1 => match d with
  | .a (.int j) => if -(2 ^ 62) ≤ j ∧ j < 2 ^ 62 then .ok (rangeL 0 j.toNat, none) S1 else .bad
  | _ => .bad
def iR2 (f g : EX) : IX := fun env S => (f env S).bind fun d S1 => (g env S1).bind fun e S2 => match d, e with
  | .a (.int i), .a (.int j) => if -(2 ^ 62) ≤ i ∧ i < 2 ^ 62 ∧ -(2 ^ 62) ≤ j ∧ j < 2 ^ 62 then .ok (rangeL i (j - i).toNat, none) S2 else .bad
  | _, _ => .bad
theorem rangeL_get {lo : Int} {n i : Nat} {d : D} (h : (rangeL lo n)[i]? = some d) : i < n ∧ d = .a (.int (lo + (i : Nat))) := by
  unfold rangeL at h
  rw [List.getElem?_map] at h
  by_cases hi : i < n
  · rw [List.getElem?_range hi] at h
    cases h
    exact ⟨hi, rfl⟩
  · rw [List.getElem?_eq_none (by rw [List.length_range]; omega)] at h
    cases h
theorem rangeL_len {lo : Int} {n : Nat} : (rangeL lo n).length = n := by unfold rangeL; rw [List.length_map, List.length_range]

section
variable {X : Cx} {W : WX} {pin : Option (Nat × Addr)} {tg l a b : Expr} {f g : EX} {fl : AX} {p pos : Pos}
theorem pi_either {tl : TE} (hl : PE X l tl) : PI X tg l (fun σ H R => tl σ H fun x H1 => ∃ q, x = .ref q ∧ (((∃ xs, SqL X.K H1 q xs) ∧ R (Itl X.K q) H1) ∨ ((∃ xs, SqT X.K H1 q xs) ∧ R (Itt X.K q) H1))) := by
  refine ⟨fun pins s σ H R I h => ?_⟩
  refine thn (hl.run pins s σ H _ I h) fun v s1 ⟨x, H1, I1, r1, q1⟩ => ?_
  obtain ⟨q, e, hq⟩ := q1
  subst e
  cases r1
  have fp : ∀ b ∈ [s1.heap.objs.size], FpOk X pins H1 b := fun b hb => by
    have e : b = s1.heap.objs.size := by simpa using hb
    subst e
    exact I1.fpOk (Nat.le_refl _) (I1.hok.fresh (Nat.le_refl _))
  rcases hq with ⟨⟨xs, hq⟩, q⟩ | ⟨⟨xs, hq⟩, q⟩
  · obtain ⟨its, rv, p, hz⟩ := I1.list hq
    exact wpAny_pyIter_list p.isList ⟨s1.heap.objs.size, [s1.heap.objs.size], _, _, H1, rfl, I1.kept (t' := s1.toks) fun b o e => Heap.get?_push_of_some _ e, turn_list _ _, ⟨_, Heap.get?_push_size _ rfl, rfl, rfl⟩, fp, q⟩
  · obtain ⟨its, rv, p, hz⟩ := I1.tuple hq
    exact wpAny_pyIter_tuple (show s1.heap.IsTuple _ its.toArray from p) ⟨s1.heap.objs.size, [s1.heap.objs.size], _, _, H1, rfl, I1.kept (t' := s1.toks) fun b o e => Heap.get?_push_of_some _ e, turn_tuple _ _, ⟨_, Heap.get?_push_size _ rfl, rfl, rfl⟩, fp, q⟩
theorem walk_listI {K : PySem.W.Frag} {mg : Str → Option Value} {m : Nat → Addr} {S : Sto} {H : Hp} {q : Addr} {ds : List D} {g : Gd} (h : ∀ m' S' H', Post K mg m S H m' S' H' → held g ds S' → ∃ vs, Rd H' q (.lst vs) ∧ RepL K m' S'.length H' ds vs) (inj : True := trivial)
    (hu : ∀ (m' : Nat → Addr) (S' : Sto) (H' : Hp) (vs ws : List V), Rd H' q (.lst vs) → SqL K H' q ws → ws = vs ∨ ∃ o, K.lookup q = some o) (nk : K.lookup q = none) : WalkOk K mg (Itl K q) ds g m S H where
  go := fun m' S' H' i d p hg hi => by
    obtain ⟨vs, hq, rv⟩ := h m' S' H' p hg
    obtain ⟨v, h1, h2⟩ := rv.get hi
    refine ⟨⟨vs, v, .inl hq, h1⟩, fun x H'' ⟨e, y⟩ => ?_⟩
    subst e
    refine ⟨Same.refl _, ?_⟩
    have e := y vs (.inl hq)
    rw [h1] at e
    cases e
    exact h2
  stop := fun m' S' H' p hg => by
    obtain ⟨vs, hq, rv⟩ := h m' S' H' p hg
    exact ⟨vs, .inl hq, Nat.le_of_eq rv.len⟩
theorem walk_sq {K : PySem.W.Frag} {mg : Str → Option Value} {m : Nat → Addr} {S : Sto} {H : Hp} {q : Addr} {ds : List D} {g : Gd} (h : ∀ m' S' H', Post K mg m S H m' S' H' → held g ds S' → ∃ vs, SqL K H' q vs ∧ RepL K m' S'.length H' ds vs) : WalkOk K mg (Itl K q) ds g m S H where
  go := fun m' S' H' i d p hg hi => by
    obtain ⟨vs, hq, rv⟩ := h m' S' H' p hg
    obtain ⟨v, h1, h2⟩ := rv.get hi
    refine ⟨⟨vs, v, hq, h1⟩, fun x H'' ⟨e, y⟩ => ?_⟩
    subst e
    have e := y vs hq
    rw [h1] at e
    cases e
    exact ⟨Same.refl _, h2⟩
  stop := fun m' S' H' p hg => by
    obtain ⟨vs, hq, rv⟩ := h m' S' H' p hg
    exact ⟨vs, hq, Nat.le_of_eq rv.len⟩
theorem walk_tup {K : PySem.W.Frag} {mg : Str → Option Value} {m : Nat → Addr} {S : Sto} {H : Hp} {q : Addr} {ds : List D} {g : Gd} (h : ∀ m' S' H', Post K mg m S H m' S' H' → ∃ vs, SqT K H' q vs ∧ RepL K m' S'.length H' ds vs) : WalkOk K mg (Itt K q) ds g m S H where
  go := fun m' S' H' i d p hg hi => by
    obtain ⟨vs, hq, rv⟩ := h m' S' H' p
    obtain ⟨v, h1, h2⟩ := rv.get hi
    refine ⟨⟨vs, v, hq, h1⟩, fun x H'' ⟨e, y⟩ => ?_⟩
    subst e
    have e := y vs hq
    rw [h1] at e
    cases e
    exact ⟨Same.refl _, h2⟩
  stop := fun m' S' H' p hg => by
    obtain ⟨vs, hq, rv⟩ := h m' S' H' p
    exact ⟨vs, hq, Nat.le_of_eq rv.len⟩
theorem gi_seq (he : GE X W pin l f) : GI X W pin tg l (iSeq f) := PI.weak (pi_either he) fun σ H Q ⟨m, env, S, E, r, s⟩ => by
  refine ⟨m, env, S, E, r, ?_⟩
  unfold iSeq at s
  cases hf : f env S with
  | bad => rw [hf] at s; exact s.elim
  | exc x S' => rw [hf] at s; exact s
  | ok d S1 =>
    rw [hf, R.bind_ok] at s
    intro m1 H1 x p1 rx
    unfold walkOf at s
    cases d with
    | tup ds =>
      obtain ⟨q, vs, rfl, hq, hz, rv⟩ := rx
      refine ⟨q, rfl, .inr ⟨⟨vs, hq⟩, s m1 H1 _ p1 (walk_tup fun m' S' H' p' => ?_)⟩⟩
      exact ⟨vs, (p'.keep p1.rel).sqT hq, (p'.keep p1.rel).repL _ _ rv⟩
    | ils ds =>
      obtain ⟨q, vs, rfl, hq, hz, rv⟩ := rx
      refine ⟨q, rfl, .inl ⟨⟨vs, ils_sq hq⟩, s m1 H1 _ p1 (walk_sq fun m' S' H' p' _ => ?_)⟩⟩
      exact ⟨vs, ils_sq ((p'.keep p1.rel).ils hq), (p'.keep p1.rel).repL _ _ rv⟩
    | cel n =>
      obtain ⟨hn, rfl⟩ := rx
      dsimp only at s
      cases hS : S1[n]? with
      | none => rw [hS] at s; exact s.elim
      | some c =>
        rw [hS] at s
        cases c with
        | lst ds =>
          obtain ⟨vs, ev, hz, rv⟩ := p1.rel.at_ _ _ hS
          refine ⟨_, rfl, .inl ⟨⟨vs, SqL.of ev⟩, s m1 H1 _ p1 (walk_sq fun m' S' H' p' hg => ?_)⟩⟩
          obtain ⟨ws, ew, _, rw'⟩ := p'.rel.at_ n _ (hg n _ rfl)
          rw [p'.ext n hn] at ew
          exact ⟨ws, SqL.of ew, rw'⟩
        | _ => exact s.elim
    | a v => exact s.elim
theorem gi_tmp (he : GL X W pin l fl) : GI X W pin tg l (iTmp fl) := PI.weak (pi_list he) fun σ H Q ⟨m, env, S, E, r, s⟩ => by
  refine ⟨m, env, S, E, r, ?_⟩
  unfold iTmp at s
  cases hf : fl env S with
  | bad => rw [hf] at s; exact s.elim
  | exc x S' => rw [hf] at s; exact s
  | ok ds S1 =>
    rw [hf, R.bind_ok] at s
    intro m1 H1 q vs p1 hn hq ap hz rv
    refine ⟨q, rfl, ⟨vs, SqL.of hq⟩, s m1 H1 _ p1 (walk_sq fun m' S' H' p' _ => ?_)⟩
    exact ⟨vs, SqL.of (p'.frame q _ hq ap), (p'.keep p1.rel).repL _ _ rv⟩
theorem walk_rng {K : PySem.W.Frag} {mg : Str → Option Value} {m : Nat → Addr} {S : Sto} {H : Hp} {lo : Int} {n : Nat} {g : Gd} : WalkOk K mg (Itr lo n) (rangeL lo n) g m S H where
  go := fun m' S' H' i d p hg hi => by
    obtain ⟨h1, rfl⟩ := rangeL_get hi
    refine ⟨h1, fun x H'' ⟨e, y⟩ => ?_⟩
    subst e
    exact ⟨Same.refl _, y⟩
  stop := fun m' S' H' p hg => by
    rw [rangeL_len]
    exact Nat.le_refl n
theorem gi_range1 (hg : Gl X "range") (hm : X.mg "range" = none) (ha : GE X W pin a f) (hs : starEach [a] X.env = [(false, eval a X.env)] := by rfl) (hs' : starEach [a] X.env = (false, eval a X.env) :: starEach [] X.env := by rfl) : GI X W pin tg (.Call (.Name "range" p) [a] [] pos) (iR1 f) :=
  PI.weak (pi_range1 hg hm (pa_cons ha pa_nil hs') hs) fun σ H Q ⟨m, env, S, E, r, s⟩ => by
    show rdE X.K X.mg W pin f σ H fun x H1 => tNil σ H1 fun xs H2 => _
    refine ⟨m, env, S, E, r, ?_⟩
    unfold iR1 at s
    cases hf : f env S with
    | bad => rw [hf] at s; exact s.elim
    | exc x S' => rw [hf] at s; exact s
    | ok d S1 =>
      rw [hf, R.bind_ok] at s
      intro m1 H1 x p1 rx
      split at s
      · rename_i w S' hw
        split at hw
        · rename_i j
          obtain rfl := rep_int rx
          split at hw
          · rename_i hj
            cases hw
            exact ⟨j, rfl, hj.1, hj.2, s m1 H1 _ p1 walk_rng⟩
          · cases hw
        · cases hw
      · rename_i e S' hw
        split at hw
        · split at hw <;> cases hw
        · cases hw
      · exact s.elim
theorem gi_range2 (hg : Gl X "range") (hm : X.mg "range" = none) (ha : GE X W pin a f) (hb : GE X W pin b g) (hs : starEach [a, b] X.env = [(false, eval a X.env), (false, eval b X.env)] := by rfl) (hs2 : starEach [b] X.env = [(false, eval b X.env)] := by rfl)
    (h1 : starEach [a, b] X.env = (false, eval a X.env) :: starEach [b] X.env := by rfl) (h2 : starEach [b] X.env = (false, eval b X.env) :: starEach [] X.env := by rfl) : GI X W pin tg (.Call (.Name "range" p) [a, b] [] pos) (iR2 f g) :=
  PI.weak (pi_range2 hg hm (pa_cons ha (pa_cons hb pa_nil h2) h1) hs hs2) fun σ H Q ⟨m, env, S, E, r, s⟩ => by
    show rdE X.K X.mg W pin f σ H fun x H1 => rdE X.K X.mg W pin g σ H1 fun y H2 => tNil σ H2 fun xs H3 => _
    refine ⟨m, env, S, E, r, ?_⟩
    unfold iR2 at s
    cases hf : f env S with
    | bad => rw [hf] at s; exact s.elim
    | exc x S' => rw [hf] at s; exact s
    | ok d S1 =>
      rw [hf, R.bind_ok] at s
      intro m1 H1 x p1 rx
      refine ⟨m1, env, S1, E.keep (p1.keep r), p1.rel, ?_⟩
      cases hg' : g env S1 with
      | bad => rw [hg'] at s; exact s.elim
      | exc x S' => rw [hg'] at s; exact fun m' H' c d p' q => s m' H' c d (p1.trans p') q
      | ok e S2 =>
        rw [hg', R.bind_ok] at s
        intro m2 H2 y p2 ry
        split at s
        · rename_i w S' hw
          split at hw
          · rename_i i j
            obtain rfl := rep_int rx
            obtain rfl := rep_int ry
            split at hw
            · rename_i hj
              cases hw
              exact ⟨i, j, rfl, hj, s m2 H2 _ (p1.trans p2) walk_rng⟩
            · cases hw
          · cases hw
        · rename_i e S' hw
          split at hw
          · split at hw <;> cases hw
          · cases hw
        · exact s.elim
end

/-! ### for -/
open Classical in
noncomputable def forGo (g : Gd) (all : List D) (t : TgX) (body : SX) : List D → Slots → Sto → SR
  | [], env, S => if held g all S then .nx env S else .bad
  | d :: r, env, S => if held g all S then match t d env S with
    | some (env', S') => match body env' S' with
      | .nx e s => forGo g all t body r e s
      | .ct e s => forGo g all t body r e s
      | .bk e s => .nx e s
      | .rt v s => .rt v s
      | .ex x e s => .ex x e s
      | .bad => .bad
    | none => .bad else .bad
noncomputable def sFor (it : IX) (t : TgX) (body : SX) : SX := fun env S => (it env S).then env fun w S1 => forGo w.2 w.1 t body w.1 env S1
def whileGo (c : BX) (body : SX) : Nat → Slots → Sto → SR
  | 0, _, _ => .bad
  | n + 1, env, S => (c env S).then env fun b S1 => bif b then (match body env S1 with
      | .nx e s => whileGo c body n e s
      | .ct e s => whileGo c body n e s
      | .bk e s => .nx e s
      | .rt v s => .rt v s
      | .ex x e s => .ex x e s
      | .bad => .bad) else .nx env S1
/-- at most 2^64 turns -/
def sWhile (c : BX) (body : SX) : SX := fun env S => whileGo c body (2 ^ 64) env S
section
variable {X : Cx} {W : WX} {pin : Option (Nat × Addr)} {pos : Pos}
theorem gs_for {tg iter : Expr} {body : List Stmt} {it : IX} {t : TgX} {ws : List Nat} {fb : SX} (hp : PassesOwn (model X.prog X.w) X.A X.env X.xe) (hc : X.calm = true) (hi : GI X W pin tg iter it) (hg : GG X pin tg t ws) (hb : GSs X W pin body fb)
    (hs : ∀ x, foldedSetIterable iter X.env x = pure x := by intro _; rfl) : GS X W pin (.For tg iter body [] pos) (sFor it t fb) :=
  PS.weak (ps_for hp hc hi hg hb hs) fun E σ H ⟨m, env, S, E0, r, s⟩ => by
    refine ⟨m, env, S, E0, r, ?_⟩
    unfold sFor at s
    cases hf : it env S with
    | bad => rw [hf] at s; exact s.elim
    | exc x S' => rw [hf] at s; exact fun m' H' c d p q => s m' H' σ c d p (E0.keep (p.keep r)) q
    | ok w S1 =>
      rw [hf, R.then_ok] at s
      obtain ⟨ds, gg⟩ := w
      intro m1 H1 J p1 wk
      have s1 := SSat.step p1 s
      have E1 := E0.keep (p1.keep r)
      refine ⟨fun i n σ' H' => n = ds.length - i ∧ i ≤ ds.length ∧ ∃ m' env' S', Post X.K X.mg m1 S1 H1 m' S' H' ∧ SlotsOk X.K pin m' S'.length H' env' σ' ∧ SSat X.K X.mg W pin E m' S' H' (forGo gg ds t fb (ds.drop i) env' S'),
        ⟨ds.length, rfl, Nat.zero_le _, m1, env, S1, Post.refl p1.rel, E1, s1⟩, ?_⟩
      rintro i n σ' H' ⟨rfl, hle, m', env', S', p', E', s'⟩
      by_cases hlt : i < ds.length
      · have hd : ds.drop i = ds[i] :: ds.drop (i + 1) := List.drop_eq_getElem_cons hlt
        rw [hd] at s'
        unfold forGo at s'
        by_cases hh : held gg ds S'
        · rw [if_pos hh] at s'
          obtain ⟨go, yl⟩ := wk.go m' S' H' i ds[i] p' hh (List.getElem?_eq_getElem hlt)
          refine .inr ⟨go, fun σ' H' => ds.length - (i + 1) = ds.length - (i + 1) ∧ i + 1 ≤ ds.length ∧ ∃ m' env' S', Post X.K X.mg m1 S1 H1 m' S' H' ∧ SlotsOk X.K pin m' S'.length H' env' σ' ∧ SSat X.K X.mg W pin E m' S' H' (forGo gg ds t fb (ds.drop (i + 1)) env' S'),
            fun σ2 H2 q => ⟨ds.length - (i + 1), by omega, q⟩, fun x H2 y => ?_⟩
          obtain ⟨sm, rx⟩ := yl x H2 y
          have p2 := Post.same p'.rel sm
          have s2 := SSat.step p2 s'
          refine ⟨m', ds[i], env', S', E'.keep (p2.keep p'.rel), p2.rel, rx, ?_⟩
          cases ht : t ds[i] env' S' with
          | none => rw [ht] at s2; exact s2.elim
          | some w2 =>
            obtain ⟨env3, S3⟩ := w2
            rw [ht] at s2
            intro m3 H3 σ3 p3 E3 _
            have s3 := SSat.step p3 s2
            refine ⟨m3, env3, S3, E3, p3.rel, ?_⟩
            have pp := (p'.trans p2).trans p3
            dsimp only at s3
            cases hbd : fb env3 S3 with
            | nx e4 S4 =>
              rw [hbd] at s3
              exact fun m4 H4 σ4 p4 E4 => ⟨rfl, hlt, m4, e4, S4, pp.trans p4, E4, SSat.step p4 s3⟩
            | ct e4 S4 =>
              rw [hbd] at s3
              exact fun m4 H4 σ4 p4 E4 => ⟨rfl, hlt, m4, e4, S4, pp.trans p4, E4, SSat.step p4 s3⟩
            | bk e4 S4 => rw [hbd] at s3; exact s3
            | rt v S4 => rw [hbd] at s3; exact s3
            | ex x4 e4 S4 => rw [hbd] at s3; exact s3
            | bad => rw [hbd] at s3; exact s3
        · rw [if_neg hh] at s'
          exact s'.elim
      · have e : i = ds.length := by omega
        subst e
        rw [List.drop_length] at s'
        unfold forGo at s'
        by_cases hh : held gg ds S'
        · rw [if_pos hh] at s'
          exact .inl ⟨wk.stop m' S' H' p' hh, s' m' H' σ' (Post.refl p'.rel) E'⟩
        · rw [if_neg hh] at s'
          exact s'.elim
theorem gs_while {c : Expr} {body : List Stmt} {fc : BX} {fb : SX} (hp : PassesOwn (model X.prog X.w) X.A X.env X.xe) (hc : GT X W pin c fc) (hb : GSs X W pin body fb) : GS X W pin (.While c body [] pos) (sWhile fc fb) :=
  PS.weak (ps_while hp hc hb) fun E σ H ⟨m, env, S, E0, r, s⟩ => by
    unfold sWhile at s
    refine ⟨fun n σ' H' => ∃ m' env' S', SlotsOk X.K pin m' S'.length H' env' σ' ∧ SRel X.K X.mg m' S' H' ∧ SSat X.K X.mg W pin E m' S' H' (whileGo fc fb n env' S'), ⟨2 ^ 64, m, env, S, E0, r, s⟩, ?_⟩
    rintro n σ' H' ⟨m', env', S', E', r', s'⟩
    cases n with
    | zero => exact s'.elim
    | succ n =>
      unfold whileGo at s'
      refine ⟨m', env', S', E', r', (SSat.then (Rl := relB) E' r' s').mono fun y H1 ⟨m1, S1, b, p1, e1, eb, s1⟩ => ?_⟩
      obtain rfl : y = b := eb
      cases y with
      | false => exact s1 m1 H1 σ' (Post.refl p1.rel) e1
      | true =>
        rw [if_pos rfl]
        refine ⟨fun σ2 H2 => ∃ m2 env2 S2, SlotsOk X.K pin m2 S2.length H2 env2 σ2 ∧ SRel X.K X.mg m2 S2 H2 ∧ SSat X.K X.mg W pin E m2 S2 H2 (whileGo fc fb n env2 S2), fun σ2 H2 q => ⟨n, Nat.lt_succ_self n, q⟩, m1, env', S1, e1, p1.rel, ?_⟩
        rw [cond_true] at s1
        cases hbd : fb env' S1 with
        | nx e4 S4 =>
          rw [hbd] at s1
          exact fun m4 H4 σ4 p4 E4 => ⟨m4, e4, S4, E4, p4.rel, SSat.step p4 s1⟩
        | ct e4 S4 =>
          rw [hbd] at s1
          exact fun m4 H4 σ4 p4 E4 => ⟨m4, e4, S4, E4, p4.rel, SSat.step p4 s1⟩
        | bk e4 S4 => rw [hbd] at s1; exact s1
        | rt v S4 => rw [hbd] at s1; exact s1
        | ex x4 e4 S4 => rw [hbd] at s1; exact s1
        | bad => rw [hbd] at s1; exact s1

def sBreak : SX := fun env S => .bk env S
def sCont : SX := fun env S => .ct env S
theorem gs_break : GS X W pin (.Break pos) sBreak := PS.weak ps_break fun E σ H ⟨m, env, S, E0, r, s⟩ => s m H σ (Post.refl r) E0
theorem gs_cont : GS X W pin (.Continue pos) sCont := PS.weak ps_continue fun E σ H ⟨m, env, S, E0, r, s⟩ => s m H σ (Post.refl r) E0
theorem gs_pass : GS X W pin (.Pass pos) sNil := PS.weak ps_pass fun E σ H ⟨m, env, S, E0, r, s⟩ => s m H σ (Post.refl r) E0
def sRetN : SX := fun _ S => .rt (.a .non) S
theorem gs_retN : GS X W pin (.Return none pos) sRetN := PS.weak ps_retN fun E σ H ⟨m, env, S, E0, r, s⟩ => s m H .non (Post.refl r) rfl

/-! ### x += e -/
def sAug (i : Nat) (g : Op2) (f : EX) : SX := fun env S => match env[i]? with
  | some (some x) => (f env S).then env fun y S1 => match g x y S1 with
    | some (z, S2) => .nx (env.set i (some z)) S2
    | none => .bad
  | _ => .bad
theorem ip_ints {op : Operator} {fi : Int → Int → Int} {g : Op2} (ho : PIp X op (ipI fi)) (hg : ∀ d e S r, g d e S = some r → ∃ i j, d = .a (.int i) ∧ e = .a (.int j) ∧ r = (.a (.int (fi i j)), S)) : PIp X op (rdO X.K X.mg g) := by
  intro pins s σ H x y v u Q I rx ry ⟨m, S, d, e, r, h1, h2, sa⟩
  cases hq : g d e S with
  | none => rw [hq] at sa; exact sa.elim
  | some w =>
    rw [hq] at sa
    obtain ⟨i, j, rfl, rfl, rfl⟩ := hg d e S w hq
    obtain rfl : x = .int i := h1
    obtain rfl : y = .int j := h2
    exact ho pins s σ H _ _ v u Q I rx ry ⟨i, j, rfl, rfl, sa.here r rfl⟩
def dAddI : Op2 := fun x y S => match x, y with
  | .a (.int i), .a (.int j) => some (.a (.int (i + j)), S)
  | _, _ => none
theorem ipo_add : PIp X .Add (rdO X.K X.mg dAddI) := ip_ints ip_add fun d e S r h => by
  unfold dAddI at h
  split at h
  · exact ⟨_, _, rfl, rfl, (Option.some.inj h).symm⟩
  · cases h
theorem ipo_sub : PIp X .Sub (rdO X.K X.mg dSub) := ip_ints ip_sub fun d e S r h => by
  unfold dSub at h
  split at h
  · exact ⟨_, _, rfl, rfl, (Option.some.inj h).symm⟩
  · cases h
theorem gs_aug {i : Nat} {x : Str} {e : Expr} {f : EX} {op : Operator} {g : Op2} {pos' : Pos} (hN : X.N.Nodup) (hi : X.N[i]? = some x) (hx : Loc X.env.scope x) (he : GE X W pin e f) (ho : PIp X op (rdO X.K X.mg g))
    (hp : ∀ p, pin ≠ some (i, p) := by first | exact fun _ z => nomatch z | (intro p z; injection z with z; injection z with z _; revert z; decide)) (hf : X.fn x = true ∨ X.env.scope.names.lookup x = some .local := by first | exact .inl rfl | exact .inr rfl | assumption) :
    GS X W pin (.AugAssign (.Name x pos') op e pos) (sAug i g f) := PS.weak (ps_aug hN hi hx he ho hf) fun E σ H ⟨m, env, S, E0, r, s⟩ => by
  unfold sAug at s
  split at s
  · rename_i d hd
    obtain ⟨v, h1, h2⟩ := E0.at_ i d hd
    refine ⟨v, h1, m, env, S, E0, r, (SSat.then (Rl := Rep X.K) E0 r s).mono fun y H1 ⟨m1, S1, e1, p1, E1, re, s1⟩ => ?_⟩
    refine ⟨m1, S1, d, e1, p1.rel, (p1.keep r).rep _ _ h2, re, ?_⟩
    cases hq : g d e1 S1 with
    | none => rw [hq] at s1; exact s1.elim
    | some w =>
      obtain ⟨z, S2⟩ := w
      rw [hq] at s1
      exact fun m2 H2 zv p2 rz => s1 m2 H2 _ p2 ((E1.keep (p2.keep p1.rel)).set rz hp)
  · exact s.elim
end

/-! ### list comprehensions -/
/-- an exception within a block is not served -/
def noX {α : Type} : R α → R α
  | .exc _ _ => .bad
  | r => r
@[simp] theorem noX_ok {α : Type} (x : α) (S : Sto) : noX (R.ok x S) = .ok x S := rfl
@[simp] theorem noX_bad {α : Type} : noX (R.bad : R α) = .bad := rfl
@[simp] theorem noX_exc {α : Type} (e : Exn) (S : Sto) : noX (R.exc e S : R α) = .bad := rfl
def wipeS (env : Slots) : List Nat → Slots
  | [] => env
  | v :: vs => (wipeS env vs).set v none
def tTrue : BX := fun _ S => .ok true S
open Classical in
noncomputable def lcGo (g : Gd) (all : List D) (t : TgX) (ifs : BX) (elt : EX) (env : Slots) : List D → Sto → R (List D)
  | [], S => if held g all S then .ok [] S else .bad
  | d :: r, S => if held g all S then match t d env S with
    | some (env', S') => (noX (ifs env' S')).bind fun b S2 => bif b then (noX (elt env' S2)).bind fun x S3 => (lcGo g all t ifs elt env r S3).bind fun xs S4 => .ok (x :: xs) S4 else lcGo g all t ifs elt env r S2
    | none => .bad else .bad
noncomputable def aLc (it : IX) (t : TgX) (vs : List Nat) (ifs : BX) (elt : EX) : AX := fun env S => (it env S).bind fun w S1 => if w.1.length ≤ sizeLine then lcGo w.2 w.1 t ifs elt (wipeS env vs) w.1 S1 else .bad
section
variable {K : PySem.W.Frag} {mg : Str → Option Value} {m m' : Nat → Addr} {S S' : Sto} {H H' : Hp}
/-- a new thing of ours is changed -/
theorem Post.poke (p : Post K mg m S H m' S' H') {q : Addr} {o u : HO} (hn : H q = none) (hq : H' q = some o) (hc : cellish o = true) (ap : ∀ i, i < S'.length → m' i ≠ q) : Post K mg m S H m' S' (upd H' q u) := by
  have k : Keep m' S'.length H' m' S'.length (upd H' q u) := ⟨Nat.le_refl _, fun _ _ => rfl, fun b w e hw => by
    rw [upd_ne fun z => by
      rw [z, hq] at e
      cases e
      rw [hc] at hw
      cases hw]
    exact e⟩
  refine ⟨⟨fun n c e => (p.rel.at_ n c e).mono k fun w e2 => ?_, p.rel.inj⟩, p.len, p.ext, fun b w e hb => ?_, p.fresh, fun b o' u' e => ?_⟩
  · rw [upd_ne (ap n (List.getElem?_eq_some_iff.mp e).1)]
    exact e2
  · rw [upd_ne fun z => by rw [z, hn] at e; cases e]
    exact p.frame b w e hb
  · rw [upd_ne fun z => by rw [z, hn] at e; cases e]
    exact p.frz b o' u' e
theorem SlotsOk.wipe {pin : Option (Nat × Addr)} {N : Nat} {env : Slots} {σ : L2.St} (e : SlotsOk K none m N H env σ) : ∀ vs : List Nat, SlotsOk K none m N H (wipeS env vs) (wipe σ vs)
  | [] => e
  | v :: vs => (SlotsOk.wipe (pin := pin) e vs).forget v none fun _ z => nomatch z
theorem wipe_at (σ : L2.St) (j : Nat) : ∀ vs : List Nat, (wipe σ vs)[j]? = if j ∈ vs then (if j < σ.length then some none else none) else σ[j]?
  | [] => by simp [wipe]
  | v :: vs => by
    unfold wipe
    by_cases hj : v = j
    · subst hj
      rw [if_pos List.mem_cons_self]
      by_cases hl : v < σ.length
      · rw [if_pos hl, List.getElem?_set_self (by rw [wipe_length]; exact hl)]
      · rw [if_neg hl, List.getElem?_eq_none (by rw [List.length_set, wipe_length]; omega)]
    · rw [List.getElem?_set_ne hj, wipe_at σ j vs]
      by_cases hm : j ∈ vs
      · rw [if_pos hm, if_pos (List.mem_cons_of_mem _ hm)]
      · rw [if_neg hm, if_neg fun h => (List.mem_cons.mp h).elim (fun e => hj e.symm) hm]
theorem wipe_agree {σ σ' : L2.St} {ws vs : List Nat} (a : Agree ws (wipe σ vs) σ') (hw : ∀ j ∈ ws, j ∈ vs) : wipe σ' vs = wipe σ vs := by
  have hl : σ'.length = σ.length := by rw [a.1, wipe_length]
  refine List.ext_getElem? fun j => ?_
  rw [wipe_at, wipe_at, hl]
  by_cases hm : j ∈ vs
  · rw [if_pos hm, if_pos hm]
  · rw [if_neg hm, if_neg hm, a.2 j fun h => hm (hw j h), wipe_at, if_neg hm]
theorem lcGo_cons {g : Gd} {all : List D} {t : TgX} {ifs : BX} {elt : EX} {env : Slots} {d : D} {r : List D} {xs : List D} {S Sf : Sto} (h : lcGo g all t ifs elt env (d :: r) S = .ok xs Sf) :
    held g all S ∧ ∃ env' S' b S2, t d env S = some (env', S') ∧ ifs env' S' = .ok b S2 ∧ ((b = true ∧ ∃ x S3 ys, elt env' S2 = .ok x S3 ∧ lcGo g all t ifs elt env r S3 = .ok ys Sf ∧ xs = x :: ys) ∨ (b = false ∧ lcGo g all t ifs elt env r S2 = .ok xs Sf)) := by
  unfold lcGo at h
  by_cases hh : held g all S
  · rw [if_pos hh] at h
    refine ⟨hh, ?_⟩
    cases ht : t d env S with
    | none => rw [ht] at h; cases h
    | some w =>
      obtain ⟨env', S'⟩ := w
      rw [ht] at h
      dsimp only at h
      cases hi : ifs env' S' with
      | bad => rw [hi] at h; cases h
      | exc e S => rw [hi] at h; cases h
      | ok b S2 =>
        rw [hi, noX_ok, R.bind_ok] at h
        refine ⟨env', S', b, S2, rfl, hi, ?_⟩
        cases b with
        | false => exact .inr ⟨rfl, h⟩
        | true =>
          rw [cond_true] at h
          cases he : elt env' S2 with
          | bad => rw [he] at h; cases h
          | exc e S => rw [he] at h; cases h
          | ok x S3 =>
            rw [he, noX_ok, R.bind_ok] at h
            cases hl : lcGo g all t ifs elt env r S3 with
            | bad => rw [hl] at h; cases h
            | exc e S => rw [hl] at h; cases h
            | ok ys S4 =>
              rw [hl, R.bind_ok] at h
              cases h
              exact .inl ⟨rfl, x, S3, ys, rfl, hl, rfl⟩
  · rw [if_neg hh] at h
    cases h
theorem lcGo_noexc {g : Gd} {all : List D} {t : TgX} {ifs : BX} {elt : EX} {env : Slots} : ∀ {r : List D} {S Sf : Sto} {e : Exn}, lcGo g all t ifs elt env r S ≠ .exc e Sf
  | [], S, Sf, e => by
    unfold lcGo
    split
    · exact fun h => nomatch h
    · exact fun h => nomatch h
  | d :: r, S, Sf, e => by
    intro h
    unfold lcGo at h
    split at h
    · split at h
      · rename_i env' S' ht
        cases hi : ifs env' S' with
        | bad => rw [hi] at h; cases h
        | exc e S => rw [hi] at h; cases h
        | ok b S2 =>
          rw [hi, noX_ok, R.bind_ok] at h
          cases b with
          | false => exact lcGo_noexc h
          | true =>
            rw [cond_true] at h
            cases he : elt env' S2 with
            | bad => rw [he] at h; cases h
            | exc e S => rw [he] at h; cases h
            | ok x S3 =>
              rw [he, noX_ok, R.bind_ok] at h
              cases hl : lcGo g all t ifs elt env r S3 with
              | bad => rw [hl] at h; cases h
              | exc e S => exact lcGo_noexc hl
              | ok ys S4 => rw [hl, R.bind_ok] at h; cases h
      · cases h
    · cases h
end
section
variable {X : Cx} {W : WX}
def GTs (X : Cx) (W : WX) (pin : Option (Nat × Addr)) (es : List Expr) (f : BX) : Prop := PTs X es (rdT X.K X.mg W pin f)
theorem gts_nil {pin : Option (Nat × Addr)} : GTs X W pin [] tTrue := ⟨fun pins s σ H Q I ⟨m, env, S, E, r, q⟩ => pts_nil.run pins s σ H Q I (q.here r rfl)⟩
theorem gts_one {pin : Option (Nat × Addr)} {c : Expr} {f : BX} (h : GT X W pin c f) : GTs X W pin [c] f := pts_one h
/-- the reading of a comprehension -/
theorem lc_rd {it : IX} {t : TgX} {ws vs : List Nat} {ft : BX} {fe : EX} (hw : ∀ j ∈ ws, j ∈ vs) {σ : L2.St} {H : Hp} {Q : VK} (h : rdL X.K X.mg W none (aLc it t vs ft fe) σ H Q) :
    tLc (rdI X.K X.mg W none it) (rdG1 X.K X.mg none t ws) (rdT X.K X.mg wNo none ft) (rdE X.K X.mg wNo none fe) vs σ H Q := by
    obtain ⟨m, env, S, E, r, s⟩ := h
    refine ⟨m, env, S, E, r, ?_⟩
    unfold aLc at s
    cases hf : it env S with
    | bad => rw [hf] at s; exact s.elim
    | exc x S' => rw [hf] at s; exact s
    | ok w S1 =>
      rw [hf, R.bind_ok] at s
      obtain ⟨ds, gg⟩ := w
      intro m1 H1 J p1 wk
      dsimp only at s wk
      have hz : ds.length ≤ sizeLine := by
        by_cases hz : ds.length ≤ sizeLine
        · exact hz
        · rw [if_neg hz] at s; exact s.elim
      rw [if_pos hz] at s
      cases hr : lcGo gg ds t ft fe (wipeS env vs) ds S1 with
      | bad => rw [hr] at s; exact s.elim
      | exc e Sf => exact absurd hr lcGo_noexc
      | ok res Sf =>
        rw [hr] at s
        intro Da hD
        have E1 := (E.keep (p1.keep r)).wipe (pin := none) vs
        refine ⟨fun i n H' => n = ds.length - i ∧ i ≤ ds.length ∧ ∃ m' S' acc xs ys, Post X.K X.mg m1 S1 H1 m' S' H' ∧ H' Da = some (.lst acc) ∧ (∀ i, i < S'.length → m' i ≠ Da) ∧ RepL X.K m' S'.length H' xs acc ∧ acc.length ≤ i ∧
            lcGo gg ds t ft fe (wipeS env vs) (ds.drop i) S' = .ok ys Sf ∧ res = xs ++ ys,
          ⟨ds.length, rfl, Nat.zero_le _, m1, S1, [], [], res, Post.same p1.rel (same_upd hD), upd_same, p1.rel.apart0 hD, rfl, Nat.le_refl _, hr, rfl⟩, ?_⟩
        rintro i n H' ⟨rfl, hle, m', S', acc, xs, ys, p', hDa, ap, rx, hacc, hgo, hres⟩
        by_cases hlt : i < ds.length
        · have hd : ds.drop i = ds[i] :: ds.drop (i + 1) := List.drop_eq_getElem_cons hlt
          rw [hd] at hgo
          obtain ⟨hh, env', S2, b, S3, ht1, ht2, hrest⟩ := lcGo_cons hgo
          obtain ⟨go, yl⟩ := wk.go m' S' H' i ds[i] p' hh (List.getElem?_eq_getElem hlt)
          refine .inr ⟨go, fun H' => i + 1 ≤ ds.length ∧ ∃ m' S' acc xs ys, Post X.K X.mg m1 S1 H1 m' S' H' ∧ H' Da = some (.lst acc) ∧ (∀ i, i < S'.length → m' i ≠ Da) ∧ RepL X.K m' S'.length H' xs acc ∧ acc.length ≤ i + 1 ∧
            lcGo gg ds t ft fe (wipeS env vs) (ds.drop (i + 1)) S' = .ok ys Sf ∧ res = xs ++ ys, fun H2 q => ⟨ds.length - (i + 1), by omega, rfl, q⟩, fun x H2 y => ?_⟩
          obtain ⟨sm, rd⟩ := yl x H2 y
          have p2 := Post.same p'.rel sm
          have E2 := E1.keep ((p'.trans p2).keep p1.rel)
          refine ⟨m', ds[i], _, S', E2, p2.rel, rd, ?_⟩
          rw [ht1]
          intro m3 H3 σ3 p3 E3 a3
          refine ⟨wipe_agree a3 hw, m3, env', S2, E3, p3.rel, ?_⟩
          rw [ht2]
          intro m4 H4 b' p4 eb
          obtain rfl : b' = b := eb
          have p04 := ((p'.trans p2).trans p3).trans p4
          have hD4 : H4 Da = some (.lst acc) := by
            refine p4.frame Da _ (p3.frame Da _ (sm Da _ hDa) ap) fun j hj e => ?_
            by_cases hl : j < S'.length
            · rw [p3.ext j hl] at e
              exact ap j hl e
            · have z := p3.fresh j (Nat.le_of_not_lt hl) hj
              rw [e, sm Da _ hDa] at z
              cases z
          have apU : ∀ {m5 : Nat → Addr} {S5 : Sto} {H5 : Hp}, Post X.K X.mg m' S' H' m5 S5 H5 → ∀ j, j < S5.length → m5 j ≠ Da := fun {m5 S5 H5} p5 j hj e => by
            by_cases hl : j < S'.length
            · rw [p5.ext j hl] at e
              exact ap j hl e
            · have z := p5.fresh j (Nat.le_of_not_lt hl) hj
              rw [e, hDa] at z
              cases z
          have p14 := (p2.trans p3).trans p4
          rcases hrest with ⟨rfl, x', S5, ys', he1, hl1, rfl⟩ | ⟨rfl, hl1⟩
          · rw [if_pos rfl]
            refine ⟨m4, env', S3, E3.keep (p4.keep p3.rel), p4.rel, ?_⟩
            rw [he1]
            intro m5 H5 yv p5 ry
            have p15 := p14.trans p5
            have hD5 : H5 Da = some (.lst acc) := p5.frame Da _ hD4 (apU p14)
            refine ⟨acc, hD5, by omega, hlt, m5, S5, acc ++ [yv], xs ++ [x'], ys', ?_, upd_same, apU p15, ?_, ?_, hl1, ?_⟩
            · exact ((p04.trans p5)).poke hD hD5 rfl (apU p15)
            · have k : Keep m' S'.length H' m5 S5.length (upd H5 Da (.lst (acc ++ [yv]))) := by
                have k0 := p15.keep p'.rel
                refine ⟨k0.len, k0.ext, fun b w e hw => ?_⟩
                rw [upd_ne fun z => by
                  rw [z, hDa] at e
                  cases e
                  cases hw]
                exact k0.keep b w e hw
              have k2 : Keep m5 S5.length H5 m5 S5.length (upd H5 Da (.lst (acc ++ [yv]))) := ⟨Nat.le_refl _, fun _ _ => rfl, fun b w e hw => by
                rw [upd_ne fun z => by
                  rw [z, hD5] at e
                  cases e
                  cases hw]
                exact e⟩
              exact (k.repL _ _ rx).append (RepL.one (k2.rep _ _ ry))
            · rw [List.length_append, List.length_singleton]; omega
            · rw [hres, List.append_assoc]; rfl
          · rw [if_neg Bool.false_ne_true]
            exact ⟨hlt, m4, S3, acc, xs, ys, p04, hD4, apU p14, (p14.keep p'.rel).repL _ _ rx, by omega, hl1, hres⟩
        · have e : i = ds.length := by omega
          subst e
          rw [List.drop_length] at hgo
          unfold lcGo at hgo
          by_cases hh : held gg ds S'
          · rw [if_pos hh] at hgo
            injection hgo with e1 e2
            subst e1
            subst e2
            rw [List.append_nil] at hres
            subst hres
            refine .inl ⟨wk.stop m' S' H' p' hh, s m' H' Da acc (p1.trans p') (p1.none_back hD) hDa ap ?_ rx⟩
            omega
          · rw [if_neg hh] at hgo
            cases hgo
theorem gl_lc {elt tg iter : Expr} {ifs : List Expr} {scope : Scope} {own : List (Str × Nat)} {pos : Pos} {it : IX} {t : TgX} {ws : List Nat} {ft : BX} {fe : EX} (hc : X.calm = true) (hN : X.N.Nodup) (hi : GI X W none tg iter it) (ok : BlkOk X.N X.env.scope scope own)
    (hg : ∀ (s : Shared) (H : Hp) (C : Addr) (cl : List (Str × Addr)) (fp : List Addr), GG (X.blk s H scope (compEnvC scope cl C X.env) fp) none tg t ws) (hw : ∀ j ∈ ws, j ∈ own.map (·.2))
    (ht : ∀ (s : Shared) (H : Hp) (C : Addr) (cl : List (Str × Addr)) (fp : List Addr), GTs (X.blk s H scope (compEnvC scope cl C X.env) fp) wNo none ifs ft)
    (he : ∀ (s : Shared) (H : Hp) (C : Addr) (cl : List (Str × Addr)) (fp : List Addr), GE (X.blk s H scope (compEnvC scope cl C X.env) fp) wNo none elt fe) (hs : ∀ x, foldedSetIterable iter X.env x = pure x := by intro _; rfl) :
    GL X W none (.ListComp elt [⟨tg, iter, ifs, 0⟩] scope pos) (aLc it t (own.map (·.2)) ft fe) :=
  PE.weak (pe_lc (g := rdG1 X.K X.mg none t ws) (tt := rdT X.K X.mg wNo none ft) (te := rdE X.K X.mg wNo none fe) hc hN hi ok hg ht he hs) fun σ H Q h => lc_rd hw h
/-- y = [..], y a local -/
theorem gs_setLc {i : Nat} {y : Str} {py : Pos} {elt tg iter : Expr} {ifs : List Expr} {scope : Scope} {own : List (Str × Nat)} {pos spos : Pos} {it : IX} {t : TgX} {ws : List Nat} {ft : BX} {fe : EX} (hc : X.calm = true) (hN : X.N.Nodup) (hy : X.N[i]? = some y) (hyl : X.env.scope.names.lookup y = some .local)
    (hsw : swapsWith (.ListComp elt [⟨tg, iter, ifs, 0⟩] scope pos) (some (.Name y py)) spos.line X.env = pure true) (hi : GI X W none tg iter it) (ok : BlkOk X.N X.env.scope scope own)
    (hg : ∀ (s : Shared) (H : Hp) (C : Addr) (cl : List (Str × Addr)) (fp : List Addr), GG (X.blk s H scope (compEnvC scope cl C X.env) fp) none tg t ws) (hw : ∀ j ∈ ws, j ∈ own.map (·.2))
    (ht : ∀ (s : Shared) (H : Hp) (C : Addr) (cl : List (Str × Addr)) (fp : List Addr), GTs (X.blk s H scope (compEnvC scope cl C X.env) fp) wNo none ifs ft)
    (he : ∀ (s : Shared) (H : Hp) (C : Addr) (cl : List (Str × Addr)) (fp : List Addr), GE (X.blk s H scope (compEnvC scope cl C X.env) fp) wNo none elt fe) (hs : ∀ x, foldedSetIterable iter X.env x = pure x := by intro _; rfl) :
    GS X W none (.Assign [.Name y py] (.ListComp elt [⟨tg, iter, ifs, 0⟩] scope pos) spos) (sSet i (eOfL (aLc it t (own.map (·.2)) ft fe))) :=
  PS.weak (ps_setLc (g := rdG1 X.K X.mg none t ws) (tt := rdT X.K X.mg wNo none ft) (te := rdE X.K X.mg wNo none fe) hc hN hy hyl hsw hi ok hg ht he hs) fun E σ H ⟨m, env, S, E0, r, s⟩ => by
    refine lc_rd hw ⟨m, env, S, E0, r, ?_⟩
    unfold sSet eOfL at s
    cases hf : aLc it t (own.map (·.2)) ft fe env S with
    | bad => rw [hf] at s; exact s.elim
    | exc x S' => rw [hf] at s; exact fun m' H' c d p q => s m' H' σ c d p (E0.keep (p.keep r)) q
    | ok ds S' =>
      rw [hf] at s
      intro m' H' p vs p1 hn hp ap hl rx
      have k1 : Keep m' S'.length H' (mAt m' S'.length p) (S'.length + 1) H' := ⟨Nat.le_succ _, fun i hi => mAt_lt hi, fun q o h _ => h⟩
      have p2 := p1.adopt hn ap (c := .lst ds) ⟨vs, hp, hl, k1.repL _ _ rx⟩
      refine s _ _ _ p2 ((E0.keep (p2.keep r)).set ⟨by simp, by rw [mAt_self]⟩ fun _ z => nomatch z)
end
end G
set_option maxRecDepth 100000
/-! The layer G, part 7: calls of defs, methods, classes; fields; raise, try; a def by its body. -/
namespace G
open PySem PySem.Spec PyProof.Rows L2

/-- a def's promise: it computes F -/
def spF (K : PySem.W.Frag) (mg : Str → Option Value) (n : Nat) (F : List D → Sto → R D) : Sp := fun vs H Q E => vs.length = n ∧ ∃ m ds S, RepL K m S.length H ds vs ∧ SRel K mg m S H ∧ Sat K mg (fun cls d _ H => E cls d H) [] m S H (Rep K) Q (F ds S)
/-- the number of arguments -/
def Ary (n : Nat) (F : List D → Sto → R D) : Prop := ∀ ds S, ds.length ≠ n → F ds S = .bad

/-- a def of the module that may be called by its name -/
def Cal (P : Program) (w : World) (K : PySem.W.Frag) (mg : Str → Option Value) (base : Heap) (k : Nat) (x : Str) (dds : List D) (F : List D → Sto → R D) : Prop :=
  ∃ (f : Addr) (fd : FuncData) (ps : List Str) (ds : List Value) (dvs : List V), FnOk P w K mg base (L2.CX P w) k f fd ps (spF K mg ps.length F) ∧ Ary ps.length F ∧ mg x = some (.ref f) ∧ PySem.W.keepIn K (.ref f) = true ∧ Binds K fd ps ds ∧ Vals dvs ds ∧ ∀ m N H, RepL K m N H dds dvs
/-- a method of the class c -/
def CalM (P : Program) (w : World) (K : PySem.W.Frag) (mg : Str → Option Value) (base : Heap) (k : Nat) (c m : Str) (dds : List D) (F : List D → Sto → R D) : Prop :=
  ∃ (C f : Addr) (fd : FuncData) (ps : List Str) (ds : List Value) (dvs : List V), FnOk P w K mg base (L2.CX P w) k f fd ps (spF K mg ps.length F) ∧ Ary ps.length F ∧ clsAt mg c = some C ∧ Cls K C ∧ Meth K C m f ∧ Binds K fd ps ds ∧ Vals dvs ds ∧ ∀ m N H, RepL K m N H dds dvs
/-- a class that may be made -/
def CalC (P : Program) (w : World) (K : PySem.W.Frag) (mg : Str → Option Value) (base : Heap) (k : Nat) (c : Str) (dds : List D) (F : List D → Sto → R D) : Prop :=
  ∃ (C f : Addr) (fd : FuncData) (ps : List Str) (ds : List Value) (dvs : List V), FnOk P w K mg base (L2.CX P w) k f fd ps (spF K mg ps.length F) ∧ Ary ps.length F ∧ mg c = some (.ref C) ∧ Mk K C f ∧ Binds K fd ps ds ∧ Vals dvs ds ∧ ∀ m N H, RepL K m N H dds dvs
def eCall (F : List D → Sto → R D) (dds : List D) (fa : AX) : EX := fun env S => (fa env S).bind fun ds S1 => F (ds ++ dds) S1
/-- o.m(..) of an instance of c -/
def eMethO (c m : Str) (F : List D → Sto → R D) (dds : List D) (fo : EX) (fa : AX) : EX := fun env S => (fo env S).bind fun d S1 => match d with
  | .cel n => match S1[n]? with
    | some (.ins c' fs) => if c' = c ∧ fs.lookup m = none then (fa env S1).bind fun ds S2 => F (d :: (ds ++ dds)) S2 else .bad
    | _ => .bad
  | _ => .bad
/-- C(..) -/
def eMake (c : Str) (F : List D → Sto → R D) (dds : List D) (fa : AX) : EX := fun env S => (fa env S).bind fun ds S1 => (F (.cel S1.length :: (ds ++ dds)) (S1 ++ [.ins c []])).bind fun r S2 => match r with
  | .a .non => .ok (.cel S1.length) S2
  | _ => .bad

section
variable {X : Cx} {W : WX} {pin : Option (Nat × Addr)} {k : Nat} {x c m : Str} {p pos apos : Pos} {e o a b : Expr} {es : List Expr} {fa : AX} {fo ga gb : EX} {F : List D → Sto → R D} {dds : List D}
/-- a promise's reading from a result -/
theorem spF_mk {K : PySem.W.Frag} {mg : Str → Option Value} {σ : L2.St} {m : Nat → Addr} {S : Sto} {H : Hp} {ds : List D} {vs : List V} {Q : VK} {n : Nat} (hA : Ary n F) (r : SRel K mg m S H) (rs : RepL K m S.length H ds vs) (s : Sat K mg W σ m S H (Rep K) Q (F ds S)) :
    spF K mg n F vs H Q (WE W σ) := by
  have hn : vs.length = n := by
    rw [rs.len]
    by_cases hl : ds.length = n
    · exact hl
    · rw [hA ds S hl] at s
      exact s.elim
  refine ⟨hn, m, ds, S, rs, r, ?_⟩
  cases hf : F ds S with
  | ok y S' => rw [hf] at s; exact s
  | exc y S' => rw [hf] at s; exact s
  | bad => rw [hf] at s; exact s
theorem ge_call (h : Cal X.prog X.w X.K X.mg X.base k x dds F) (hr : Room k X.A) (hg : Gl X x) (tk : Takes X W) (ha : GA X W pin (e :: es) fa)
    (hdb : (x == ("__debug__" : Str)) = false := by decide) (he : starEach (e :: es) X.env = (false, eval e X.env) :: starEach es X.env := by rfl) (hpl : (backTo pos (starEach es X.env)).any (·.1) = false := by rfl) : GE X W pin (.Call (.Name x p) (e :: es) [] pos) (eCall F dds fa) := by
  obtain ⟨f, fd, ps, ds, dvs, G, hA, hm, hk, hb, hd, hdd⟩ := h
  refine PE.weak (pe_callSD (E := WE W) G hr hg hm hk hb hd (fun σ => passAt tk σ) ha.run hdb he hpl) fun σ H Q ⟨m, env, S, E, r, s⟩ => ?_
  exact rdA_bind E r s fun vs H1 m1 S1 as p1 E1 r1 rs s1 => spF_mk hA r1 (rs.append (hdd m1 S1.length H1)) s1
theorem ge_call0 (h : Cal X.prog X.w X.K X.mg X.base k x dds F) (hr : Room k X.A) (hg : Gl X x) (tk : Takes X W) (hdb : (x == ("__debug__" : Str)) = false := by decide) : GE X W pin (.Call (.Name x p) [] [] pos) (eCall F dds aNil) := by
  obtain ⟨f, fd, ps, ds, dvs, G, hA, hm, hk, hb, hd, hdd⟩ := h
  refine ⟨fun pins s σ H Q I ⟨m, env, S, E, r, q⟩ => ?_⟩
  refine wpAny_Call_Name_kw (ld_glob I hg hm ?_ hdb)
  exact PySem.W.callWith_K0 I.kIn hk (run_fnSD (us := []) (vs := []) (E := WE W) G hr hb hd (passAt tk σ) I .nil (spF_mk hA r (by rw [List.nil_append]; exact hdd m S.length H) q))

/-- o.m(e, ..), what is raised at the slots -/
theorem pe_methSD {CX : CXT} {C f : Addr} {fd : FuncData} {ps : List Str} {sp : Sp} {dvs : List V} {ds : List Value} {E : L2.St → XK} {ta : TE} {t : TA} {pl : Sem Bool} (he : PE X o ta) (c : Cls X.K C) (hm : Meth X.K C m f) (F : FnOk X.prog X.w X.K X.mg X.base CX k f fd ps sp) (hr : Room k X.A) (hb : Binds X.K fd ps ds) (hd : Vals dvs ds)
    (hx : ∀ σ, PassesAt CX X σ (E σ)) (ha : PA X (e :: es) t)
    (hst : starEach (e :: es) X.env = (false, eval e X.env) :: starEach es X.env := by rfl) (hpl : (backTo pos (starEach es X.env)).any (·.1) = false := by rfl)
    (ht : eval (.Call (.Attribute o m apos) (e :: es) [] pos) X.env = (do
      let ov ← eval o X.env
      standAt apos.atName
      let (f, first) ← holding [ov] (getMethod ov m pl)
      callWith pos f first (backTo pos (starEach (e :: es) X.env)) (backToKw pos (keywordEach [] X.env))) := by rfl) :
    PE X (.Call (.Attribute o m apos) (e :: es) [] pos) (fun σ H Q => ta σ H fun x H1 => ∃ a dx fs, x = .ref a ∧ H1 a = some (.ins C dx fs) ∧ fs.lookup m = none ∧ t σ H1 fun vs H2 => sp (x :: (vs ++ dvs)) H2 Q (E σ)) := by
  refine ⟨fun pins s σ H Q I h => ?_⟩
  refine PySem.W.methodCall_KW (pl := pl) (thn (he.run pins s σ H _ I h) fun u s1 ⟨x, H1, I1, rx, a, dx, fs, ex, ea, l, q⟩ => ?_) ht
  subst ex
  obtain rfl : u = Value.ref a := rx
  refine getmeth_ok I1 ea c hm l ?_
  refine PySem.W.callWith_K (first := [.ref a]) (h₀ := X.base) I.ok.mod.kin hm.kp (thn (ha.run pos pins s1 σ H1 _ I1 q) fun us s2 ⟨vs, H2, I2, r, q2⟩ => ⟨I2.kIn, ?_⟩) hst hpl
  exact run_fnSD (us := .ref a :: us) (vs := .ref a :: vs) F hr hb hd (hx σ) I2 (.cons rfl r) q2
theorem pe_meth0SD {CX : CXT} {C f : Addr} {fd : FuncData} {ps : List Str} {sp : Sp} {dvs : List V} {ds : List Value} {E : L2.St → XK} {ta : TE} {pl : Sem Bool} (he : PE X o ta) (c : Cls X.K C) (hm : Meth X.K C m f) (F : FnOk X.prog X.w X.K X.mg X.base CX k f fd ps sp) (hr : Room k X.A) (hb : Binds X.K fd ps ds) (hd : Vals dvs ds)
    (hx : ∀ σ, PassesAt CX X σ (E σ))
    (ht : eval (.Call (.Attribute o m apos) [] [] pos) X.env = (do
      let ov ← eval o X.env
      standAt apos.atName
      let (f, first) ← holding [ov] (getMethod ov m pl)
      callWith pos f first (backTo pos (starEach [] X.env)) (backToKw pos (keywordEach [] X.env))) := by rfl) :
    PE X (.Call (.Attribute o m apos) [] [] pos) (fun σ H Q => ta σ H fun x H1 => ∃ a dx fs, x = .ref a ∧ H1 a = some (.ins C dx fs) ∧ fs.lookup m = none ∧ sp (x :: dvs) H1 Q (E σ)) := by
  refine ⟨fun pins s σ H Q I h => ?_⟩
  refine PySem.W.methodCall_KW (pl := pl) (thn (he.run pins s σ H _ I h) fun u s1 ⟨x, H1, I1, rx, a, dx, fs, ex, ea, l, q⟩ => ?_) ht
  subst ex
  obtain rfl : u = Value.ref a := rx
  refine getmeth_ok I1 ea c hm l ?_
  exact PySem.W.callWith_K0 (first := [.ref a]) I1.kIn hm.kp (run_fnSD (us := [.ref a]) (vs := [.ref a]) F hr hb hd (hx σ) I1 (.cons rfl .nil) q)
theorem clsAt_inj {mg : Str → Option Value} {c : Str} {C C' : Addr} (h : clsAt mg c = some C) (h' : clsAt mg c = some C') : C = C' := Option.some.inj (h.symm.trans h')
theorem lookup_none {K : PySem.W.Frag} {m : Nat → Addr} {N : Nat} {H : Hp} {f : Str} {fs : List (Str × D)} {ws : List (Str × V)} (r : RepP K m N H fs ws) (h : fs.lookup f = none) : ws.lookup f = none := by
  rcases RepP.get (k := f) r with ⟨_, h2⟩ | ⟨d, v, h1, _, _⟩
  · exact h2
  · rw [h] at h1; cases h1
theorem ge_methO {pl : Sem Bool} (ho : GE X W pin o fo) (h : CalM X.prog X.w X.K X.mg X.base k c m dds F) (hr : Room k X.A) (tk : Takes X W) (ha : GA X W pin (e :: es) fa)
    (hst : starEach (e :: es) X.env = (false, eval e X.env) :: starEach es X.env := by rfl) (hpl : (backTo pos (starEach es X.env)).any (·.1) = false := by rfl)
    (ht : eval (.Call (.Attribute o m apos) (e :: es) [] pos) X.env = (do
      let ov ← eval o X.env
      standAt apos.atName
      let (f, first) ← holding [ov] (getMethod ov m pl)
      callWith pos f first (backTo pos (starEach (e :: es) X.env)) (backToKw pos (keywordEach [] X.env))) := by rfl) :
    GE X W pin (.Call (.Attribute o m apos) (e :: es) [] pos) (eMethO c m F dds fo fa) := by
  obtain ⟨C, f, fd, ps, ds, dvs, G, hA, hC, hcl, hme, hb, hd, hdd⟩ := h
  refine PE.weak (pe_methSD (E := WE W) ho hcl hme G hr hb hd (fun σ => passAt tk σ) ha.run hst hpl ht) fun σ H Q ⟨mm, env, S, E, r, s⟩ => ?_
  refine rdE_bind E r s fun x H1 m1 S1 d p1 E1 r1 rd s1 => ?_
  cases d with
  | cel n =>
    obtain ⟨hn, rfl⟩ := rd
    dsimp only at s1
    split at s1
    · rename_i c' fs hS
      split at s1
      · rename_i hc
        obtain ⟨rfl, hl⟩ := hc
        obtain ⟨C', dx, ws, h1, ev, _, rv⟩ := r1.at_ _ _ hS
        obtain rfl := clsAt_inj hC h1
        refine ⟨_, dx, ws, rfl, ev, lookup_none rv hl, rdA_bind E1 r1 s1 fun vs H2 m2 S2 as p2 E2 r2 rs s2 => ?_⟩
        refine spF_mk hA r2 (ds := .cel n :: (as ++ dds)) ⟨_, _, rfl, ?_, rs.append (hdd m2 S2.length H2)⟩ s2
        exact ⟨Nat.lt_of_lt_of_le hn p2.len, by rw [p2.ext n hn]⟩
      · exact s1.elim
    · exact s1.elim
  | _ => exact s1.elim
theorem ge_methO0 {pl : Sem Bool} (ho : GE X W pin o fo) (h : CalM X.prog X.w X.K X.mg X.base k c m dds F) (hr : Room k X.A) (tk : Takes X W)
    (ht : eval (.Call (.Attribute o m apos) [] [] pos) X.env = (do
      let ov ← eval o X.env
      standAt apos.atName
      let (f, first) ← holding [ov] (getMethod ov m pl)
      callWith pos f first (backTo pos (starEach [] X.env)) (backToKw pos (keywordEach [] X.env))) := by rfl) :
    GE X W pin (.Call (.Attribute o m apos) [] [] pos) (eMethO c m F dds fo aNil) := by
  obtain ⟨C, f, fd, ps, ds, dvs, G, hA, hC, hcl, hme, hb, hd, hdd⟩ := h
  refine PE.weak (pe_meth0SD (E := WE W) ho hcl hme G hr hb hd (fun σ => passAt tk σ) ht) fun σ H Q ⟨mm, env, S, E, r, s⟩ => ?_
  refine rdE_bind E r s fun x H1 m1 S1 d p1 E1 r1 rd s1 => ?_
  cases d with
  | cel n =>
    obtain ⟨hn, rfl⟩ := rd
    dsimp only at s1
    split at s1
    · rename_i c' fs hS
      split at s1
      · rename_i hc
        obtain ⟨rfl, hl⟩ := hc
        obtain ⟨C', dx, ws, h1, ev, _, rv⟩ := r1.at_ _ _ hS
        obtain rfl := clsAt_inj hC h1
        refine ⟨_, dx, ws, rfl, ev, lookup_none rv hl, ?_⟩
        exact spF_mk hA r1 (ds := .cel n :: dds) ⟨_, _, rfl, ⟨hn, rfl⟩, hdd m1 S1.length H1⟩ s1
      · exact s1.elim
    · exact s1.elim
  | _ => exact s1.elim

/-- a new instance -/
theorem Post.newIns {K : PySem.W.Frag} {mg : Str → Option Value} {m : Nat → Addr} {S : Sto} {H : Hp} {x dx C : Addr} {c : Str} (r : SRel K mg m S H) (hC : clsAt mg c = some C) (hx : H x = none) (hd : H dx = none) (ne : dx ≠ x) :
    Post K mg m S H (mAt m S.length x) (S ++ [.ins c []]) (upd (upd H dx (.own x)) x (.ins C dx [])) := by
  have hx' : (upd H dx (.own x)) x = none := by rw [upd_ne (Ne.symm ne)]; exact hx
  exact Post.push r ((same_upd hd).trans (same_upd hx')) hx ⟨C, dx, [], hC, upd_same, by rw [upd_ne ne]; exact upd_same, rfl⟩
theorem clsAt_of {mg : Str → Option Value} {c : Str} {C : Addr} (h : mg c = some (.ref C)) : clsAt mg c = some C := by unfold clsAt; rw [h]
theorem run_makeSD {CX : CXT} {C f : Addr} {fd : FuncData} {ps : List Str} {sp : Sp} {dvs : List V} {ds : List Value} {E : XK} {pins : List (Addr × Obj)} {σ : L2.St} {H : Hp} {s : Shared} {Q : VK} {us : List Value} {vs : List V} (M : Mk X.K C f) (F : FnOk X.prog X.w X.K X.mg X.base CX k f fd ps sp) (hr : Room (k + 1) X.A) (hb : Binds X.K fd ps ds) (hd : Vals dvs ds)
    (hx : PassesAt CX X σ E) (I : Inv X pins σ H s) (r : Vals vs us)
    (h : ∀ x dx, H x = none → H dx = none → dx ≠ x → sp (.ref x :: (vs ++ dvs)) (upd (upd H dx (.own x)) x (.ins C dx [])) (fun v H2 => v = .non ∧ Q (.ref x) H2) E) :
    wpAny (model X.prog X.w) X.A (call (.ref C) us) (EP X pins σ Q) X.xe s := by
  have hq := h (s.heap.objs.size + 1) s.heap.objs.size (I.hok.fresh (Nat.le_succ _)) (I.hok.fresh (Nat.le_refl _)) (Nat.ne_of_lt (Nat.lt_succ_self _))
  have I2 := Inv.made (C := C) I
  have r2 : Vals (V.ref (s.heap.objs.size + 1) :: (vs ++ dvs)) (Value.ref (s.heap.objs.size + 1) :: (us ++ ds)) := .cons rfl (r.append hd)
  have hl : (Value.ref (s.heap.objs.size + 1) :: us ++ ds).length = ps.length := by
    have e := r2.length
    rw [F.len _ _ _ _ hq] at e
    exact e.symm
  refine wpAny_call (make_map (f := f) I.kIn M.makes M.init (beq_iff_eq.mp M.fn) (codeAny_mono (F.run _ X.stack _ _ ⟨Value.ref (s.heap.objs.size + 1) :: us, []⟩ (Value.ref (s.heap.objs.size + 1) :: (us ++ ds)) _ _ E (hr.make C us [])
    (I2.env0.make C us []) (hb _ (Value.ref (s.heap.objs.size + 1) :: us) I2.kIn hl) r2 hq) fun r s' hq' => ?_))
  cases r with
  | error e => exact hx pins _ _ e s' I2 hq'
  | ok fl =>
    cases fl with
    | ret u =>
      obtain ⟨v, H', I3, rv, ev, q3⟩ := I2.after hq'
      subst ev
      exact ⟨rv, ⟨V.ref (s.heap.objs.size + 1), H', I3, rfl, q3⟩⟩
    | next => exact False.elim hq'
    | brk => exact False.elim hq'
    | cont => exact False.elim hq'
theorem ge_make (h : CalC X.prog X.w X.K X.mg X.base k c dds F) (hr : Room (k + 1) X.A) (hg : Gl X c) (tk : Takes X W) (ha : GA X W pin (e :: es) fa)
    (hdb : (c == ("__debug__" : Str)) = false := by decide) (he : starEach (e :: es) X.env = (false, eval e X.env) :: starEach es X.env := by rfl) (hpl : (backTo pos (starEach es X.env)).any (·.1) = false := by rfl) :
    GE X W pin (.Call (.Name c p) (e :: es) [] pos) (eMake c F dds fa) := by
  obtain ⟨C, f, fd, ps, ds, dvs, G, hA, hm, hM, hb, hd, hdd⟩ := h
  refine ⟨fun pins s σ H Q I ⟨m, env, S, E, r, q⟩ => ?_⟩
  refine wpAny_Call_Name_kw (ld_glob I hg hm ?_ hdb)
  have hq : rdA X.K X.mg W pin fa σ H fun vs H1 => ∀ x dx, H1 x = none → H1 dx = none → dx ≠ x → spF X.K X.mg ps.length F (.ref x :: (vs ++ dvs)) (upd (upd H1 dx (.own x)) x (.ins C dx [])) (fun v H2 => v = .non ∧ Q (.ref x) H2) (WE W σ) :=
    rdA_bind E r q fun vs H1 m1 S1 as p1 E1 r1 rs s1 x dx hx hdx ne => by
      have pn := Post.newIns (c := c) r1 (clsAt_of hm) hx hdx ne
      have s2 := Sat.step pn s1
      have k1 := pn.keep r1
      refine spF_mk (W := W) (σ := σ) hA pn.rel (ds := .cel S1.length :: (as ++ dds)) ⟨_, _, rfl, ⟨by simp, by rw [mAt_self]⟩, (k1.repL _ _ rs).append (hdd _ _ _)⟩ ?_
      refine s2.bind.mono fun v H2 ⟨m2, S2, d, p2, rd, s3⟩ => ?_
      split at s3
      · obtain rfl : v = .non := rd
        refine ⟨rfl, s3.here p2.rel ?_⟩
        have hlt : S1.length < (S1 ++ [Cell.ins c []]).length := by simp
        exact ⟨Nat.lt_of_lt_of_le hlt p2.len, by rw [p2.ext _ hlt, mAt_self]⟩
      · exact s3.elim
  refine PySem.W.callWith_K (h₀ := X.base) I.ok.mod.kin hM.kp (thn (ha.run.run pos pins s σ H _ I hq) fun us s1 ⟨vs, H1, I1, r1, q1⟩ => ⟨I1.kIn, ?_⟩) he hpl
  exact run_makeSD hM G hr hb hd (passAt tk σ) I1 r1 q1

/-! ### o[i] of an instance with __getitem__ -/
/-- what a class must have -/
structure GetI (K : PySem.W.Frag) (C f : Addr) : Prop where
  at_ : PySem.W.findIn K (.ref C) "__getitem__" = some (some (.ref f))
  fn : PySem.W.fnIn K f = true
  isf : PySem.W.isFn K (.ref f) = true
def CalI (P : Program) (w : World) (K : PySem.W.Frag) (mg : Str → Option Value) (base : Heap) (k : Nat) (c : Str) (F : List D → Sto → R D) : Prop :=
  ∃ (C f : Addr) (fd : FuncData) (ps : List Str), FnOk P w K mg base (L2.CX P w) k f fd ps (spF K mg ps.length F) ∧ Ary ps.length F ∧ clsAt mg c = some C ∧ GetI K C f ∧ Binds K fd ps []
def eIxO (c : Str) (F : List D → Sto → R D) (ga gb : EX) : EX := fun env S => (ga env S).bind fun d S1 => (gb env S1).bind fun e S2 => match d with
  | .cel n => match S2[n]? with
    | some (.ins c' _) => if c' = c then F [d, e] S2 else .bad
    | _ => ofO (dIx d e S2)
  | _ => ofO (dIx d e S2)
theorem sub_own {prog : Program} {w : World} {A : Around} {E : Value → Shared → Prop} {s : Shared} {K : PySem.W.Frag} {x C f : Addr} {ox : Obj} {od : Option Obj} {value slice : Expr} {i : Value} {Q : Value → Shared → Prop} (X : K.In s.heap) (I : PySem.W.InstAt s.heap x ox C od) (g : GetI K C f)
    (h : wpAny (model prog w) A.in1 (call (.ref f) [.ref x, i]) Q E s)
    (hsl : subscripted slice true (.ref x) i = runValue (.builtin "lifetime.subscript" ⟨[.ref x, i], []⟩)) :
    wpAny (model prog w) A (subscriptTail value slice (.ref x) i) Q E s := by
  have hf := g.fn
  unfold PySem.W.fnIn at hf
  split at hf
  · rename_i e
    unfold subscriptTail getitemInPython
    refine wpAny_bind (wpAny_bind (wpAny_bind (I.type.here ((PySem.W.looks_findIn X g.at_).here ?_))))
    dsimp only
    refine wpAny_bind (wpAny_load (X _ _ e) (wpAny_pure ?_))
    dsimp only
    rw [hsl]
    refine wpAny_bind (wpAny_runValue (codeAny_builtin PySem.W.entry_sub ?_))
    unfold Builtin.«lifetime.subscript»
    refine wpAny_bind (PySem.W.special_fn X I g.at_ (beq_iff_eq.mp g.isf) (wpAny_mono h (fun v s' z => ?_) fun _ _ z => z))
    refine wpAny_pure ?_
    show wpAny (model prog w) A (letTemporaryGo value (.ref x) v >>= fun _ => pure v) Q E s'
    exact wpAny_bind (wpAny_letTemporaryGo (wpAny_pure z))
  · cases hf
theorem run_in1 {CX : CXT} {f : Addr} {fd : FuncData} {ps : List Str} {sp : Sp} {E : XK} {pins : List (Addr × Obj)} {σ : L2.St} {H : Hp} {s : Shared} {Q : VK} {us : List Value} {vs : List V} (F : FnOk X.prog X.w X.K X.mg X.base CX k f fd ps sp) (hr : Room k X.A.in1) (hb : Binds X.K fd ps []) (hx : PassesAt CX X σ E)
    (I : Inv X pins σ H s) (r : Vals vs us) (h : sp vs H Q E) : wpAny (model X.prog X.w) X.A.in1 (call (.ref f) us) (EP X pins σ Q) X.xe s := by
  have hl : us.length = ps.length := by rw [← r.length]; exact F.len _ _ _ _ h
  have hb2 := hb s us I.kIn (by rw [List.append_nil]; exact hl)
  rw [List.append_nil] at hb2
  refine wpAny_call (codeAny_mono (F.run X.A.in1 X.stack s H ⟨us, []⟩ us vs Q E hr I.env0.in1 hb2 r h) fun r s' hq => ?_)
  cases r with
  | error e => exact hx pins H s e s' I hq
  | ok fl =>
    cases fl with
    | ret u => exact I.after hq
    | next => exact False.elim hq
    | brk => exact False.elim hq
    | cont => exact False.elim hq
theorem ge_ixO (h : CalI X.prog X.w X.K X.mg X.base k c F) (hu : X.A.units + 1 < cLine) (hr : Room (k + 1) X.A) (tk : Takes X W) (ha : GE X W pin a ga) (hb : GE X W pin b gb) (hs : PlainIx b := by exact fun _ _ => rfl)
    (hs2 : ∀ x i, subscripted b true (.ref x) i = runValue (.builtin "lifetime.subscript" ⟨[.ref x, i], []⟩) := by exact fun _ _ => rfl) : GE X W pin (.Subscript a b pos) (eIxO c F ga gb) := by
  obtain ⟨C, f, fd, ps, G, hA, hC, hG, hbd⟩ := h
  refine ⟨fun pins s σ H Q I ⟨m, env, S, E, r, q⟩ => ?_⟩
  have hq : tOp (fun x y H2 Q => rdO X.K X.mg dIx x y H2 Q ∨ ∃ a dx fs, x = .ref a ∧ H2 a = some (.ins C dx fs) ∧ spF X.K X.mg ps.length F [x, y] H2 Q (WE W σ)) (rdE X.K X.mg W pin ga) (rdE X.K X.mg W pin gb) σ H Q :=
    rdE_bind E r q fun x H1 m1 S1 d p1 E1 r1 rd s1 => rdE_bind E1 r1 s1 fun y H2 m2 S2 e p2 E2 r2 re s2 => by
      have rd2 := (p2.keep r1).rep _ _ rd
      split at s2
      · split at s2
        · rename_i hS
          split at s2
          · rename_i hc
            subst hc
            obtain ⟨hn, rfl⟩ := rd2
            obtain ⟨C', dx, ws, h1, ev, _, rv⟩ := r2.at_ _ _ hS
            obtain rfl := clsAt_inj hC h1
            exact .inr ⟨_, dx, ws, rfl, ev, spF_mk hA r2 (ds := [.cel _, e]) ⟨_, _, rfl, ⟨hn, rfl⟩, y, [], rfl, re, rfl⟩ s2⟩
          · exact s2.elim
        · exact .inl (rdO_mk r2 rd2 re s2)
      · exact .inl (rdO_mk r2 rd2 re s2)
  refine Subscript_ (binT ha hb I hq fun v u s2 x y H2 I2 rx ry q => ?_)
  rcases q with q | ⟨q0, dx, fs, rfl, ev, q⟩
  · exact i_ix hu a b pins s2 σ H2 x y v u Q I2 rx ry q (hs _ _)
  · obtain rfl : v = Value.ref q0 := rx
    obtain ⟨mA, O, _⟩ := ins_get I2.hok ev
    obtain ⟨od, J, _⟩ := O.look
    refine sub_own I2.kIn J hG ?_ (hs2 _ _)
    exact run_in1 (us := [.ref q0, u]) (vs := [.ref q0, y]) G hr.in1 hbd (passAt tk σ) I2 (.cons rfl (.cons ry .nil)) q

/-! ### fields of instances -/
/-- the classes cs have nothing named f of their own -/
def FldOk (K : PySem.W.Frag) (mg : Str → Option Value) (cs : List Str) (f : Str) : Prop := ∀ c ∈ cs, ∃ C, clsAt mg c = some C ∧ Cls K C ∧ NoAttr K C f
def eFld (cs : List Str) (f : Str) (fo : EX) : EX := fun env S => (fo env S).bind fun d S1 => match d with
  | .cel n => match S1[n]? with
    | some (.ins c fs) => if c ∈ cs then match fs.lookup f with
      | some v => .ok v S1
      | none => .bad else .bad
    | _ => .bad
  | _ => .bad
theorem ge_fld {cs : List Str} {f : Str} (ho : GE X W pin o fo) (hf : FldOk X.K X.mg cs f) (hb : attributeBase o f X.env (eval o X.env) = eval o X.env := by rfl) : GE X W pin (.Attribute o f pos) (eFld cs f fo) :=
  PE.weak (pe_fld ho hb) fun σ H Q ⟨m, env, S, E, r, s⟩ => rdE_bind E r s fun x H1 m1 S1 d p1 E1 r1 rd s1 => by
    cases d with
    | cel n =>
      obtain ⟨hn, rfl⟩ := rd
      dsimp only at s1
      split at s1
      · rename_i c fs hS
        split at s1
        · rename_i hc
          obtain ⟨C, hC, hcl, hna⟩ := hf c hc
          obtain ⟨C', dx, ws, h1, ev, _, rv⟩ := r1.at_ _ _ hS
          obtain rfl := clsAt_inj hC h1
          split at s1
          · rename_i v hv
            rcases RepP.get (k := f) rv with ⟨h2, _⟩ | ⟨d, v', h2, h3, h4⟩
            · rw [hv] at h2; cases h2
            · rw [hv] at h2
              cases h2
              exact ⟨_, C, dx, ws, v', rfl, ev, hcl, hna, h3, s1.here r1 h4⟩
          · exact s1.elim
        · exact s1.elim
      · exact s1.elim
    | _ => exact s1.elim
def putD (f : Str) (v : D) : List (Str × D) → List (Str × D)
  | [] => [(f, v)]
  | (g, w) :: r => if g = f then (g, v) :: r else (g, w) :: putD f v r
def sFldX (cs : List Str) (f : Str) (fv fo : EX) : SX := fun env S => (fv env S).then env fun v S1 => (fo env S1).then env fun d S2 => match d with
  | .cel n => match S2[n]? with
    | some (.ins c fs) => if c ∈ cs ∧ fs.length < 1000 then .nx env (S2.set n (.ins c (putD f v fs))) else .bad
    | _ => .bad
  | _ => .bad
theorem putD_rep {K : PySem.W.Frag} {m : Nat → Addr} {N : Nat} {H : Hp} {f : Str} {d : D} {v : V} (h : Rep K m N H d v) : ∀ {fs : List (Str × D)} {ws : List (Str × V)}, RepP K m N H fs ws → RepP K m N H (putD f d fs) (putF f v ws)
  | [], _, e => by
    rw [show _ = [] from e]
    exact ⟨v, [], rfl, h, rfl⟩
  | (g, w) :: r, _, ⟨u, r', e, h1, h2⟩ => by
    subst e
    unfold putD putF
    by_cases hg : g = f
    · rw [if_pos hg, if_pos hg]
      exact ⟨v, r', rfl, h, h2⟩
    · rw [if_neg hg, if_neg hg]
      exact ⟨u, _, rfl, h1, putD_rep h h2⟩
theorem gs_fld {cs : List Str} {f : Str} {pos' : Pos} {fv : EX} (hv : GE X W pin e fv) (ho : GE X W pin o fo) (hf : FldOk X.K X.mg cs f) (hs : swapsWith e (some (.Attribute o f pos')) pos.line X.env = pure false := by rfl) :
    GS X W pin (.Assign [.Attribute o f pos'] e pos) (sFldX cs f fv fo) :=
  PS.weak (ps_fld ho hv hs) fun E σ H ⟨m, env, S, E0, r, s⟩ => by
    refine ⟨m, env, S, E0, r, (SSat.then (Rl := Rep X.K) E0 r s).mono fun y H1 ⟨m1, S1, v, p1, E1, rv, s1⟩ => ?_⟩
    refine ⟨m1, env, S1, E1, p1.rel, (SSat.then (Rl := Rep X.K) E1 p1.rel s1).mono fun x H2 ⟨m2, S2, d, p2, E2, rd, s2⟩ => ?_⟩
    cases d with
    | cel n =>
      obtain ⟨hn, rfl⟩ := rd
      dsimp only at s2
      split at s2
      · rename_i c fs hS
        split at s2
        · rename_i hc
          obtain ⟨C, hC, hcl, hna⟩ := hf c hc.1
          obtain ⟨C', dx, ws, h1, ev, hdx, rw'⟩ := p2.rel.at_ _ _ hS
          obtain rfl := clsAt_inj hC h1
          refine ⟨_, C, dx, ws, rfl, ev, hcl, hna, by rw [rw'.len]; exact hc.2, ?_⟩
          have kp : Keep m2 S2.length H2 m2 S2.length (upd H2 (m2 n) (.ins C dx (putF f y ws))) := ⟨Nat.le_refl _, fun _ _ => rfl, fun q u h hc => by
            rw [upd_ne fun e => p2.rel.apart h hc n hn e.symm]
            exact h⟩
          have p3 := Post.write (c := .ins c (putD f v fs)) p2.rel hn (by rw [ev]; intro _ _ z; cases z) (o := .ins C dx (putF f y ws)) ⟨C, dx, _, hC, upd_same, kp.keep _ _ hdx rfl, kp.repP _ _ (putD_rep ((p2.keep p1.rel).rep _ _ rv) rw')⟩
          exact s2 m2 _ σ p3 (E2.keep (p3.keep p2.rel))
        · exact s2.elim
      · exact s2.elim
    | _ => exact s2.elim
end

/-! ### isinstance of own classes, of exceptions -/
/-- what a class must have, so that isinstance asks its instances rightly -/
structure InsF (K : PySem.W.Frag) (C : Addr) : Prop where
  cl : Cls K C
  ha : PySem.W.findIn K (.ref C) "__class__" = some (some (.builtin "object.__class__"))
  hn : PySem.W.specialIn K (.builtin "object.__class__") "__get__" = some (some (.builtin "getset_descriptor.__get__"))
  htk : PySem.W.takesIn K (.builtin "object.__class__") = some true
  hm : PySem.W.mroIn K C (.type "object") = some true
/-- sub tells of the classes of instances whether they are of the class u -/
def SubOk (K : PySem.W.Frag) (mg : Str → Option Value) (sub : Str → Option Bool) (u : Value) : Prop := ∀ c b, sub c = some b → ∃ C, clsAt mg c = some C ∧ InsF K C ∧ PySem.W.kitOne K (.ref C) u = some b
def eIsC (sub : Str → Option Bool) (fo : EX) : EX := fun env S => (fo env S).bind fun d S1 => match d with
  | .cel n => match S1[n]? with
    | some (.ins c _) => match sub c with
      | some b => .ok (.a (.bl b)) S1
      | none => .bad
    | _ => .bad
  | _ => .bad
section
variable {X : Cx} {W : WX} {pin : Option (Nat × Addr)} {o : Expr} {fo : EX} {p pos px : Pos} {T : Str} {C0 : Addr} {sub : Str → Option Bool}
theorem ge_isC (ho : GE X W pin o fo) (hT : PE X (.Name T px) (tC (.ref C0))) (hs : SubOk X.K X.mg sub (.ref C0)) (hg : Gl X "isinstance") (hm : X.mg "isinstance" = none)
    (hv : bootBuiltins "isinstance" = some (.builtin "isinstance") := by decide +kernel)
    (he : starEach [o, .Name T px] X.env = (false, eval o X.env) :: starEach [.Name T px] X.env := by rfl) (he2 : starEach [.Name T px] X.env = (false, eval (.Name T px) X.env) :: starEach [] X.env := by rfl) (hpl : (backTo pos (starEach [.Name T px] X.env)).any (·.1) = false := by rfl) :
    GE X W pin (.Call (.Name "isinstance" p) [o, .Name T px] [] pos) (eIsC sub fo) :=
  PE.weak (pe_callB call_isi hg hm hv (pa_cons ho (pa_cons hT pa_nil he2) he) (by decide) (by decide) he hpl) fun σ H Q ⟨m, env, S, E, r, s⟩ => by
    show rdE X.K X.mg W pin fo σ H fun x H1 => tC (.ref C0) σ H1 fun y H2 => tNil σ H2 fun xs H3 => _
    exact rdE_bind E r s fun x H1 m1 S1 d p1 E1 r1 rd s1 => by
      cases d with
      | cel n =>
        obtain ⟨hn, rfl⟩ := rd
        dsimp only at s1
        split at s1
        · rename_i c fs hS
          split at s1
          · rename_i b hb
            obtain ⟨C, hC, hI, hk⟩ := hs c b hb
            obtain ⟨C', dx, ws, h1, ev, _, rv⟩ := r1.at_ _ _ hS
            obtain rfl := clsAt_inj hC h1
            exact ⟨_, .ref C0, .ref C, .ref C0, b, rfl, .own C0, .base (.ins ev hI.cl hI.ha hI.hn hI.htk hI.hm), hk, s1.here r1 rfl⟩
          · exact s1.elim
        · exact s1.elim
      | _ => exact s1.elim
end

/-! ### raise -/
/-- an own class of error over ValueError without __init__ -/
structure ErrF (K : PySem.W.Frag) (mg : Str → Option Value) (c : Str) (C : Addr) : Prop where
  x : PySem.W.excIn K C [.type "ValueError", .type "Exception", .type "BaseException", .type "object"] "ValueError.__new__" = true
  g : mg c = some (.ref C)
  k : PySem.W.keepIn K (.ref C) = true
  b : PySem.W.subIn K (.ref C) (.type "BaseException") = some true
  t : PySem.W.typeIn K (.ref C) = some (.type "type")
def sRaise (c : Str) : SX := fun env S => .ex ⟨c, []⟩ env S
section
variable {X : Cx} {W : WX} {pin : Option (Nat × Addr)} {c : Str} {C : Addr} {m : Str} {j : Nat} {p p2 pos pos2 : Pos}
theorem gs_raise (hc : X.calm = true) (tk : Takes X W) (e : ErrF X.K X.mg c C) (hg : Gl X c) (hdb : (c == ("__debug__" : Str)) = false := by decide) : GS X W pin (.Raise (some (.Call (.Name c p) [.Constant (.str m) j p2] [] pos)) none pos2) (sRaise c) :=
  PS.weak (ps_raise hc tk (pmk_own PySem.F.excBase_ValueError e.x e.g e.k (raises_own e.b e.t) hg hdb)) fun E σ H ⟨mm, env, S, E0, r, s⟩ =>
    s mm H σ (.ref C) none (Post.refl r) E0 ⟨C, clsAt_of e.g, rfl, rfl⟩
end

/-! ### try: body, except x as n: suite -/
/-- hit tells of the classes of exceptions whether the clause takes them -/
def HitOk (K : PySem.W.Frag) (mg : Str → Option Value) (hit : Str → Option Bool) (u : Value) : Prop := ∀ c b, hit c = some b → ∀ C, clsAt mg c = some C → PySem.W.exmOne K (.ref C) u = some b
/-- the slot i is forgotten -/
def SR.drop (i : Nat) : SR → SR
  | .nx env S => .nx (env.set i none) S
  | .bk env S => .bk (env.set i none) S
  | .ct env S => .ct (env.set i none) S
  | .ex _ _ _ => .bad
  | r => r
def sTryAs (body : SX) (hit : Str → Option Bool) (i : Nat) (suite : Exn → SX) : SX := fun env S => match body env S with
  | .ex x env' S' => match hit x.cls with
    | some true => if i < env'.length then (suite x (env'.set i none) S').drop i else .bad
    | some false => .ex x env' S'
    | none => .bad
  | r => r
section
variable {X : Cx} {W : WX} {x n : Str} {u : Value} {i : Nat} {body suite : List Stmt} {b₀ : Stmt} {np pos pos' : Pos} {fb : SX} {fs : Exn → SX} {hit : Str → Option Bool}
/-- the reading of a suite -/
def rdSu (K : PySem.W.Frag) (mg : Str → Option Value) (i : Nat) (fs : Exn → SX) : Addr → Value → Option Addr → TS := fun a cls d E σ H => ∃ x m env S, SlotsOk K (some (i, a)) m S.length H env σ ∧ SRel K mg m S H ∧ ExR K mg m S.length H x cls d ∧ SSat K mg wNo (some (i, a)) E m S H (fs x env S)
theorem SlotsOk.pinned {K : PySem.W.Frag} {m : Nat → Addr} {N : Nat} {H : Hp} {env : Slots} {σ : L2.St} (e : SlotsOk K none m N H env σ) {a : Addr} (hi : i < σ.length) : SlotsOk K (some (i, a)) m N H (env.set i none) (σ.set i (some (.ref a))) := by
  have e2 := e.forget i (some (.ref a)) fun _ z => nomatch z
  refine ⟨e2.len, e2.at_, fun j p h => ?_⟩
  cases h
  exact List.getElem?_set_self hi
theorem SlotsOk.unpin {K : PySem.W.Frag} {m : Nat → Addr} {N : Nat} {H : Hp} {env : Slots} {σ : L2.St} {a : Addr} (e : SlotsOk K (some (i, a)) m N H env σ) : SlotsOk K none m N H (env.set i none) (σ.set i none) := by
  have e' : SlotsOk K none m N H env σ := ⟨e.len, e.at_, fun _ _ z => nomatch z⟩
  exact e'.forget i none fun _ z => nomatch z
theorem gs_tryAs (hs : X.stack = X.env :: X.outer) (hf : X.env.frame = some X.env.locals) (hN : X.N.Nodup) (hi : X.N[i]? = some n) (hln : X.env.kindOf n = some .local) (hc : Names X x u) (hh : HitOk X.K X.mg hit u) (tk : Takes X W)
    (hb : ∀ (W' : WX) (pn : List (Addr × Obj)) (xe : Value → Shared → Prop), Takes (X.tr pn xe) W' → PassesOwn (model X.prog X.w) X.A X.env xe → GSs (X.tr pn xe) W' none body fb)
    (hsu : ∀ (e : Exn) (C a : Addr) (oe : Obj) (d : Option Addr) (pn : List (Addr × Obj)), clsAt X.mg e.cls = some C → Zc (.ref C) d oe → (∃ vs, oe.data = .fields vs) → (e.fs = [] → d = none) → GSs (X.suite a ((a, oe) :: pn)) wNo (some (i, a)) (b₀ :: suite) (fs e)) :
    GS X W none (.Try body [.ExceptHandler (some (.Name x np)) (some n) (b₀ :: suite) pos'] [] [] pos) (sTryAs fb hit i fs) := by
  refine PS.weak (ps_try_as (tb := fun W' => rdS X.K X.mg W' none fb) (ts := rdSu X.K X.mg i fs) (Wout := W) hs hf hN hi hln hc tk hb ?_) ?_
  · intro a oe cls d pn hz hv
    refine ⟨fun pins s σ H E I ⟨e, m, env, S, E0, r, ex, q⟩ => ?_⟩
    obtain ⟨C, hC, rfl, hd⟩ := ex
    exact (hsu e C a oe d pn hC hz hv (fun h => by rw [h] at hd; exact hd)).run pins s σ H E I ⟨m, env, S, E0, r, q⟩
  · intro E σ H ⟨m, env, S, E0, r, s⟩
    refine ⟨m, env, S, E0, r, ?_⟩
    unfold sTryAs at s
    cases hbd : fb env S with
    | nx e4 S4 => rw [hbd] at s; exact s
    | rt v S4 => rw [hbd] at s; exact s
    | bk e4 S4 => rw [hbd] at s; exact s
    | ct e4 S4 => rw [hbd] at s; exact s
    | bad => rw [hbd] at s; exact s
    | ex y env' S' =>
      rw [hbd] at s
      dsimp only at s
      intro m' H' σ' cls d p' E' ex
      have ex' := ex
      obtain ⟨C, hC, rfl, hd⟩ := ex'
      cases hh' : hit y.cls with
      | none => rw [hh'] at s; exact s.elim
      | some b =>
        rw [hh'] at s
        refine ⟨b, hh _ _ hh' C hC, fun hb a ha => ?_, fun hb => ?_⟩
        · subst hb
          dsimp only at s
          by_cases hil : i < env'.length
          · have hiσ : i < σ'.length := E'.len ▸ hil
            rw [if_pos hil] at s
            have s2 := SSat.step p' s
            refine ⟨y, m', env'.set i none, S', E'.pinned hiσ, p'.rel, ex, ?_⟩
            cases hfs : fs y (env'.set i none) S' with
            | nx e4 S4 => rw [hfs] at s2; exact fun m4 H4 σ4 p4 E4 => s2 m4 H4 _ p4 E4.unpin
            | rt v S4 => rw [hfs] at s2; exact s2
            | bk e4 S4 => rw [hfs] at s2; exact fun m4 H4 σ4 p4 E4 => s2 m4 H4 _ p4 E4.unpin
            | ct e4 S4 => rw [hfs] at s2; exact fun m4 H4 σ4 p4 E4 => s2 m4 H4 _ p4 E4.unpin
            | bad => rw [hfs] at s2; exact s2
            | ex z e4 S4 => rw [hfs] at s2; exact s2.elim
          · rw [if_neg hil] at s
            exact s.elim
        · subst hb
          exact s m' H' σ' _ d p' E' ex
end
end G
set_option maxRecDepth 100000
/-! The layer G, part 8: what a def leaves; a def by its body; the law's end. -/
namespace G
open PySem PySem.Spec PyProof.Rows L2

/-! ### what leans on cells below n alone -/
mutual
def D.lo (n : Nat) : D → Bool
  | .a _ => true
  | .tup ds => D.loL n ds
  | .ils ds => D.loL n ds
  | .cel k => decide (k < n)
def D.loL (n : Nat) : List D → Bool
  | [] => true
  | d :: ds => D.lo n d && D.loL n ds
end
def Cell.lo (n : Nat) : Cell → Bool
  | .lst ds => D.loL n ds
  | .dic kvs => kvs.all fun kv => D.lo n kv.2
  | .fdc kvs => kvs.all fun kv => D.lo n kv.2
  | .dit kvs => kvs.all fun kv => D.lo n kv.2
  | .ins _ fs => fs.all fun kv => D.lo n kv.2
def Sto.lo (S : Sto) : Bool := S.all (Cell.lo S.length)
/-- what a def leaves: new cells that nobody can reach are dropped; a new list (dict, instance) alone is moved to the first free place -/
def region (n : Nat) (r : R D) : R D := match r with
  | .ok d S' => if D.lo n d = true ∧ Sto.lo (S'.take n) = true then .ok d (S'.take n) else match d with
    | .cel k => match S'[k]? with
      | some c => if n ≤ k ∧ Cell.lo n c = true ∧ Sto.lo (S'.take n) = true ∧ n ≤ S'.length then .ok (.cel n) (S'.take n ++ [c]) else r
      | none => r
    | _ => r
  | .exc e S' => if (e.fs.all fun kv => D.lo n kv.2) = true ∧ Sto.lo (S'.take n) = true then .exc e (S'.take n) else r
  | .bad => .bad

section
variable {K : PySem.W.Frag} {mg : Str → Option Value} {m m' : Nat → Addr} {S S' : Sto} {H H' : Hp} {N n : Nat}
mutual
theorem Rep.cut : ∀ (d : D) (v : V), D.lo n d = true → Rep K m N H d v → Rep K m n H d v
  | .a _, _, _, h => h
  | .tup ds, _, b, ⟨p, vs, e, s, z, r⟩ => ⟨p, vs, e, s, z, RepL.cut ds vs (by unfold D.lo at b; exact b) r⟩
  | .ils ds, _, b, ⟨p, vs, e, s, z, r⟩ => ⟨p, vs, e, s, z, RepL.cut ds vs (by unfold D.lo at b; exact b) r⟩
  | .cel k, _, b, ⟨_, e⟩ => ⟨by unfold D.lo at b; exact of_decide_eq_true b, e⟩
theorem RepL.cut : ∀ (ds : List D) (vs : List V), D.loL n ds = true → RepL K m N H ds vs → RepL K m n H ds vs
  | [], _, _, h => h
  | d :: ds, _, b, ⟨v, r, e, h1, h2⟩ => by
    unfold D.loL at b
    obtain ⟨b1, b2⟩ := Bool.and_eq_true_iff.mp b
    exact ⟨v, r, e, Rep.cut d v b1 h1, RepL.cut ds r b2 h2⟩
end
theorem RepP.cut {κ : Type} : ∀ (ds : List (κ × D)) (vs : List (κ × V)), (ds.all fun kv => D.lo n kv.2) = true → RepP K m N H ds vs → RepP K m n H ds vs
  | [], _, _, h => h
  | (x, d) :: ds, _, b, ⟨v, r, e, h1, h2⟩ => by
    rw [List.all_cons] at b
    obtain ⟨b1, b2⟩ := Bool.and_eq_true_iff.mp b
    exact ⟨v, r, e, Rep.cut d v b1 h1, RepP.cut ds r b2 h2⟩
theorem CellOk.cut {p : Addr} {c : Cell} (b : Cell.lo n c = true) (h : CellOk K mg m N H p c) : CellOk K mg m n H p c := by
  cases c with
  | lst ds => obtain ⟨vs, e, z, r⟩ := h; exact ⟨vs, e, z, RepL.cut _ _ b r⟩
  | dic kvs => obtain ⟨vs, e, z, r⟩ := h; exact ⟨vs, e, z, RepP.cut _ _ b r⟩
  | fdc kvs => obtain ⟨o, vs, e, z, r⟩ := h; exact ⟨o, vs, e, z, RepP.cut _ _ b r⟩
  | dit kvs => obtain ⟨vs, e, z, r⟩ := h; exact ⟨vs, e, z, RepP.cut _ _ b r⟩
  | ins c fs => obtain ⟨C, dx, ws, h1, e, h2, r⟩ := h; exact ⟨C, dx, ws, h1, e, h2, RepP.cut _ _ b r⟩
theorem below_at {T : Sto} {i : Nat} {c : Cell} (b : Sto.lo T = true) (h : T[i]? = some c) : Cell.lo T.length c = true := List.all_eq_true.mp b c (List.mem_of_getElem? h)
/-- the store is cut back to its old length -/
theorem Post.cutBack (p : Post K mg m S H m' S' H') (b : Sto.lo (S'.take S.length) = true) : Post K mg m S H m' (S'.take S.length) H' := by
  have hl : (S'.take S.length).length = S.length := by rw [List.length_take]; exact Nat.min_eq_left p.len
  refine ⟨⟨fun i c e => ?_, fun i j hi hj => ?_⟩, by rw [hl]; exact Nat.le_refl _, p.ext, p.frame, fun i h1 h2 => ?_, p.frz⟩
  · have bc := below_at b e
    rw [hl] at bc ⊢
    refine CellOk.cut bc (p.rel.at_ i c ?_)
    have hi : i < S.length := by have := (List.getElem?_eq_some_iff.mp e).1; rw [hl] at this; exact this
    rw [List.getElem?_take_of_lt hi] at e
    exact e
  · rw [hl] at hi hj
    exact p.rel.inj i j (Nat.lt_of_lt_of_le hi p.len) (Nat.lt_of_lt_of_le hj p.len)
  · rw [hl] at h2
    exact absurd h2 (Nat.not_lt.mpr h1)
theorem sat_region {W : WX} {σ : L2.St} {Q : VK} {r : R D} (h : Sat K mg W σ m S H (Rep K) Q (region S.length r)) : Sat K mg W σ m S H (Rep K) Q r := by
  unfold region at h
  cases r with
  | bad => exact h
  | exc e S' =>
    dsimp only at h
    split at h
    · rename_i hb
      intro m' H' cls d p ex
      have p2 := p.cutBack hb.2
      have hl : (S'.take S.length).length = S.length := by rw [List.length_take]; exact Nat.min_eq_left p.len
      refine h m' H' cls d p2 ?_
      obtain ⟨C, hC, rfl, hd⟩ := ex
      refine ⟨C, hC, rfl, ?_⟩
      rw [hl]
      cases hf : e.fs with
      | nil => rw [hf] at hd; exact hd
      | cons f fs =>
        rw [hf] at hd
        obtain ⟨q, ws, hq, hx, rp⟩ := hd
        have hb1 := hb.1
        rw [hf] at hb1
        exact ⟨q, ws, hq, hx, RepP.cut _ _ hb1 rp⟩
    · exact h
  | ok d S' =>
    dsimp only at h
    split at h
    · rename_i hb
      intro m' H' y p rd
      have hl : (S'.take S.length).length = S.length := by rw [List.length_take]; exact Nat.min_eq_left p.len
      refine h m' H' y (p.cutBack hb.2) ?_
      rw [hl]
      exact Rep.cut d y hb.1 rd
    · cases d with
      | cel k =>
        dsimp only at h
        cases hk : S'[k]? with
        | none => rw [hk] at h; exact h
        | some c =>
          rw [hk] at h
          dsimp only at h
          split at h
          · rename_i hb
            obtain ⟨h1, h2, h3, h4⟩ := hb
            intro m' H' y p rd
            obtain ⟨_, rfl⟩ := rd
            have hl : (S'.take S.length).length = S.length := by rw [List.length_take]; exact Nat.min_eq_left p.len
            have p2 := p.cutBack h3
            have hk' := (List.getElem?_eq_some_iff.mp hk).1
            have p3 : Post K mg m S H (mAt m' S.length (m' k)) (S'.take S.length ++ [c]) H' := by
              have := p2.adopt (p := m' k) (c := c) (p.fresh k h1 hk') (fun i hi e => by
                rw [hl] at hi
                have := p.rel.inj i k (Nat.lt_of_lt_of_le hi p.len) hk' e
                omega) (by
                have c0 := CellOk.cut h2 (p.rel.at_ k c hk)
                have k0 : Keep m' S.length H' (mAt m' (S'.take S.length).length (m' k)) ((S'.take S.length).length + 1) H' := by
                  rw [hl]
                  exact ⟨Nat.le_succ _, fun i hi => mAt_lt hi, fun q o h _ => h⟩
                exact c0.mono k0 fun o h => h)
              rw [hl] at this
              exact this
            refine h _ H' (.ref (m' k)) p3 ⟨?_, ?_⟩
            · rw [List.length_append, hl]; exact Nat.lt_succ_self _
            · rw [mAt_self]
          · exact h
      | _ => exact h
end

/-! ### a def by its body -/
def runBody (N : Nat) (b : SX) (ds : List D) (S : Sto) : R D := match b (ds.map some ++ List.replicate (N - ds.length) none) S with
  | .nx _ S' => .ok (.a .non) S'
  | .rt d S' => .ok d S'
  | .ex e _ S' => .exc e S'
  | _ => .bad
/-- the def with n parameters, N slots, the body b -/
def defSem (n N : Nat) (b : SX) : List D → Sto → R D := fun ds S => if ds.length = n then region S.length (runBody N b ds S) else .bad
theorem ary_def (n N : Nat) (b : SX) : Ary n (defSem n N b) := fun ds S h => if_neg h

section
variable {P : Program} {w : World} {K : PySem.W.Frag} {mg : Str → Option Value} {base : Heap}
/-- the context of a def's body -/
abbrev bodyCx (P : Program) (w : World) (K : PySem.W.Frag) (mg : Str → Option Value) (base : Heap) (N : List Str) (qual : Str) (scope : Scope) (f : Addr) (cd : Value) (A : Around) (outer : List PySem.Env) (s : Shared) (H : Hp) (E : XK) : Cx :=
  cxOf (L2.CX P w) P w K mg base N qual scope f cd A outer s H E
/-- the body st computes b, in every call -/
def BodyOk (P : Program) (w : World) (K : PySem.W.Frag) (mg : Str → Option Value) (base : Heap) (k : Nat) (N : List Str) (qual : Str) (scope : Scope) (st : List Stmt) (b : SX) : Prop :=
  ∀ (f : Addr) (cd : Value) (A : Around) (outer : List PySem.Env) (s : Shared) (H : Hp) (E : XK), Room k (bodyCx P w K mg base N qual scope f cd A outer s H E).A →
    Takes (bodyCx P w K mg base N qual scope f cd A outer s H E) (fun cls d _ H => E cls d H) → PassesOwn (model P w) (bodyCx P w K mg base N qual scope f cd A outer s H E).A (bodyCx P w K mg base N qual scope f cd A outer s H E).env (bodyCx P w K mg base N qual scope f cd A outer s H E).xe →
    GSs (bodyCx P w K mg base N qual scope f cd A outer s H E) (fun cls d _ H => E cls d H) none st b
theorem slots_start {m : Nat → Addr} {S : Sto} {H : Hp} {ds : List D} {vs : List V} {N : List Str} (r : RepL K m S.length H ds vs) : SlotsOk K none m S.length H (ds.map some ++ List.replicate (N.length - ds.length) none) (L2.start N vs) := by
  unfold L2.start
  refine ⟨by simp [r.len], fun i d h => ?_, fun _ _ z => nomatch z⟩
  by_cases hi : i < ds.length
  · rw [List.getElem?_append_left (by simpa using hi), List.getElem?_map] at h
    rw [List.getElem?_append_left (by simpa [r.len] using hi), List.getElem?_map]
    cases q : ds[i]? with
    | none => rw [q] at h; cases h
    | some d' =>
      rw [q] at h
      have e : d' = d := by simpa using h
      subst e
      obtain ⟨v, h1, h2⟩ := r.get q
      exact ⟨v, by rw [h1]; rfl, h2⟩
  · rw [List.getElem?_append_right (by simpa using Nat.le_of_not_lt hi), List.getElem?_replicate] at h
    split at h <;> cases h
theorem def_ok {x qual : Str} {st : Stmt} {f : Addr} {fd : FuncData} {N ps : List Str} {k n nn : Nat} {b : SX} (F : Fun K x qual st f fd) (Sc : FnScope N ps (defScope st)) (hn : ps.length = n) (hN : N.length = nn) (h : BodyOk P w K mg base k N qual (defScope st) (defBody st) b) :
    FnOk P w K mg base (L2.CX P w) (k + 1) f fd ps (spF K mg ps.length (defSem n nn b)) := by
  subst hn
  subst hN
  refine F.okX Sc (fun vs H Q E h => h.1) fun cdv A outer s H vs Q E hr hsp => ?_
  obtain ⟨hl, m, ds, S, rs, r, q⟩ := hsp
  refine ⟨_, h f cdv A outer s H E hr (takes_of rfl rfl rfl rfl) (passes_of rfl), m, _, S, slots_start (N := N) rs, r, ?_⟩
  have hdl : ds.length = ps.length := by rw [← rs.len]; exact hl
  unfold defSem at q
  rw [if_pos hdl] at q
  have q2 := sat_region q
  unfold runBody at q2
  show SSat K mg (fun cls d _ H => E cls d H) none { nx := fun _ H' => Q .non H', rt := Q } m S H (b (ds.map some ++ List.replicate (N.length - ds.length) none) S)
  cases hb : b (ds.map some ++ List.replicate (N.length - ds.length) none) S with
  | nx e4 S4 => rw [hb] at q2; exact fun m' H' σ' p _ => q2 m' H' .non p rfl
  | rt v S4 => rw [hb] at q2; exact q2
  | bk e4 S4 => rw [hb] at q2; exact q2.elim
  | ct e4 S4 => rw [hb] at q2; exact q2.elim
  | bad => rw [hb] at q2; exact q2.elim
  | ex y e4 S4 => rw [hb] at q2; exact fun m' H' σ' cls d p _ ex => q2 m' H' cls d p ex
/-- no level: nothing is promised -/
theorem def_zero {f : Addr} {fd : FuncData} {ps : List Str} {k : Nat} : FnOk P w K mg base (L2.CX P w) k f fd ps (spF K mg ps.length fun _ _ => .bad) :=
  ⟨fun vs H Q E h => h.1, fun A outer s H args us vs Q E hr e0 hb r ⟨_, m, ds, S, _, _, q⟩ => q.elim⟩
end

/-! ### the law's end -/
/-- the law's promise from what it computes -/
theorem law_end {K : PySem.W.Frag} {mg : Str → Option Value} {F : List D → Sto → R D} {H : Hp} {a : Addr} {ns : List Int} (hO : Only H) (hS : SqL K H a (ns.map V.int)) (hl : ns.length ≤ sizeLine) {S' : Sto}
    (h : F [.ils (ns.map fun i => .a (.int i))] [] = .ok (.a (.bl true)) S') : spF K mg 1 F [.ref a] H (fun v _ => v = .bl true) fun _ _ _ => False := by
  have rl : ∀ l : List Int, RepL K (fun _ => 0) 0 H (l.map fun i => .a (.int i)) (l.map V.int) := fun l => by
    induction l with
    | nil => exact rfl
    | cons i r ih => exact ⟨.int i, r.map V.int, rfl, rfl, ih⟩
  have hi : ILs K H a (ns.map V.int) := by
    rcases hS with (h1 | h1) | h1
    · rcases hO a with z | ⟨o, xs, z⟩
      · rw [z] at h1; cases h1
      · rw [z] at h1; cases h1
    · exact .inl h1
    · exact .inr h1
  refine ⟨rfl, fun _ => 0, [.ils (ns.map fun i => .a (.int i))], [], ⟨.ref a, [], rfl, ⟨a, _, rfl, hi, by rw [List.length_map]; exact hl, rl ns⟩, rfl⟩, ⟨fun n c e => by simp at e, fun i j hi _ => absurd hi (Nat.not_lt_zero i)⟩, ?_⟩
  rw [h]
  exact fun m' H' y _ rd => rd
end G
set_option maxRecDepth 100000
/-! The layer G, part 9: more rules. -/
namespace G
open PySem PySem.Spec PyProof.Rows L2

/-! ### isinstance of the exception that a suite holds -/
def eIsE (x : Exn) (sub : Str → Option Bool) : EX := fun _ S => match x.fs with
  | [] => match sub x.cls with
    | some b => .ok (.a (.bl b)) S
    | none => .bad
  | _ => .bad
/-- sub tells of the classes of exceptions whether they are of the class u -/
def ExsOk (K : PySem.W.Frag) (mg : Str → Option Value) (sub : Str → Option Bool) (u : Value) : Prop := ∀ c b, sub c = some b → ∀ C, clsAt mg c = some C → ExcC K C ∧ PySem.W.kitOne K (.ref C) u = some b
section
variable {X : Cx} {W : WX} {x : Exn} {C a : Addr} {oe : Obj} {d : Option Addr} {pn : List (Addr × Obj)} {i : Nat} {n T : Str} {u : Value} {vT : V} {p pos px pt : Pos} {sub : Str → Option Bool}
theorem ge_isE (hC : clsAt X.mg x.cls = some C) (hz : Zc (.ref C) d oe) (hv : ∃ vs, oe.data = .fields vs) (hd : x.fs = [] → d = none) (he : PE (X.suite a ((a, oe) :: pn)) (.Name n pt) (tVar i)) (hT : PE (X.suite a ((a, oe) :: pn)) (.Name T px) (tC vT)) (hr : ∀ w, RelV vT w → w = u)
    (hs : ExsOk X.K X.mg sub u) (hg : Gl X "isinstance") (hm : X.mg "isinstance" = none) (hb : bootBuiltins "isinstance" = some (.builtin "isinstance") := by decide +kernel)
    (h1 : starEach [.Name n pt, .Name T px] X.env = (false, eval (.Name n pt) X.env) :: starEach [.Name T px] X.env := by rfl) (h2 : starEach [.Name T px] X.env = (false, eval (.Name T px) X.env) :: starEach [] X.env := by rfl) (hpl : (backTo pos (starEach [.Name T px] X.env)).any (·.1) = false := by rfl) :
    GE (X.suite a ((a, oe) :: pn)) W (some (i, a)) (.Call (.Name "isinstance" p) [.Name n pt, .Name T px] [] pos) (eIsE x sub) := by
  cases hf : x.fs with
  | cons f fs =>
    refine ⟨fun pins s σ H Q I ⟨m, env, S, E, r, q⟩ => ?_⟩
    unfold eIsE at q
    rw [hf] at q
    exact q.elim
  | nil =>
    cases hs' : sub x.cls with
    | none =>
      refine ⟨fun pins s σ H Q I ⟨m, env, S, E, r, q⟩ => ?_⟩
      unfold eIsE at q
      rw [hf, hs'] at q
      exact q.elim
    | some b =>
      obtain ⟨hE, hk⟩ := hs _ _ hs' C hC
      obtain rfl := hd hf
      refine PE.weak (pe_callB (X := X.suite a ((a, oe) :: pn)) (call_isE hE hz hv) hg hm hb (pa_cons he (pa_cons hT pa_nil h2) h1) (by decide) (by decide) h1 hpl) fun σ H Q ⟨m, env, S, E, r, s⟩ => ?_
      unfold eIsE at s
      rw [hf, hs'] at s
      exact ⟨.ref a, E.pin i a rfl, vT, u, b, rfl, hr, hk, s.here r rfl⟩
end

/-! ### chained comparisons -/
def eChain (g g' : Op2) (fa fb fc : EX) : EX := fun env S => (fa env S).bind fun x S1 => (fb env S1).bind fun y S2 => (ofO (g x y S2)).bind fun z S3 => match z with
  | .a (.bl true) => (fc env S3).bind fun w S4 => ofO (g' y w S4)
  | .a (.bl false) => .ok (.a (.bl false)) S3
  | _ => .bad
section
variable {X : Cx} {W : WX} {pin : Option (Nat × Addr)} {pos : Pos} {a b c : Expr} {fa fb fc : EX} {op op' : CmpOp} {g g' : Op2}
theorem chain_rd {σ : L2.St} {H : Hp} {Q : VK} (h : rdE X.K X.mg W pin (eChain g g' fa fb fc) σ H Q) : tChain (rdO X.K X.mg g) (rdO X.K X.mg g') (rdE X.K X.mg W pin fa) (rdE X.K X.mg W pin fb) (rdE X.K X.mg W pin fc) σ H Q := by
  obtain ⟨m, env, S, E, r, s⟩ := h
  refine rdE_bind E r s fun x H1 m1 S1 d p1 E1 r1 rd s1 => rdE_bind E1 r1 s1 fun y H2 m2 S2 e p2 E2 r2 re s2 => ?_
  refine rdO_mk r2 ((p2.keep r1).rep _ _ rd) re ((s2.bind (Rl' := Rep X.K)).mono fun z H3 ⟨m3, S3, d3, p3, rz, s3⟩ => ?_)
  cases d3 with
  | a v =>
    cases v with
    | bl k =>
      obtain rfl : z = .bl k := rz
      cases k with
      | false => exact ⟨false, rfl, s3.here p3.rel rfl⟩
      | true =>
        exact ⟨true, rfl, rdE_bind (E2.keep (p3.keep r2)) p3.rel s3 fun w H4 m4 S4 f p4 E4 r4 rf s4 => rdO_mk r4 ((p4.keep p3.rel).rep _ _ ((p3.keep r2).rep _ _ re)) rf s4⟩
    | _ => exact s3.elim
  | _ => exact s3.elim
theorem ge_chain (ho : OpR X (compareOp op) (rdO X.K X.mg g)) (ho' : OpR X (compareOp op') (rdO X.K X.mg g')) (ha : GE X W pin a fa) (hb : GE X W pin b fb) (hc : GE X W pin c fc) (hm : lastMarks [op, op'] [b, c] = false := by rfl) : GE X W pin (.Compare a [op, op'] [b, c] pos) (eChain g g' fa fb fc) :=
  PE.weak (pe_chain ho ho' ha hb hc hm) fun σ H Q h => chain_rd h
end

/-! ### a def with defaults -/
section
variable {P : Program} {w : World} {K : PySem.W.Frag} {mg : Str → Option Value} {base : Heap}
theorem defD_ok {x qual : Str} {params : Arguments} {body : List Stmt} {scope : Scope} {dvs : List V} {kws : List (Str × V)} {f : Addr} {fd : FuncData} {N ps : List Str} {k n nn : Nat} {b : SX} (F : FunD K x qual params body scope dvs kws f fd) (Sc : FnScope N ps scope) (hn : ps.length = n) (hN : N.length = nn) (h : BodyOk P w K mg base k N qual scope body b) :
    FnOk P w K mg base (L2.CX P w) (k + 1) f fd ps (spF K mg ps.length (defSem n nn b)) := by
  subst hn
  subst hN
  refine F.ok Sc (fun vs H Q E h => h.1) fun cdv A outer s H vs Q E hr hsp => ?_
  obtain ⟨hl, m, ds, S, rs, r, q⟩ := hsp
  refine ⟨_, h f cdv A outer s H E hr (takes_of rfl rfl rfl rfl) (passes_of rfl), m, _, S, slots_start (N := N) rs, r, ?_⟩
  have hdl : ds.length = ps.length := by rw [← rs.len]; exact hl
  unfold defSem at q
  rw [if_pos hdl] at q
  have q2 := sat_region q
  unfold runBody at q2
  show SSat K mg (fun cls d _ H => E cls d H) none { nx := fun _ H' => Q .non H', rt := Q } m S H (b (ds.map some ++ List.replicate (N.length - ds.length) none) S)
  cases hb : b (ds.map some ++ List.replicate (N.length - ds.length) none) S with
  | nx e4 S4 => rw [hb] at q2; exact fun m' H' σ' p _ => q2 m' H' .non p rfl
  | rt v S4 => rw [hb] at q2; exact q2
  | bk e4 S4 => rw [hb] at q2; exact q2.elim
  | ct e4 S4 => rw [hb] at q2; exact q2.elim
  | bad => rw [hb] at q2; exact q2.elim
  | ex y e4 S4 => rw [hb] at q2; exact fun m' H' σ' cls d p _ ex => q2 m' H' cls d p ex
end
end G
set_option maxRecDepth 100000
/-! The layer G, part 10: what the top has written, in short; one level more. -/
namespace G
open PySem PySem.Spec PyProof.Rows L2

/-- a def of the module -/
def DefF (K : PySem.W.Frag) (mg : Str → Option Value) (x qual : Str) (st : Stmt) (ps : List Str) : Prop := ∃ f fd, Fun K x qual st f fd ∧ mg x = some (.ref f) ∧ Binds K fd ps []
/-- a method of the class c -/
def MethF (K : PySem.W.Frag) (mg : Str → Option Value) (c m qual : Str) (st : Stmt) (ps : List Str) : Prop := ∃ C f fd, Fun K m qual st f fd ∧ clsAt mg c = some C ∧ Cls K C ∧ Meth K C m f ∧ Binds K fd ps []
/-- a class's __init__ -/
def InitF (K : PySem.W.Frag) (mg : Str → Option Value) (c qual : Str) (st : Stmt) (ps : List Str) : Prop := ∃ C f fd, Fun K "__init__" qual st f fd ∧ mg c = some (.ref C) ∧ Mk K C f ∧ Binds K fd ps []
/-- a class's __getitem__ -/
def GetF (K : PySem.W.Frag) (mg : Str → Option Value) (c qual : Str) (st : Stmt) (ps : List Str) : Prop := ∃ C f fd, Fun K "__getitem__" qual st f fd ∧ clsAt mg c = some C ∧ GetI K C f ∧ Binds K fd ps []
/-- defaults that stand -/
def DdsOk (K : PySem.W.Frag) (dds : List D) (dvs : List V) : Prop := ∀ m N H, RepL K m N H dds dvs
/-- a def of the module with defaults: j of them are given -/
def DefD (K : PySem.W.Frag) (mg : Str → Option Value) (x qual : Str) (st : Stmt) (ps : List Str) (dds : List D) : Prop :=
  ∃ f fd dvs kws cvs ds, FunD K x qual (defArgs st) (defBody st) (defScope st) dvs kws f fd ∧ mg x = some (.ref f) ∧ Binds K fd ps ds ∧ Vals cvs ds ∧ DdsOk K dds cvs
def InitD (K : PySem.W.Frag) (mg : Str → Option Value) (c qual : Str) (st : Stmt) (ps : List Str) (dds : List D) : Prop :=
  ∃ C f fd dvs kws cvs ds, FunD K "__init__" qual (defArgs st) (defBody st) (defScope st) dvs kws f fd ∧ mg c = some (.ref C) ∧ Mk K C f ∧ Binds K fd ps ds ∧ Vals cvs ds ∧ DdsOk K dds cvs
def MethD (K : PySem.W.Frag) (mg : Str → Option Value) (c m qual : Str) (st : Stmt) (ps : List Str) (dds : List D) : Prop :=
  ∃ C f fd dvs kws cvs ds, FunD K m qual (defArgs st) (defBody st) (defScope st) dvs kws f fd ∧ clsAt mg c = some C ∧ Cls K C ∧ Meth K C m f ∧ Binds K fd ps ds ∧ Vals cvs ds ∧ DdsOk K dds cvs

def badF : List D → Sto → R D := fun _ _ => .bad
theorem ary_bad {n : Nat} : Ary n badF := fun _ _ _ => rfl
section
variable {P : Program} {w : World} {K : PySem.W.Frag} {mg : Str → Option Value} {base : Heap} {k n nn : Nat} {x c m qual : Str} {st : Stmt} {ps N : List Str} {b : SX} {dds : List D}
theorem cal_def (h : DefF K mg x qual st ps) (Sc : FnScope N ps (defScope st)) (hn : ps.length = n) (hN : N.length = nn) (hb : BodyOk P w K mg base k N qual (defScope st) (defBody st) b) : Cal P w K mg base (k + 1) x [] (defSem n nn b) := by
  obtain ⟨f, fd, F, hm, hbi⟩ := h
  exact ⟨f, fd, ps, [], [], def_ok F Sc hn hN hb, by rw [hn]; exact ary_def n nn b, hm, F.kp, hbi, .nil, fun _ _ _ => rfl⟩
theorem cal_zero (h : DefF K mg x qual st ps) : Cal P w K mg base k x [] badF := by
  obtain ⟨f, fd, F, hm, hbi⟩ := h
  exact ⟨f, fd, ps, [], [], def_zero, ary_bad, hm, F.kp, hbi, .nil, fun _ _ _ => rfl⟩
theorem calM_def (h : MethF K mg c m qual st ps) (Sc : FnScope N ps (defScope st)) (hn : ps.length = n) (hN : N.length = nn) (hb : BodyOk P w K mg base k N qual (defScope st) (defBody st) b) : CalM P w K mg base (k + 1) c m [] (defSem n nn b) := by
  obtain ⟨C, f, fd, F, hC, hcl, hme, hbi⟩ := h
  exact ⟨C, f, fd, ps, [], [], def_ok F Sc hn hN hb, by rw [hn]; exact ary_def n nn b, hC, hcl, hme, hbi, .nil, fun _ _ _ => rfl⟩
theorem calM_zero (h : MethF K mg c m qual st ps) : CalM P w K mg base k c m [] badF := by
  obtain ⟨C, f, fd, F, hC, hcl, hme, hbi⟩ := h
  exact ⟨C, f, fd, ps, [], [], def_zero, ary_bad, hC, hcl, hme, hbi, .nil, fun _ _ _ => rfl⟩
theorem calC_def (h : InitF K mg c qual st ps) (Sc : FnScope N ps (defScope st)) (hn : ps.length = n) (hN : N.length = nn) (hb : BodyOk P w K mg base k N qual (defScope st) (defBody st) b) : CalC P w K mg base (k + 1) c [] (defSem n nn b) := by
  obtain ⟨C, f, fd, F, hm, hM, hbi⟩ := h
  exact ⟨C, f, fd, ps, [], [], def_ok F Sc hn hN hb, by rw [hn]; exact ary_def n nn b, hm, hM, hbi, .nil, fun _ _ _ => rfl⟩
theorem calC_zero (h : InitF K mg c qual st ps) : CalC P w K mg base k c [] badF := by
  obtain ⟨C, f, fd, F, hm, hM, hbi⟩ := h
  exact ⟨C, f, fd, ps, [], [], def_zero, ary_bad, hm, hM, hbi, .nil, fun _ _ _ => rfl⟩
theorem calI_def (h : GetF K mg c qual st ps) (Sc : FnScope N ps (defScope st)) (hn : ps.length = n) (hN : N.length = nn) (hb : BodyOk P w K mg base k N qual (defScope st) (defBody st) b) : CalI P w K mg base (k + 1) c (defSem n nn b) := by
  obtain ⟨C, f, fd, F, hC, hG, hbi⟩ := h
  exact ⟨C, f, fd, ps, def_ok F Sc hn hN hb, by rw [hn]; exact ary_def n nn b, hC, hG, hbi⟩
theorem calI_zero (h : GetF K mg c qual st ps) : CalI P w K mg base k c badF := by
  obtain ⟨C, f, fd, F, hC, hG, hbi⟩ := h
  exact ⟨C, f, fd, ps, def_zero, ary_bad, hC, hG, hbi⟩
theorem cal_defD (h : DefD K mg x qual st ps dds) (Sc : FnScope N ps (defScope st)) (hn : ps.length = n) (hN : N.length = nn) (hb : BodyOk P w K mg base k N qual (defScope st) (defBody st) b) : Cal P w K mg base (k + 1) x dds (defSem n nn b) := by
  obtain ⟨f, fd, dvs, kws, cvs, ds, F, hm, hbi, hv, hd⟩ := h
  exact ⟨f, fd, ps, ds, cvs, defD_ok F Sc hn hN hb, by rw [hn]; exact ary_def n nn b, hm, F.kp, hbi, hv, hd⟩
theorem cal_zeroD (h : DefD K mg x qual st ps dds) : Cal P w K mg base k x dds badF := by
  obtain ⟨f, fd, dvs, kws, cvs, ds, F, hm, hbi, hv, hd⟩ := h
  exact ⟨f, fd, ps, ds, cvs, def_zero, ary_bad, hm, F.kp, hbi, hv, hd⟩
theorem calC_defD (h : InitD K mg c qual st ps dds) (Sc : FnScope N ps (defScope st)) (hn : ps.length = n) (hN : N.length = nn) (hb : BodyOk P w K mg base k N qual (defScope st) (defBody st) b) : CalC P w K mg base (k + 1) c dds (defSem n nn b) := by
  obtain ⟨C, f, fd, dvs, kws, cvs, ds, F, hm, hM, hbi, hv, hd⟩ := h
  exact ⟨C, f, fd, ps, ds, cvs, defD_ok F Sc hn hN hb, by rw [hn]; exact ary_def n nn b, hm, hM, hbi, hv, hd⟩
theorem calC_zeroD (h : InitD K mg c qual st ps dds) : CalC P w K mg base k c dds badF := by
  obtain ⟨C, f, fd, dvs, kws, cvs, ds, F, hm, hM, hbi, hv, hd⟩ := h
  exact ⟨C, f, fd, ps, ds, cvs, def_zero, ary_bad, hm, hM, hbi, hv, hd⟩
theorem calM_defD (h : MethD K mg c m qual st ps dds) (Sc : FnScope N ps (defScope st)) (hn : ps.length = n) (hN : N.length = nn) (hb : BodyOk P w K mg base k N qual (defScope st) (defBody st) b) : CalM P w K mg base (k + 1) c m dds (defSem n nn b) := by
  obtain ⟨C, f, fd, dvs, kws, cvs, ds, F, hC, hcl, hme, hbi, hv, hd⟩ := h
  exact ⟨C, f, fd, ps, ds, cvs, defD_ok F Sc hn hN hb, by rw [hn]; exact ary_def n nn b, hC, hcl, hme, hbi, hv, hd⟩
theorem calM_zeroD (h : MethD K mg c m qual st ps dds) : CalM P w K mg base k c m dds badF := by
  obtain ⟨C, f, fd, dvs, kws, cvs, ds, F, hC, hcl, hme, hbi, hv, hd⟩ := h
  exact ⟨C, f, fd, ps, ds, cvs, def_zero, ary_bad, hC, hcl, hme, hbi, hv, hd⟩
end

/-! ### tests of classes by a list -/
theorem lookup_of {α : Type} [BEq α] [LawfulBEq α] {β : Type} {Pr : α → β → Prop} : ∀ {l : List (α × β)} {c : α} {b : β}, (∀ p ∈ l, Pr p.1 p.2) → l.lookup c = some b → Pr c b
  | [], _, _, _, h => by cases h
  | (a, y) :: r, c, b, hl, h => by
    rw [List.lookup_cons] at h
    split at h
    · rename_i e
      rw [eq_of_beq e, ← Option.some.inj h]
      exact hl _ (List.mem_cons_self ..)
    · exact lookup_of (fun p hp => hl p (List.mem_cons_of_mem _ hp)) h
/-- the class (of an exception, of an instance) is of u: told by a list -/
def subL (l : List (Str × Bool)) : Str → Option Bool := fun c => l.lookup c
/-- a name that isinstance asks for, at exceptions -/
def IsE (K : PySem.W.Frag) (mg : Str → Option Value) (T : Str) (sub : Str → Option Bool) : Prop := ∃ vT u, (mg T = some u ∨ (mg T = none ∧ bootBuiltins T = some u ∧ T ≠ "__name__")) ∧ RelV vT u ∧ (∀ w, RelV vT w → w = u) ∧ ExsOk K mg sub u
/-- .. at instances -/
def IsC (K : PySem.W.Frag) (mg : Str → Option Value) (T : Str) (sub : Str → Option Bool) : Prop := ∃ C0, mg T = some (.ref C0) ∧ SubOk K mg sub (.ref C0)
/-- a name that an except clause asks for -/
def HitN (K : PySem.W.Frag) (mg : Str → Option Value) (T : Str) (hit : Str → Option Bool) : Prop := ∃ u, (mg T = some u ∨ (mg T = none ∧ bootBuiltins T = some u ∧ T ≠ "__name__")) ∧ HitOk K mg hit u
section
variable {X : Cx} {W : WX} {x : Exn} {C a : Addr} {oe : Obj} {d : Option Addr} {pn : List (Addr × Obj)} {i : Nat} {n T : Str} {p pos px pt : Pos} {sub : Str → Option Bool}
theorem ge_isE' (hC : clsAt X.mg x.cls = some C) (hz : Zc (.ref C) d oe) (hv : ∃ vs, oe.data = .fields vs) (hd : x.fs = [] → d = none) (he : PE (X.suite a ((a, oe) :: pn)) (.Name n pt) (tVar i)) (h : IsE X.K X.mg T sub) (hgT : Gl X T) (hg : Gl X "isinstance") (hm : X.mg "isinstance" = none)
    (hdb : (T == ("__debug__" : Str)) = false := by decide) (hb : bootBuiltins "isinstance" = some (.builtin "isinstance") := by decide +kernel)
    (h1 : starEach [.Name n pt, .Name T px] X.env = (false, eval (.Name n pt) X.env) :: starEach [.Name T px] X.env := by rfl) (h2 : starEach [.Name T px] X.env = (false, eval (.Name T px) X.env) :: starEach [] X.env := by rfl) (hpl : (backTo pos (starEach [.Name T px] X.env)).any (·.1) = false := by rfl) :
    GE (X.suite a ((a, oe) :: pn)) W (some (i, a)) (.Call (.Name "isinstance" p) [.Name n pt, .Name T px] [] pos) (eIsE x sub) := by
  obtain ⟨vT, u, hT, r1, r2, hs⟩ := h
  refine ge_isE hC hz hv hd he ?_ r2 hs hg hm hb h1 h2 hpl
  rcases hT with hT | ⟨h3, h4, h5⟩
  · exact pe_glob hgT hT r1 hdb
  · exact pe_bltn hgT h3 h4 r1 h5 hdb
end
section
variable {X : Cx} {W : WX} {pin : Option (Nat × Addr)} {o : Expr} {fo : EX} {p pos px : Pos} {T : Str} {sub : Str → Option Bool}
theorem ge_isC' (ho : GE X W pin o fo) (h : IsC X.K X.mg T sub) (hgT : Gl X T) (hg : Gl X "isinstance") (hm : X.mg "isinstance" = none) (hdb : (T == ("__debug__" : Str)) = false := by decide)
    (hv : bootBuiltins "isinstance" = some (.builtin "isinstance") := by decide +kernel)
    (he : starEach [o, .Name T px] X.env = (false, eval o X.env) :: starEach [.Name T px] X.env := by rfl) (he2 : starEach [.Name T px] X.env = (false, eval (.Name T px) X.env) :: starEach [] X.env := by rfl) (hpl : (backTo pos (starEach [.Name T px] X.env)).any (·.1) = false := by rfl) :
    GE X W pin (.Call (.Name "isinstance" p) [o, .Name T px] [] pos) (eIsC sub fo) := by
  obtain ⟨C0, hm0, hs⟩ := h
  exact ge_isC ho (pe_glob hgT hm0 rfl hdb) hs hg hm hv he he2 hpl
/-- isinstance(o, T), T a built-in type -/
theorem ge_isT (ho : GE X W pin o fo) {Ts : String} (hT : X.mg T = none) (hbT : bootBuiltins T = some (.type Ts)) (hgT : Gl X T) (hg : Gl X "isinstance") (hm : X.mg "isinstance" = none) (hdb : (T == ("__debug__" : Str)) = false := by decide) (hn : T ≠ "__name__" := by decide)
    (hv : bootBuiltins "isinstance" = some (.builtin "isinstance") := by decide +kernel)
    (he : starEach [o, .Name T px] X.env = (false, eval o X.env) :: starEach [.Name T px] X.env := by rfl) (he2 : starEach [.Name T px] X.env = (false, eval (.Name T px) X.env) :: starEach [] X.env := by rfl) (hpl : (backTo pos (starEach [.Name T px] X.env)).any (·.1) = false := by rfl) :
    GE X W pin (.Call (.Name "isinstance" p) [o, .Name T px] [] pos) (eCallB dIsi (aCons fo (aCons (eC (.a (.ty Ts))) aNil))) :=
  ge_callB c_isi hg hm hv (ga_cons ho (ga_cons (ge_const (pe_bltn hgT hT hbT rfl hn hdb)) ga_nil he2) he) (by decide) (by decide) he hpl
end
section
variable {X : Cx} {W : WX} {x n : Str} {i : Nat} {body suite : List Stmt} {b₀ : Stmt} {np pos pos' : Pos} {fb : SX} {fs : Exn → SX} {hit : Str → Option Bool}
theorem gs_tryAs' (hs : X.stack = X.env :: X.outer) (hf : X.env.frame = some X.env.locals) (hN : X.N.Nodup) (hi : X.N[i]? = some n) (hln : X.env.kindOf n = some .local) (hh : HitN X.K X.mg x hit) (hg : Gl X x) (tk : Takes X W)
    (hb : ∀ (W' : WX) (pn : List (Addr × Obj)) (xe : Value → Shared → Prop), Takes (X.tr pn xe) W' → PassesOwn (model X.prog X.w) X.A X.env xe → GSs (X.tr pn xe) W' none body fb)
    (hsu : ∀ (e : Exn) (C a : Addr) (oe : Obj) (d : Option Addr) (pn : List (Addr × Obj)), clsAt X.mg e.cls = some C → Zc (.ref C) d oe → (∃ vs, oe.data = .fields vs) → (e.fs = [] → d = none) → GSs (X.suite a ((a, oe) :: pn)) wNo (some (i, a)) (b₀ :: suite) (fs e))
    (hdb : (x == ("__debug__" : Str)) = false := by decide) :
    GS X W none (.Try body [.ExceptHandler (some (.Name x np)) (some n) (b₀ :: suite) pos'] [] [] pos) (sTryAs fb hit i fs) := by
  obtain ⟨u, hu, hk⟩ := hh
  exact gs_tryAs hs hf hN hi hln ⟨hg, hdb, hu⟩ hk tk hb hsu
end
end G
set_option maxRecDepth 100000
/-! The layer G, part 11: the facts of the top put together; the law's end. -/
namespace G
open PySem PySem.Spec PyProof.Rows L2

section
variable {K : PySem.W.Frag} {C U : Addr} {T : String} {b : Bool}
theorem kitCls_own (h2 : PySem.W.isClsIn K U = true) (h3 : PySem.W.typeIn K (.ref U) = some (.type "type")) (h4 : PySem.W.subIn K (.ref C) (.ref U) = some b) : PySem.W.kitCls K (.ref C) (.ref U) = some b := by
  have e2 : ((PySem.W.clsIn K U).isSome && PySem.W.typeIn K (.ref U) == some (.type "type")) = true := by
    have h2' : (PySem.W.clsIn K U).isSome = true := h2
    rw [h2', h3] <;> rfl
  show (if ((PySem.W.clsIn K U).isSome && PySem.W.typeIn K (.ref U) == some (.type "type")) = true then PySem.W.subIn K (.ref C) (.ref U) else none) = some b
  rw [if_pos e2]
  exact h4
theorem kit_own (h2 : PySem.W.isClsIn K U = true) (h3 : PySem.W.typeIn K (.ref U) = some (.type "type")) (h1 : PySem.W.subIn K (.ref C) (.ref C) = some true) (h4 : PySem.W.subIn K (.ref C) (.ref U) = some b) : PySem.W.kitOne K (.ref C) (.ref U) = some b := by
  unfold PySem.W.kitOne
  split
  · rename_i e
    have e' : Value.ref C = Value.ref U := eq_of_beq e
    injection e' with e'
    subst e'
    rw [h1] at h4
    exact h4
  · exact kitCls_own h2 h3 h4
theorem kitCls_typ (h : PySem.W.kitMeta T = true) (h4 : PySem.W.subIn K (.ref C) (.type T) = some b) : PySem.W.kitCls K (.ref C) (.type T) = some b := by
  show (if PySem.W.kitMeta T = true then PySem.W.subIn K (.ref C) (.type T) else none) = some b
  rw [if_pos h]
  exact h4
theorem kit_typ (h : PySem.W.kitMeta T = true) (h4 : PySem.W.subIn K (.ref C) (.type T) = some b) : PySem.W.kitOne K (.ref C) (.type T) = some b := by
  unfold PySem.W.kitOne
  split
  · rename_i e
    have e' : Value.ref C = Value.type T := eq_of_beq e
    cases e'
  · exact kitCls_typ h h4
theorem exm_own (h1 : PySem.W.subIn K (.ref U) (.type "BaseException") = some true) (h2 : PySem.W.isClsIn K U = true) (h3 : PySem.W.typeIn K (.ref U) = some (.type "type")) (h4 : PySem.W.subIn K (.ref C) (.ref U) = some b) : PySem.W.exmOne K (.ref C) (.ref U) = some b := by
  unfold PySem.W.exmOne
  rw [h1, if_pos (by rfl)]
  exact kitCls_own h2 h3 h4
theorem exm_typ (h1 : PySem.W.subIn K (.type T) (.type "BaseException") = some true) (h : PySem.W.kitMeta T = true) (h4 : PySem.W.subIn K (.ref C) (.type T) = some b) : PySem.W.exmOne K (.ref C) (.type T) = some b := by
  unfold PySem.W.exmOne
  rw [h1, if_pos (by rfl)]
  exact kitCls_typ h h4
end

/-! ### the law -/
/-- the law's own promise: a list of at most 63 ints -/
def spLaw (K : PySem.W.Frag) : Sp := fun vs H Q _ => ∃ (a : Addr) (ns : List Int), vs = [.ref a] ∧ Only H ∧ SqL K H a (ns.map V.int) ∧ ns.length ≤ 63 ∧ (∀ z ∈ ns, Builtin.Int.intBits z ≤ 1048576) ∧ ∀ H', Q (.bl true) H'
theorem law_end2 {K : PySem.W.Frag} {mg : Str → Option Value} {F : List D → Sto → R D} {vs : List V} {H : Hp} {Q : VK} {E : XK}
    (h : ∀ ns : List Int, ns.length ≤ 63 → (∀ z ∈ ns, Builtin.Int.intBits z ≤ 1048576) → ∃ S', F [.ils (ns.map fun i => .a (.int i))] [] = .ok (.a (.bl true)) S') (q : spLaw K vs H Q E) : spF K mg 1 F vs H Q E := by
  obtain ⟨a, ns, rfl, hO, hS, hl, hb, hQ⟩ := q
  obtain ⟨S', hF⟩ := h ns hl hb
  have hz : ns.length ≤ sizeLine := Nat.le_trans hl (by decide)
  obtain ⟨e1, m, ds, S, rs, r, q⟩ := law_end (K := K) (mg := mg) hO hS hz hF
  refine ⟨e1, m, ds, S, rs, r, ?_⟩
  cases hf : F ds S with
  | ok y S2 =>
    rw [hf] at q
    exact fun m' H' v p rd => by
      obtain rfl := q m' H' v p rd
      exact hQ H'
  | exc y S2 => rw [hf] at q; exact fun m' H' c d p ex => (q m' H' c d p ex).elim
  | bad => rw [hf] at q; exact q
theorem law_fn {P : Program} {w : World} {K : PySem.W.Frag} {mg : Str → Option Value} {fa : Addr} {st : Stmt} {N : List Str} {k nn : Nat} {b : SX} (hF : DefF K mg "law" "law" st ["script"]) (hfa : mg "law" = some (.ref fa)) (Sc : FnScope N ["script"] (defScope st)) (hN : N.length = nn)
    (hbd : ∀ (kV doc pm : Value) (an : Option Addr) (cdv ct u : Value), bindArgs (PySem.W.fnOf "law" "law" (defArgs st) (defBody st) (defScope st) .none kV doc pm an cdv ct) ⟨[u], []⟩ = pure [(("script" : Str), u)])
    (hB : ∀ base, BodyOk P w K mg base k N "law" (defScope st) (defBody st) b)
    (h : ∀ ns : List Int, ns.length ≤ 63 → (∀ z ∈ ns, Builtin.Int.intBits z ≤ 1048576) → ∃ S', defSem 1 nn b [.ils (ns.map fun i => .a (.int i))] [] = .ok (.a (.bl true)) S') :
    ∃ fd : FuncData, (∀ (s : Shared) (v : Value), BindsTo s fd ⟨[v], []⟩ [("script", v)]) ∧ ∀ base : Heap, K.In base → base.Ns mainGlobals mg → FnOk P w K mg base (L2.CX P w) (k + 1) fa fd ["script"] (spLaw K) := by
  obtain ⟨f, fd, Fn, hm, _⟩ := hF
  obtain rfl : f = fa := by
    have e := hm.symm.trans hfa
    injection e with e
    injection e
  refine ⟨fd, ?_, fun base _ _ => (def_ok Fn Sc rfl hN (hB base)).imp fun vs H Q E q => law_end2 h q⟩
  obtain ⟨oc, od, kV, doc, pm, an, cdv, ct, osl, rfl, lk, hcd⟩ := Fn.ex
  exact fun s v => .of_eq (hbd kV doc pm an cdv ct v)
theorem law_walk {l : PySem.W.OpenLaw} {k : Nat} {q : Program} {loose : List Str} {XP : (Str → Option Value) → Heap → Prop} {YP : World → Heap → Prop} {d : DefRec} {K : Params → PySem.W.Frag} (hn : l.most = some 63) (hdf : d.params.defaults = []) (hr : Room k callerA)
    (hY : ∀ (w : World) (h : Heap), YP w h → (K w.params).In h)
    (F : ∀ (w : World) (mg : Str → Option Value) (fa : Addr) (h : Heap), (K w.params).In h → h.Ns mainGlobals mg → mg d.name = some (.ref fa) →
      ∃ fd : FuncData, (∀ (s : Shared) (u : Value), BindsTo s fd ⟨[u], []⟩ [("script", u)]) ∧ ∀ base : Heap, (K w.params).In base → base.Ns mainGlobals mg → FnOk l.prog w (K w.params) mg base (L2.CX l.prog w) k fa fd ["script"] (spLaw (K w.params))) :
    PySem.W.WalkO q loose XP YP l.row.toRowW d [] (fun f vs => PySem.call f vs) :=
  L2.walk_ofB (n := 63) (k := k) (x := "script") (CX := fun w => L2.CX l.prog w) (sp := fun w => spLaw (K w.params)) hn (by decide) hdf hr hY F (fun _ _ a ns hl hb hO hS => ⟨a, ns, rfl, hO, hS, hl, hb, fun _ => rfl⟩) fun w H s e s' h => by
    obtain ⟨_, _, _, _, _, _, _, _, _, _, _, _, z⟩ := h
    exact z.elim
end G
set_option maxRecDepth 100000
/-! The layer G, part 12: chained tests; dicts made, asked; in; constants of the module. -/
namespace G
open PySem PySem.Spec PyProof.Rows L2

/-! ### a < b < c as a test -/
def bOf (r : R D) : R Bool := r.bind fun d S => match d with
  | .a (.bl b) => .ok b S
  | _ => .bad
def tCh (g g' : Op2) (fa fb fc : EX) : BX := fun env S => bOf (eChain g g' fa fb fc env S)
section
variable {X : Cx} {W : WX} {pin : Option (Nat × Addr)} {pos : Pos} {a b c : Expr} {fa fb fc : EX} {op op' : CmpOp} {g g' : Op2}
theorem gt_chain (ho : OpR X (compareOp op) (rdO X.K X.mg g)) (ho' : OpR X (compareOp op') (rdO X.K X.mg g')) (ha : GE X W pin a fa) (hb : GE X W pin b fb) (hc : GE X W pin c fc) (hm : lastMarks [op, op'] [b, c] = false := by rfl) : GT X W pin (.Compare a [op, op'] [b, c] pos) (tCh g g' fa fb fc) :=
  PT.weak (pt_chain ho ho' ha hb hc hm) fun σ H Q ⟨m, env, S, E, r, s⟩ => chain_rd ⟨m, env, S, E, r, s.bind.mono fun v H1 ⟨m1, S1, d, p, rd, q⟩ => by
    split at q
    · rename_i k
      obtain rfl : v = .bl k := rd
      exact ⟨k, rfl, q.here p.rel rfl⟩
    · exact q.elim⟩
end

/-! ### dicts -/
def eDict0 : EX := fun _ S => .ok (.cel S.length) (S ++ [.dic []])
section
variable {X : Cx} {W : WX} {pin : Option (Nat × Addr)} {pos : Pos}
theorem ge_dict0 : GE X W pin (.Dict [] [] pos) eDict0 := PE.weak pe_dnewK fun σ H Q ⟨m, env, S, E, r, s⟩ => fun p hp => by
  have p1 : Post X.K X.mg m S H (mAt m S.length p) (S ++ [.dic []]) (upd H p (.dK [])) := Post.push r (same_upd hp) hp ⟨[], upd_same, Nat.zero_le _, rfl⟩
  exact s.ok p1 ⟨by simp, by rw [mAt_self]⟩
end
/-- the pairs of a display: keys that are ints or texts -/
abbrev PX := Slots → Sto → R (List (Key × D))
def pNil : PX := fun _ S => .ok [] S
def pCons (fk fv : EX) (r : PX) : PX := fun env S => (fk env S).bind fun k S1 => (fv env S1).bind fun v S2 => (r env S2).bind fun ps S3 => match keyOf k with
  | some y => .ok ((y, v) :: ps) S3
  | none => .bad
def foldK (kvs : List (Key × D)) : List (Key × D) → List (Key × D)
  | [] => kvs
  | p :: r => foldK (setK kvs p.1 p.2) r
def eDisp (f : PX) : EX := fun env S => (f env S).bind fun ps S1 => if ps.length ≤ 15 then .ok (.cel S1.length) (S1 ++ [.dic (foldK [] ps)]) else .bad
section
variable {K : PySem.W.Frag} {m : Nat → Addr} {N : Nat} {H : Hp}
theorem foldK_rep : ∀ {ps kvs : List (Key × D)} {qs ws : List (Key × V)}, RepP K m N H ps qs → RepP K m N H kvs ws → RepP K m N H (foldK kvs ps) (mergeK ws qs)
  | [], _, _, _, h, r => by
    rw [show _ = [] from h]
    exact r
  | (k, d) :: ps, _, _, _, ⟨v, r', e, h1, h2⟩, r => by
    subst e
    show RepP K m N H (foldK (setK _ k d) ps) (mergeK (putK _ k v) r')
    exact foldK_rep h2 (setK_rep h1 r)
end
section
variable {X : Cx} {W : WX} {pin : Option (Nat × Addr)} {pos : Pos}
/-- the reading of pairs, the new dict standing apart at p -/
def rdP (K : PySem.W.Frag) (mg : Str → Option Value) (W : WX) (pin : Option (Nat × Addr)) (f : PX) (σ : L2.St) (H : Hp) (Q : List (V × V) → Hp → Prop) : Prop := ∃ m env S, SlotsOk K pin m S.length H env σ ∧ SRel K mg m S H ∧ match f env S with
  | .ok ps S' => ∀ m' H' qs, Post K mg m S H m' S' H' → RepP K m' S'.length H' ps qs → Q (qs.map fun kv => (kV kv.1, kv.2)) H'
  | .exc e S' => ∀ m' H' cls d, Post K mg m S H m' S' H' → ExR K mg m' S'.length H' e cls d → W cls d σ H'
  | .bad => False
structure GP (X : Cx) (W : WX) (pin : Option (Nat × Addr)) (pos : Pos) (ks : List (Option Expr)) (vs : List Expr) (f : PX) : Prop where
  ex : ∃ trs, PPs X pos ks vs trs ∧ ∀ σ H Q, rdP X.K X.mg W pin f σ H Q → tPairs trs σ H Q
theorem gp_nil : GP X W pin pos [] [] pNil := ⟨[], pps_nil, fun σ H Q ⟨m, env, S, E, r, s⟩ => s m H [] (Post.refl r) rfl⟩
theorem gp_cons {k v : Expr} {ks : List (Option Expr)} {vs : List Expr} {fk fv : EX} {f : PX} (hk : GE X W pin k fk) (hv : GE X W pin v fv) (h : GP X W pin pos ks vs f) : GP X W pin pos (some k :: ks) (v :: vs) (pCons fk fv f) := by
  obtain ⟨trs, hp, ht⟩ := h.ex
  refine ⟨_, pps_cons hk hv hp, fun σ H Q ⟨m, env, S, E, r, s⟩ => ?_⟩
  unfold pCons at s
  refine ⟨m, env, S, E, r, ?_⟩
  cases h1 : fk env S with
  | bad => rw [h1] at s; exact s.elim
  | exc e S' => rw [h1] at s; exact s
  | ok kd S1 =>
    rw [h1, R.bind_ok] at s
    intro m1 H1 x p1 rx
    have E1 := E.keep (p1.keep r)
    refine ⟨m1, env, S1, E1, p1.rel, ?_⟩
    cases h2 : fv env S1 with
    | bad => rw [h2] at s; exact s.elim
    | exc e S' => rw [h2] at s; exact fun m' H' c d p q => s m' H' c d (p1.trans p) q
    | ok vd S2 =>
      rw [h2, R.bind_ok] at s
      intro m2 H2 y p2 ry
      have E2 := E1.keep (p2.keep p1.rel)
      refine ht σ H2 _ ⟨m2, env, S2, E2, p2.rel, ?_⟩
      cases h3 : f env S2 with
      | bad => rw [h3] at s; exact s.elim
      | exc e S' => rw [h3] at s; exact fun m' H' c d p q => s m' H' c d ((p1.trans p2).trans p) q
      | ok ps S3 =>
        rw [h3, R.bind_ok] at s
        intro m3 H3 qs p3 rq
        cases hk' : keyOf kd with
        | none => rw [hk'] at s; exact s.elim
        | some key =>
          rw [hk'] at s
          have rx3 := ((p2.trans p3).keep p1.rel).rep _ _ rx
          have ex := keyOf_rep rx3 hk'
          subst ex
          exact s m3 H3 ((key, y) :: qs) ((p1.trans p2).trans p3) ⟨y, qs, rfl, (p3.keep p2.rel).rep _ _ ry, rq⟩
theorem ge_disp {k : Option Expr} {ks : List (Option Expr)} {vs : List Expr} {f : PX} (h : GP X W pin pos (k :: ks) vs f) (hall : (k :: ks).all (·.isSome) = true := by rfl) (hl : (k :: ks).length = vs.length := by rfl) (hf : (k :: ks).length ≤ 15 := by decide) : GE X W pin (.Dict (k :: ks) vs pos) (eDisp f) := by
  obtain ⟨trs, hp, ht⟩ := h.ex
  refine PE.weak (pe_disp hp hall hl (fun z => by cases z) hf) fun σ H Q ⟨m, env, S, E, r, s⟩ => fun p hp0 => ?_
  have sm : Same H (upd H p (.dK [])) := same_upd hp0
  have p0 := Post.same r sm
  have ap0 : ∀ i, i < S.length → m i ≠ p := r.apart0 hp0
  refine ht σ _ _ ⟨m, env, S, E.keep (p0.keep r), p0.rel, ?_⟩
  unfold eDisp at s
  cases hf : f env S with
  | bad => rw [hf] at s; exact s.elim
  | exc e S' => rw [hf] at s; exact fun m' H' c d p1 q => s m' H' c d (p0.trans p1) q
  | ok ps S1 =>
    rw [hf, R.bind_ok] at s
    intro m1 H1 qs p1 rq
    have hp1 : H1 p = some (.dK []) := p1.frame p _ upd_same fun i hi => ap0 i hi
    have ap1 : ∀ i, i < S1.length → m1 i ≠ p := fun j hj e => by
      by_cases hl : j < S.length
      · rw [p1.ext j hl] at e
        exact ap0 j hl e
      · have z := p1.fresh j (Nat.le_of_not_lt hl) hj
        rw [e, upd_same] at z
        cases z
    by_cases hz : ps.length ≤ 15
    · rw [if_pos hz] at s
      have hqz : qs.length ≤ 15 := by rw [rq.len]; exact hz
      refine ⟨hp1, qs, rfl, hqz, ?_⟩
      have p2 := (p0.trans p1).poke (u := .dK (mergeK [] qs)) hp0 hp1 rfl ap1
      have hp2 : upd H1 p (.dK (mergeK [] qs)) p = some (.dK (mergeK [] qs)) := upd_same
      have k1 : Keep m1 S1.length H1 (mAt m1 S1.length p) (S1.length + 1) (upd H1 p (.dK (mergeK [] qs))) := ⟨Nat.le_succ _, fun i hi => mAt_lt hi, fun q o h hc => by
        rw [upd_ne fun z => by
          rw [z, hp1] at h
          cases h
          cases hc]
        exact h⟩
      have hlen : (mergeK [] qs).length ≤ sizeLine := by
        have := length_mergeK qs []
        have : (15 : Nat) ≤ sizeLine := by decide
        simp at *
        omega
      have p3 := p2.adopt (p := p) hp0 ap1 (c := .dic (foldK [] ps)) ⟨mergeK [] qs, hp2, hlen, foldK_rep (k1.repP _ _ rq) rfl⟩
      exact s _ _ _ p3 ⟨by simp, by rw [mAt_self]⟩
    · rw [if_neg hz] at s
      exact s.elim
end
end G
set_option maxRecDepth 100000
/-! The layer G, part 13: in, not in; d.get; constants of the module. -/
namespace G
open PySem PySem.Spec PyProof.Rows L2

/-! ### in -/
def atoms : List D → Option (List V)
  | [] => some []
  | .a v :: r => (atoms r).map (v :: ·)
  | _ => none
def seqIn (x : D) (ds : List D) : Option Bool := match x with
  | .a v => (atoms ds).bind fun vs => if flatV v = true ∧ vs.all flatV = true then some (inV v vs) else none
  | _ => none
def dInB (x y : D) (S : Sto) : Option Bool := match y with
  | .cel n => match S[n]? with
    | some (.dic kvs) => (keyOf x).map fun k => (getK kvs k).isSome
    | some (.fdc kvs) => (keyOf x).map fun k => (getK kvs k).isSome
    | some (.lst ds) => seqIn x ds
    | _ => none
  | .tup ds => seqIn x ds
  | .ils ds => seqIn x ds
  | .a (.str z) => match x with
    | .a (.str c) => match c.cps.toList with
      | [k] => some (decide (k ∈ z.cps.toList))
      | _ => none
    | _ => none
  | _ => none
def dIn : Op2 := fun x y S => (dInB x y S).map fun b => (.a (.bl b), S)
def dNotIn : Op2 := fun x y S => (dInB x y S).map fun b => (.a (.bl (!b)), S)
section
variable {K : PySem.W.Frag} {mg : Str → Option Value} {m : Nat → Addr} {N : Nat} {H : Hp} {S : Sto}
theorem atoms_rep : ∀ {ds : List D} {vs ws : List V}, RepL K m N H ds vs → atoms ds = some ws → ws = vs
  | [], _, _, h, e => by
    rw [show _ = [] from h]
    cases e
    rfl
  | .a v :: r, _, ws, ⟨x, r', ex, h1, h2⟩, e => by
    subst ex
    obtain rfl : x = v := h1
    unfold atoms at e
    cases hr : atoms r with
    | none => rw [hr] at e; cases e
    | some us =>
      rw [hr] at e
      cases e
      rw [atoms_rep h2 hr]
  | .tup _ :: _, _, _, _, e => by cases e
  | .ils _ :: _, _, _, _, e => by cases e
  | .cel _ :: _, _, _, _, e => by cases e
theorem seqIn_rep {x : D} {v : V} {ds : List D} {vs : List V} {b : Bool} (hx : Rep K m N H x v) (hd : RepL K m N H ds vs) (e : seqIn x ds = some b) : flatV v = true ∧ vs.all flatV = true ∧ b = inV v vs := by
  unfold seqIn at e
  split at e
  · rename_i w
    obtain rfl : v = w := hx
    cases ha : atoms ds with
    | none => rw [ha] at e; cases e
    | some us =>
      rw [ha, Option.bind_some] at e
      obtain rfl := atoms_rep hd ha
      split at e
      · rename_i h
        cases e
        exact ⟨h.1, h.2, rfl⟩
      · cases e
  · cases e
end
section
variable {X : Cx}
theorem op_din (hu : X.A.units + 1 < cLine) : OpR X (compareOp .In) (fun x y H Q => ∃ a o, y = .ref a ∧ DGet H a x o ∧ Q (.bl o.isSome) H) := by
  intro pins s σ H x y v u Q I rx ry ⟨a, o, ey, g, q⟩
  subst ey
  obtain rfl : u = Value.ref a := ry
  exact d_in hu I g rx fun s3 I3 => ⟨.bl o.isSome, H, I3, rfl, q⟩
theorem op_dnotin (hu : X.A.units + 1 < cLine) : OpR X (compareOp .NotIn) (fun x y H Q => ∃ a o, y = .ref a ∧ DGet H a x o ∧ Q (.bl (!o.isSome)) H) := by
  intro pins s σ H x y v u Q I rx ry ⟨a, o, ey, g, q⟩
  subst ey
  obtain rfl : u = Value.ref a := ry
  exact d_notIn hu I g rx fun s3 I3 => ⟨.bl (!o.isSome), H, I3, rfl, q⟩
theorem str_one {c : Str} {k : Nat} (h : c.cps.toList = [k]) : c = ⟨#[k]⟩ := by
  obtain ⟨cps⟩ := c
  have h' : cps.toList = [k] := h
  have : cps = #[k] := by
    apply Array.toList_inj.mp
    rw [h']
  rw [this]
theorem o_inG {op : CmpOp} {neg : Bool → Bool} {rs : Bool} (hneg : ∀ b, neg b = if rs then !b else b)
    (h1 : OpR X (compareOp op) (rIn X.K rs)) (h2 : OpR X (compareOp op) (fun x y H Q => ∃ (c : Nat) (z : Str), x = .str ⟨#[c]⟩ ∧ y = .str z ∧ Q (.bl (neg (decide (c ∈ z.cps.toList)))) H))
    (h3 : OpR X (compareOp op) (fun x y H Q => ∃ a o, y = .ref a ∧ DGet H a x o ∧ Q (.bl (neg o.isSome)) H)) : OpR X (compareOp op) (rdO X.K X.mg fun x y S => (dInB x y S).map fun b => (.a (.bl (neg b)), S)) := by
  intro pins s σ H x y v u Q I rx ry ⟨m, S, d, e, r, hd, he, sa⟩
  dsimp only at sa
  cases hb : dInB d e S with
  | none =>
    rw [hb] at sa
    exact sa.elim
  | some b =>
    rw [hb] at sa
    have sa := sa.here r (y := V.bl (neg b)) rfl
    unfold dInB at hb
    have sq : ∀ (ds : List D) (p : Addr) (vs : List V), y = .ref p → (SqL X.K H p vs ∨ SqT X.K H p vs) → RepL X.K m S.length H ds vs → seqIn d ds = some b → wpAny (model X.prog X.w) X.A (compareOp op v u) (fun w s' => ∃ z H', Inv X pins σ H' s' ∧ RelV z w ∧ Q z H') X.xe s := fun ds p vs hy hq rv hs => by
      obtain ⟨f1, f2, f3⟩ := seqIn_rep hd rv hs
      refine h1 pins s σ H _ _ v u Q I rx ry ⟨p, vs, hy, hq, f1, f2, ?_⟩
      rw [f3, hneg] at sa
      exact sa
    split at hb
    · rename_i n
      obtain ⟨hn, rfl⟩ := he
      split at hb
      · rename_i kvs hS
        obtain ⟨ws, ev, _, rv⟩ := r.at_ _ _ hS
        cases hk : keyOf d with
        | none => rw [hk] at hb; cases hb
        | some k =>
          rw [hk] at hb
          cases hb
          obtain rfl := keyOf_rep hd hk
          have g := DGet.k (k := k) ev
          refine h3 pins s σ H _ _ v u Q I rx ry ⟨_, _, rfl, g, ?_⟩
          dsimp only at sa
          rcases getK_rep k rv with ⟨g1, g2⟩ | ⟨d', w, g1, g2, g3⟩
          · rw [g1] at sa
            rw [g2]
            exact sa
          · rw [g1] at sa
            rw [g2]
            exact sa
      · rename_i kvs hS
        obtain ⟨oo, ws, ev, _, rv⟩ := r.at_ _ _ hS
        cases hk : keyOf d with
        | none => rw [hk] at hb; cases hb
        | some k =>
          rw [hk] at hb
          cases hb
          obtain rfl := keyOf_rep hd hk
          have g := dget_frz (k := k) ev
          refine h3 pins s σ H _ _ v u Q I rx ry ⟨_, _, rfl, g, ?_⟩
          dsimp only at sa
          rcases getK_rep k rv with ⟨g1, g2⟩ | ⟨d', w, g1, g2, g3⟩
          · rw [g1] at sa
            rw [g2]
            exact sa
          · rw [g1] at sa
            rw [g2]
            exact sa
      · rename_i ds hS
        obtain ⟨vs, ev, _, rv⟩ := r.at_ _ _ hS
        exact sq ds _ vs rfl (.inl (SqL.of ev)) rv hb
      · cases hb
    · rename_i ds
      obtain ⟨p, vs, hy, hq, hz, rv⟩ := he
      exact sq ds p vs hy (.inr hq) rv hb
    · rename_i ds
      obtain ⟨p, vs, hy, hq, hz, rv⟩ := he
      exact sq ds p vs hy (.inl (ils_sq hq)) rv hb
    · rename_i z
      obtain rfl : y = .str z := he
      split at hb
      · rename_i c
        obtain rfl : x = .str c := hd
        split at hb
        · rename_i k hc
          cases hb
          obtain rfl := str_one hc
          exact h2 pins s σ H _ _ v u Q I rx ry ⟨k, z, rfl, rfl, sa⟩
        · cases hb
      · cases hb
    · cases hb
theorem o_in (hu : X.A.units + 1 < cLine) : OpR X (compareOp .In) (rdO X.K X.mg dIn) := o_inG (neg := id) (rs := false) (fun _ => rfl) op_in_seq op_in_sign (op_din hu)
theorem o_notin (hu : X.A.units + 1 < cLine) : OpR X (compareOp .NotIn) (rdO X.K X.mg dNotIn) := o_inG (neg := not) (rs := true) (fun _ => rfl) op_notIn_seq op_notIn_sign (op_dnotin hu)
end

/-! ### d.get(k), d.get(k, x) -/
def isDic (S : Sto) (n : Nat) : Bool := match S[n]? with
  | some (.dic _) => true
  | some (.fdc _) => true
  | _ => false
def getR (d : D) (k x : D) (S : Sto) : R D := match d with
  | .cel n => match S[n]? with
    | some (.dic kvs) => match keyOf k with
      | some y => .ok ((getK kvs y).getD x) S
      | none => .bad
    | some (.fdc kvs) => match keyOf k with
      | some y => .ok ((getK kvs y).getD x) S
      | none => .bad
    | _ => .bad
  | _ => .bad
def eGet1 (fo fk : EX) : EX := fun env S => (fo env S).bind fun d S1 => match d with
  | .cel n => bif isDic S1 n then (fk env S1).bind fun k S2 => getR (.cel n) k (.a .non) S2 else .bad
  | _ => .bad
def eGet2 (fo fk fx : EX) : EX := fun env S => (fo env S).bind fun d S1 => match d with
  | .cel n => bif isDic S1 n then (fk env S1).bind fun k S2 => (fx env S2).bind fun x S3 => getR (.cel n) k x S3 else .bad
  | _ => .bad
section
variable {X : Cx} {W : WX} {pin : Option (Nat × Addr)} {o e f : Expr} {fo fk fx : EX} {apos cpos : Pos}
theorem isDic_rep {K : PySem.W.Frag} {mg : Str → Option Value} {m : Nat → Addr} {S : Sto} {H : Hp} {n : Nat} (r : SRel K mg m S H) (h : isDic S n = true) : IsD H (m n) := by
  unfold isDic at h
  split at h
  · rename_i kvs hS
    obtain ⟨ws, ev, _, _⟩ := r.at_ _ _ hS
    exact .inl ⟨ws, .inl ev⟩
  · rename_i kvs hS
    obtain ⟨oo, ws, ev, _, _⟩ := r.at_ _ _ hS
    exact .inl ⟨ws, .inr ⟨oo, ev⟩⟩
  · cases h
theorem getR_rep {K : PySem.W.Frag} {mg : Str → Option Value} {σ : L2.St} {W : WX} {m : Nat → Addr} {S : Sto} {H : Hp} {n : Nat} {k x : D} {y z : V} {Q : VK} (r : SRel K mg m S H) (hk : Rep K m S.length H k y) (hx : Rep K m S.length H x z) (s : Sat K mg W σ m S H (Rep K) Q (getR (.cel n) k x S)) : ∃ ov, DGet H (m n) y ov ∧ Q (ov.getD z) H := by
  unfold getR at s
  dsimp only at s
  split at s
  · rename_i kvs hS
    obtain ⟨ws, ev, _, rv⟩ := r.at_ _ _ hS
    split at s
    · rename_i key hkey
      obtain rfl := keyOf_rep hk hkey
      refine ⟨_, DGet.k ev, ?_⟩
      rcases getK_rep key rv with ⟨g1, g2⟩ | ⟨d', w, g1, g2, g3⟩
      · rw [g1] at s
        rw [g2]
        exact s.here r hx
      · rw [g1] at s
        rw [g2]
        exact s.here r g3
    · exact s.elim
  · rename_i kvs hS
    obtain ⟨oo, ws, ev, _, rv⟩ := r.at_ _ _ hS
    split at s
    · rename_i key hkey
      obtain rfl := keyOf_rep hk hkey
      refine ⟨_, dget_frz ev, ?_⟩
      rcases getK_rep key rv with ⟨g1, g2⟩ | ⟨d', w, g1, g2, g3⟩
      · rw [g1] at s
        rw [g2]
        exact s.here r hx
      · rw [g1] at s
        rw [g2]
        exact s.here r g3
    · exact s.elim
  · exact s.elim
theorem ge_get1 (hu : X.A.units + 1 < cLine) (ho : GE X W pin o fo) (he : GE X W pin e fk) (mm : M1 X o "get" apos e cpos := by exact ⟨rfl, rfl, rfl, rfl⟩) : GE X W pin (.Call (.Attribute o "get" apos) [e] [] cpos) (eGet1 fo fk) :=
  PE.weak (pe_dget1 hu ho he mm) fun σ H Q ⟨m, env, S, E, r, s⟩ => rdE_bind E r s fun x H1 m1 S1 d p1 E1 r1 rd s1 => by
    cases d with
    | cel n =>
      obtain ⟨hn, rfl⟩ := rd
      dsimp only at s1
      cases hd : isDic S1 n with
      | false => rw [hd] at s1; exact s1.elim
      | true =>
        rw [hd, cond_true] at s1
        refine ⟨_, rfl, isDic_rep r1 hd, rdE_bind E1 r1 s1 fun y H2 m2 S2 k p2 E2 r2 rk s2 => ?_⟩
        have := getR_rep r2 rk (x := .a .non) (z := .non) rfl s2
        rw [p2.ext n hn] at this
        exact this
    | _ => exact s1.elim
theorem ge_get2 (hu : X.A.units + 1 < cLine) (ho : GE X W pin o fo) (he : GE X W pin e fk) (hf : GE X W pin f fx) (mm : M2 X o "get" apos e f cpos := by exact ⟨rfl, rfl, rfl, rfl⟩) : GE X W pin (.Call (.Attribute o "get" apos) [e, f] [] cpos) (eGet2 fo fk fx) :=
  PE.weak (pe_dget2 hu ho he hf mm) fun σ H Q ⟨m, env, S, E, r, s⟩ => rdE_bind E r s fun x H1 m1 S1 d p1 E1 r1 rd s1 => by
    cases d with
    | cel n =>
      obtain ⟨hn, rfl⟩ := rd
      dsimp only at s1
      cases hd : isDic S1 n with
      | false => rw [hd] at s1; exact s1.elim
      | true =>
        rw [hd, cond_true] at s1
        refine ⟨_, rfl, isDic_rep r1 hd, rdE_bind E1 r1 s1 fun y H2 m2 S2 k p2 E2 r2 rk s2 => rdE_bind E2 r2 s2 fun z H3 m3 S3 w p3 E3 r3 rw' s3 => ?_⟩
        have := getR_rep r3 ((p3.keep r2).rep _ _ rk) rw' s3
        rw [p3.ext n (Nat.lt_of_lt_of_le hn p2.len), p2.ext n hn] at this
        exact this
    | _ => exact s1.elim
end

/-! ### a constant of the module -/
def ConM (mg : Str → Option Value) (x : Str) (v : V) : Prop := ∃ u, mg x = some u ∧ RelV v u
theorem ge_con {X : Cx} {W : WX} {pin : Option (Nat × Addr)} {x : Str} {v : V} {pos : Pos} (hg : Gl X x) (h : ConM X.mg x v) (hd : (x == ("__debug__" : Str)) = false := by decide) : GE X W pin (.Name x pos) (eC (.a v)) := by
  obtain ⟨u, hm, r⟩ := h
  exact ge_const (pe_glob hg hm r hd)
end G
set_option maxRecDepth 100000
/-! The layer G, part 14: d.copy(); sep.join(xs); str(i). -/
namespace G
open PySem PySem.Spec PyProof.Rows L2

def dCopy : OpM := fun d xs S => match d, xs with
  | .cel n, [] => match S[n]? with
    | some (.dic kvs) => some (.cel S.length, S ++ [.dic kvs])
    | _ => none
  | _, _ => none
section
variable {X : Cx}
theorem m_copy : MtR X "dict.copy" (rdM X.K X.mg dCopy) := by
  intro pins s σ H x xs v us Q I rx rs ⟨m, S, d, ds, r, hd, hs, sa⟩
  unfold dCopy at sa
  split at sa
  · rename_i n
    obtain ⟨hn, rfl⟩ := hd
    obtain rfl : xs = [] := hs
    split at sa
    · rename_i kvs hS
      obtain ⟨ws, ev, hz, rv⟩ := r.at_ _ _ hS
      cases rx
      have hus := rs.zero
      subst hus
      obtain ⟨z, hds, vs, rel, dd⟩ := dk_rd I.hok (.inl ev)
      refine call_meetsIn PySem.F.slot_dict_copy dd.typeIs PySem.F.entry_dict_copy (PySem.F.args_dict_copy_1 _) (meets_dict_copy (mixKind X.prog X.w) _ hds) ⟨vs, dd, by rw [← rel.length]; exact z, fun h' dd' _ hk => ?_⟩
      have hp := I.hok.fresh (Nat.le_refl s.heap.objs.size)
      have I2 := I.laid (a := s.heap.objs.size) (o := .dK ws) (t' := s.toks) hk (Nat.le_refl _) (dk_new z (beq_eq_false_iff_ne.mpr (Ne.symm (Nat.ne_of_lt I.big))) rel dd')
      have k1 : Keep m S.length H (mAt m S.length s.heap.objs.size) (S.length + 1) (upd H s.heap.objs.size (.dK ws)) := ⟨Nat.le_succ _, fun i hi => mAt_lt hi, fun q o h _ => same_upd hp q o h⟩
      have p1 := Post.push (c := .dic kvs) r (same_upd (o := .dK ws) hp) hp ⟨ws, upd_same, hz, k1.repP _ _ rv⟩
      exact ⟨.ref s.heap.objs.size, _, I2, rfl, sa.ok p1 ⟨by simp, by rw [mAt_self]⟩⟩
    · exact sa.elim
  · exact sa.elim
end

/-! ### texts -/
def asStrs : List D → Option (List Str)
  | [] => some []
  | .a (.str b) :: r => (asStrs r).map (b :: ·)
  | _ => none
theorem asStrs_rep {K : PySem.W.Frag} {m : Nat → Addr} {N : Nat} {H : Hp} : ∀ {ds : List D} {vs : List V} {bs : List Str}, RepL K m N H ds vs → asStrs ds = some bs → vs = bs.map V.str
  | [], _, _, h, e => by
    rw [show _ = [] from h]
    cases e
    rfl
  | .a (.str b) :: r, _, bs, ⟨x, r', ex, h1, h2⟩, e => by
    subst ex
    obtain rfl : x = .str b := h1
    unfold asStrs at e
    cases hr : asStrs r with
    | none => rw [hr] at e; cases e
    | some us =>
      rw [hr] at e
      cases e
      rw [asStrs_rep h2 hr]
      rfl
  | .a .non :: _, _, _, _, e => by cases e
  | .a (.bl _) :: _, _, _, _, e => by cases e
  | .a (.int _) :: _, _, _, _, e => by cases e
  | .a (.byt _) :: _, _, _, _, e => by cases e
  | .a (.flt _) :: _, _, _, _, e => by cases e
  | .a (.ref _) :: _, _, _, _, e => by cases e
  | .a (.ty _) :: _, _, _, _, e => by cases e
  | .tup _ :: _, _, _, _, e => by cases e
  | .ils _ :: _, _, _, _, e => by cases e
  | .cel _ :: _, _, _, _, e => by cases e
def dJoin : OpM := fun d xs S => match d, xs with
  | .a (.str a), [x] => match itemsOf S x with
    | some ds => match asStrs ds with
      | some ys => if (ys.map (·.length)).sum + ys.length * a.length ≤ 16777216 then some (.a (.str (Txt.join a ys)), S) else none
      | none => none
    | none => none
  | _, _ => none
section
variable {X : Cx}
theorem m_join : MtR X "str.join" (rdM X.K X.mg dJoin) := by
  intro pins s σ H x xs v us Q I rx rs ⟨m, S, d, ds, r, hd, hs, sa⟩
  unfold dJoin at sa
  split at sa
  · rename_i a y
    obtain rfl : x = .str a := hd
    obtain ⟨w, r', rfl, h1, h2⟩ := hs
    obtain rfl : r' = [] := h2
    split at sa
    · rename_i dd hi
      obtain ⟨p, ws, rfl, hq, hz, rv⟩ := items_rep r h1 hi
      split at sa
      · rename_i ys hy
        split at sa
        · rename_i hl
          have e := asStrs_rep rv hy
          subst e
          exact mt_join pins s σ H _ _ v us Q I rx rs ⟨a, p, ys, rfl, rfl, hq, hl, sa.here r rfl⟩
        · exact sa.elim
      · exact sa.elim
    · exact sa.elim
  · exact sa.elim
/-- str(i) -/
def dStr : OpC := fun xs S => match xs with
  | [.a (.int i)] => if i.natAbs.log2 < 1920 then some (.a (.str (toString i)), S) else none
  | _ => none
theorem c_str : CallR X (.type "str") (rdC X.K X.mg dStr) := by
  intro pins s σ H xs us Q I rs ⟨m, S, ds, r, hs, sa⟩
  unfold dStr at sa
  split at sa
  · rename_i i
    obtain ⟨w, r', rfl, h1, h2⟩ := hs
    obtain rfl : w = .int i := h1
    obtain rfl : r' = [] := h2
    split at sa
    · rename_i hl
      exact call_str_int pins s σ H _ us Q I rs ⟨i, rfl, hl, sa.here r rfl⟩
    · exact sa.elim
  · exact sa.elim
end
end G
set_option maxRecDepth 100000
/-! The layer G, part 15: dicts of the module, keys texts: x in NAME, NAME[x]. -/
namespace G
open PySem PySem.Spec PyProof.Rows L2

/-- the entries are these keys with these values -/
def EntsOk (tbl : List (Str × V)) (es : List DictEntry) : Prop := Paired (fun (p : Str × V) (e : DictEntry) => (∃ t, e.key = .str p.1 t) ∧ RelV p.2 e.val) tbl es
/-- a dict of the module -/
def KdT (w : World) (K : PySem.W.Frag) (mg : Str → Option Value) (x : Str) (tbl : List (Str × V)) : Prop := ∃ d es n, mg x = some (.ref d) ∧ KDict K w d es n ∧ EntsOk tbl es.toList
theorem isStr_key {a b : Str} {t : Tok} : (Value.str a t).isStr b = (a == b) := rfl
theorem ents_find {tbl : List (Str × V)} {es : List DictEntry} (h : EntsOk tbl es) (z : Str) : (tbl.lookup z = none ∧ (es.find? (·.key.isStr z)) = none) ∨ ∃ v e, tbl.lookup z = some v ∧ es.find? (·.key.isStr z) = some e ∧ RelV v e.val := by
  induction h with
  | nil => exact .inl ⟨rfl, rfl⟩
  | @cons p e ps es h1 h2 ih =>
    obtain ⟨⟨t, hk⟩, hr⟩ := h1
    obtain ⟨k, v⟩ := p
    by_cases hz : z = k
    · subst hz
      refine .inr ⟨v, e, List.lookup_cons_self, ?_, hr⟩
      rw [List.find?_cons_of_pos]
      rw [hk, isStr_key]
      exact beq_self_eq_true _
    · have e1 : List.lookup z ((k, v) :: ps) = List.lookup z ps := by
        rw [List.lookup_cons, beq_eq_false_iff_ne.mpr hz]
      have e2 : List.find? (·.key.isStr z) (e :: es) = List.find? (·.key.isStr z) es := by
        rw [List.find?_cons_of_neg]
        rw [hk, isStr_key]
        exact fun q => hz (eq_of_beq q).symm
      rw [e1, e2]
      exact ih
theorem ents_noref {tbl : List (Str × V)} {es : List DictEntry} (h : EntsOk tbl es) : es.any (·.refKey) = false := by
  induction h with
  | nil => rfl
  | @cons p e ps es h1 h2 ih =>
    obtain ⟨⟨t, hk⟩, hr⟩ := h1
    rw [List.any_cons, ih, Bool.or_false]
    unfold DictEntry.refKey
    rw [hk]
theorem kd_get {w : World} {K : PySem.W.Frag} {d : Addr} {es : Array DictEntry} {n : Nat} {tbl : List (Str × V)} (D : KDict K w d es n) (h : EntsOk tbl es.toList) (z : Str) :
    (tbl.lookup z = none ∧ PySem.W.nsIn K d z = some none) ∨ ∃ v u, tbl.lookup z = some v ∧ PySem.W.nsIn K d z = some (some u) ∧ RelV v u := by
  unfold PySem.W.nsIn
  rw [D.at_]
  dsimp only
  rcases ents_find h z with ⟨h1, h2⟩ | ⟨v, e, h1, h2, h3⟩
  · rw [h2]
    dsimp only
    rw [ents_noref h]
    exact .inl ⟨h1, rfl⟩
  · rw [h2]
    exact .inr ⟨v, e.val, h1, rfl, h3⟩
/-- x in NAME -/
def eInC (neg : Bool → Bool) (tbl : List (Str × V)) (fa : EX) : EX := fun env S => (fa env S).bind fun d S1 => match d with
  | .a (.str z) => .ok (.a (.bl (neg (tbl.lookup z).isSome))) S1
  | _ => .bad
def tInC (neg : Bool → Bool) (tbl : List (Str × V)) (fa : EX) : BX := fun env S => bOf (eInC neg tbl fa env S)
section
variable {X : Cx} {W : WX} {pin : Option (Nat × Addr)} {pos p : Pos} {a : Expr} {fa : EX} {x : Str} {tbl : List (Str × V)}
theorem o_inC {d : Addr} {es : Array DictEntry} {n : Nat} {op : CmpOp} {neg : Bool → Bool} (D : KDict X.K X.w d es n) (h : EntsOk tbl es.toList)
    (ho : OpR X (compareOp op) (fun x y H Q => ∃ (z : Str) (r : Option Value), x = .str z ∧ y = .ref d ∧ PySem.W.nsIn X.K d z = some r ∧ Q (.bl (neg r.isSome)) H)) :
    OpR X (compareOp op) (fun x y H Q => ∃ z, x = .str z ∧ y = .ref d ∧ Q (.bl (neg (tbl.lookup z).isSome)) H) := by
  intro pins s σ H x y v u Q I rx ry ⟨z, hx, hy, q⟩
  rcases kd_get D h z with ⟨h1, h2⟩ | ⟨v0, u0, h1, h2, h3⟩
  · refine ho pins s σ H _ _ v u Q I rx ry ⟨z, none, hx, hy, h2, ?_⟩
    rw [h1] at q
    exact q
  · refine ho pins s σ H _ _ v u Q I rx ry ⟨z, some u0, hx, hy, h2, ?_⟩
    rw [h1] at q
    exact q
theorem inC_rd {neg : Bool → Bool} {d : Addr} {σ : L2.St} {H : Hp} {Q : VK} (h : rdE X.K X.mg W pin (eInC neg tbl fa) σ H Q) :
    rdE X.K X.mg W pin fa σ H fun x H1 => tC (.ref d) σ H1 fun y H2 => ∃ z, x = .str z ∧ y = .ref d ∧ Q (.bl (neg (tbl.lookup z).isSome)) H2 := by
  obtain ⟨m, env, S, E, r, s⟩ := h
  refine rdE_bind E r s fun v H1 m1 S1 e p1 E1 r1 rd s1 => ?_
  split at s1
  · rename_i z
    exact ⟨z, rd, rfl, s1.here r1 rfl⟩
  · exact s1.elim
theorem ge_inC (h : KdT X.w X.K X.mg x tbl) (hg : Gl X x) (ha : GE X W pin a fa) (hdb : (x == ("__debug__" : Str)) = false := by decide) (hm : behindInMarks .In (.Name x p) = false := by rfl) : GE X W pin (.Compare a [.In] [.Name x p] pos) (eInC id tbl fa) := by
  obtain ⟨d, es, n, hx, D, hE⟩ := h
  exact PE.weak (pe_cmpR (o_inC (neg := id) D hE (op_in_kd D)) ha (pe_glob (v := .ref d) hg hx rfl hdb) hm) fun σ H Q q => inC_rd q
theorem ge_notInC (h : KdT X.w X.K X.mg x tbl) (hg : Gl X x) (ha : GE X W pin a fa) (hdb : (x == ("__debug__" : Str)) = false := by decide) (hm : behindInMarks .NotIn (.Name x p) = false := by rfl) : GE X W pin (.Compare a [.NotIn] [.Name x p] pos) (eInC not tbl fa) := by
  obtain ⟨d, es, n, hx, D, hE⟩ := h
  exact PE.weak (pe_cmpR (o_inC (neg := not) D hE (op_notIn_kd D)) ha (pe_glob (v := .ref d) hg hx rfl hdb) hm) fun σ H Q q => inC_rd q
theorem bOf_rd {f : EX} {σ : L2.St} {H : Hp} {Q : Bool → Hp → Prop} (h : rdT X.K X.mg W pin (fun env S => bOf (f env S)) σ H Q) : rdE X.K X.mg W pin f σ H fun v H1 => ∃ k, v = .bl k ∧ Q k H1 := by
  obtain ⟨m, env, S, E, r, s⟩ := h
  refine ⟨m, env, S, E, r, s.bind.mono fun v H1 ⟨m1, S1, d, p, rd, q⟩ => ?_⟩
  split at q
  · rename_i k
    obtain rfl : v = .bl k := rd
    exact ⟨k, rfl, q.here p.rel rfl⟩
  · exact q.elim
theorem gt_inC (h : KdT X.w X.K X.mg x tbl) (hg : Gl X x) (ha : GE X W pin a fa) (hdb : (x == ("__debug__" : Str)) = false := by decide) (hm : behindInMarks .In (.Name x p) = false := by rfl) : GT X W pin (.Compare a [.In] [.Name x p] pos) (tInC id tbl fa) := by
  obtain ⟨d, es, n, hx, D, hE⟩ := h
  exact PT.weak (pt_cmpR (o_inC (neg := id) D hE (op_in_kd D)) ha (pe_glob (v := .ref d) hg hx rfl hdb) hm) fun σ H Q q => inC_rd (bOf_rd q)
theorem gt_notInC (h : KdT X.w X.K X.mg x tbl) (hg : Gl X x) (ha : GE X W pin a fa) (hdb : (x == ("__debug__" : Str)) = false := by decide) (hm : behindInMarks .NotIn (.Name x p) = false := by rfl) : GT X W pin (.Compare a [.NotIn] [.Name x p] pos) (tInC not tbl fa) := by
  obtain ⟨d, es, n, hx, D, hE⟩ := h
  exact PT.weak (pt_cmpR (o_inC (neg := not) D hE (op_notIn_kd D)) ha (pe_glob (v := .ref d) hg hx rfl hdb) hm) fun σ H Q q => inC_rd (bOf_rd q)
/-- NAME[x] -/
def eIxC (tbl : List (Str × V)) (fb : EX) : EX := fun env S => (fb env S).bind fun e S2 => match e with
  | .a (.str z) => match tbl.lookup z with
    | some v => .ok (.a v) S2
    | none => .bad
  | _ => .bad
theorem i_ixC {d : Addr} {es : Array DictEntry} {n : Nat} (D : KDict X.K X.w d es n) (h : EntsOk tbl es.toList) : IxR X (fun x y H Q => ∃ z v, x = .ref d ∧ y = .str z ∧ tbl.lookup z = some v ∧ Q v H) := by
  intro value slice pins s σ H x y v u Q I rx ry ⟨z, v0, hx, hy, hl, q⟩ hs
  rcases kd_get D h z with ⟨h1, h2⟩ | ⟨v1, u0, h1, h2, h3⟩
  · rw [h1] at hl; cases hl
  · rw [h1] at hl
    cases hl
    subst hx
    obtain rfl : v = Value.ref d := rx
    exact tail_any (kd_type D I) PySem.F.slot_dict_getitem.lookup (op_item_kd D pins s σ H (.ref d) y (.ref d) u Q I rfl ry ⟨z, u0, v0, rfl, hy, h2, h3, q⟩) hs
theorem ge_ixC {b : Expr} {fb : EX} (h : KdT X.w X.K X.mg x tbl) (hg : Gl X x) (hb : GE X W pin b fb) (hs : PlainIx b := by exact fun _ _ => rfl) (hdb : (x == ("__debug__" : Str)) = false := by decide) : GE X W pin (.Subscript (.Name x p) b pos) (eIxC tbl fb) := by
  obtain ⟨d, es, n, hx, D, hE⟩ := h
  refine PE.weak (pe_ix (i_ixC D hE) (pe_glob (v := .ref d) hg hx rfl hdb) hb hs) fun σ H Q ⟨m, env, S, E, r, s⟩ => ?_
  refine rdE_bind E r s fun v H1 m1 S1 e p1 E1 r1 rd s1 => ?_
  split at s1
  · rename_i z
    split at s1
    · rename_i v0 hl
      exact ⟨z, v0, rfl, rd, hl, s1.here r1 rfl⟩
    · exact s1.elim
  · exact s1.elim
end
end G
set_option maxRecDepth 100000
/-! The layer G, part 16: {**d, k: v}. -/
namespace G
open PySem PySem.Spec PyProof.Rows L2
section
variable {prog : Program} {w : World} {κ : Type} [DecidableEq κ] {knd : KeyKind prog w κ} {A : Around} {E : Value → Shared → Prop} {s : Shared}
/-- an entry is put into a dict, without a look at its hash -/
theorem put_pairs {d : Addr} {kvs : List (κ × Value)} {k : κ} {key v : Value} {Q : Unit → Shared → Prop} (hkey : knd.is k key = true) (hm : s.heap.DictOf knd d kvs) (hsz : kvs.length ≤ sizeLine)
    (hQ : ∀ h', h'.DictOf knd d (stored kvs k v) → Heap.SameBut d s.heap h' → Q () { s with heap := h' }) : wpAny (model prog w) A (dictPut d (knd.hash k) key v) Q E s := by
  obtain ⟨o, es, ep, ho, hc, hd, hk, hp, hn⟩ := hm
  have hes : es.size ≤ sizeLine := by
    have e1 := hp.length
    rw [Array.length_toList] at e1
    omega
  have hidx : (es.findIdx? fun e => knd.is k e.key) = kvs.findIdx? fun kv => decide (kv.1 = k) := by
    have := hp.findIdx k
    obtain ⟨l⟩ := es
    simpa using this
  unfold dictPut
  refine wpAny_bind (wpAny_dictFind_of hkey ho hd hk ?_)
  cases hi : es.findIdx? fun e => knd.is k e.key with
  | some i =>
    have hany := any_of_findIdx_some (hidx ▸ hi)
    have hl : (es.toList.findIdx? fun e => knd.is k e.key) = some i := by
      obtain ⟨l⟩ := es
      simpa using hi
    have hp2 := hp.modify hn hl v
    refine wpAny_updateDict ho hd (hQ _ ?_ (Heap.SameBut.update ..))
    refine ⟨_, _, ep, Heap.get?_update_self _ ho (Obj.isFreed_of_dict (Obj.data_mapDict hd _)), hc.mapDict _, Obj.data_mapDict hd _, hk.modify _ _, ?_, ?_⟩
    · unfold stored
      rw [if_pos hany]
      obtain ⟨l⟩ := es
      simpa using hp2
    · unfold stored
      rw [if_pos hany, keys_map_store]
      exact hn
  | none =>
    have hnot : k ∉ kvs.map (·.1) := not_mem_of_findIdx_none (hidx ▸ hi)
    have hany : (kvs.any fun kv => decide (kv.1 = k)) = false := by
      rw [List.any_eq_false]
      intro kv hkv he
      exact hnot (List.mem_map.mpr ⟨kv, hkv, of_decide_eq_true he⟩)
    have hp2 := hp.append hkey (knd.hash k) v
    refine wpAny_updateDictKeys (hz := hes) ho hd (hQ _ ?_ (Heap.SameBut.update ..))
    refine ⟨_, _, ep + 1, Heap.get?_update_self _ ho (Obj.isFreed_of_dict (Obj.data_mapDictKeys hd _)), hc.mapDictKeys _, Obj.data_mapDictKeys hd _, hk.push hkey _, ?_, ?_⟩
    · unfold stored
      rw [if_neg (by rw [hany]; exact Bool.false_ne_true)]
      obtain ⟨l⟩ := es
      simpa using hp2
    · unfold stored
      rw [if_neg (by rw [hany]; exact Bool.false_ne_true), List.map_append, List.nodup_append]
      refine ⟨hn, by simp, fun a ha b hb => ?_⟩
      have : b = k := by simpa using hb
      rw [this]
      exact fun q => hnot (q ▸ ha)
/-- a dict's entries go into another one -/
theorem merge_map {d a : Addr} {kvs more : List (κ × Value)} {Q : Unit → Shared → Prop} (hda : d ≠ a) (hS : (a == sysModules) = false) (hd : s.heap.DictOf knd d kvs) (ha : s.heap.DictOf knd a more) (hsz : kvs.length + more.length ≤ sizeLine)
    (hQ : ∀ h', h'.DictOf knd d (merged kvs more) → Heap.SameBut d s.heap h' → Q () { s with heap := h' }) : wpAny (model prog w) A (mergeMapping d (.ref a) false) Q E s := by
  obtain ⟨od, esd, epd, hod, hcd, hdd, hkd, hpd, hnd⟩ := id hd
  obtain ⟨oa, esa, epa, hoa, hca, hda', hka, hpa, hna⟩ := id ha
  unfold mergeMapping
  refine wpAny_bind (wpAny_isInstance ha.typeIs isSubtype_dict_dict ?_)
  simp only [if_true]
  refine wpAny_bind (wpAny_specialOf ha.typeIs F.slot_dict_iter.lookup ?_)
  simp only [pure_bind, beq_self_eq_true, hS, Bool.false_eq_true, if_false]
  refine wpAny_bind (wpAny_dictEntries hod hdd ?_)
  -- what follows the look at equal hashes
  have rest : wpAny (model prog w) A (do
      let l ← dictEntries a
      let epoch ← dictEpoch a
      forIn (List.range l.size) PUnit.unit fun i (_ : PUnit) => (do
          let l' ← dictEntries a
          match l'[i]? with
            | some e => do
              holding [e.key, e.val] (dictPut d e.hash e.key e.val)
              let ep' ← dictEpoch a
              if (ep' != epoch) = true then do
                  (unsupported "dict.changed-during-merge" : Sem PUnit)
                  pure (ForInStep.yield PUnit.unit)
                else pure (ForInStep.yield PUnit.unit)
            | _ => do
              (unsupported "dict.changed-during-merge" : Sem PUnit)
              pure (ForInStep.yield PUnit.unit) : Sem (ForInStep PUnit))
      pure ()) Q E s := by
    refine wpAny_bind (wpAny_dictEntries hoa hda' ?_)
    refine wpAny_bind (wpAny_dictEpoch hoa hda' ?_)
    refine wpAny_bind ?_
    have hlen : more.length = esa.size := by
      have := hpa.length
      rw [Array.length_toList] at this
      exact this.symm
    rw [List.range_eq_range']
    refine wpAny_forIn_list _ (fun r _ s' => ∃ h' i, s' = { s with heap := h' } ∧ r = List.range' i (esa.size - i) ∧ i ≤ esa.size ∧ h'.DictOf knd d (merged kvs (more.take i)) ∧ h'.get? a = some oa ∧ Heap.SameBut d s.heap h') _ ?_ ?_ _ _
      ⟨s.heap, 0, rfl, by simp, Nat.zero_le _, by simpa [merged] using hd, hoa, Heap.SameBut.refl _ _⟩
    · rintro x r b s' ⟨h', i, rfl, hr, hi, hd', hoa2, hs'⟩
      by_cases hlt : i < esa.size
      · have e1 : esa.size - i = (esa.size - (i + 1)) + 1 := by omega
        rw [e1, List.range'_succ] at hr
        injection hr with hx hr
        subst hx
        refine wpAny_bind (wpAny_dictEntries hoa2 hda' ?_)
        rw [Array.getElem?_eq_getElem hlt]
        have hml : x < more.length := by omega
        have hkv : more[x]? = some more[x] := List.getElem?_eq_getElem hml
        obtain ⟨hkey, hval⟩ := hpa.get? (e := esa[x]) (by simp [hlt]) hkv
        obtain ⟨k', hkey', hhash⟩ := hka esa[x] (Array.getElem_mem hlt)
        have hkk : k' = more[x].1 := knd.inj _ _ _ hkey' hkey
        subst hkk
        dsimp only
        rw [hhash, hval]
        have hmx : (merged kvs (more.take x)).length ≤ sizeLine := by
          have h1 := merged_length_le kvs (more.take x)
          rw [List.length_take] at h1
          omega
        refine wpAny_bind (wpAny_holding (put_pairs hkey hd' hmx fun h2 hd2 hs2 => ?_))
        have hoa3 : h2.get? a = some oa := (hs2.2 a (Ne.symm hda)).trans hoa2
        refine wpAny_bind (wpAny_dictEpoch hoa3 hda' ?_)
        rw [if_neg (by simp)]
        refine wpAny_pure ⟨h2, x + 1, rfl, hr, hlt, ?_, hoa3, hs'.trans hs2⟩
        rw [merged_take_succ kvs more x more[x] hkv]
        exact hd2
      · rw [show esa.size - i = 0 by omega] at hr
        cases hr
    · rintro b s' ⟨h', i, rfl, hr, hi, hd', hoa2, hs'⟩
      have hie : i = esa.size := by
        by_cases hlt : i < esa.size
        · rw [show esa.size - i = (esa.size - (i + 1)) + 1 by omega, List.range'_succ] at hr
          cases hr
        · omega
      rw [hie, ← hlen, List.take_length] at hd'
      exact wpAny_pure (hQ h' hd' hs')
  split
  · refine wpAny_bind (wpAny_dictEntries hoa hda' ?_)
    refine wpAny_bind ?_
    rw [← Array.forIn_toList]
    refine wpAny_forIn_list _ (fun r _ s' => s' = s ∧ ∀ e ∈ r, ∃ k, knd.is k e.key = true) _ ?_ ?_ _ _ ⟨rfl, fun e he => ?_⟩
    · rintro e r b s' ⟨rfl, hr⟩
      obtain ⟨k, hk⟩ := hr e (List.mem_cons_self ..)
      have hv := knd.byValue _ _ hk
      have hr2 := fun e2 he2 => hr e2 (List.mem_cons_of_mem _ he2)
      split
      · rename_i q hq
        rw [hq] at hv
        cases hv
      · exact wpAny_pure ⟨rfl, hr2⟩
    · rintro b s' ⟨rfl, _⟩
      exact rest
    · obtain ⟨k, hk, _⟩ := hka e (Array.mem_toList_iff.mp he)
      exact ⟨k, hk⟩
  · exact rest
end
section
variable {prog : Program} {w : World} {κ : Type} [DecidableEq κ] {knd : KeyKind prog w κ} {A : Around} {E : Value → Shared → Prop} {s : Shared} {env : Env} {a k v : Expr} {pos : Pos}
/-- {**a, k: v}: what its steps ask -/
theorem star_walk {Q : Value → Shared → Prop} (h : wpAny (model prog w) A (eval a env) (fun m s1 => ∃ b more, m = .ref b ∧ s.heap.objs.size ≠ b ∧ (b == sysModules) = false ∧ s1.heap.DictOf knd s.heap.objs.size [] ∧ s1.heap.DictOf knd b more ∧ more.length ≤ sizeLine ∧
      ∀ h1, h1.DictOf knd s.heap.objs.size (merged [] more) → Heap.SameBut s.heap.objs.size s1.heap h1 →
        wpAny (model prog w) A (evalPairs [(eval k env, do let x ← eval v env; standAt pos; pure x)]) (fun vs s2 => ∃ kvs, Carries knd vs kvs ∧ s2.heap.DictOf knd h1.objs.size [] ∧
          ∀ h2, h2.DictOf knd h1.objs.size (merged [] kvs) → Heap.SameBut h1.objs.size s2.heap h2 → ∃ base, h2.DictOf knd s.heap.objs.size base ∧ s.heap.objs.size ≠ h1.objs.size ∧ (h1.objs.size == sysModules) = false ∧ base.length + (merged [] kvs).length ≤ sizeLine ∧
            ∀ h3, h3.DictOf knd s.heap.objs.size (merged base (merged [] kvs)) → Heap.SameBut s.heap.objs.size h2 h3 → Q (.ref s.heap.objs.size) { s2 with heap := h3, toks := s2.toks + vs.length }) E
          { s1 with heap := h1.push { cls := .type "dict", data := .dict #[] } }) E { s with heap := s.heap.push { cls := .type "dict", data := .dict #[] } }) :
    wpAny (model prog w) A (dictDisplay ((evalEachOpt [none, some k] env).zip ((evalEach [a, v] env).map fun v => do let x ← v; standAt pos; pure x))) Q E s := by
  have hz : (evalEachOpt [none, some k] env).zip ((evalEach [a, v] env).map fun v => do let x ← v; standAt pos; pure x) = [(none, do let x ← eval a env; standAt pos; pure x), (some (eval k env), do let x ← eval v env; standAt pos; pure x)] := by rfl
  rw [hz]
  unfold dictDisplay
  simp only [List.forIn_cons, List.forIn_nil, List.isEmpty_nil, if_true, pure_bind, bind_assoc]
  refine wpAny_bind (wpAny_alloc ?_)
  refine wpAny_bind (wpAny_holding (wpAny_bind (wpAny_mono h (fun m s1 h1 => ?_) fun _ _ e => e)))
  obtain ⟨b, more, rfl, ne, hb, hd, hm, hz, hk⟩ := h1
  refine wpAny_bind (wpAny_standAt (wpAny_pure ?_))
  refine wpAny_bind (wpAny_onRaise (wpAny_tryCatch (wpAny_onRaise (wpAny_holding (merge_map ne hb hd hm (by simpa using hz) fun h1 hd1 hs1 => ?_)))))
  have hev := hk h1 hd1 hs1
  simp only [List.nil_append, List.length_singleton, List.isEmpty_cons, Bool.false_eq_true, if_false, pure_bind, show ((1 : Nat) == 17) = false from rfl]
  refine wpAny_bind (wpAny_bind (wpAny_holding (wpAny_subDict (knd := knd) (s := { s1 with heap := h1 }) (by simp) (wpAny_mono hev (fun vs s2 h2 => ?_) fun _ _ e => e))))
  obtain ⟨kvs, hc, hd2, hq⟩ := h2
  refine ⟨kvs, hc, hd2, fun h2 hd3 hs2 => ?_⟩
  obtain ⟨base, hb2, ne2, hm2, hz2, hq2⟩ := hq h2 hd3 hs2
  refine wpAny_bind (wpAny_onRaise (wpAny_holding (merge_map ne2 hm2 hb2 hd3 hz2 fun h3 hd4 hs3 => ?_)))
  exact wpAny_pure (wpAny_pure (hq2 h3 hd4 hs3))
end
end G
set_option maxRecDepth 100000
/-! The layer G, part 17: {**d, k: v}: its rules. -/
namespace G
open PySem PySem.Spec PyProof.Rows L2
/-- what one pair of a display gives -/
def onePair (Q : V → V → Hp → Prop) : List (V × V) → Hp → Prop
  | [(x, y)], H => Q x y H
  | _, _ => False
def tStar (ta tk tv : TE) : TE := fun σ H Q => ∀ p, H p = none → ta σ (upd H p (.dK [])) fun x H1 => ∃ b kvs, x = .ref b ∧ p ≠ b ∧ H1 p = some (.dK []) ∧ H1 b = some (.dK kvs) ∧ kvs.length + 1 ≤ sizeLine ∧
  ∀ p2, upd H1 p (.dK (mergeK [] kvs)) p2 = none → tk σ (upd (upd H1 p (.dK (mergeK [] kvs))) p2 (.dK [])) fun k H3 => tv σ H3 fun v H4 => ∃ key, k = kV key ∧ H4 p2 = some (.dK []) ∧ H4 p = some (.dK (mergeK [] kvs)) ∧
    Q (.ref p) (upd (upd H4 p2 (.dK (mergeK [] [(key, v)]))) p (.dK (mergeK (mergeK [] kvs) [(key, v)])))
theorem merged_nil {κ : Type} [DecidableEq κ] {key : κ} {v : Value} : merged [] [(key, v)] = [(key, v)] := rfl
theorem pe_star {X : Cx} {pos : Pos} {a k v : Expr} {ta tk tv : TE} (ha : PE X a ta) (hk : PE X k tk) (hv : PE X v tv) : PE X (.Dict [none, some k] [a, v] pos) (tStar ta tk tv) := by
  refine ⟨fun pins s σ H Q I q => ?_⟩
  have hn := I.hok.fresh (Nat.le_refl s.heap.objs.size)
  have I1 := I.laid (a := s.heap.objs.size) (o := .dK []) (h' := s.heap.push { cls := .type "dict", data := .dict #[] }) (t' := s.toks) (fun _ _ q => Heap.get?_push_of_some _ q) (Nat.le_refl _) (dk_empty s.heap I.big)
  have q0 := q _ hn
  rw [arm_eval_Dict]
  refine wpAny_bind (wpAny_standAt (star_walk (knd := mixKind X.prog X.w) (thn (ha.run pins _ σ _ _ I1 q0) fun w s1 ⟨x, H1, I2, rx, b, kvs, ex, hpb, hp, hb, hz, q1⟩ => ?_)))
  subst ex
  obtain rfl : w = Value.ref b := rx
  obtain ⟨_, hd, vs0, r0, dd0⟩ := dk_of I2.hok hp
  cases r0
  obtain ⟨hzb, hdb, more, rb, ddb⟩ := dk_of I2.hok hb
  refine ⟨b, more, rfl, hpb, hdb, dd0, ddb, by rw [← rb.length]; exact hzb, fun h1 dd1 hs1 => ?_⟩
  have hm1 : (mergeK [] kvs).length ≤ kvs.length := by
    have := length_mergeK kvs []
    rw [List.length_nil] at this
    omega
  have he1 : ∃ q, h1.get? s.heap.objs.size = some q := let ⟨q, _, _, hq, _⟩ := dd1; ⟨q, hq⟩
  have rm : KV (mergeK [] kvs) (merged [] more) := rb.merge .nil
  have I3 := d_write (t' := s1.toks) I2 (by rw [hp]; exact True.intro) hs1 he1 (dk_new (by omega) hd rm dd1)
  have hn2 := I3.hok.fresh (Nat.le_refl h1.objs.size)
  have I4 := I3.laid (a := h1.objs.size) (o := .dK []) (h' := h1.push { cls := .type "dict", data := .dict #[] }) (t' := s1.toks) (fun _ _ q => Heap.get?_push_of_some _ q) (Nat.le_refl _) (dk_empty h1 I3.big)
  have q2 := q1 _ hn2
  have ev := (pps_cons (pos := pos) hk hv pps_nil).run pins _ σ _ (onePair fun k v H4 => ∃ key, k = kV key ∧ H4 h1.objs.size = some (.dK []) ∧ H4 s.heap.objs.size = some (.dK (mergeK [] kvs)) ∧
    Q (.ref s.heap.objs.size) (upd (upd H4 h1.objs.size (.dK (mergeK [] [(key, v)]))) s.heap.objs.size (.dK (mergeK (mergeK [] kvs) [(key, v)])))) I4 q2
  refine thn ev fun ws s2 ⟨ps, H4, I5, rel, q3⟩ => ?_
  match ps, q3 with
  | [(x, y)], q3 =>
    obtain ⟨key, rfl, e2, e1, q4⟩ := q3
    obtain ⟨rs, c, rk⟩ := carries_of (P := X.prog) (w := X.w) (kvs := [(key, y)]) rel
    obtain ⟨_, hd2, vs2, r2, dd2⟩ := dk_of I5.hok e2
    cases r2
    refine ⟨rs, c, dd2, fun h2 dd3 hs2 => ?_⟩
    have he2 : ∃ q, h2.get? h1.objs.size = some q := let ⟨q, _, _, hq, _⟩ := dd3; ⟨q, hq⟩
    have hm2 : (mergeK [] [(key, y)]).length ≤ sizeLine := by
      have := length_mergeK [(key, y)] []
      rw [List.length_nil, List.length_singleton] at this
      omega
    have I6 := d_write (t' := s2.toks) I5 (by rw [e2]; exact True.intro) hs2 he2 (dk_new hm2 hd2 (rk.merge .nil) dd3)
    have hne : s.heap.objs.size ≠ h1.objs.size := fun z => by
      rw [← z] at hn2
      rw [upd_same] at hn2
      cases hn2
    have e3 : upd H4 h1.objs.size (.dK (mergeK [] [(key, y)])) s.heap.objs.size = some (.dK (mergeK [] kvs)) := by rw [upd_ne hne]; exact e1
    obtain ⟨_, _, base, rbase, ddbase⟩ := dk_of I6.hok e3
    have rk1 : rs.length = 1 := by rw [← rk.length]; rfl
    refine ⟨base, ddbase, hne, hd2, ?_, fun h3 dd4 hs3 => ?_⟩
    · have h1 := merged_length_le [] rs
      rw [rk1, List.length_nil] at h1
      rw [← rbase.length]
      omega
    · have he3 : ∃ q, h3.get? s.heap.objs.size = some q := let ⟨q, _, _, hq, _⟩ := dd4; ⟨q, hq⟩
      have hm3 : (mergeK (mergeK [] kvs) [(key, y)]).length ≤ sizeLine := by
        have := length_mergeK [(key, y)] (mergeK [] kvs)
        rw [List.length_singleton] at this
        omega
      have hrs : merged [] rs = rs := by
        match rs, rk1 with
        | [_], _ => rfl
      rw [hrs] at dd4
      have I7 := d_write (s := { s2 with heap := h2, toks := s2.toks }) (t' := s2.toks + ws.length) I6 (by rw [e3]; exact True.intro) hs3 he3 (dk_new hm3 hd (rk.merge rbase) dd4)
      exact ⟨.ref s.heap.objs.size, _, I7, rfl, q4⟩
/-! in the layer -/
def eStar (fa fk fv : EX) : EX := fun env S => (fa env S).bind fun a S1 => match a with
  | .cel n => match S1[n]? with
    | some (.dic kvs) => if kvs.length + 1 ≤ sizeLine then (fk env S1).bind fun k S2 => (fv env S2).bind fun v S3 => match keyOf k with
      | some key => .ok (.cel S3.length) (S3 ++ [.dic (setK (foldK [] kvs) key v)])
      | none => .bad
      else .bad
    | _ => .bad
  | _ => .bad
section
variable {X : Cx} {W : WX} {pin : Option (Nat × Addr)} {pos : Pos} {a k v : Expr} {fa fk fv : EX}
theorem apart_post {K : PySem.W.Frag} {mg : Str → Option Value} {m m1 : Nat → Addr} {S S1 : Sto} {H0 H1 : Hp} {p : Addr} (ap0 : ∀ i, i < S.length → m i ≠ p) (e : ∃ o, H0 p = some o) (p1 : Post K mg m S H0 m1 S1 H1) : ∀ i, i < S1.length → m1 i ≠ p := fun j hj z => by
  by_cases hl : j < S.length
  · rw [p1.ext j hl] at z
    exact ap0 j hl z
  · have q := p1.fresh j (Nat.le_of_not_lt hl) hj
    obtain ⟨o, ho⟩ := e
    rw [z, ho] at q
    cases q
theorem ge_star (ha : GE X W pin a fa) (hk : GE X W pin k fk) (hv : GE X W pin v fv) : GE X W pin (.Dict [none, some k] [a, v] pos) (eStar fa fk fv) := by
  refine PE.weak (pe_star ha hk hv) fun σ H Q ⟨m, env, S, E, r, s⟩ => fun p hp0 => ?_
  have p0 := Post.same r (same_upd (o := .dK []) hp0)
  have ap0 : ∀ i, i < S.length → m i ≠ p := r.apart0 hp0
  unfold eStar at s
  refine ⟨m, env, S, E.keep (p0.keep r), p0.rel, ?_⟩
  cases h1 : fa env S with
  | bad => rw [h1] at s; exact s.elim
  | exc e S' => rw [h1] at s; exact fun m' H' c d p1 q => s m' H' c d (p0.trans p1) q
  | ok ad S1 =>
    rw [h1, R.bind_ok] at s
    intro m1 H1 x p1 rx
    have hp1 : H1 p = some (.dK []) := p1.frame p _ upd_same fun i hi => ap0 i hi
    have ap1 := apart_post ap0 ⟨_, upd_same⟩ p1
    cases ad with
    | cel n =>
      dsimp only at s
      obtain ⟨hn, rfl⟩ := rx
      cases hS : S1[n]? with
      | none => rw [hS] at s; exact s.elim
      | some c =>
        cases c with
        | dic kvs =>
          rw [hS] at s
          dsimp only at s
          by_cases hz : kvs.length + 1 ≤ sizeLine
          · rw [if_pos hz] at s
            obtain ⟨ws, ew, _, rw1⟩ := p1.rel.at_ _ _ hS
            have hwz : ws.length + 1 ≤ sizeLine := by rw [rw1.len]; exact hz
            refine ⟨m1 n, ws, rfl, Ne.symm (ap1 n hn), hp1, ew, hwz, fun p2 hp2 => ?_⟩
            have P2 := (p0.trans p1).poke (u := .dK (mergeK [] ws)) hp0 hp1 rfl ap1
            have ap2 := P2.rel.apart0 hp2
            have P3 := P2.trans (Post.same P2.rel (same_upd (o := .dK []) hp2))
            have hne : p ≠ p2 := fun z => by rw [← z, upd_same] at hp2; cases hp2
            have hpp : upd (upd H1 p (.dK (mergeK [] ws))) p2 (.dK []) p = some (.dK (mergeK [] ws)) := by rw [upd_ne hne]; exact upd_same
            have hpn : H p2 = none := by
              cases q : H p2 with
              | none => rfl
              | some o =>
                have := P2.frame p2 o q (fun i hi e => ap2 i (Nat.lt_of_lt_of_le hi P2.len) ((P2.ext i hi).trans e))
                rw [hp2] at this
                cases this
            refine ⟨m1, env, S1, E.keep (P3.keep r), P3.rel, ?_⟩
            cases h2 : fk env S1 with
            | bad => rw [h2] at s; exact s.elim
            | exc e S' => rw [h2] at s; exact fun m' H' c d p3 q => s m' H' c d (P3.trans p3) q
            | ok kd S2 =>
              rw [h2, R.bind_ok] at s
              intro m2 H3 kx p3 rk
              refine ⟨m2, env, S2, E.keep ((P3.trans p3).keep r), p3.rel, ?_⟩
              cases h3 : fv env S2 with
              | bad => rw [h3] at s; exact s.elim
              | exc e S' => rw [h3] at s; exact fun m' H' c d p4 q => s m' H' c d ((P3.trans p3).trans p4) q
              | ok vd S3 =>
                rw [h3, R.bind_ok] at s
                intro m3 H4 vx p4 rv
                cases hk' : keyOf kd with
                | none => rw [hk'] at s; exact s.elim
                | some key =>
                  rw [hk'] at s
                  have P5 := (P3.trans p3).trans p4
                  have p34 := p3.trans p4
                  have f2 : H4 p2 = some (.dK []) := p34.frame p2 _ upd_same fun i hi => ap2 i hi
                  have f1 : H4 p = some (.dK (mergeK [] ws)) := p34.frame p _ hpp fun i hi => ap1 i hi
                  have ap3 := apart_post ap1 ⟨_, hpp⟩ p34
                  have ap4 := apart_post ap2 ⟨_, upd_same⟩ p34
                  have ek := keyOf_rep rk hk'
                  refine ⟨key, ek, f2, f1, ?_⟩
                  have P6 := P5.poke (u := .dK (mergeK [] [(key, vx)])) hpn f2 rfl ap4
                  have f1' : upd H4 p2 (.dK (mergeK [] [(key, vx)])) p = some (.dK (mergeK [] ws)) := by rw [upd_ne hne]; exact f1
                  have P7 := P6.poke (u := .dK (mergeK (mergeK [] ws) [(key, vx)])) hp0 f1' rfl ap3
                  have hlen : (mergeK (mergeK [] ws) [(key, vx)]).length ≤ sizeLine := by
                    have h1 := length_mergeK [(key, vx)] (mergeK [] ws)
                    have h2 := length_mergeK ws []
                    rw [List.length_singleton] at h1
                    rw [List.length_nil] at h2
                    omega
                  have k5 : Keep m1 S1.length H1 m3 S3.length (upd (upd H4 p2 (.dK (mergeK [] [(key, vx)]))) p (.dK (mergeK (mergeK [] ws) [(key, vx)]))) := by
                    refine ⟨p34.len, p34.ext, fun q o h hc => ?_⟩
                    have n1 : q ≠ p := fun z => by
                      rw [z, hp1] at h
                      cases h
                      cases hc
                    have n2 : q ≠ p2 := fun z => by
                      rw [z] at h
                      rw [upd_ne (Ne.symm hne), h] at hp2
                      cases hp2
                    rw [upd_ne n1, upd_ne n2]
                    refine p34.frame q o (by rw [upd_ne n2, upd_ne n1]; exact h) fun i hi z => ?_
                    obtain ⟨u, hu, cu⟩ := p1.rel.there hi
                    rw [z, h] at hu
                    cases hu
                    rw [hc] at cu
                    cases cu
                  have k6 : Keep m3 S3.length H4 m3 S3.length (upd (upd H4 p2 (.dK (mergeK [] [(key, vx)]))) p (.dK (mergeK (mergeK [] ws) [(key, vx)]))) := by
                    refine ⟨Nat.le_refl _, fun _ _ => rfl, fun q o h hc => ?_⟩
                    have n1 : q ≠ p := fun z => by
                      rw [z, f1] at h
                      cases h
                      cases hc
                    have n2 : q ≠ p2 := fun z => by
                      rw [z, f2] at h
                      cases h
                      cases hc
                    rw [upd_ne n1, upd_ne n2]
                    exact h
                  have kA : Keep m3 S3.length (upd (upd H4 p2 (.dK (mergeK [] [(key, vx)]))) p (.dK (mergeK (mergeK [] ws) [(key, vx)]))) (mAt m3 S3.length p) (S3.length + 1) (upd (upd H4 p2 (.dK (mergeK [] [(key, vx)]))) p (.dK (mergeK (mergeK [] ws) [(key, vx)]))) := ⟨Nat.le_succ _, fun i hi => mAt_lt hi, fun q o h hc => h⟩
                  have rw2 : RepP X.K (mAt m3 S3.length p) (S3.length + 1) (upd (upd H4 p2 (.dK (mergeK [] [(key, vx)]))) p (.dK (mergeK (mergeK [] ws) [(key, vx)]))) (setK (foldK [] kvs) key vd) (mergeK (mergeK [] ws) [(key, vx)]) :=
                    setK_rep (kA.rep _ _ (k6.rep _ _ rv)) (foldK_rep (kA.repP _ _ (k5.repP _ _ rw1)) rfl)
                  have P8 := P7.adopt (p := p) hp0 ap3 (c := .dic (setK (foldK [] kvs) key vd)) ⟨_, upd_same, hlen, rw2⟩
                  exact s _ _ _ P8 ⟨by simp, by rw [mAt_self]⟩
          · rw [if_neg hz] at s
            exact s.elim
        | lst ds => rw [hS] at s; exact s.elim
        | fdc ds => rw [hS] at s; exact s.elim
        | dit ds => rw [hS] at s; exact s.elim
        | ins c fs => rw [hS] at s; exact s.elim
    | a v => exact s.elim
    | tup ds => exact s.elim
    | ils ds => exact s.elim
end
end G
set_option maxRecDepth 100000
/-! The layer G, part 18: walks over dicts, list(d), sorted. -/
namespace G
open PySem PySem.Spec PyProof.Rows L2

/-! ### a dict is locked while its items are walked -/
theorem Post.locked {K : PySem.W.Frag} {mg : Str → Option Value} {m m' : Nat → Addr} {S S1 : Sto} {H H' : Hp} {n : Nat} {kvs : List (Key × D)} {ws : List (Key × V)} {od : Obj}
    (r : SRel K mg m S H) (hS : S[n]? = some (.dic kvs)) (ev : H (m n) = some (.dK ws)) (hz : ws.length ≤ sizeLine)
    (p : Post K mg m (S.set n (.fdc kvs)) (upd H (m n) (.frz od (.dK ws))) m' S1 H') (h1 : S1[n]? = some (.fdc kvs)) :
    H' (m n) = some (.frz od (.dK ws)) ∧ Post K mg m S H m' (S1.set n (.dic kvs)) (upd H' (m n) (.dK ws)) := by
  have hn : n < S.length := (List.getElem?_eq_some_iff.mp hS).1
  have hl : (S.set n (.fdc kvs)).length = S.length := List.length_set ..
  have hn' : n < S1.length := (List.getElem?_eq_some_iff.mp h1).1
  have f1 : H' (m n) = some (.frz od (.dK ws)) := p.frz _ _ _ upd_same
  have en : m' n = m n := p.ext n (by rw [hl]; exact hn)
  refine ⟨f1, ?_⟩
  have kp : Keep m' S1.length H' m' (S1.set n (.dic kvs)).length (upd H' (m n) (.dK ws)) := ⟨by rw [List.length_set]; exact Nat.le_refl _, fun _ _ => rfl, fun q o h hc => by
    rw [upd_ne fun z => by
      rw [z, f1] at h
      cases h
      cases hc]
    exact h⟩
  refine ⟨⟨fun i c e => ?_, fun i j hi hj e => ?_⟩, by rw [List.length_set, ← hl]; exact p.len, fun i hi => p.ext i (by rw [hl]; exact hi), fun q o h hq => ?_, fun i h2 h3 => ?_, fun q o u h => ?_⟩
  · by_cases hi : i = n
    · subst hi
      rw [List.getElem?_set_self hn'] at e
      cases e
      obtain ⟨o', ws', e1, _, rv⟩ := p.rel.at_ i _ h1
      rw [en, f1] at e1
      cases e1
      rw [en]
      exact ⟨ws, upd_same, hz, kp.repP _ _ rv⟩
    · rw [List.getElem?_set_ne (Ne.symm hi)] at e
      refine (p.rel.at_ i c e).mono kp fun o h => ?_
      rw [upd_ne fun z => hi (p.rel.inj i n (List.getElem?_eq_some_iff.mp e).1 hn' (z.trans en.symm))]
      exact h
  · rw [List.length_set] at hi hj
    exact p.rel.inj i j hi hj e
  · have hne : q ≠ m n := fun z => hq n hn z.symm
    rw [upd_ne hne]
    exact p.frame q o (by rw [upd_ne hne]; exact h) fun i hi => hq i (by rw [← hl]; exact hi)
  · rw [List.length_set] at h3
    have := p.fresh i (by rw [hl]; exact h2) h3
    by_cases hz : m' i = m n
    · rw [hz, upd_same] at this
      cases this
    · rw [upd_ne hz] at this
      exact this
  · have hne : q ≠ m n := fun z => by rw [z, ev] at h; cases h
    rw [upd_ne hne]
    exact p.frz q o u (by rw [upd_ne hne]; exact h)
theorem Post.lock {K : PySem.W.Frag} {mg : Str → Option Value} {m : Nat → Addr} {S : Sto} {H : Hp} {n : Nat} {kvs : List (Key × D)} {ws : List (Key × V)} (od : Obj)
    (r : SRel K mg m S H) (hS : S[n]? = some (.dic kvs)) (ev : H (m n) = some (.dK ws)) (hz : ws.length ≤ sizeLine) (rv : RepP K m S.length H kvs ws) :
    Post K mg m S H m (S.set n (.fdc kvs)) (upd H (m n) (.frz od (.dK ws))) := by
  have hn : n < S.length := (List.getElem?_eq_some_iff.mp hS).1
  refine Post.write r hn (by rw [ev]; intro _ _ z; cases z) ⟨od, ws, upd_same, hz, ?_⟩
  have k : Keep m S.length H m S.length (upd H (m n) (.frz od (.dK ws))) := ⟨Nat.le_refl _, fun _ _ => rfl, fun q u h hc => by
    rw [upd_ne fun e => r.apart h hc n hn e.symm]
    exact h⟩
  exact k.repP _ _ rv
/-! the list is made while the dict in the slot i is locked -/
open Classical in
noncomputable def aLock (i : Nat) (fl : AX) : AX := fun env S => match env[i]? with
  | some (some (.cel n)) => match S[n]? with
    | some (.dic kvs) => (noX (fl env (S.set n (.fdc kvs)))).bind fun ds S1 => if S1[n]? = some (.fdc kvs) then .ok ds (S1.set n (.dic kvs)) else .bad
    | _ => .bad
  | _ => .bad
section
variable {X : Cx} {W : WX} {pin : Option (Nat × Addr)} {e : Expr} {i : Nat} {fl : AX}
theorem aLock_cut {env : Slots} {S : Sto} {r : R (List D)} (h : aLock i fl env S = r) (hr : r ≠ .bad) : ∃ n kvs ds S1, env[i]? = some (some (.cel n)) ∧ S[n]? = some (.dic kvs) ∧ fl env (S.set n (.fdc kvs)) = .ok ds S1 ∧ S1[n]? = some (.fdc kvs) ∧ r = .ok ds (S1.set n (.dic kvs)) := by
  unfold aLock at h
  split at h
  · rename_i n hi
    split at h
    · rename_i kvs hS
      cases hf : fl env (S.set n (.fdc kvs)) with
      | bad => rw [hf] at h; exact absurd h.symm hr
      | exc x S' => rw [hf] at h; exact absurd h.symm hr
      | ok ds S1 =>
        rw [hf, noX_ok, R.bind_ok] at h
        split at h
        · rename_i h1
          exact ⟨n, kvs, ds, S1, hi, hS, hf, h1, h.symm⟩
        · exact absurd h.symm hr
    · exact absurd h.symm hr
  · exact absurd h.symm hr
theorem gl_lock (he : GL X W pin e fl) : GL X W pin e (aLock i fl) := PE.weak (pe_lock he) fun σ H Q ⟨m, env, S, E, r, s⟩ => by
  have hr : aLock i fl env S ≠ .bad := fun z => by rw [z] at s; exact s
  obtain ⟨n, kvs, ds, S1, hi, hS, hf, h1, er⟩ := aLock_cut rfl hr
  rw [er] at s
  obtain ⟨ws, ev, hz, rv⟩ := r.at_ _ _ hS
  refine ⟨m n, .dK ws, ev, True.intro, fun od => ?_⟩
  have p0 := Post.lock od r hS ev hz rv
  refine ⟨m, env, S.set n (.fdc kvs), E.keep (p0.keep r), p0.rel, ?_⟩
  rw [hf]
  intro m' H' p vs p1 hn hp ap hl rx
  obtain ⟨f1, p2⟩ := Post.locked r hS ev hz p1 h1
  have hpne : p ≠ m n := fun z => by rw [z, upd_same] at hn; cases hn
  refine ⟨f1, s m' _ p vs p2 (by rw [upd_ne hpne] at hn; exact hn) (by rw [upd_ne hpne]; exact hp) (fun i hi => ap i (by rw [List.length_set] at hi; exact hi)) hl ?_⟩
  have kp : Keep m' S1.length H' m' (S1.set n (.dic kvs)).length (upd H' (m n) (.dK ws)) := ⟨by rw [List.length_set]; exact Nat.le_refl _, fun _ _ => rfl, fun q o h hc => by
    rw [upd_ne fun z => by
      rw [z, f1] at h
      cases h
      cases hc]
    exact h⟩
  exact kp.repL _ _ rx
/-- y = [.. for k in d ..] -/
theorem gs_lock {st : Stmt} {y : Nat} (he : GS X W pin st (sSet y (eOfL fl))) : GS X W pin st (sSet y (eOfL (aLock i fl))) := PS.weak (ps_lock he) fun D σ H ⟨m, env, S, E, r, s⟩ => by
  have hr : aLock i fl env S ≠ .bad := fun z => by
    unfold sSet eOfL at s
    rw [z] at s
    exact s
  obtain ⟨n, kvs, ds, S1, hi, hS, hf, h1, er⟩ := aLock_cut rfl hr
  unfold sSet eOfL at s
  rw [er] at s
  obtain ⟨ws, ev, hz, rv⟩ := r.at_ _ _ hS
  refine ⟨m n, .dK ws, ev, True.intro, fun od => ?_⟩
  have p0 := Post.lock od r hS ev hz rv
  refine ⟨m, env, S.set n (.fdc kvs), E.keep (p0.keep r), p0.rel, ?_⟩
  unfold sSet eOfL
  rw [hf]
  intro m' H' σ' p1 E1
  have hn1 : n < S1.length := (List.getElem?_eq_some_iff.mp h1).1
  have h1' : (S1 ++ [Cell.lst ds])[n]? = some (.fdc kvs) := by rw [List.getElem?_append_left hn1]; exact h1
  obtain ⟨f1, p2⟩ := Post.locked r hS ev hz p1 h1'
  rw [List.set_append_left _ _ hn1] at p2
  refine ⟨f1, ?_⟩
  have kp : Keep m' (S1 ++ [Cell.lst ds]).length H' m' (S1.set n (.dic kvs) ++ [Cell.lst ds]).length (upd H' (m n) (.dK ws)) := ⟨by simp, fun _ _ => rfl, fun q o h hc => by
    rw [upd_ne fun z => by
      rw [z, f1] at h
      cases h
      cases hc]
    exact h⟩
  have := s m' _ σ' p2 (by
    have := E1.keep kp
    simpa using this)
  exact this
end
/-- the keys of a dict, as data -/
def keysD {α : Type} (kvs : List (Key × α)) : List D := kvs.map fun kv => D.a (kV kv.1)
theorem keys_rep {K : PySem.W.Frag} {m : Nat → Addr} {N : Nat} {H : Hp} : ∀ {kvs : List (Key × D)} {ws : List (Key × V)}, RepP K m N H kvs ws → keysD kvs = keysD ws
  | [], _, h => by rw [show _ = [] from h]; rfl
  | (k, d) :: r, _, ⟨v, r', e, _, h⟩ => by
    subst e
    unfold keysD
    rw [List.map_cons, List.map_cons]
    exact congrArg _ (keys_rep h)
theorem keysD_rep {K : PySem.W.Frag} {m : Nat → Addr} {N : Nat} {H : Hp} {α : Type} : ∀ (kvs : List (Key × α)), RepL K m N H (keysD kvs) (kvs.map fun kv => kV kv.1)
  | [] => rfl
  | (k, d) :: r => ⟨kV k, _, rfl, rfl, keysD_rep r⟩
/-- for k in d, d locked -/
def iKey (f : EX) : IX := fun env S => (f env S).bind fun d S1 => match d with
  | .cel n => match S1[n]? with
    | some (.fdc kvs) => .ok (keysD kvs, some (n, .fdc kvs)) S1
    | _ => .bad
  | _ => .bad
section
variable {X : Cx} {W : WX} {pin : Option (Nat × Addr)} {tg l : Expr} {f : EX}
theorem gi_key (he : GE X W pin l f) : GI X W pin tg l (iKey f) := PI.weak (pi_keys he) fun σ H Q ⟨m, env, S, E, r, s⟩ => by
  refine ⟨m, env, S, E, r, ?_⟩
  unfold iKey at s
  cases hf : f env S with
  | bad => rw [hf] at s; exact s.elim
  | exc x S' => rw [hf] at s; exact s
  | ok d S1 =>
    rw [hf, R.bind_ok] at s
    intro m1 H1 x p1 rx
    cases d with
    | cel n =>
      obtain ⟨hn, rfl⟩ := rx
      dsimp only at s
      cases hS : S1[n]? with
      | none => rw [hS] at s; exact s.elim
      | some c =>
        rw [hS] at s
        cases c with
        | fdc kvs =>
          obtain ⟨o, ws, ev, hz, rv⟩ := p1.rel.at_ _ _ hS
          refine ⟨_, o, rfl, .inl ⟨ws, ev, s m1 H1 _ p1 ⟨fun m' S' H' i d p' hg hi => ?_, fun m' S' H' p' hg => ?_⟩⟩⟩
          · have e1 := p'.frz _ _ _ ev
            change (keysD kvs)[i]? = some d at hi
            rw [keys_rep rv] at hi
            have hlen : i < ws.length := by
              have := (List.getElem?_eq_some_iff.mp hi).1
              unfold keysD at this
              rwa [List.length_map] at this
            refine ⟨⟨e1, hlen⟩, fun x H'' ⟨ex, k, v, hk, hx⟩ => ?_⟩
            subst ex hx
            refine ⟨Same.refl _, ?_⟩
            unfold keysD at hi
            rw [List.getElem?_map, hk] at hi
            cases hi
            exact rfl
          · refine ⟨p'.frz _ _ _ ev, ?_⟩
            show ws.length ≤ (keysD kvs).length
            unfold keysD
            rw [List.length_map, rv.len]
            exact Nat.le_refl _
        | _ => exact s.elim
    | a v => exact s.elim
    | tup ds => exact s.elim
    | ils ds => exact s.elim
end
/-! ### list(d) -/
def aKeysOf (f : EX) : AX := fun env S => (f env S).bind fun d S1 => match d with
  | .cel n => match S1[n]? with
    | some (.dic kvs) => .ok (keysD kvs) S1
    | _ => .bad
  | _ => .bad
section
variable {X : Cx} {W : WX} {pin : Option (Nat × Addr)} {pos p : Pos} {e : Expr} {f : EX}
theorem gl_keysOf (hc : X.calm = true) (hg : Gl X "list") (hm : X.mg "list" = none) (ha : GE X W pin e f) (he : starEach [e] X.env = (false, eval e X.env) :: starEach [] X.env := by rfl) (hpl : (backTo pos (starEach [] X.env)).any (·.1) = false := by rfl)
    (hv : bootBuiltins "list" = some (.type "list") := by decide +kernel) :
    GL X W pin (.Call (.Name "list" p) [e] [] pos) (aKeysOf f) :=
  PE.weak (pe_callTy (call_list_dK hc) hg hm hv (pa_cons ha pa_nil he) (by decide) (by decide) he hpl) fun σ H Q ⟨m, env, S, E, r, s⟩ => by
    show rdE X.K X.mg W pin f σ H fun x H1 => tNil σ H1 fun xs H2 => _
    refine ⟨m, env, S, E, r, ?_⟩
    unfold aKeysOf at s
    cases hf : f env S with
    | bad => rw [hf] at s; exact s.elim
    | exc x S' => rw [hf] at s; exact s
    | ok d S1 =>
      rw [hf, R.bind_ok] at s
      intro m1 H1 x p1 rx
      cases d with
      | cel n =>
        obtain ⟨hn, rfl⟩ := rx
        dsimp only at s
        cases hS : S1[n]? with
        | none => rw [hS] at s; exact s.elim
        | some c =>
          rw [hS] at s
          cases c with
          | dic kvs =>
            obtain ⟨ws, ev, hz, rv⟩ := p1.rel.at_ _ _ hS
            refine ⟨_, ws, rfl, ev, fun t ht => ?_⟩
            have p2 := Post.same p1.rel (same_upd (o := .lst (ws.map fun kv => kV kv.1)) ht)
            exact s m1 _ t _ (p1.trans p2) (p1.none_back ht) upd_same (p1.rel.apart0 ht) (by rw [List.length_map]; exact hz) (by rw [keys_rep rv]; exact keysD_rep ws)
          | _ => exact s.elim
      | a v => exact s.elim
      | tup ds => exact s.elim
      | ils ds => exact s.elim
end
/-! ### sorted -/
theorem ltC_irr : ∀ a : List Nat, ltCps a a = false
  | [] => rfl
  | x :: r => by
    unfold ltCps
    rw [ltC_irr r]
    simp
theorem ltC_anti : ∀ a b : List Nat, ltCps a b = false → ltCps b a = false → a = b
  | [], [], _, _ => rfl
  | [], _ :: _, h, _ => by cases h
  | _ :: _, [], _, h => by cases h
  | x :: r, y :: t, h1, h2 => by
    unfold ltCps at h1 h2
    simp only [Bool.or_eq_false_iff, Bool.and_eq_false_iff, decide_eq_false_iff_not] at h1 h2
    have e : x = y := by omega
    subst e
    simp only [beq_self_eq_true, Bool.true_eq_false, false_or] at h1 h2
    rw [ltC_anti r t h1.2 h2.2]
theorem ltC_tot : ∀ a b : List Nat, ltCps a b = true → ltCps b a = false
  | [], [], h => by cases h
  | [], _ :: _, _ => rfl
  | _ :: _, [], h => by cases h
  | x :: r, y :: t, h => by
    unfold ltCps at h ⊢
    simp only [Bool.or_eq_true, Bool.and_eq_true, decide_eq_true_eq, beq_iff_eq] at h
    simp only [Bool.or_eq_false_iff, Bool.and_eq_false_iff, decide_eq_false_iff_not]
    rcases h with h | ⟨rfl, h⟩
    · exact ⟨by omega, .inl (by simp; omega)⟩
    · exact ⟨by omega, .inr (ltC_tot r t h)⟩
theorem ltC_trans : ∀ a b c : List Nat, ltCps b a = false → ltCps c b = false → ltCps c a = false
  | a, b, [], _, h2 => by
    cases b with
    | nil => assumption
    | cons y t => cases h2
  | [], b, z :: u, _, _ => rfl
  | x :: r, [], z :: u, h1, _ => by cases h1
  | x :: r, y :: t, z :: u, h1, h2 => by
    unfold ltCps at h1 h2 ⊢
    simp only [Bool.or_eq_false_iff, Bool.and_eq_false_iff, decide_eq_false_iff_not, beq_eq_false_iff_ne] at h1 h2 ⊢
    refine ⟨by omega, ?_⟩
    by_cases e1 : z = x
    · have e2 : y = x := by omega
      subst e1 e2
      rcases h1.2 with h | h
      · exact absurd rfl h
      · rcases h2.2 with g | g
        · exact absurd rfl g
        · exact .inr (ltC_trans r t u h g)
    · exact .inl e1
/-- a text is not behind another -/
def leS (a b : Str) : Prop := ltCps b.cps.toList a.cps.toList = false
instance : DecidableRel leS := fun a b => inferInstanceAs (Decidable (_ = _))
theorem leS_anti {a b : Str} (h : leS a b) (g : leS b a) : a = b := by
  have := ltC_anti _ _ h g
  obtain ⟨x⟩ := a
  obtain ⟨y⟩ := b
  have : x = y := Array.toList_inj.mp this.symm
  rw [this]
def insS (x : Str) : List Str → List Str
  | [] => [x]
  | y :: r => if leS x y then x :: y :: r else y :: insS x r
def sortS : List Str → List Str
  | [] => []
  | x :: r => insS x (sortS r)
theorem insS_perm (x : Str) : ∀ l, (insS x l).Perm (x :: l)
  | [] => List.Perm.refl _
  | y :: r => by
    unfold insS
    split
    · exact List.Perm.refl _
    · exact ((insS_perm x r).cons y).trans (List.Perm.swap x y r)
theorem sortS_perm : ∀ l, (sortS l).Perm l
  | [] => List.Perm.refl _
  | x :: r => (insS_perm x _).trans ((sortS_perm r).cons x)
theorem insS_pw (x : Str) : ∀ l, l.Pairwise leS → (insS x l).Pairwise leS
  | [], _ => by simp [insS]
  | y :: r, h => by
    have h' := List.pairwise_cons.mp h
    unfold insS
    split
    · rename_i hx
      refine List.pairwise_cons.mpr ⟨fun z hz => ?_, h⟩
      rcases List.mem_cons.mp hz with rfl | hz
      · exact hx
      · exact ltC_trans _ _ _ hx (h'.1 z hz)
    · rename_i hx
      refine List.pairwise_cons.mpr ⟨fun z hz => ?_, insS_pw x r h'.2⟩
      rcases List.mem_cons.mp ((insS_perm x r).mem_iff.mp hz) with rfl | hz
      · cases hb : ltCps y.cps.toList z.cps.toList with
        | false => exact absurd hb hx
        | true => exact ltC_tot _ _ hb
      · exact h'.1 z hz
theorem sortS_pw : ∀ l, (sortS l).Pairwise leS
  | [] => List.Pairwise.nil
  | x :: r => insS_pw x _ (sortS_pw r)
theorem risingS_pw : ∀ (p : Str) (l : List Str), risingS p l = true → (p :: l).Pairwise leS
  | p, [], _ => by simp
  | p, x :: r, h => by
    unfold risingS at h
    obtain ⟨h1, h2⟩ := Bool.and_eq_true_iff.mp h
    have ih := risingS_pw x r h2
    have e : leS p x := by simpa [leS] using h1
    refine List.pairwise_cons.mpr ⟨fun z hz => ?_, ih⟩
    rcases List.mem_cons.mp hz with rfl | hz
    · exact e
    · exact ltC_trans _ _ _ e ((List.pairwise_cons.mp ih).1 z hz)
theorem sortedS_pw {l : List Str} (h : sortedS l = true) : l.Pairwise leS := by
  cases l with
  | nil => exact List.Pairwise.nil
  | cons x r => exact risingS_pw x r h
theorem sortS_the {ks ys : List Str} (p : ys.Perm ks) (h : sortedS ys = true) : ys = sortS ks :=
  List.Perm.eq_of_pairwise (le := leS) (fun a b _ _ h g => leS_anti h g) (sortedS_pw h) (sortS_pw ks) (p.trans (sortS_perm ks).symm)
def insZ (x : Int) : List Int → List Int
  | [] => [x]
  | y :: r => if x ≤ y then x :: y :: r else y :: insZ x r
def sortZ : List Int → List Int
  | [] => []
  | x :: r => insZ x (sortZ r)
theorem insZ_perm (x : Int) : ∀ l, (insZ x l).Perm (x :: l)
  | [] => List.Perm.refl _
  | y :: r => by
    unfold insZ
    split
    · exact List.Perm.refl _
    · exact ((insZ_perm x r).cons y).trans (List.Perm.swap x y r)
theorem sortZ_perm : ∀ l, (sortZ l).Perm l
  | [] => List.Perm.refl _
  | x :: r => (insZ_perm x _).trans ((sortZ_perm r).cons x)
theorem insZ_pw (x : Int) : ∀ l, l.Pairwise (· ≤ ·) → (insZ x l).Pairwise (· ≤ ·)
  | [], _ => by simp [insZ]
  | y :: r, h => by
    have h' := List.pairwise_cons.mp h
    unfold insZ
    split
    · rename_i hx
      refine List.pairwise_cons.mpr ⟨fun z hz => ?_, h⟩
      rcases List.mem_cons.mp hz with rfl | hz
      · exact hx
      · exact Int.le_trans hx (h'.1 z hz)
    · rename_i hx
      refine List.pairwise_cons.mpr ⟨fun z hz => ?_, insZ_pw x r h'.2⟩
      rcases List.mem_cons.mp ((insZ_perm x r).mem_iff.mp hz) with rfl | hz
      · omega
      · exact h'.1 z hz
theorem sortZ_pw : ∀ l, (sortZ l).Pairwise (· ≤ ·)
  | [] => List.Pairwise.nil
  | x :: r => insZ_pw x _ (sortZ_pw r)
theorem sortZ_the {ks ys : List Int} (p : ys.Perm ks) (h : ys.Pairwise (· ≤ ·)) : ys = sortZ ks :=
  List.Perm.eq_of_pairwise (le := (· ≤ ·)) (fun a b _ _ h g => Int.le_antisymm h g) h (sortZ_pw ks) (p.trans (sortZ_perm ks).symm)
def keyStrs {α : Type} : List (Key × α) → Option (List Str)
  | [] => some []
  | (.inr x, _) :: r => (keyStrs r).map (x :: ·)
  | _ => none
/-- what is sorted: a list or a tuple of ints, of texts; a dict whose keys are texts -/
def sortD (ds : List D) : Option (List D) := match asStrs ds with
  | some xs => some ((sortS xs).map fun x => .a (.str x))
  | none => (asInts ds).map fun zs => (sortZ zs).map fun z => .a (.int z)
def dSorted : OpC := fun xs S => match xs with
  | [.cel n] => match S[n]? with
    | some (.lst ds) => if ds.length < 64 then (sortD ds).map fun es => (.cel S.length, S ++ [.lst es]) else none
    | some (.dic kvs) => if kvs.length < 64 then (keyStrs kvs).map fun ks => (.cel S.length, S ++ [.lst ((sortS ks).map fun x => .a (.str x))]) else none
    | _ => none
  | [.ils ds] => if ds.length < 64 then (sortD ds).map fun es => (.cel S.length, S ++ [.lst es]) else none
  | _ => none
section
variable {K : PySem.W.Frag} {m : Nat → Addr} {N : Nat} {H : Hp}
theorem strs_rep : ∀ xs : List Str, RepL K m N H (xs.map fun x => D.a (.str x)) (xs.map V.str)
  | [] => rfl
  | x :: r => ⟨_, _, rfl, rfl, strs_rep r⟩
theorem ints_rep : ∀ xs : List Int, RepL K m N H (xs.map fun x => D.a (.int x)) (xs.map V.int)
  | [] => rfl
  | x :: r => ⟨_, _, rfl, rfl, ints_rep r⟩
theorem keyStrs_rep : ∀ {kvs : List (Key × D)} {ws : List (Key × V)} {ks : List Str}, RepP K m N H kvs ws → keyStrs kvs = some ks → ws.map (·.1) = ks.map Sum.inr
  | [], _, _, h, e => by
    rw [show _ = [] from h]
    cases e
    rfl
  | (.inr x, d) :: r, _, ks, ⟨v, r', e1, _, h⟩, e => by
    subst e1
    unfold keyStrs at e
    cases hr : keyStrs r with
    | none => rw [hr] at e; cases e
    | some us =>
      rw [hr] at e
      cases e
      rw [List.map_cons, List.map_cons, keyStrs_rep h hr]
  | (.inl x, d) :: r, _, ks, _, e => by cases e
end
section
variable {X : Cx}
theorem sort_list {pins : List (Addr × Obj)} {s : Shared} {σ : L2.St} {H : Hp} {us : List Value} {Q : VK} {m : Nat → Addr} {S : Sto} {p : Addr} {ds : List D} {vs : List V} (I : L2.Inv X pins σ H s) (rx : Vals [.ref p] us) (r : SRel X.K X.mg m S H) (hp : SqL X.K H p vs) (rv : RepL X.K m S.length H ds vs) (h64 : ds.length < 64)
    (sa : Sat X.K X.mg wNo [] m S H (Rep X.K) Q (ofO ((sortD ds).map fun es => (.cel S.length, S ++ [.lst es])))) : wpAny (model X.prog X.w) X.A (call (.builtin "sorted") us) (EP X pins σ Q) X.xe s := by
  unfold sortD at sa
  cases hs : asStrs ds with
  | some xs =>
    rw [hs] at sa
    rw [asStrs_rep rv hs] at hp
    have hl : xs.length < 64 := by
      have := rv.len
      rw [asStrs_rep rv hs, List.length_map] at this
      omega
    refine cr_sortedS pins s σ H _ us Q I rx ⟨p, xs, rfl, hp, hl, fun ys t hy hsd ht => ?_⟩
    obtain rfl := sortS_the hy hsd
    have hyl : (sortS xs).length ≤ sizeLine := by rw [(sortS_perm xs).length_eq, sizeLine_eq]; omega
    exact sa.ok (Post.push r (same_upd ht) ht ⟨_, upd_same, by rw [List.length_map]; exact hyl, strs_rep _⟩) ⟨by simp, by rw [mAt_self]⟩
  | none =>
    rw [hs] at sa
    cases hz : asInts ds with
    | none => rw [hz] at sa; exact sa.elim
    | some zs =>
      rw [hz] at sa
      rw [asInts_rep rv hz] at hp
      have hl : zs.length < 64 := by
        have := rv.len
        rw [asInts_rep rv hz, List.length_map] at this
        omega
      refine cr_sorted pins s σ H _ us Q I rx ⟨p, zs, rfl, hp, hl, fun ys t hy hsd ht => ?_⟩
      obtain rfl := sortZ_the hy hsd
      have hyl : (sortZ zs).length ≤ sizeLine := by rw [(sortZ_perm zs).length_eq, sizeLine_eq]; omega
      exact sa.ok (Post.push r (same_upd ht) ht ⟨_, upd_same, by rw [List.length_map]; exact hyl, ints_rep _⟩) ⟨by simp, by rw [mAt_self]⟩
theorem c_sorted (hc : X.calm = true) : CallR X (.builtin "sorted") (rdC X.K X.mg dSorted) := by
  intro pins s σ H xs us Q I rx ⟨m, S, ds, r, rs, sa⟩
  unfold dSorted at sa
  split at sa
  · rename_i n
    obtain ⟨v, r', rfl, ⟨hn, rfl⟩, e⟩ := rs
    obtain rfl : r' = [] := e
    split at sa
    · rename_i ds' hS
      obtain ⟨vs, ev, hz, rv⟩ := r.at_ _ _ hS
      split at sa
      · rename_i h64
        exact sort_list I rx r (SqL.of ev) rv h64 sa
      · exact sa.elim
    · rename_i kvs hS
      obtain ⟨ws, ev, hz, rv⟩ := r.at_ _ _ hS
      split at sa
      · rename_i h64
        cases hk : keyStrs kvs with
        | none => rw [hk] at sa; exact sa.elim
        | some ks =>
          rw [hk] at sa
          have hkk := keyStrs_rep rv hk
          have hl : ks.length < 64 := by
            have := congrArg List.length hkk
            rw [List.length_map, List.length_map, rv.len] at this
            omega
          refine call_sortedD hc pins s σ H _ us Q I rx ⟨_, ws, ks, rfl, .inl ev, hkk, hl, fun ys t hy hsd ht => ?_⟩
          obtain rfl := sortS_the hy hsd
          have hyl : (sortS ks).length ≤ sizeLine := by rw [(sortS_perm ks).length_eq, sizeLine_eq]; omega
          exact sa.ok (Post.push r (same_upd ht) ht ⟨_, upd_same, by rw [List.length_map]; exact hyl, strs_rep _⟩) ⟨by simp, by rw [mAt_self]⟩
      · exact sa.elim
    · exact sa.elim
  · rename_i ds'
    obtain ⟨v, r', rfl, ⟨p, vs, rfl, hp, hz, rv⟩, e⟩ := rs
    obtain rfl : r' = [] := e
    split at sa
    · rename_i h64
      exact sort_list I rx r (ils_sq hp) rv h64 sa
    · exact sa.elim
  · exact sa.elim
end
end G
set_option maxRecDepth 100000
set_option maxHeartbeats 4000000
/-! ### the walk of pathschosen_k06_sentences_alike, printed by gen.py -/
namespace K06
open PySem PySem.Spec PyProof.Rows L2 G
def top (i : Nat) : Stmt := PySem.Challenge.pw_pathschosen_k06_sentences_alike.main.body.getD i (.Pass ⟨0, 0, 0, 0⟩)
abbrev st_items_start : Stmt := top 1
abbrev st_inner_end : Stmt := top 2
abbrev st_same_words : Stmt := top 5
abbrev st_alike_expressions : Stmt := top 6
abbrev st_alike_parts : Stmt := top 7
abbrev st_are_alike : Stmt := top 8
abbrev st__law_start : Stmt := top 10
abbrev st__law_pick : Stmt := top 11
abbrev st__law_same : Stmt := top 12
abbrev st__law_number : Stmt := top 13
abbrev st__law_expression : Stmt := top 14
abbrev st__law_new : Stmt := top 15
abbrev st__law_names : Stmt := top 16
abbrev st__law_with : Stmt := top 17
abbrev st__law_met : Stmt := top 18
abbrev st__law_items : Stmt := top 19
abbrev st__law_rebuilt : Stmt := top 20
abbrev st__law_words : Stmt := top 21
abbrev st__law_free : Stmt := top 22
abbrev st__law_put : Stmt := top 23
abbrev st__law_tower : Stmt := top 24
abbrev st__law_filled : Stmt := top 25
abbrev st__law_plain : Stmt := top 26
abbrev st__law_renamed : Stmt := top 27
abbrev st__law_uses_in : Stmt := top 28
abbrev st__law_uses : Stmt := top 29
abbrev st__law_fits : Stmt := top 30
abbrev st__law_leaves : Stmt := top 31
abbrev st__law_other_leaf : Stmt := top 32
abbrev st__law_changed : Stmt := top 33
abbrev st_law : Stmt := top 34
theorem bt_all : bootBuiltins "all" = some (.builtin "all") := by decide +kernel
theorem bt_bool : bootBuiltins "bool" = some (.type "bool") := by decide +kernel
theorem bt_int : bootBuiltins "int" = some (.type "int") := by decide +kernel
theorem bt_isinstance : bootBuiltins "isinstance" = some (.builtin "isinstance") := by decide +kernel
theorem bt_len : bootBuiltins "len" = some (.builtin "len") := by decide +kernel
theorem bt_list : bootBuiltins "list" = some (.type "list") := by decide +kernel
theorem bt_max : bootBuiltins "max" = some (.builtin "max") := by decide +kernel
theorem bt_min : bootBuiltins "min" = some (.builtin "min") := by decide +kernel
theorem bt_range : bootBuiltins "range" = some (.type "range") := by decide +kernel
theorem bt_sorted : bootBuiltins "sorted" = some (.builtin "sorted") := by decide +kernel
theorem bt_str : bootBuiltins "str" = some (.type "str") := by decide +kernel
theorem bt_tuple : bootBuiltins "tuple" = some (.type "tuple") := by decide +kernel
/-- what each def computes -/
structure Tb where
  items_start : List D → Sto → R D
  inner_end : List D → Sto → R D
  same_words : List D → Sto → R D
  alike_expressions : List D → Sto → R D
  alike_parts : List D → Sto → R D
  are_alike : List D → Sto → R D
  _law_start : List D → Sto → R D
  _law_pick : List D → Sto → R D
  _law_same : List D → Sto → R D
  _law_number : List D → Sto → R D
  _law_expression : List D → Sto → R D
  _law_new : List D → Sto → R D
  _law_names : List D → Sto → R D
  _law_with : List D → Sto → R D
  _law_met : List D → Sto → R D
  _law_items : List D → Sto → R D
  _law_rebuilt : List D → Sto → R D
  _law_words : List D → Sto → R D
  _law_free : List D → Sto → R D
  _law_put : List D → Sto → R D
  _law_tower : List D → Sto → R D
  _law_filled : List D → Sto → R D
  _law_plain : List D → Sto → R D
  _law_renamed : List D → Sto → R D
  _law_uses_in : List D → Sto → R D
  _law_uses : List D → Sto → R D
  _law_fits : List D → Sto → R D
  _law_leaves : List D → Sto → R D
  _law_other_leaf : List D → Sto → R D
  _law_changed : List D → Sto → R D
  law : List D → Sto → R D
noncomputable def b_items_start (c c1 : Tb) : SX :=
 (sSeq (sIf (tOr (tBin dEq (eBin dIx (eVar 0) (eC (.a (.int (0))))) (eC (.a (.str "call")))) (tBin dEq (eBin dIx (eVar 0) (eC (.a (.int (0))))) (eC (.a (.str "look")))))
 (sSeq (sRet (eC (.a (.int (2)))))
 sNil)
 sNil)
 (sSeq (sRet (eC (.a (.int (1)))))
 sNil))
noncomputable def b_inner_end (c c1 : Tb) : SX :=
 (sSeq (sIf (tBin dEq (eBin dIx (eVar 0) (eC (.a (.int (0))))) (eC (.a (.str "table"))))
 (sSeq (sRet (eC (.a (.int (2)))))
 sNil)
 sNil)
 (sSeq (sRet (eCallB dLen (aCons (eVar 0) aNil)))
 sNil))
noncomputable def b_same_words (c c1 : Tb) : SX :=
 (sSeq (sIf (tOr (tBin dIn (eVar 0) (eVar 2)) (tBin dIn (eVar 1) (eVar 3)))
 (sSeq (sRet (eAnd (eBin dIn (eVar 0) (eVar 2)) (eAnd (eBin dIn (eVar 1) (eVar 3)) (eBin dEq (eBin dIx (eVar 2) (eVar 0)) (eBin dIx (eVar 3) (eVar 1))))))
 sNil)
 sNil)
 (sSeq (sRet (eBin dEq (eVar 0) (eVar 1)))
 sNil))
noncomputable def b_alike_expressions (c c1 : Tb) : SX :=
 (sSeq (sIf (tOf (eCallB dIsi (aCons (eVar 0) (aCons (eC (.a (.ty "str"))) aNil))))
 (sSeq (sRet (eAnd (eCallB dIsi (aCons (eVar 1) (aCons (eC (.a (.ty "str"))) aNil))) (eCall c.same_words [] (aCons (eVar 0) (aCons (eVar 1) (aCons (eVar 2) (aCons (eVar 3) aNil)))))))
 sNil)
 sNil)
 (sSeq (sIf (tOr (tOf (eCallB dIsi (aCons (eVar 0) (aCons (eC (.a (.ty "int"))) aNil)))) (tNot (tOf (eCallB dIsi (aCons (eVar 1) (aCons (eC (.a (.ty "tuple"))) aNil))))))
 (sSeq (sRet (eBin dEq (eVar 0) (eVar 1)))
 sNil)
 sNil)
 (sSeq (sIf (tOr (tBin dNe (eBin dIx (eVar 0) (eC (.a (.int (0))))) (eBin dIx (eVar 1) (eC (.a (.int (0)))))) (tBin dNe (eCallB dLen (aCons (eVar 0) aNil)) (eCallB dLen (aCons (eVar 1) aNil))))
 (sSeq (sRet (eC (.a (.bl false))))
 sNil)
 sNil)
 (sSeq (sIf (tAnd (tBin dEq (eBin dIx (eVar 0) (eC (.a (.int (0))))) (eC (.a (.str "look")))) (tNot (tOf (eCall c.same_words [] (aCons (eBin dIx (eVar 0) (eC (.a (.int (1))))) (aCons (eBin dIx (eVar 1) (eC (.a (.int (1))))) (aCons (eVar 2) (aCons (eVar 3) aNil))))))))
 (sSeq (sRet (eC (.a (.bl false))))
 sNil)
 sNil)
 (sSeq (sSet 4 (eCall c.items_start [] (aCons (eVar 0) aNil)))
 (sSeq (sSet 5 (eCall c.inner_end [] (aCons (eVar 0) aNil)))
 (sSeq (sIf (tOr (tAnd (tBin dEq (eBin dIx (eVar 0) (eC (.a (.int (0))))) (eC (.a (.str "call")))) (tBin dNe (eBin dIx (eVar 0) (eC (.a (.int (1))))) (eBin dIx (eVar 1) (eC (.a (.int (1))))))) (tBin dNe (eCut (eVar 0) (oSome (eVar 5)) oNone) (eCut (eVar 1) (oSome (eVar 5)) oNone)))
 (sSeq (sRet (eC (.a (.bl false))))
 sNil)
 sNil)
 (sSeq (sRet (eCallT tAll (aLc (iR2 (eVar 4) (eVar 5)) (gN 6) (List.map (fun p => p.2) ([("k", 6)] : List (Str × Nat))) tTrue (eCall c.alike_expressions [] (aCons (eBin dIx (eVar 0) (eVar 6)) (aCons (eBin dIx (eVar 1) (eVar 6)) (aCons (eVar 2) (aCons (eVar 3) aNil))))))))
 sNil))))))))
noncomputable def b_alike_parts (c c1 : Tb) : SX :=
 (sSeq (sSet 5 (eBin dIx (eVar 0) (eC (.a (.int (0))))))
 (sSeq (sIf (tBin dNe (eVar 5) (eBin dIx (eVar 1) (eC (.a (.int (0))))))
 (sSeq (sRet (eC (.a (.bl false))))
 sNil)
 sNil)
 (sSeq (sIf (tInC id [("all", (.int (0))), ("some", (.int (0))), ("allbelow", (.int (0))), ("somebelow", (.int (0))), ("allrow", (.int (1))), ("somerow", (.int (1)))] (eVar 5))
 (sSeq (sIf (tBin dNe (eCut (eVar 0) (oSome (eC (.a (.int (2))))) (oSome (eUn dNeg (eC (.a (.int (1))))))) (eCut (eVar 1) (oSome (eC (.a (.int (2))))) (oSome (eUn dNeg (eC (.a (.int (1))))))))
 (sSeq (sRet (eC (.a (.bl false))))
 sNil)
 sNil)
 (sSeq (sSet 6 (eStar (eVar 2) (eBin dIx (eVar 0) (eC (.a (.int (1))))) (eVar 4)))
 (sSeq (sRet (eCall c.alike_parts [] (aCons (eBin dIx (eVar 0) (eUn dNeg (eC (.a (.int (1)))))) (aCons (eBin dIx (eVar 1) (eUn dNeg (eC (.a (.int (1)))))) (aCons (eVar 6) (aCons (eStar (eVar 3) (eBin dIx (eVar 1) (eC (.a (.int (1))))) (eVar 4)) (aCons (eBin dAdd (eVar 4) (eC (.a (.int (1))))) aNil)))))))
 sNil)))
 sNil)
 (sSeq (sIf (tBin dEq (eVar 5) (eC (.a (.str "is"))))
 (sSeq (sRet (eCallT tAll (aLc (iSeq (eTup (aCons (eC (.a (.int (1)))) (aCons (eC (.a (.int (2)))) aNil)))) (gN 7) (List.map (fun p => p.2) ([("k", 7)] : List (Str × Nat))) tTrue (eCall c.alike_expressions [] (aCons (eBin dIx (eVar 0) (eVar 7)) (aCons (eBin dIx (eVar 1) (eVar 7)) (aCons (eVar 2) (aCons (eVar 3) aNil))))))))
 sNil)
 sNil)
 (sSeq (sRet (eCallT tAll (aLc (iSeq (eTup (aCons (eC (.a (.int (1)))) (aCons (eC (.a (.int (2)))) aNil)))) (gN 7) (List.map (fun p => p.2) ([("k", 7)] : List (Str × Nat))) tTrue (eCall c.alike_parts [] (aCons (eBin dIx (eVar 0) (eVar 7)) (aCons (eBin dIx (eVar 1) (eVar 7)) (aCons (eVar 2) (aCons (eVar 3) (aCons (eVar 4) aNil)))))))))
 sNil)))))
noncomputable def b_are_alike (c c1 : Tb) : SX :=
 (sSeq (sRet (eOr (eBin dEq (eVar 0) (eVar 1)) (eCall c.alike_parts [] (aCons (eVar 0) (aCons (eVar 1) (aCons eDict0 (aCons eDict0 (aCons (eC (.a (.int (0)))) aNil))))))))
 sNil)
noncomputable def b__law_start (c c1 : Tb) : SX :=
 (sSeq (sSet 1 (eC (.a (.int (7)))))
 (sSeq (sFor (iR1 (eCallB dLen (aCons (eVar 0) aNil))) (gN 2)
 (sSeq (sSet 1 (eBin dMod (eBin dAdd (eBin dAdd (eBin dAdd (eBin dMul (eVar 1) (eC (.a (.int (48271))))) (eBin dMod (eCallB dInt (aCons (eBin dIx (eVar 0) (eVar 2)) aNil)) (eC (.a (.int (2147483647)))))) (eVar 2)) (eC (.a (.int (1))))) (eC (.a (.int (2147483647))))))
 sNil))
 (sSeq (sRet (eOfL (aCons (eVar 1) (aCons (eOfL (aListOf (eVar 0))) (aCons (eC (.a (.int (0)))) (aCons (eC (.a (.int (0)))) aNil))))))
 sNil)))
noncomputable def b__law_pick (c c1 : Tb) : SX :=
 (sSeq (sIf (tBin dGe (eBin dIx (eVar 0) (eC (.a (.int (3))))) (eVar 1))
 (sSeq (sSet 2 (eCallB dInt (aCons (eBin dIx (eVar 0) (eC (.a (.int (3))))) aNil)))
 (sSeq (sPut (eBin dDiv (eVar 2) (eVar 1)) (eVar 0) (eC (.a (.int (3)))))
 (sSeq (sRet (eBin dMod (eVar 2) (eVar 1)))
 sNil)))
 sNil)
 (sSeq (sSet 3 (eC (.a (.int (11)))))
 (sSeq (sIf (tBin dLt (eBin dIx (eVar 0) (eC (.a (.int (2))))) (eCallB dLen (aCons (eBin dIx (eVar 0) (eC (.a (.int (1))))) aNil)))
 (sSeq (sSet 3 (eCallB dInt (aCons (eBin dIx (eBin dIx (eVar 0) (eC (.a (.int (1))))) (eBin dIx (eVar 0) (eC (.a (.int (2)))))) aNil)))
 (sSeq (sPut (eBin dAdd (eBin dIx (eVar 0) (eC (.a (.int (2))))) (eC (.a (.int (1))))) (eVar 0) (eC (.a (.int (2)))))
 (sSeq (sIf (tBin dLt (eVar 3) (eC (.a (.int (0)))))
 (sSeq (sSet 3 (eBin dSub (eC (.a (.int (1)))) (eVar 3)))
 sNil)
 sNil)
 (sSeq (sIf (tBin dGe (eVar 3) (eBin dPow (eC (.a (.int (10)))) (eC (.a (.int (18))))))
 (sSeq (sPut (eBin dDiv (eVar 3) (eVar 1)) (eVar 0) (eC (.a (.int (3)))))
 (sSeq (sRet (eBin dMod (eVar 3) (eVar 1)))
 sNil))
 sNil)
 sNil))))
 sNil)
 (sSeq (sSet 4 (eBin dMod (eBin dMul (eBin dAdd (eBin dAdd (eCallB dInt (aCons (eBin dIx (eVar 0) (eC (.a (.int (0))))) aNil)) (eBin dMod (eVar 3) (eC (.a (.int (2147483647)))))) (eC (.a (.int (1))))) (eC (.a (.int (48271))))) (eC (.a (.int (2147483647))))))
 (sSeq (sPut (eBin dMod (eBin dAdd (eBin dMul (eVar 4) (eC (.a (.int (69621))))) (eC (.a (.int (12345))))) (eC (.a (.int (2147483647))))) (eVar 0) (eC (.a (.int (0)))))
 (sSeq (sRet (eBin dMod (eBin dDiv (eCallB dInt (aCons (eBin dIx (eVar 0) (eC (.a (.int (0))))) aNil)) (eC (.a (.int (7))))) (eVar 1)))
 sNil))))))
noncomputable def b__law_same (c c1 : Tb) : SX :=
 (sSeq (sIf (tOf (eCallB dIsi (aCons (eVar 1) (aCons (eC (.a (.ty "tuple"))) aNil))))
 (sSeq (sIf (tOr (tNot (tOf (eCallB dIsi (aCons (eVar 0) (aCons (eC (.a (.ty "tuple"))) aNil))))) (tBin dNe (eCallB dLen (aCons (eVar 0) aNil)) (eCallB dLen (aCons (eVar 1) aNil))))
 (sSeq (sRet (eC (.a (.bl false))))
 sNil)
 sNil)
 (sSeq (sRet (eCallT tAll (aLc (iR1 (eCallB dLen (aCons (eVar 1) aNil))) (gN 2) (List.map (fun p => p.2) ([("p", 2)] : List (Str × Nat))) tTrue (eCall c._law_same [] (aCons (eBin dIx (eVar 0) (eVar 2)) (aCons (eBin dIx (eVar 1) (eVar 2)) aNil))))))
 sNil))
 sNil)
 (sSeq (sIf (tBin dIs (eVar 1) (eC (.a .non)))
 (sSeq (sRet (eBin dIs (eVar 0) (eC (.a .non))))
 sNil)
 sNil)
 (sSeq (sIf (tOf (eCallB dIsi (aCons (eVar 1) (aCons (eC (.a (.ty "str"))) aNil))))
 (sSeq (sRet (eAnd (eCallB dIsi (aCons (eVar 0) (aCons (eC (.a (.ty "str"))) aNil))) (eBin dEq (eVar 0) (eVar 1))))
 sNil)
 sNil)
 (sSeq (sIf (tOf (eCallB dIsi (aCons (eVar 1) (aCons (eC (.a (.ty "bool"))) aNil))))
 (sSeq (sRet (eAnd (eCallB dIsi (aCons (eVar 0) (aCons (eC (.a (.ty "bool"))) aNil))) (eBin dEq (eVar 0) (eVar 1))))
 sNil)
 sNil)
 (sSeq (sRet (eAnd (eCallB dIsi (aCons (eVar 0) (aCons (eC (.a (.ty "int"))) aNil))) (eAnd (eNot (eCallB dIsi (aCons (eVar 0) (aCons (eC (.a (.ty "bool"))) aNil)))) (eBin dEq (eVar 0) (eVar 1)))))
 sNil)))))
noncomputable def b__law_number (c c1 : Tb) : SX :=
 (sSeq (sSet 1 (eCall c._law_pick [] (aCons (eVar 0) (aCons (eC (.a (.int (12)))) aNil))))
 (sSeq (sIf (tBin dLt (eVar 1) (eC (.a (.int (9)))))
 (sSeq (sRet (eCall c._law_pick [] (aCons (eVar 0) (aCons (eC (.a (.int (5)))) aNil))))
 sNil)
 sNil)
 (sSeq (sIf (tBin dLt (eVar 1) (eC (.a (.int (11)))))
 (sSeq (sRet (eCall c._law_pick [] (aCons (eVar 0) (aCons (eC (.a (.int (40)))) aNil))))
 sNil)
 sNil)
 (sSeq (sRet (eBin dSub (eC (.a (.int (999999999)))) (eCall c._law_pick [] (aCons (eVar 0) (aCons (eIxL (aCons (eC (.a (.int (2)))) (aCons (eC (.a (.int (1000000000)))) aNil)) (eCall c._law_pick [] (aCons (eVar 0) (aCons (eC (.a (.int (2)))) aNil)))) aNil)))))
 sNil))))
noncomputable def b__law_expression (c c1 : Tb) : SX :=
 (sSeq (sSet 5 (eCall c._law_pick [] (aCons (eVar 0) (aCons (eC (.a (.int (14)))) aNil))))
 (sSeq (sIf (tOr (tBin dEq (eVar 4) (eC (.a (.int (0))))) (tBin dLt (eVar 5) (eC (.a (.int (3))))))
 (sSeq (sIf (tAnd (tBin dGt (eCallB dLen (aCons (eVar 1) aNil)) (eC (.a (.int (0))))) (tBin dGt (eCall c._law_pick [] (aCons (eVar 0) (aCons (eC (.a (.int (3)))) aNil))) (eC (.a (.int (0))))))
 (sSeq (sRet (eBin dIx (eVar 1) (eCall c._law_pick [] (aCons (eVar 0) (aCons (eCallB dLen (aCons (eVar 1) aNil)) aNil)))))
 sNil)
 sNil)
 (sSeq (sRet (eCall c._law_number [] (aCons (eVar 0) aNil)))
 sNil))
 sNil)
 (sSeq (sIf (tBin dLt (eVar 5) (eC (.a (.int (10)))))
 (sSeq (sSet 6 (eOfL (aCons (eC (.a (.str "plus"))) (aCons (eC (.a (.str "minus"))) (aCons (eC (.a (.str "times"))) (aCons (eC (.a (.str "div"))) (aCons (eC (.a (.str "rem"))) (aCons (eC (.a (.str "least"))) (aCons (eC (.a (.str "greatest"))) (aCons (eC (.a (.str "same"))) (aCons (eC (.a (.str "below"))) aNil)))))))))))
 (sSeq (sSet 7 (eBin dIx (eVar 6) (eCall c._law_pick [] (aCons (eVar 0) (aCons (eC (.a (.int (9)))) aNil)))))
 (sSeq (sSet 8 (eCall c._law_expression [] (aCons (eVar 0) (aCons (eVar 1) (aCons (eVar 2) (aCons (eVar 3) (aCons (eBin dSub (eVar 4) (eC (.a (.int (1))))) aNil)))))))
 (sSeq (sRet (eTup (aCons (eVar 7) (aCons (eVar 8) (aCons (eCall c._law_expression [] (aCons (eVar 0) (aCons (eVar 1) (aCons (eVar 2) (aCons (eVar 3) (aCons (eBin dSub (eVar 4) (eC (.a (.int (1))))) aNil)))))) aNil)))))
 sNil))))
 sNil)
 (sSeq (sSet 8 (eCall c._law_expression [] (aCons (eVar 0) (aCons (eVar 1) (aCons (eVar 2) (aCons (eVar 3) (aCons (eBin dSub (eVar 4) (eC (.a (.int (1))))) aNil)))))))
 (sSeq (sIf (tBin dEq (eVar 5) (eC (.a (.int (10)))))
 (sSeq (sSet 9 (eCall c._law_expression [] (aCons (eVar 0) (aCons (eVar 1) (aCons (eVar 2) (aCons (eVar 3) (aCons (eBin dSub (eVar 4) (eC (.a (.int (1))))) aNil)))))))
 (sSeq (sRet (eTup (aCons (eC (.a (.str "pick"))) (aCons (eVar 8) (aCons (eVar 9) (aCons (eCall c._law_expression [] (aCons (eVar 0) (aCons (eVar 1) (aCons (eVar 2) (aCons (eVar 3) (aCons (eBin dSub (eVar 4) (eC (.a (.int (1))))) aNil)))))) aNil))))))
 sNil))
 sNil)
 (sSeq (sIf (tBin dEq (eVar 5) (eC (.a (.int (11)))))
 (sSeq (sRet (eTup (aCons (eC (.a (.str "table"))) (aCons (eVar 8) (aCons (eCallT tTuple (aLc (iR1 (eCall c._law_pick [] (aCons (eVar 0) (aCons (eC (.a (.int (4)))) aNil)))) (gN 13) (List.map (fun p => p.2) ([("k", 13)] : List (Str × Nat))) tTrue (eCall c._law_number [] (aCons (eVar 0) aNil)))) (aCons (eCall c._law_number [] (aCons (eVar 0) aNil)) aNil))))))
 sNil)
 sNil)
 (sSeq (sIf (tAnd (tBin dEq (eVar 5) (eC (.a (.int (12))))) (tBin dGt (eCallB dLen (aCons (eVar 3) aNil)) (eC (.a (.int (0))))))
 (sSeq (sSet 10 (eBin dIx (eCallB dSorted (aCons (eVar 3) aNil)) (eCall c._law_pick [] (aCons (eVar 0) (aCons (eCallB dLen (aCons (eVar 3) aNil)) aNil)))))
 (sSeq (sSet 11 (eOfL (aLc (iR1 (eBin dSub (eCallB dLen (aCons (eBin dIx (eBin dIx (eVar 3) (eVar 10)) (eC (.a (.int (0))))) aNil)) (eC (.a (.int (1)))))) (gN 13) (List.map (fun p => p.2) ([("k", 13)] : List (Str × Nat))) tTrue (eCall c._law_expression [] (aCons (eVar 0) (aCons (eVar 1) (aCons (eVar 2) (aCons (eVar 3) (aCons (eC (.a (.int (0)))) aNil)))))))))
 (sSeq (sRet (eBin dAdd (eTup (aCons (eC (.a (.str "call"))) (aCons (eVar 10) (aCons (eVar 8) aNil)))) (eCallB dTuple (aCons (eVar 11) aNil))))
 sNil)))
 sNil)
 (sSeq (sIf (tBin dEq (eCallB dLen (aCons (eVar 2) aNil)) (eC (.a (.int (0)))))
 (sSeq (sRet (eVar 8))
 sNil)
 sNil)
 (sSeq (sSet 12 (eBin dIx (eVar 2) (eCall c._law_pick [] (aCons (eVar 0) (aCons (eCallB dLen (aCons (eVar 2) aNil)) aNil)))))
 (sSeq (sSet 11 (eOfL (aLc (iR1 (eBin dSub (eBin dIx (eVar 12) (eC (.a (.int (1))))) (eC (.a (.int (1)))))) (gN 13) (List.map (fun p => p.2) ([("k", 13)] : List (Str × Nat))) tTrue (eCall c._law_expression [] (aCons (eVar 0) (aCons (eVar 1) (aCons (eVar 2) (aCons (eVar 3) (aCons (eC (.a (.int (0)))) aNil)))))))))
 (sSeq (sRet (eBin dAdd (eTup (aCons (eC (.a (.str "look"))) (aCons (eBin dIx (eVar 12) (eC (.a (.int (0))))) (aCons (eVar 8) aNil)))) (eCallB dTuple (aCons (eVar 11) aNil))))
 sNil)))))))))))
noncomputable def b__law_new (c c1 : Tb) : SX :=
 (sSeq (sSet 2 (eC (.a (.str "abcdefghijklmnopqrstuvwxyz"))))
 (sSeq (sSet 3 (eOfL (aCons (eC (.a (.str "plus"))) (aCons (eC (.a (.str "is"))) (aCons (eC (.a (.str "call"))) (aCons (eC (.a (.str "look"))) (aCons (eC (.a (.str "table"))) (aCons (eC (.a (.str "book"))) (aCons (eC (.a (.str "all"))) (aCons (eC (.a (.str "some"))) (aCons (eC (.a (.str "law"))) (aCons (eC (.a (.str "use"))) aNil))))))))))))
 (sSeq (sSet 4 (eCall c._law_pick [] (aCons (eVar 0) (aCons (eC (.a (.int (4)))) aNil))))
 (sSeq (sSet 5 (eBin dIx (eVar 2) (eCall c._law_pick [] (aCons (eVar 0) (aCons (eC (.a (.int (5)))) aNil)))))
 (sSeq (sIf (tBin dEq (eVar 4) (eC (.a (.int (2)))))
 (sSeq (sSet 5 (eMeth "str" dJoin (eC (.a (.str ""))) (aCons (eOfL (aLc (iR1 (eBin dAdd (eC (.a (.int (1)))) (eCall c._law_pick [] (aCons (eVar 0) (aCons (eC (.a (.int (12)))) aNil))))) (gN 6) (List.map (fun p => p.2) ([("k", 6)] : List (Str × Nat))) tTrue (eBin dIx (eVar 2) (eCall c._law_pick [] (aCons (eVar 0) (aCons (eC (.a (.int (26)))) aNil)))))) aNil)))
 sNil)
 sNil)
 (sSeq (sIf (tBin dEq (eVar 4) (eC (.a (.int (3)))))
 (sSeq (sSet 5 (eBin dIx (eVar 3) (eCall c._law_pick [] (aCons (eVar 0) (aCons (eC (.a (.int (10)))) aNil)))))
 sNil)
 sNil)
 (sSeq (sFor (iR1 (eC (.a (.int (100))))) (gN 6)
 (sSeq (sIf (tBin dNotIn (eVar 5) (eVar 1))
 (sSeq sBreak
 sNil)
 sNil)
 (sSeq (sSet 5 (eBin dAdd (eBin dIx (eVar 2) (eBin dDiv (eVar 6) (eC (.a (.int (26)))))) (eBin dIx (eVar 2) (eBin dMod (eCallB dInt (aCons (eVar 6) aNil)) (eC (.a (.int (26))))))))
 sNil)))
 (sSeq (sRet (eVar 5))
 sNil))))))))
noncomputable def b__law_names (c c1 : Tb) : SX :=
 (sSeq (sSet 3 (eOfL aNil))
 (sSeq (sFor (iR1 (eVar 2)) (gN 4)
 (sSeq (sDo (eMeth "list" dAppend (eVar 3) (aCons (eCall c._law_new [] (aCons (eVar 0) (aCons (eBin dAdd (eVar 1) (eVar 3)) aNil))) aNil)))
 sNil))
 (sSeq (sRet (eVar 3))
 sNil)))
noncomputable def b__law_with (c c1 : Tb) : SX :=
 (sSeq (sSet 3 (eMeth "dict" dCopy (eVar 0) aNil))
 (sSeq (sPut (eVar 2) (eVar 3) (eVar 1))
 (sSeq (sRet (eVar 3))
 sNil)))
noncomputable def b__law_met (c c1 : Tb) : SX :=
 (sSeq (sSet 5 (eCall c._law_pick [] (aCons (eVar 0) (aCons (eC (.a (.int (12)))) aNil))))
 (sSeq (sIf (tOr (tBin dEq (eVar 3) (eC (.a (.int (0))))) (tBin dLt (eVar 5) (eC (.a (.int (2))))))
 (sSeq (sSet 6 (eOfL (aLock 1 (aLc (iKey (eVar 1)) (gN 13) (List.map (fun p => p.2) ([("name", 13)] : List (Str × Nat))) (tBin dEq (eBin dIx (eVar 1) (eVar 13)) (eC (.a (.int (0))))) (eVar 13)))))
 (sSeq (sSet 7 (eOfL (aLock 1 (aLc (iKey (eVar 1)) (gN 13) (List.map (fun p => p.2) ([("name", 13)] : List (Str × Nat))) (tBin dGt (eBin dIx (eVar 1) (eVar 13)) (eC (.a (.int (0))))) (eTup (aCons (eVar 13) (aCons (eBin dIx (eVar 1) (eVar 13)) aNil)))))))
 (sSeq (sSet 8 (eCall c._law_expression [] (aCons (eVar 0) (aCons (eVar 6) (aCons (eVar 7) (aCons (eVar 2) (aCons (eCall c._law_pick [] (aCons (eVar 0) (aCons (eC (.a (.int (3)))) aNil))) aNil)))))))
 (sSeq (sRet (eTup (aCons (eC (.a (.str "is"))) (aCons (eVar 8) (aCons (eCall c._law_expression [] (aCons (eVar 0) (aCons (eVar 6) (aCons (eVar 7) (aCons (eVar 2) (aCons (eCall c._law_pick [] (aCons (eVar 0) (aCons (eC (.a (.int (3)))) aNil))) aNil)))))) aNil)))))
 sNil))))
 sNil)
 (sSeq (sIf (tAnd (tBin dLt (eVar 5) (eC (.a (.int (5))))) (tBin dGt (eBin dIx (eVar 4) (eC (.a (.int (0))))) (eC (.a (.int (0))))))
 (sSeq (sPut (eBin dSub (eBin dIx (eVar 4) (eC (.a (.int (0))))) (eC (.a (.int (1))))) (eVar 4) (eC (.a (.int (0)))))
 (sSeq (sSet 8 (eCall c._law_met [] (aCons (eVar 0) (aCons (eVar 1) (aCons (eVar 2) (aCons (eBin dSub (eVar 3) (eC (.a (.int (1))))) (aCons (eVar 4) aNil)))))))
 (sSeq (sRet (eTup (aCons (eIxL (aCons (eC (.a (.str "and"))) (aCons (eC (.a (.str "if"))) aNil)) (eCall c._law_pick [] (aCons (eVar 0) (aCons (eC (.a (.int (2)))) aNil)))) (aCons (eVar 8) (aCons (eCall c._law_met [] (aCons (eVar 0) (aCons (eVar 1) (aCons (eVar 2) (aCons (eBin dSub (eVar 3) (eC (.a (.int (1))))) (aCons (eVar 4) aNil)))))) aNil)))))
 sNil)))
 sNil)
 (sSeq (sSet 9 (eIxL (aCons (eC (.a (.str "all"))) (aCons (eC (.a (.str "some"))) (aCons (eC (.a (.str "allbelow"))) (aCons (eC (.a (.str "somebelow"))) (aCons (eC (.a (.str "allrow"))) (aCons (eC (.a (.str "somerow"))) aNil)))))) (eCall c._law_pick [] (aCons (eVar 0) (aCons (eC (.a (.int (6)))) aNil)))))
 (sSeq (sSet 10 (eIxL (aKeysOf (eVar 1)) (eCall c._law_pick [] (aCons (eVar 0) (aCons (eCallB dLen (aCons (eVar 1) aNil)) aNil)))))
 (sSeq (sIf (tBin dEq (eCall c._law_pick [] (aCons (eVar 0) (aCons (eC (.a (.int (6)))) aNil))) (eC (.a (.int (0)))))
 (sSeq (sSet 10 (eCall c._law_new [] (aCons (eVar 0) (aCons (eOfL aNil) aNil))))
 sNil)
 sNil)
 (sSeq (sSet 11 (eTup (aCons (eVar 9) (aCons (eVar 10) aNil))))
 (sSeq (sIf (tBin dIn (eVar 9) (eOfL (aCons (eC (.a (.str "allbelow"))) (aCons (eC (.a (.str "somebelow"))) aNil))))
 (sSeq (sSet 11 (eTup (aCons (eVar 9) (aCons (eVar 10) (aCons (eBin dAdd (eC (.a (.int (1)))) (eCall c._law_pick [] (aCons (eVar 0) (aCons (eC (.a (.int (12)))) aNil)))) aNil)))))
 sNil)
 sNil)
 (sSeq (sSet 12 (eCall c._law_with [] (aCons (eVar 1) (aCons (eVar 10) (aCons (eCallB dInt (aCons (eBin dIn (eVar 9) (eOfL (aCons (eC (.a (.str "allrow"))) (aCons (eC (.a (.str "somerow"))) aNil)))) aNil)) aNil)))))
 (sSeq (sRet (eBin dAdd (eVar 11) (eTup (aCons (eCall c._law_met [] (aCons (eVar 0) (aCons (eVar 12) (aCons (eVar 2) (aCons (eBin dSub (eVar 3) (eC (.a (.int (1))))) (aCons (eVar 4) aNil)))))) aNil))))
 sNil))))))))))
noncomputable def b__law_items (c c1 : Tb) : SX :=
 (sSeq (sIf (tBin dEq (eBin dIx (eVar 0) (eC (.a (.int (0))))) (eC (.a (.str "table"))))
 (sSeq (sRet (eOfL (aListOf (eCut (eVar 0) (oSome (eC (.a (.int (1))))) (oSome (eC (.a (.int (2)))))))))
 sNil)
 sNil)
 (sSeq (sIf (tBin dIn (eBin dIx (eVar 0) (eC (.a (.int (0))))) (eOfL (aCons (eC (.a (.str "call"))) (aCons (eC (.a (.str "look"))) aNil))))
 (sSeq (sRet (eOfL (aListOf (eCut (eVar 0) (oSome (eC (.a (.int (2))))) oNone))))
 sNil)
 sNil)
 (sSeq (sRet (eOfL (aListOf (eCut (eVar 0) (oSome (eC (.a (.int (1))))) oNone))))
 sNil)))
noncomputable def b__law_rebuilt (c c1 : Tb) : SX :=
 (sSeq (sIf (tBin dEq (eBin dIx (eVar 0) (eC (.a (.int (0))))) (eC (.a (.str "table"))))
 (sSeq (sRet (eTup (aCons (eC (.a (.str "table"))) (aCons (eBin dIx (eVar 1) (eC (.a (.int (0))))) (aCons (eBin dIx (eVar 0) (eC (.a (.int (2))))) (aCons (eBin dIx (eVar 0) (eC (.a (.int (3))))) aNil))))))
 sNil)
 sNil)
 (sSeq (sIf (tBin dIn (eBin dIx (eVar 0) (eC (.a (.int (0))))) (eOfL (aCons (eC (.a (.str "call"))) (aCons (eC (.a (.str "look"))) aNil))))
 (sSeq (sRet (eBin dAdd (eTup (aCons (eBin dIx (eVar 0) (eC (.a (.int (0))))) (aCons (eBin dIx (eVar 0) (eC (.a (.int (1))))) aNil))) (eCallB dTuple (aCons (eVar 1) aNil))))
 sNil)
 sNil)
 (sSeq (sRet (eBin dAdd (eTup (aCons (eBin dIx (eVar 0) (eC (.a (.int (0))))) aNil)) (eCallB dTuple (aCons (eVar 1) aNil))))
 sNil)))
noncomputable def b__law_words (c c1 : Tb) : SX :=
 (sSeq (sIf (tOf (eCallB dIsi (aCons (eVar 0) (aCons (eC (.a (.ty "str"))) aNil))))
 (sSeq (sRet (eOfL (aCons (eVar 0) aNil)))
 sNil)
 sNil)
 (sSeq (sIf (tOf (eCallB dIsi (aCons (eVar 0) (aCons (eC (.a (.ty "int"))) aNil))))
 (sSeq (sRet (eOfL aNil))
 sNil)
 sNil)
 (sSeq (sSet 1 (eOfL aNil))
 (sSeq (sIf (tBin dEq (eBin dIx (eVar 0) (eC (.a (.int (0))))) (eC (.a (.str "look"))))
 (sSeq (sDo (eMeth "list" dAppend (eVar 1) (aCons (eBin dIx (eVar 0) (eC (.a (.int (1))))) aNil)))
 sNil)
 sNil)
 (sSeq (sFor (iSeq (eCall c._law_items [] (aCons (eVar 0) aNil))) (gN 2)
 (sSeq (sSet 1 (eBin dAdd (eVar 1) (eCall c._law_words [] (aCons (eVar 2) aNil))))
 sNil))
 (sSeq (sRet (eVar 1))
 sNil))))))
noncomputable def b__law_free (c c1 : Tb) : SX :=
 (sSeq (sIf (tBin dEq (eBin dIx (eVar 0) (eC (.a (.int (0))))) (eC (.a (.str "is"))))
 (sSeq (sRet (eBin dAdd (eCall c._law_words [] (aCons (eBin dIx (eVar 0) (eC (.a (.int (1))))) aNil)) (eCall c._law_words [] (aCons (eBin dIx (eVar 0) (eC (.a (.int (2))))) aNil))))
 sNil)
 sNil)
 (sSeq (sIf (tBin dIn (eBin dIx (eVar 0) (eC (.a (.int (0))))) (eOfL (aCons (eC (.a (.str "and"))) (aCons (eC (.a (.str "if"))) aNil))))
 (sSeq (sRet (eBin dAdd (eCall c._law_free [] (aCons (eBin dIx (eVar 0) (eC (.a (.int (1))))) aNil)) (eCall c._law_free [] (aCons (eBin dIx (eVar 0) (eC (.a (.int (2))))) aNil))))
 sNil)
 sNil)
 (sSeq (sRet (eOfL (aLc (iSeq (eCall c._law_free [] (aCons (eBin dIx (eVar 0) (eUn dNeg (eC (.a (.int (1)))))) aNil))) (gN 1) (List.map (fun p => p.2) ([("word", 1)] : List (Str × Nat))) (tBin dNe (eVar 1) (eBin dIx (eVar 0) (eC (.a (.int (1)))))) (eVar 1))))
 sNil)))
noncomputable def b__law_put (c c1 : Tb) : SX :=
 (sSeq (sIf (tBin dEq (eCallB dLen (aCons (eVar 1) aNil)) (eC (.a (.int (0)))))
 (sSeq (sRet (eVar 2))
 sNil)
 sNil)
 (sSeq (sRet (eBin dAdd (eBin dAdd (eCut (eVar 0) oNone (oSome (eBin dIx (eVar 1) (eC (.a (.int (0))))))) (eTup (aCons (eCall c._law_put [] (aCons (eBin dIx (eVar 0) (eBin dIx (eVar 1) (eC (.a (.int (0)))))) (aCons (eCut (eVar 1) (oSome (eC (.a (.int (1))))) oNone) (aCons (eVar 2) aNil)))) aNil))) (eCut (eVar 0) (oSome (eBin dAdd (eBin dIx (eVar 1) (eC (.a (.int (0))))) (eC (.a (.int (1)))))) oNone)))
 sNil))
noncomputable def b__law_tower (c c1 : Tb) : SX :=
 (sSeq (sSet 3 (eOfL (aLock 1 (aLc (iKey (eVar 1)) (gN 10) (List.map (fun p => p.2) ([("name", 10)] : List (Str × Nat))) (tBin dEq (eBin dIx (eVar 1) (eVar 10)) (eC (.a (.int (0))))) (eVar 10)))))
 (sSeq (sSet 4 (eOfL (aLock 1 (aLc (iKey (eVar 1)) (gN 10) (List.map (fun p => p.2) ([("name", 10)] : List (Str × Nat))) (tBin dGt (eBin dIx (eVar 1) (eVar 10)) (eC (.a (.int (0))))) (eTup (aCons (eVar 10) (aCons (eBin dIx (eVar 1) (eVar 10)) aNil)))))))
 (sSeq (sSet 5 (eCall c._law_expression [] (aCons (eVar 0) (aCons (eVar 3) (aCons (eVar 4) (aCons (eVar 2) (aCons (eC (.a (.int (1)))) aNil)))))))
 (sSeq (sSet 6 (eTup (aCons (eC (.a (.str "is"))) (aCons (eVar 5) (aCons (eCall c._law_expression [] (aCons (eVar 0) (aCons (eVar 3) (aCons (eVar 4) (aCons (eVar 2) (aCons (eC (.a (.int (1)))) aNil)))))) aNil)))))
 (sSeq (sSet 7 (eCall c._law_free [] (aCons (eVar 6) aNil)))
 (sSeq (sFor (iR1 (eCall c._law_pick [] (aCons (eVar 0) (aCons (eC (.a (.int (27)))) aNil)))) (gN 8)
 (sSeq (sSet 9 (eIxL (aKeysOf (eVar 1)) (eCall c._law_pick [] (aCons (eVar 0) (aCons (eCallB dLen (aCons (eVar 1) aNil)) aNil)))))
 (sSeq (sIf (tBin dEq (eBin dIx (eVar 1) (eVar 9)) (eC (.a (.int (0)))))
 (sSeq (sSet 6 (eIxL (aCons (eTup (aCons (eC (.a (.str "all"))) (aCons (eVar 9) (aCons (eVar 6) aNil)))) (aCons (eTup (aCons (eC (.a (.str "some"))) (aCons (eVar 9) (aCons (eVar 6) aNil)))) (aCons (eTup (aCons (eC (.a (.str "allbelow"))) (aCons (eVar 9) (aCons (eC (.a (.int (12)))) (aCons (eVar 6) aNil))))) aNil))) (eCall c._law_pick [] (aCons (eVar 0) (aCons (eC (.a (.int (3)))) aNil)))))
 sNil)
 (sSeq (sIf (tOr (tBin dEq (eBin dIx (eVar 1) (eVar 9)) (eC (.a (.int (1))))) (tBin dNotIn (eVar 9) (eVar 7)))
 (sSeq (sSet 6 (eTup (aCons (eIxL (aCons (eC (.a (.str "allrow"))) (aCons (eC (.a (.str "somerow"))) aNil)) (eCall c._law_pick [] (aCons (eVar 0) (aCons (eC (.a (.int (2)))) aNil)))) (aCons (eVar 9) (aCons (eVar 6) aNil)))))
 sNil)
 sNil)
 sNil))
 sNil)))
 (sSeq (sRet (eVar 6))
 sNil)))))))
noncomputable def b__law_filled (c c1 : Tb) : SX :=
 (sSeq (sIf (tOf (eCallB dIsi (aCons (eVar 0) (aCons (eC (.a (.ty "str"))) aNil))))
 (sSeq (sRet (eGet2 (eVar 1) (eVar 0) (eVar 0)))
 sNil)
 sNil)
 (sSeq (sIf (tOf (eCallB dIsi (aCons (eVar 0) (aCons (eC (.a (.ty "int"))) aNil))))
 (sSeq (sRet (eVar 0))
 sNil)
 sNil)
 (sSeq (sSet 2 (eCall c._law_rebuilt [] (aCons (eVar 0) (aCons (eOfL (aLc (iSeq (eCall c._law_items [] (aCons (eVar 0) aNil))) (gN 3) (List.map (fun p => p.2) ([("item", 3)] : List (Str × Nat))) tTrue (eCall c._law_filled [] (aCons (eVar 3) (aCons (eVar 1) aNil))))) aNil))))
 (sSeq (sIf (tBin dEq (eBin dIx (eVar 0) (eC (.a (.int (0))))) (eC (.a (.str "look"))))
 (sSeq (sRet (eBin dAdd (eTup (aCons (eC (.a (.str "look"))) (aCons (eGet2 (eVar 1) (eBin dIx (eVar 0) (eC (.a (.int (1))))) (eBin dIx (eVar 0) (eC (.a (.int (1)))))) aNil))) (eCut (eVar 2) (oSome (eC (.a (.int (2))))) oNone)))
 sNil)
 sNil)
 (sSeq (sRet (eVar 2))
 sNil)))))
noncomputable def b__law_plain (c c1 : Tb) : SX :=
 (sSeq (sIf (tBin dEq (eBin dIx (eVar 0) (eC (.a (.int (0))))) (eC (.a (.str "is"))))
 (sSeq (sRet (eTup (aCons (eC (.a (.str "is"))) (aCons (eCall c._law_filled [] (aCons (eBin dIx (eVar 0) (eC (.a (.int (1))))) (aCons (eVar 1) aNil))) (aCons (eCall c._law_filled [] (aCons (eBin dIx (eVar 0) (eC (.a (.int (2))))) (aCons (eVar 1) aNil))) aNil)))))
 sNil)
 sNil)
 (sSeq (sIf (tBin dIn (eBin dIx (eVar 0) (eC (.a (.int (0))))) (eOfL (aCons (eC (.a (.str "and"))) (aCons (eC (.a (.str "if"))) aNil))))
 (sSeq (sRet (eTup (aCons (eBin dIx (eVar 0) (eC (.a (.int (0))))) (aCons (eCall c._law_plain [] (aCons (eBin dIx (eVar 0) (eC (.a (.int (1))))) (aCons (eVar 1) (aCons (eVar 2) aNil)))) (aCons (eCall c._law_plain [] (aCons (eBin dIx (eVar 0) (eC (.a (.int (2))))) (aCons (eVar 1) (aCons (eVar 2) aNil)))) aNil)))))
 sNil)
 sNil)
 (sSeq (sSet 3 (eBin dAdd (eC (.a (.str "B"))) (eCallB dStr (aCons (eVar 2) aNil))))
 (sSeq (sRet (eBin dAdd (eBin dAdd (eTup (aCons (eBin dIx (eVar 0) (eC (.a (.int (0))))) (aCons (eVar 3) aNil))) (eCut (eVar 0) (oSome (eC (.a (.int (2))))) (oSome (eUn dNeg (eC (.a (.int (1)))))))) (eTup (aCons (eCall c._law_plain [] (aCons (eBin dIx (eVar 0) (eUn dNeg (eC (.a (.int (1)))))) (aCons (eCall c._law_with [] (aCons (eVar 1) (aCons (eBin dIx (eVar 0) (eC (.a (.int (1))))) (aCons (eVar 3) aNil)))) (aCons (eBin dAdd (eVar 2) (eC (.a (.int (1))))) aNil)))) aNil))))
 sNil))))
noncomputable def b__law_renamed (c c1 : Tb) : SX :=
 (sSeq (sIf (tBin dEq (eBin dIx (eVar 1) (eC (.a (.int (0))))) (eC (.a (.str "is"))))
 (sSeq (sRet (eTup (aCons (eC (.a (.str "is"))) (aCons (eCall c._law_filled [] (aCons (eBin dIx (eVar 1) (eC (.a (.int (1))))) (aCons (eVar 2) aNil))) (aCons (eCall c._law_filled [] (aCons (eBin dIx (eVar 1) (eC (.a (.int (2))))) (aCons (eVar 2) aNil))) aNil)))))
 sNil)
 sNil)
 (sSeq (sIf (tBin dIn (eBin dIx (eVar 1) (eC (.a (.int (0))))) (eOfL (aCons (eC (.a (.str "and"))) (aCons (eC (.a (.str "if"))) aNil))))
 (sSeq (sSet 4 (eCall c._law_renamed [] (aCons (eVar 0) (aCons (eBin dIx (eVar 1) (eC (.a (.int (1))))) (aCons (eVar 2) (aCons (eVar 3) aNil))))))
 (sSeq (sRet (eTup (aCons (eBin dIx (eVar 1) (eC (.a (.int (0))))) (aCons (eVar 4) (aCons (eCall c._law_renamed [] (aCons (eVar 0) (aCons (eBin dIx (eVar 1) (eC (.a (.int (2))))) (aCons (eVar 2) (aCons (eVar 3) aNil))))) aNil)))))
 sNil))
 sNil)
 (sSeq (sSet 5 (eOfL (aLc (iSeq (eCall c._law_free [] (aCons (eBin dIx (eVar 1) (eUn dNeg (eC (.a (.int (1)))))) aNil))) (gN 6) (List.map (fun p => p.2) ([("word", 6)] : List (Str × Nat))) (tBin dNe (eVar 6) (eBin dIx (eVar 1) (eC (.a (.int (1)))))) (eGet2 (eVar 2) (eVar 6) (eVar 6)))))
 (sSeq (sSet 6 (eBin dIx (eVar 3) (eCall c._law_pick [] (aCons (eVar 0) (aCons (eCallB dLen (aCons (eVar 3) aNil)) aNil)))))
 (sSeq (sIf (tOr (tBin dIn (eVar 6) (eVar 5)) (tBin dEq (eCall c._law_pick [] (aCons (eVar 0) (aCons (eC (.a (.int (4)))) aNil))) (eC (.a (.int (0))))))
 (sSeq (sSet 6 (eCall c._law_new [] (aCons (eVar 0) (aCons (eVar 5) aNil))))
 sNil)
 sNil)
 (sSeq (sRet (eBin dAdd (eBin dAdd (eTup (aCons (eBin dIx (eVar 1) (eC (.a (.int (0))))) (aCons (eVar 6) aNil))) (eCut (eVar 1) (oSome (eC (.a (.int (2))))) (oSome (eUn dNeg (eC (.a (.int (1)))))))) (eTup (aCons (eCall c._law_renamed [] (aCons (eVar 0) (aCons (eBin dIx (eVar 1) (eUn dNeg (eC (.a (.int (1)))))) (aCons (eCall c._law_with [] (aCons (eVar 2) (aCons (eBin dIx (eVar 1) (eC (.a (.int (1))))) (aCons (eVar 6) aNil)))) (aCons (eVar 3) aNil))))) aNil))))
 sNil))))))
noncomputable def b__law_uses_in (c c1 : Tb) : SX :=
 (sSeq (sIf (tOf (eCallB dIsi (aCons (eVar 0) (aCons (eC (.a (.ty "str"))) aNil))))
 (sSeq (sRet (eOfL (aCons (eTup (aCons (eVar 0) (aCons (eC (.a (.int (0)))) aNil))) aNil)))
 sNil)
 sNil)
 (sSeq (sIf (tOf (eCallB dIsi (aCons (eVar 0) (aCons (eC (.a (.ty "int"))) aNil))))
 (sSeq (sRet (eOfL aNil))
 sNil)
 sNil)
 (sSeq (sSet 1 (eOfL aNil))
 (sSeq (sIf (tBin dEq (eBin dIx (eVar 0) (eC (.a (.int (0))))) (eC (.a (.str "look"))))
 (sSeq (sDo (eMeth "list" dAppend (eVar 1) (aCons (eTup (aCons (eBin dIx (eVar 0) (eC (.a (.int (1))))) (aCons (eBin dSub (eCallB dLen (aCons (eVar 0) aNil)) (eC (.a (.int (2))))) aNil))) aNil)))
 sNil)
 sNil)
 (sSeq (sFor (iSeq (eCall c._law_items [] (aCons (eVar 0) aNil))) (gN 2)
 (sSeq (sSet 1 (eBin dAdd (eVar 1) (eCall c._law_uses_in [] (aCons (eVar 2) aNil))))
 sNil))
 (sSeq (sRet (eVar 1))
 sNil))))))
noncomputable def b__law_uses (c c1 : Tb) : SX :=
 (sSeq (sIf (tBin dEq (eBin dIx (eVar 0) (eC (.a (.int (0))))) (eC (.a (.str "is"))))
 (sSeq (sRet (eBin dAdd (eCall c._law_uses_in [] (aCons (eBin dIx (eVar 0) (eC (.a (.int (1))))) aNil)) (eCall c._law_uses_in [] (aCons (eBin dIx (eVar 0) (eC (.a (.int (2))))) aNil))))
 sNil)
 sNil)
 (sSeq (sIf (tBin dIn (eBin dIx (eVar 0) (eC (.a (.int (0))))) (eOfL (aCons (eC (.a (.str "and"))) (aCons (eC (.a (.str "if"))) aNil))))
 (sSeq (sRet (eBin dAdd (eCall c._law_uses [] (aCons (eBin dIx (eVar 0) (eC (.a (.int (1))))) aNil)) (eCall c._law_uses [] (aCons (eBin dIx (eVar 0) (eC (.a (.int (2))))) aNil))))
 sNil)
 sNil)
 (sSeq (sSet 1 (eOfL aNil))
 (sSeq (sIf (tAnd (tBin dEq (eCallB dLen (aCons (eVar 0) aNil)) (eC (.a (.int (4))))) (tNot (tCh dLe dLe (eC (.a (.int (1)))) (eBin dIx (eVar 0) (eC (.a (.int (2))))) (eC (.a (.int (12)))))))
 (sSeq (sDo (eMeth "list" dAppend (eVar 1) (aCons (eTup (aCons (eC (.a (.str ""))) (aCons (eC (.a (.int (0)))) aNil))) aNil)))
 sNil)
 sNil)
 (sSeq (sFor (iSeq (eCall c._law_uses [] (aCons (eBin dIx (eVar 0) (eUn dNeg (eC (.a (.int (1)))))) aNil))) (gN 2)
 (sSeq (sIf (tBin dNe (eBin dIx (eVar 2) (eC (.a (.int (0))))) (eBin dIx (eVar 0) (eC (.a (.int (1))))))
 (sSeq (sDo (eMeth "list" dAppend (eVar 1) (aCons (eVar 2) aNil)))
 sNil)
 (sSeq (sIf (tBin dNe (eBin dIx (eVar 2) (eC (.a (.int (1))))) (eCallB dInt (aCons (eBin dIn (eBin dIx (eVar 0) (eC (.a (.int (0))))) (eOfL (aCons (eC (.a (.str "allrow"))) (aCons (eC (.a (.str "somerow"))) aNil)))) aNil)))
 (sSeq (sDo (eMeth "list" dAppend (eVar 1) (aCons (eTup (aCons (eC (.a (.str ""))) (aCons (eC (.a (.int (0)))) aNil))) aNil)))
 sNil)
 sNil)
 sNil))
 sNil))
 (sSeq (sRet (eVar 1))
 sNil))))))
noncomputable def b__law_fits (c c1 : Tb) : SX :=
 (sSeq (sSet 1 eDict0)
 (sSeq (sFor (iSeq (eCall c._law_uses [] (aCons (eVar 0) aNil))) (gN 2)
 (sSeq (sIf (tOr (tBin dEq (eBin dIx (eVar 2) (eC (.a (.int (0))))) (eC (.a (.str "")))) (tBin dNe (eGet2 (eVar 1) (eBin dIx (eVar 2) (eC (.a (.int (0))))) (eBin dIx (eVar 2) (eC (.a (.int (1)))))) (eBin dIx (eVar 2) (eC (.a (.int (1)))))))
 (sSeq (sRet (eC (.a (.bl false))))
 sNil)
 sNil)
 (sSeq (sPut (eBin dIx (eVar 2) (eC (.a (.int (1))))) (eVar 1) (eBin dIx (eVar 2) (eC (.a (.int (0))))))
 sNil)))
 (sSeq (sRet (eC (.a (.bl true))))
 sNil)))
noncomputable def b__law_leaves (c c1 : Tb) : SX :=
 (sSeq (sIf (tNot (tOf (eCallB dIsi (aCons (eVar 0) (aCons (eC (.a (.ty "tuple"))) aNil)))))
 (sSeq (sRet (eOfL (aCons (eVar 1) aNil)))
 sNil)
 sNil)
 (sSeq (sSet 2 (eOfL aNil))
 (sSeq (sFor (iR1 (eCallB dLen (aCons (eVar 0) aNil))) (gN 3)
 (sSeq (sSet 2 (eBin dAdd (eVar 2) (eCall c._law_leaves [] (aCons (eBin dIx (eVar 0) (eVar 3)) (aCons (eBin dAdd (eVar 1) (eTup (aCons (eVar 3) aNil))) aNil)))))
 sNil))
 (sSeq (sRet (eVar 2))
 sNil))))
noncomputable def b__law_other_leaf (c c1 : Tb) : SX :=
 (sSeq (sIf (tOf (eCallB dIsi (aCons (eVar 1) (aCons (eC (.a (.ty "int"))) aNil))))
 (sSeq (sRet (eIxL (aCons (eCallB dMin2 (aCons (eBin dAdd (eVar 1) (eC (.a (.int (1))))) (aCons (eC (.a (.int (999999999)))) aNil))) (aCons (eCallB dMax2 (aCons (eBin dSub (eVar 1) (eC (.a (.int (1))))) (aCons (eC (.a (.int (0)))) aNil))) (aCons (eCall c._law_number [] (aCons (eVar 0) aNil)) (aCons (eBin dAdd (eC (.a (.int (1)))) (eCall c._law_pick [] (aCons (eVar 0) (aCons (eC (.a (.int (12)))) aNil)))) aNil)))) (eCall c._law_pick [] (aCons (eVar 0) (aCons (eC (.a (.int (4)))) aNil)))))
 sNil)
 sNil)
 (sSeq (sIf (tBin dGt (eBin dIx (eVar 2) (eUn dNeg (eC (.a (.int (1)))))) (eC (.a (.int (0)))))
 (sSeq (sRet (eBin dIx (eBin dAdd (eVar 3) (eOfL (aCons (eCall c._law_new [] (aCons (eVar 0) (aCons (eOfL aNil) aNil))) aNil))) (eCall c._law_pick [] (aCons (eVar 0) (aCons (eBin dAdd (eCallB dLen (aCons (eVar 3) aNil)) (eC (.a (.int (1))))) aNil)))))
 sNil)
 sNil)
 (sSeq (sSet 4 (eOfL (aCons (eOfL (aCons (eC (.a (.str "plus"))) (aCons (eC (.a (.str "minus"))) (aCons (eC (.a (.str "times"))) (aCons (eC (.a (.str "div"))) (aCons (eC (.a (.str "rem"))) (aCons (eC (.a (.str "least"))) (aCons (eC (.a (.str "greatest"))) (aCons (eC (.a (.str "same"))) (aCons (eC (.a (.str "below"))) aNil)))))))))) (aCons (eOfL (aCons (eC (.a (.str "and"))) (aCons (eC (.a (.str "if"))) aNil))) aNil))))
 (sSeq (sSet 4 (eBin dAdd (eVar 4) (eOfL (aCons (eOfL (aCons (eC (.a (.str "all"))) (aCons (eC (.a (.str "some"))) (aCons (eC (.a (.str "allrow"))) (aCons (eC (.a (.str "somerow"))) aNil))))) (aCons (eOfL (aCons (eC (.a (.str "allbelow"))) (aCons (eC (.a (.str "somebelow"))) aNil))) aNil)))))
 (sSeq (sFor (iSeq (eVar 4)) (gN 5)
 (sSeq (sIf (tBin dIn (eVar 1) (eVar 5))
 (sSeq (sRet (eBin dIx (eVar 5) (eCall c._law_pick [] (aCons (eVar 0) (aCons (eCallB dLen (aCons (eVar 5) aNil)) aNil)))))
 sNil)
 sNil)
 sNil))
 (sSeq (sRet (eVar 1))
 sNil))))))
noncomputable def b__law_changed (c c1 : Tb) : SX :=
 (sSeq (sSet 3 (eCall c._law_leaves [] (aCons (eVar 1) (aCons (eTup aNil) aNil))))
 (sSeq (sFor (iR1 (eC (.a (.int (8))))) (gN 4)
 (sSeq (sSet 5 (eBin dIx (eVar 3) (eCall c._law_pick [] (aCons (eVar 0) (aCons (eCallB dLen (aCons (eVar 3) aNil)) aNil)))))
 (sSeq (sSet 6 (eVar 1))
 (sSeq (sFor (iSeq (eVar 5)) (gN 7)
 (sSeq (sSet 6 (eBin dIx (eVar 6) (eVar 7)))
 sNil))
 (sSeq (sSet 8 (eCall c._law_put [] (aCons (eVar 1) (aCons (eVar 5) (aCons (eCall c._law_other_leaf [] (aCons (eVar 0) (aCons (eVar 6) (aCons (eVar 5) (aCons (eVar 2) aNil))))) aNil)))))
 (sSeq (sIf (tAnd (tBin dNe (eVar 8) (eVar 1)) (tOf (eCall c._law_fits [] (aCons (eVar 8) aNil))))
 (sSeq (sRet (eVar 8))
 sNil)
 sNil)
 sNil))))))
 (sSeq (sRet (eVar 1))
 sNil)))
noncomputable def b_law (c c1 : Tb) : SX :=
 (sSeq (sSet 1 (eCall c._law_start [] (aCons (eVar 0) aNil)))
 (sSeq (sSet 2 (eCall c._law_names [] (aCons (eVar 1) (aCons (eOfL aNil) (aCons (eC (.a (.int (5)))) aNil)))))
 (sSeq (sSet 3 eDict0)
 (sSeq (sFor (iR1 (eC (.a (.int (3))))) (gN 4)
 (sSeq (sPut (eC (.a (.int (0)))) (eVar 3) (eBin dIx (eVar 2) (eVar 4)))
 sNil))
 (sSeq (sPut (eC (.a (.int (1)))) (eVar 3) (eBin dIx (eVar 2) (eC (.a (.int (3))))))
 (sSeq (sPut (eBin dAdd (eC (.a (.int (1)))) (eCall c._law_pick [] (aCons (eVar 1) (aCons (eC (.a (.int (3)))) aNil)))) (eVar 3) (eBin dIx (eVar 2) (eC (.a (.int (4))))))
 (sSeq (sSet 5 (eDisp (pCons (eBin dIx (eVar 2) (eCall c._law_pick [] (aCons (eVar 1) (aCons (eC (.a (.int (5)))) aNil)))) (eTup (aCons (eTup (aCons (eC (.a (.str "a"))) aNil)) (aCons (eC (.a (.str "a"))) aNil))) (pCons (eCall c._law_new [] (aCons (eVar 1) (aCons (eOfL aNil) aNil))) (eTup (aCons (eTup (aCons (eC (.a (.str "a"))) aNil)) (aCons (eC (.a (.str "a"))) aNil))) pNil))))
 (sSeq (sIf (tBin dEq (eCall c._law_pick [] (aCons (eVar 1) (aCons (eC (.a (.int (4)))) aNil))) (eC (.a (.int (0)))))
 (sSeq (sSet 6 (eCall c._law_tower [] (aCons (eVar 1) (aCons (eVar 3) (aCons (eVar 5) aNil)))))
 sNil)
 (sSeq (sSet 6 (eCall c._law_met [] (aCons (eVar 1) (aCons (eVar 3) (aCons (eVar 5) (aCons (eCall c._law_pick [] (aCons (eVar 1) (aCons (eC (.a (.int (6)))) aNil))) (aCons (eOfL (aCons (eC (.a (.int (3)))) aNil)) aNil)))))))
 sNil))
 (sSeq (sSet 7 (eCall c._law_renamed [] (aCons (eVar 1) (aCons (eVar 6) (aCons eDict0 (aCons (eVar 2) aNil))))))
 (sSeq (sSet 8 (eCall c._law_changed [] (aCons (eVar 1) (aCons (eVar 6) (aCons (eVar 2) aNil)))))
 (sSeq (sSet 9 (eOfL (aCons (eVar 6) (aCons (eVar 7) (aCons (eVar 8) (aCons (eCall c._law_changed [] (aCons (eVar 1) (aCons (eVar 7) (aCons (eVar 2) aNil)))) (aCons (eCall c._law_renamed [] (aCons (eVar 1) (aCons (eVar 8) (aCons eDict0 (aCons (eVar 2) aNil))))) aNil)))))))
 (sSeq (sDo (eMeth "list" dAppend (eVar 9) (aCons (eCall c._law_met [] (aCons (eVar 1) (aCons (eVar 3) (aCons (eVar 5) (aCons (eCall c._law_pick [] (aCons (eVar 1) (aCons (eC (.a (.int (3)))) aNil))) (aCons (eOfL (aCons (eC (.a (.int (1)))) aNil)) aNil)))))) aNil)))
 (sSeq (sSet 10 (eOfL (aLc (iSeq (eVar 9)) (gN 14) (List.map (fun p => p.2) ([("one", 14)] : List (Str × Nat))) tTrue (eCall c._law_plain [] (aCons (eVar 14) (aCons eDict0 (aCons (eC (.a (.int (0)))) aNil)))))))
 (sSeq (sSet 11 (eOfL aNil))
 (sSeq (sFor (iR1 (eCallB dLen (aCons (eVar 9) aNil))) (gN 12)
 (sSeq (sSet 11 (eBin dAdd (eVar 11) (eOfL (aLc (iR1 (eCallB dLen (aCons (eVar 9) aNil))) (gN 4) (List.map (fun p => p.2) ([("k", 4)] : List (Str × Nat))) tTrue (eTup (aCons (eVar 12) (aCons (eVar 4) aNil)))))))
 sNil))
 (sSeq (sFor (iSeq (eBin dAdd (eVar 11) (eOfL (aCons (eTup (aCons (eC (.a (.int (0)))) (aCons (eC (.a (.int (1)))) aNil))) (aCons (eTup (aCons (eC (.a (.int (2)))) (aCons (eC (.a (.int (0)))) aNil))) (aCons (eTup (aCons (eC (.a (.int (3)))) (aCons (eC (.a (.int (1)))) aNil))) aNil)))))) (gN 13)
 (sSeq (sIf (tNot (tOf (eCall c._law_same [] (aCons (eCall c.are_alike [] (aCons (eBin dIx (eVar 9) (eBin dIx (eVar 13) (eC (.a (.int (0)))))) (aCons (eBin dIx (eVar 9) (eBin dIx (eVar 13) (eC (.a (.int (1)))))) aNil))) (aCons (eBin dEq (eBin dIx (eVar 10) (eBin dIx (eVar 13) (eC (.a (.int (0)))))) (eBin dIx (eVar 10) (eBin dIx (eVar 13) (eC (.a (.int (1))))))) aNil)))))
 (sSeq (sRet (eC (.a (.bl false))))
 sNil)
 sNil)
 sNil))
 (sSeq (sRet (eC (.a (.bl true))))
 sNil)))))))))))))))))
def tb0 : Tb := ⟨badF, badF, badF, badF, badF, badF, badF, badF, badF, badF, badF, badF, badF, badF, badF, badF, badF, badF, badF, badF, badF, badF, badF, badF, badF, badF, badF, badF, badF, badF, badF⟩
noncomputable def nextTb (c c1 : Tb) : Tb := ⟨defSem 1 1 (b_items_start c c1),
  defSem 1 1 (b_inner_end c c1),
  defSem 4 4 (b_same_words c c1),
  defSem 4 7 (b_alike_expressions c c1),
  defSem 5 8 (b_alike_parts c c1),
  defSem 2 2 (b_are_alike c c1),
  defSem 1 3 (b__law_start c c1),
  defSem 2 5 (b__law_pick c c1),
  defSem 2 3 (b__law_same c c1),
  defSem 1 2 (b__law_number c c1),
  defSem 5 14 (b__law_expression c c1),
  defSem 2 7 (b__law_new c c1),
  defSem 3 5 (b__law_names c c1),
  defSem 3 4 (b__law_with c c1),
  defSem 5 14 (b__law_met c c1),
  defSem 1 1 (b__law_items c c1),
  defSem 2 2 (b__law_rebuilt c c1),
  defSem 1 3 (b__law_words c c1),
  defSem 1 2 (b__law_free c c1),
  defSem 3 3 (b__law_put c c1),
  defSem 3 11 (b__law_tower c c1),
  defSem 2 4 (b__law_filled c c1),
  defSem 3 4 (b__law_plain c c1),
  defSem 4 7 (b__law_renamed c c1),
  defSem 1 3 (b__law_uses_in c c1),
  defSem 1 3 (b__law_uses c c1),
  defSem 1 3 (b__law_fits c c1),
  defSem 2 4 (b__law_leaves c c1),
  defSem 4 6 (b__law_other_leaf c c1),
  defSem 3 9 (b__law_changed c c1),
  defSem 1 15 (b_law c c1)⟩
noncomputable def sem : Nat → Tb
  | 0 => tb0
  | 1 => tb0
  | k + 2 => nextTb (sem (k + 1)) (sem k)
theorem sem_next (k : Nat) : sem (k + 2) = nextTb (sem (k + 1)) (sem k) := rfl
theorem e_items_start (k : Nat) : (sem (k + 2)).items_start = defSem 1 1 (b_items_start (sem (k + 1)) (sem k)) := by rw [sem_next]; rfl
theorem e_inner_end (k : Nat) : (sem (k + 2)).inner_end = defSem 1 1 (b_inner_end (sem (k + 1)) (sem k)) := by rw [sem_next]; rfl
theorem e_same_words (k : Nat) : (sem (k + 2)).same_words = defSem 4 4 (b_same_words (sem (k + 1)) (sem k)) := by rw [sem_next]; rfl
theorem e_alike_expressions (k : Nat) : (sem (k + 2)).alike_expressions = defSem 4 7 (b_alike_expressions (sem (k + 1)) (sem k)) := by rw [sem_next]; rfl
theorem e_alike_parts (k : Nat) : (sem (k + 2)).alike_parts = defSem 5 8 (b_alike_parts (sem (k + 1)) (sem k)) := by rw [sem_next]; rfl
theorem e_are_alike (k : Nat) : (sem (k + 2)).are_alike = defSem 2 2 (b_are_alike (sem (k + 1)) (sem k)) := by rw [sem_next]; rfl
theorem e__law_start (k : Nat) : (sem (k + 2))._law_start = defSem 1 3 (b__law_start (sem (k + 1)) (sem k)) := by rw [sem_next]; rfl
theorem e__law_pick (k : Nat) : (sem (k + 2))._law_pick = defSem 2 5 (b__law_pick (sem (k + 1)) (sem k)) := by rw [sem_next]; rfl
theorem e__law_same (k : Nat) : (sem (k + 2))._law_same = defSem 2 3 (b__law_same (sem (k + 1)) (sem k)) := by rw [sem_next]; rfl
theorem e__law_number (k : Nat) : (sem (k + 2))._law_number = defSem 1 2 (b__law_number (sem (k + 1)) (sem k)) := by rw [sem_next]; rfl
theorem e__law_expression (k : Nat) : (sem (k + 2))._law_expression = defSem 5 14 (b__law_expression (sem (k + 1)) (sem k)) := by rw [sem_next]; rfl
theorem e__law_new (k : Nat) : (sem (k + 2))._law_new = defSem 2 7 (b__law_new (sem (k + 1)) (sem k)) := by rw [sem_next]; rfl
theorem e__law_names (k : Nat) : (sem (k + 2))._law_names = defSem 3 5 (b__law_names (sem (k + 1)) (sem k)) := by rw [sem_next]; rfl
theorem e__law_with (k : Nat) : (sem (k + 2))._law_with = defSem 3 4 (b__law_with (sem (k + 1)) (sem k)) := by rw [sem_next]; rfl
theorem e__law_met (k : Nat) : (sem (k + 2))._law_met = defSem 5 14 (b__law_met (sem (k + 1)) (sem k)) := by rw [sem_next]; rfl
theorem e__law_items (k : Nat) : (sem (k + 2))._law_items = defSem 1 1 (b__law_items (sem (k + 1)) (sem k)) := by rw [sem_next]; rfl
theorem e__law_rebuilt (k : Nat) : (sem (k + 2))._law_rebuilt = defSem 2 2 (b__law_rebuilt (sem (k + 1)) (sem k)) := by rw [sem_next]; rfl
theorem e__law_words (k : Nat) : (sem (k + 2))._law_words = defSem 1 3 (b__law_words (sem (k + 1)) (sem k)) := by rw [sem_next]; rfl
theorem e__law_free (k : Nat) : (sem (k + 2))._law_free = defSem 1 2 (b__law_free (sem (k + 1)) (sem k)) := by rw [sem_next]; rfl
theorem e__law_put (k : Nat) : (sem (k + 2))._law_put = defSem 3 3 (b__law_put (sem (k + 1)) (sem k)) := by rw [sem_next]; rfl
theorem e__law_tower (k : Nat) : (sem (k + 2))._law_tower = defSem 3 11 (b__law_tower (sem (k + 1)) (sem k)) := by rw [sem_next]; rfl
theorem e__law_filled (k : Nat) : (sem (k + 2))._law_filled = defSem 2 4 (b__law_filled (sem (k + 1)) (sem k)) := by rw [sem_next]; rfl
theorem e__law_plain (k : Nat) : (sem (k + 2))._law_plain = defSem 3 4 (b__law_plain (sem (k + 1)) (sem k)) := by rw [sem_next]; rfl
theorem e__law_renamed (k : Nat) : (sem (k + 2))._law_renamed = defSem 4 7 (b__law_renamed (sem (k + 1)) (sem k)) := by rw [sem_next]; rfl
theorem e__law_uses_in (k : Nat) : (sem (k + 2))._law_uses_in = defSem 1 3 (b__law_uses_in (sem (k + 1)) (sem k)) := by rw [sem_next]; rfl
theorem e__law_uses (k : Nat) : (sem (k + 2))._law_uses = defSem 1 3 (b__law_uses (sem (k + 1)) (sem k)) := by rw [sem_next]; rfl
theorem e__law_fits (k : Nat) : (sem (k + 2))._law_fits = defSem 1 3 (b__law_fits (sem (k + 1)) (sem k)) := by rw [sem_next]; rfl
theorem e__law_leaves (k : Nat) : (sem (k + 2))._law_leaves = defSem 2 4 (b__law_leaves (sem (k + 1)) (sem k)) := by rw [sem_next]; rfl
theorem e__law_other_leaf (k : Nat) : (sem (k + 2))._law_other_leaf = defSem 4 6 (b__law_other_leaf (sem (k + 1)) (sem k)) := by rw [sem_next]; rfl
theorem e__law_changed (k : Nat) : (sem (k + 2))._law_changed = defSem 3 9 (b__law_changed (sem (k + 1)) (sem k)) := by rw [sem_next]; rfl
theorem e_law (k : Nat) : (sem (k + 2)).law = defSem 1 15 (b_law (sem (k + 1)) (sem k)) := by rw [sem_next]; rfl
/-- what the top has written -/
structure Facts (w : World) (K : PySem.W.Frag) (mg : Str → Option Value) : Prop where
  c_law : DefF K mg "law" "law" st_law ["script"]
  c__law_same : DefF K mg "_law_same" "_law_same" st__law_same ["actual", "due"]
  c_are_alike : DefF K mg "are_alike" "are_alike" st_are_alike ["first", "second"]
  c__law_plain : DefF K mg "_law_plain" "_law_plain" st__law_plain ["s", "env", "depth"]
  c__law_met : DefF K mg "_law_met" "_law_met" st__law_met ["state", "names", "functions", "levels", "room"]
  c__law_pick : DefF K mg "_law_pick" "_law_pick" st__law_pick ["state", "limit"]
  c__law_renamed : DefF K mg "_law_renamed" "_law_renamed" st__law_renamed ["state", "s", "env", "words"]
  c__law_changed : DefF K mg "_law_changed" "_law_changed" st__law_changed ["state", "s", "words"]
  c__law_tower : DefF K mg "_law_tower" "_law_tower" st__law_tower ["state", "names", "functions"]
  c__law_new : DefF K mg "_law_new" "_law_new" st__law_new ["state", "used"]
  c__law_names : DefF K mg "_law_names" "_law_names" st__law_names ["state", "used", "many"]
  c__law_start : DefF K mg "_law_start" "_law_start" st__law_start ["script"]
  c_alike_parts : DefF K mg "alike_parts" "alike_parts" st_alike_parts ["first", "second", "ones", "others", "depth"]
  c__law_with : DefF K mg "_law_with" "_law_with" st__law_with ["env", "name", "worth"]
  c__law_filled : DefF K mg "_law_filled" "_law_filled" st__law_filled ["e", "env"]
  c__law_expression : DefF K mg "_law_expression" "_law_expression" st__law_expression ["state", "numbers", "rows", "functions", "levels"]
  c__law_free : DefF K mg "_law_free" "_law_free" st__law_free ["s"]
  c__law_fits : DefF K mg "_law_fits" "_law_fits" st__law_fits ["s"]
  c__law_put : DefF K mg "_law_put" "_law_put" st__law_put ["term", "path", "part"]
  c__law_other_leaf : DefF K mg "_law_other_leaf" "_law_other_leaf" st__law_other_leaf ["state", "leaf", "path", "words"]
  c__law_leaves : DefF K mg "_law_leaves" "_law_leaves" st__law_leaves ["term", "path"]
  c_alike_expressions : DefF K mg "alike_expressions" "alike_expressions" st_alike_expressions ["first", "second", "ones", "others"]
  c__law_rebuilt : DefF K mg "_law_rebuilt" "_law_rebuilt" st__law_rebuilt ["e", "items"]
  c__law_items : DefF K mg "_law_items" "_law_items" st__law_items ["e"]
  c__law_number : DefF K mg "_law_number" "_law_number" st__law_number ["state"]
  c__law_words : DefF K mg "_law_words" "_law_words" st__law_words ["e"]
  c__law_uses : DefF K mg "_law_uses" "_law_uses" st__law_uses ["s"]
  c_inner_end : DefF K mg "inner_end" "inner_end" st_inner_end ["expression"]
  c_items_start : DefF K mg "items_start" "items_start" st_items_start ["expression"]
  c_same_words : DefF K mg "same_words" "same_words" st_same_words ["first", "second", "ones", "others"]
  c__law_uses_in : DefF K mg "_law_uses_in" "_law_uses_in" st__law_uses_in ["e"]
  z_all : mg "all" = none
  z_bool : mg "bool" = none
  z_int : mg "int" = none
  z_isinstance : mg "isinstance" = none
  z_len : mg "len" = none
  z_list : mg "list" = none
  z_max : mg "max" = none
  z_min : mg "min" = none
  z_range : mg "range" = none
  z_sorted : mg "sorted" = none
  z_str : mg "str" = none
  z_tuple : mg "tuple" = none
  kd_BOUND_KINDS : KdT w K mg "BOUND_KINDS" [("all", (.int (0))), ("some", (.int (0))), ("allbelow", (.int (0))), ("somebelow", (.int (0))), ("allrow", (.int (1))), ("somerow", (.int (1)))]
structure Cals (P : Program) (w : World) (K : PySem.W.Frag) (mg : Str → Option Value) (base : Heap) (k : Nat) (t : Tb) : Prop where
  c_law : Cal P w K mg base k "law" [] t.law
  c__law_same : Cal P w K mg base k "_law_same" [] t._law_same
  c_are_alike : Cal P w K mg base k "are_alike" [] t.are_alike
  c__law_plain : Cal P w K mg base k "_law_plain" [] t._law_plain
  c__law_met : Cal P w K mg base k "_law_met" [] t._law_met
  c__law_pick : Cal P w K mg base k "_law_pick" [] t._law_pick
  c__law_renamed : Cal P w K mg base k "_law_renamed" [] t._law_renamed
  c__law_changed : Cal P w K mg base k "_law_changed" [] t._law_changed
  c__law_tower : Cal P w K mg base k "_law_tower" [] t._law_tower
  c__law_new : Cal P w K mg base k "_law_new" [] t._law_new
  c__law_names : Cal P w K mg base k "_law_names" [] t._law_names
  c__law_start : Cal P w K mg base k "_law_start" [] t._law_start
  c_alike_parts : Cal P w K mg base k "alike_parts" [] t.alike_parts
  c__law_with : Cal P w K mg base k "_law_with" [] t._law_with
  c__law_filled : Cal P w K mg base k "_law_filled" [] t._law_filled
  c__law_expression : Cal P w K mg base k "_law_expression" [] t._law_expression
  c__law_free : Cal P w K mg base k "_law_free" [] t._law_free
  c__law_fits : Cal P w K mg base k "_law_fits" [] t._law_fits
  c__law_put : Cal P w K mg base k "_law_put" [] t._law_put
  c__law_other_leaf : Cal P w K mg base k "_law_other_leaf" [] t._law_other_leaf
  c__law_leaves : Cal P w K mg base k "_law_leaves" [] t._law_leaves
  c_alike_expressions : Cal P w K mg base k "alike_expressions" [] t.alike_expressions
  c__law_rebuilt : Cal P w K mg base k "_law_rebuilt" [] t._law_rebuilt
  c__law_items : Cal P w K mg base k "_law_items" [] t._law_items
  c__law_number : Cal P w K mg base k "_law_number" [] t._law_number
  c__law_words : Cal P w K mg base k "_law_words" [] t._law_words
  c__law_uses : Cal P w K mg base k "_law_uses" [] t._law_uses
  c_inner_end : Cal P w K mg base k "inner_end" [] t.inner_end
  c_items_start : Cal P w K mg base k "items_start" [] t.items_start
  c_same_words : Cal P w K mg base k "same_words" [] t.same_words
  c__law_uses_in : Cal P w K mg base k "_law_uses_in" [] t._law_uses_in
section
variable {P : Program} {w : World} {K : PySem.W.Frag} {mg : Str → Option Value} {base : Heap} {k : Nat} {c c1 : Tb}
abbrev NN_items_start : List Str := ["expression"]
theorem sc_items_start : FnScope ["expression"] ["expression"] (defScope st_items_start) := ⟨rfl, rfl, rfl, by decide +kernel, rfl, by decide +kernel, by decide +kernel⟩
theorem ok_items_start (F : Facts w K mg) (G0 : Cals P w K mg base (k + 1) c) (G1 : Cals P w K mg base k c1) : BodyOk P w K mg base (k + 1) ["expression"] "items_start" (defScope st_items_start) (defBody st_items_start) (b_items_start c c1) := by
  intro f cd A outer s H E hr tk hp
  have hu := hu_of hr
  unfold b_items_start
  exact (gs_cons (gs_if (gt_w (gw_or (gt_cmp (o_eq hr.units) (ge_ix hu (ge_var (pv 0)) ge_int) ge_str (by rfl)) (gw_or1 (gt_cmp (o_eq hr.units) (ge_ix hu (ge_var (pv 0)) ge_int) ge_str (by rfl)))))
 (gs_cons (gs_ret ge_int)
 gs_nil)
 gs_nil)
 (gs_cons (gs_ret ge_int)
 gs_nil))
abbrev NN_inner_end : List Str := ["expression"]
theorem sc_inner_end : FnScope ["expression"] ["expression"] (defScope st_inner_end) := ⟨rfl, rfl, rfl, by decide +kernel, rfl, by decide +kernel, by decide +kernel⟩
theorem ok_inner_end (F : Facts w K mg) (G0 : Cals P w K mg base (k + 1) c) (G1 : Cals P w K mg base k c1) : BodyOk P w K mg base (k + 1) ["expression"] "inner_end" (defScope st_inner_end) (defBody st_inner_end) (b_inner_end c c1) := by
  intro f cd A outer s H E hr tk hp
  have hu := hu_of hr
  unfold b_inner_end
  exact (gs_cons (gs_if (gt_cmp (o_eq hr.units) (ge_ix hu (ge_var (pv 0)) ge_int) ge_str (by rfl))
 (gs_cons (gs_ret ge_int)
 gs_nil)
 gs_nil)
 (gs_cons (gs_ret (ge_callB c_len rfl F.z_len bt_len (ga_cons (ge_var (pv 0)) ga_nil)))
 gs_nil))
abbrev NN_same_words : List Str := ["first", "second", "ones", "others"]
theorem sc_same_words : FnScope ["first", "second", "ones", "others"] ["first", "second", "ones", "others"] (defScope st_same_words) := ⟨rfl, rfl, rfl, by decide +kernel, rfl, by decide +kernel, by decide +kernel⟩
theorem ok_same_words (F : Facts w K mg) (G0 : Cals P w K mg base (k + 1) c) (G1 : Cals P w K mg base k c1) : BodyOk P w K mg base (k + 1) ["first", "second", "ones", "others"] "same_words" (defScope st_same_words) (defBody st_same_words) (b_same_words c c1) := by
  intro f cd A outer s H E hr tk hp
  have hu := hu_of hr
  unfold b_same_words
  exact (gs_cons (gs_if (gt_w (gw_or (gt_cmp (o_in hu) (ge_var (pv 0)) (ge_var (pv 2)) (by rfl)) (gw_or1 (gt_cmp (o_in hu) (ge_var (pv 1)) (ge_var (pv 3)) (by rfl)))))
 (gs_cons (gs_ret (ge_and (ge_cmp (o_in hu) (ge_var (pv 0)) (ge_var (pv 2)) (by rfl)) (ge_and (ge_cmp (o_in hu) (ge_var (pv 1)) (ge_var (pv 3)) (by rfl)) (ge_one (ge_cmp (o_eq hr.units) (ge_ix hu (ge_var (pv 2)) (ge_var (pv 0))) (ge_ix hu (ge_var (pv 3)) (ge_var (pv 1))) (by rfl))))))
 gs_nil)
 gs_nil)
 (gs_cons (gs_ret (ge_cmp (o_eq hr.units) (ge_var (pv 0)) (ge_var (pv 1)) (by rfl)))
 gs_nil))
abbrev NN_alike_expressions : List Str := ["first", "second", "ones", "others", "start", "end", "k"]
theorem sc_alike_expressions : FnScope ["first", "second", "ones", "others", "start", "end", "k"] ["first", "second", "ones", "others"] (defScope st_alike_expressions) := ⟨rfl, rfl, rfl, by decide +kernel, rfl, by decide +kernel, by decide +kernel⟩
theorem ok_alike_expressions (F : Facts w K mg) (G0 : Cals P w K mg base (k + 1) c) (G1 : Cals P w K mg base k c1) : BodyOk P w K mg base (k + 1) ["first", "second", "ones", "others", "start", "end", "k"] "alike_expressions" (defScope st_alike_expressions) (defBody st_alike_expressions) (b_alike_expressions c c1) := by
  intro f cd A outer s H E hr tk hp
  have hu := hu_of hr
  unfold b_alike_expressions
  exact (gs_cons (gs_if (gt_of (ge_isT (ge_var (pv 0)) F.z_str bt_str rfl rfl F.z_isinstance))
 (gs_cons (gs_ret (ge_and (ge_isT (ge_var (pv 1)) F.z_str bt_str rfl rfl F.z_isinstance) (ge_one (ge_call G0.c_same_words hr rfl tk (ga_cons (ge_var (pv 0)) (ga_cons (ge_var (pv 1)) (ga_cons (ge_var (pv 2)) (ga_cons (ge_var (pv 3)) ga_nil))))))))
 gs_nil)
 gs_nil)
 (gs_cons (gs_if (gt_w (gw_or (gt_of (ge_isT (ge_var (pv 0)) F.z_int bt_int rfl rfl F.z_isinstance)) (gw_or1 (gt_not (gt_of (ge_isT (ge_var (pv 1)) F.z_tuple bt_tuple rfl rfl F.z_isinstance))))))
 (gs_cons (gs_ret (ge_cmp (o_eq hr.units) (ge_var (pv 0)) (ge_var (pv 1)) (by rfl)))
 gs_nil)
 gs_nil)
 (gs_cons (gs_if (gt_w (gw_or (gt_cmp (o_ne hr.units) (ge_ix hu (ge_var (pv 0)) ge_int) (ge_ix hu (ge_var (pv 1)) ge_int) (by rfl)) (gw_or1 (gt_cmp (o_ne hr.units) (ge_callB c_len rfl F.z_len bt_len (ga_cons (ge_var (pv 0)) ga_nil)) (ge_callB c_len rfl F.z_len bt_len (ga_cons (ge_var (pv 1)) ga_nil)) (by rfl)))))
 (gs_cons (gs_ret ge_bl)
 gs_nil)
 gs_nil)
 (gs_cons (gs_if (gt_w (gw_and (gt_cmp (o_eq hr.units) (ge_ix hu (ge_var (pv 0)) ge_int) ge_str (by rfl)) (gw_and1 (gt_not (gt_of (ge_call G0.c_same_words hr rfl tk (ga_cons (ge_ix hu (ge_var (pv 0)) ge_int) (ga_cons (ge_ix hu (ge_var (pv 1)) ge_int) (ga_cons (ge_var (pv 2)) (ga_cons (ge_var (pv 3)) ga_nil))))))))))
 (gs_cons (gs_ret ge_bl)
 gs_nil)
 gs_nil)
 (gs_cons (gs_set (i := 4) sc_alike_expressions.nd rfl (by first | exact Or.inl rfl | exact Or.inr rfl) (ge_call G0.c_items_start hr rfl tk (ga_cons (ge_var (pv 0)) ga_nil)))
 (gs_cons (gs_set (i := 5) sc_alike_expressions.nd rfl (by first | exact Or.inl rfl | exact Or.inr rfl) (ge_call G0.c_inner_end hr rfl tk (ga_cons (ge_var (pv 0)) ga_nil)))
 (gs_cons (gs_if (gt_w (gw_or (gt_w (gw_and (gt_cmp (o_eq hr.units) (ge_ix hu (ge_var (pv 0)) ge_int) ge_str (by rfl)) (gw_and1 (gt_cmp (o_ne hr.units) (ge_ix hu (ge_var (pv 0)) ge_int) (ge_ix hu (ge_var (pv 1)) ge_int) (by rfl))))) (gw_or1 (gt_cmp (o_ne hr.units) (ge_cut (ge_var (pv 0)) (go_some (ge_var (pv 5))) go_none) (ge_cut (ge_var (pv 1)) (go_some (ge_var (pv 5))) go_none) (by rfl)))))
 (gs_cons (gs_ret ge_bl)
 gs_nil)
 gs_nil)
 (gs_cons (gs_ret (ge_callBT (c_tmp (c_all (by rfl))) rfl F.z_all bt_all (gl_lc (own := [("k", 6)]) (by rfl) sc_alike_expressions.nd (gi_range2 rfl F.z_range (ge_var (pv 4)) (ge_var (pv 5))) (blkOk_by (N := NN_alike_expressions) (sc := defScope st_alike_expressions) (by decide +kernel)) (fun _ _ _ _ _ => (gg_name (i := 6) sc_alike_expressions.nd rfl (by first | exact Or.inl rfl | exact Or.inr rfl))) (by decide) (fun _ _ _ _ _ => gts_nil) (fun _ _ _ _ _ => (ge_call G0.c_alike_expressions hr rfl takes_none5 (ga_cons (ge_ix hu (ge_var (pv 0)) (ge_var (pv 6))) (ga_cons (ge_ix hu (ge_var (pv 1)) (ge_var (pv 6))) (ga_cons (ge_var (pv 2)) (ga_cons (ge_var (pv 3)) ga_nil)))))))))
 gs_nil))))))))
abbrev NN_alike_parts : List Str := ["first", "second", "ones", "others", "depth", "head", "inner", "k"]
theorem sc_alike_parts : FnScope ["first", "second", "ones", "others", "depth", "head", "inner", "k"] ["first", "second", "ones", "others", "depth"] (defScope st_alike_parts) := ⟨rfl, rfl, rfl, by decide +kernel, rfl, by decide +kernel, by decide +kernel⟩
theorem ok_alike_parts (F : Facts w K mg) (G0 : Cals P w K mg base (k + 1) c) (G1 : Cals P w K mg base k c1) : BodyOk P w K mg base (k + 1) ["first", "second", "ones", "others", "depth", "head", "inner", "k"] "alike_parts" (defScope st_alike_parts) (defBody st_alike_parts) (b_alike_parts c c1) := by
  intro f cd A outer s H E hr tk hp
  have hu := hu_of hr
  unfold b_alike_parts
  exact (gs_cons (gs_set (i := 5) sc_alike_parts.nd rfl (by first | exact Or.inl rfl | exact Or.inr rfl) (ge_ix hu (ge_var (pv 0)) ge_int))
 (gs_cons (gs_if (gt_cmp (o_ne hr.units) (ge_var (pv 5)) (ge_ix hu (ge_var (pv 1)) ge_int) (by rfl))
 (gs_cons (gs_ret ge_bl)
 gs_nil)
 gs_nil)
 (gs_cons (gs_if (gt_inC F.kd_BOUND_KINDS rfl (ge_var (pv 5)))
 (gs_cons (gs_if (gt_cmp (o_ne hr.units) (ge_cut (ge_var (pv 0)) (go_some ge_int) (go_some (ge_un u_neg ge_int))) (ge_cut (ge_var (pv 1)) (go_some ge_int) (go_some (ge_un u_neg ge_int))) (by rfl))
 (gs_cons (gs_ret ge_bl)
 gs_nil)
 gs_nil)
 (gs_cons (gs_set (i := 6) sc_alike_parts.nd rfl (by first | exact Or.inl rfl | exact Or.inr rfl) (ge_star (ge_var (pv 2)) (ge_ix hu (ge_var (pv 0)) ge_int) (ge_var (pv 4))))
 (gs_cons (gs_ret (ge_call G0.c_alike_parts hr rfl tk (ga_cons (ge_ix hu (ge_var (pv 0)) (ge_un u_neg ge_int)) (ga_cons (ge_ix hu (ge_var (pv 1)) (ge_un u_neg ge_int)) (ga_cons (ge_var (pv 6)) (ga_cons (ge_star (ge_var (pv 3)) (ge_ix hu (ge_var (pv 1)) ge_int) (ge_var (pv 4))) (ga_cons (ge_op o_add (ge_var (pv 4)) ge_int) ga_nil)))))))
 gs_nil)))
 gs_nil)
 (gs_cons (gs_if (gt_cmp (o_eq hr.units) (ge_var (pv 5)) ge_str (by rfl))
 (gs_cons (gs_ret (ge_callBT (c_tmp (c_all (by rfl))) rfl F.z_all bt_all (gl_lc (own := [("k", 7)]) (by rfl) sc_alike_parts.nd (gi_seq (ge_tup (ga_cons ge_int (ga_cons ge_int ga_nil)))) (blkOk_by (N := NN_alike_parts) (sc := defScope st_alike_parts) (by decide +kernel)) (fun _ _ _ _ _ => (gg_name (i := 7) sc_alike_parts.nd rfl (by first | exact Or.inl rfl | exact Or.inr rfl))) (by decide) (fun _ _ _ _ _ => gts_nil) (fun _ _ _ _ _ => (ge_call G0.c_alike_expressions hr rfl takes_none5 (ga_cons (ge_ix hu (ge_var (pv 0)) (ge_var (pv 7))) (ga_cons (ge_ix hu (ge_var (pv 1)) (ge_var (pv 7))) (ga_cons (ge_var (pv 2)) (ga_cons (ge_var (pv 3)) ga_nil)))))))))
 gs_nil)
 gs_nil)
 (gs_cons (gs_ret (ge_callBT (c_tmp (c_all (by rfl))) rfl F.z_all bt_all (gl_lc (own := [("k", 7)]) (by rfl) sc_alike_parts.nd (gi_seq (ge_tup (ga_cons ge_int (ga_cons ge_int ga_nil)))) (blkOk_by (N := NN_alike_parts) (sc := defScope st_alike_parts) (by decide +kernel)) (fun _ _ _ _ _ => (gg_name (i := 7) sc_alike_parts.nd rfl (by first | exact Or.inl rfl | exact Or.inr rfl))) (by decide) (fun _ _ _ _ _ => gts_nil) (fun _ _ _ _ _ => (ge_call G0.c_alike_parts hr rfl takes_none5 (ga_cons (ge_ix hu (ge_var (pv 0)) (ge_var (pv 7))) (ga_cons (ge_ix hu (ge_var (pv 1)) (ge_var (pv 7))) (ga_cons (ge_var (pv 2)) (ga_cons (ge_var (pv 3)) (ga_cons (ge_var (pv 4)) ga_nil))))))))))
 gs_nil)))))
abbrev NN_are_alike : List Str := ["first", "second"]
theorem sc_are_alike : FnScope ["first", "second"] ["first", "second"] (defScope st_are_alike) := ⟨rfl, rfl, rfl, by decide +kernel, rfl, by decide +kernel, by decide +kernel⟩
theorem ok_are_alike (F : Facts w K mg) (G0 : Cals P w K mg base (k + 1) c) (G1 : Cals P w K mg base k c1) : BodyOk P w K mg base (k + 1) ["first", "second"] "are_alike" (defScope st_are_alike) (defBody st_are_alike) (b_are_alike c c1) := by
  intro f cd A outer s H E hr tk hp
  have hu := hu_of hr
  unfold b_are_alike
  exact (gs_cons (gs_ret (ge_or (ge_cmp (o_eq hr.units) (ge_var (pv 0)) (ge_var (pv 1)) (by rfl)) (ge_one (ge_call G0.c_alike_parts hr rfl tk (ga_cons (ge_var (pv 0)) (ga_cons (ge_var (pv 1)) (ga_cons ge_dict0 (ga_cons ge_dict0 (ga_cons ge_int ga_nil)))))))))
 gs_nil)
abbrev NN__law_start : List Str := ["script", "seed", "k"]
theorem sc__law_start : FnScope ["script", "seed", "k"] ["script"] (defScope st__law_start) := ⟨rfl, rfl, rfl, by decide +kernel, rfl, by decide +kernel, by decide +kernel⟩
theorem ok__law_start (F : Facts w K mg) (G0 : Cals P w K mg base (k + 1) c) (G1 : Cals P w K mg base k c1) : BodyOk P w K mg base (k + 1) ["script", "seed", "k"] "_law_start" (defScope st__law_start) (defBody st__law_start) (b__law_start c c1) := by
  intro f cd A outer s H E hr tk hp
  have hu := hu_of hr
  unfold b__law_start
  exact (gs_cons (gs_set (i := 1) sc__law_start.nd rfl (by first | exact Or.inl rfl | exact Or.inr rfl) ge_int)
 (gs_cons (gs_for hp (by rfl) (gi_range1 rfl F.z_range (ge_callB c_len rfl F.z_len bt_len (ga_cons (ge_var (pv 0)) ga_nil))) (gg_name (i := 2) sc__law_start.nd rfl (by first | exact Or.inl rfl | exact Or.inr rfl))
 (gs_cons (gs_set (i := 1) sc__law_start.nd rfl (by first | exact Or.inl rfl | exact Or.inr rfl) (ge_op o_mod (ge_op o_add (ge_op o_add (ge_op o_add (ge_op o_mul (ge_var (pv 1)) ge_int) (ge_op o_mod (ge_callTy c_int rfl F.z_int bt_int (ga_cons (ge_ix hu (ge_var (pv 0)) (ge_var (pv 2))) ga_nil)) ge_int)) (ge_var (pv 2))) ge_int) ge_int))
 gs_nil))
 (gs_cons (gs_ret (ge_ofL (gl_lst (ga_cons (ge_var (pv 1)) (ga_cons (ge_ofL (gl_listOf rfl F.z_list (ge_var (pv 0)))) (ga_cons ge_int (ga_cons ge_int ga_nil)))))))
 gs_nil)))
abbrev NN__law_pick : List Str := ["state", "limit", "rest", "cell", "mixed"]
theorem sc__law_pick : FnScope ["state", "limit", "rest", "cell", "mixed"] ["state", "limit"] (defScope st__law_pick) := ⟨rfl, rfl, rfl, by decide +kernel, rfl, by decide +kernel, by decide +kernel⟩
theorem ok__law_pick (F : Facts w K mg) (G0 : Cals P w K mg base (k + 1) c) (G1 : Cals P w K mg base k c1) : BodyOk P w K mg base (k + 1) ["state", "limit", "rest", "cell", "mixed"] "_law_pick" (defScope st__law_pick) (defBody st__law_pick) (b__law_pick c c1) := by
  intro f cd A outer s H E hr tk hp
  have hu := hu_of hr
  unfold b__law_pick
  exact (gs_cons (gs_if (gt_cmp o_ge (ge_ix hu (ge_var (pv 0)) ge_int) (ge_var (pv 1)) (by rfl))
 (gs_cons (gs_set (i := 2) sc__law_pick.nd rfl (by first | exact Or.inl rfl | exact Or.inr rfl) (ge_callTy c_int rfl F.z_int bt_int (ga_cons (ge_ix hu (ge_var (pv 0)) ge_int) ga_nil)))
 (gs_cons (gs_put hu (ge_op o_div (ge_var (pv 2)) (ge_var (pv 1))) (ge_var (pv 0)) ge_int)
 (gs_cons (gs_ret (ge_op o_mod (ge_var (pv 2)) (ge_var (pv 1))))
 gs_nil)))
 gs_nil)
 (gs_cons (gs_set (i := 3) sc__law_pick.nd rfl (by first | exact Or.inl rfl | exact Or.inr rfl) ge_int)
 (gs_cons (gs_if (gt_cmp o_lt (ge_ix hu (ge_var (pv 0)) ge_int) (ge_callB c_len rfl F.z_len bt_len (ga_cons (ge_ix hu (ge_var (pv 0)) ge_int) ga_nil)) (by rfl))
 (gs_cons (gs_set (i := 3) sc__law_pick.nd rfl (by first | exact Or.inl rfl | exact Or.inr rfl) (ge_callTy c_int rfl F.z_int bt_int (ga_cons (ge_ix hu (ge_ix hu (ge_var (pv 0)) ge_int) (ge_ix hu (ge_var (pv 0)) ge_int)) ga_nil)))
 (gs_cons (gs_put hu (ge_op o_add (ge_ix hu (ge_var (pv 0)) ge_int) ge_int) (ge_var (pv 0)) ge_int)
 (gs_cons (gs_if (gt_cmp o_lt (ge_var (pv 3)) ge_int (by rfl))
 (gs_cons (gs_set (i := 3) sc__law_pick.nd rfl (by first | exact Or.inl rfl | exact Or.inr rfl) (ge_op o_sub ge_int (ge_var (pv 3))))
 gs_nil)
 gs_nil)
 (gs_cons (gs_if (gt_cmp o_ge (ge_var (pv 3)) (ge_op o_pow ge_int ge_int) (by rfl))
 (gs_cons (gs_put hu (ge_op o_div (ge_var (pv 3)) (ge_var (pv 1))) (ge_var (pv 0)) ge_int)
 (gs_cons (gs_ret (ge_op o_mod (ge_var (pv 3)) (ge_var (pv 1))))
 gs_nil))
 gs_nil)
 gs_nil))))
 gs_nil)
 (gs_cons (gs_set (i := 4) sc__law_pick.nd rfl (by first | exact Or.inl rfl | exact Or.inr rfl) (ge_op o_mod (ge_op o_mul (ge_op o_add (ge_op o_add (ge_callTy c_int rfl F.z_int bt_int (ga_cons (ge_ix hu (ge_var (pv 0)) ge_int) ga_nil)) (ge_op o_mod (ge_var (pv 3)) ge_int)) ge_int) ge_int) ge_int))
 (gs_cons (gs_put hu (ge_op o_mod (ge_op o_add (ge_op o_mul (ge_var (pv 4)) ge_int) ge_int) ge_int) (ge_var (pv 0)) ge_int)
 (gs_cons (gs_ret (ge_op o_mod (ge_op o_div (ge_callTy c_int rfl F.z_int bt_int (ga_cons (ge_ix hu (ge_var (pv 0)) ge_int) ga_nil)) ge_int) (ge_var (pv 1))))
 gs_nil))))))
abbrev NN__law_same : List Str := ["actual", "due", "p"]
theorem sc__law_same : FnScope ["actual", "due", "p"] ["actual", "due"] (defScope st__law_same) := ⟨rfl, rfl, rfl, by decide +kernel, rfl, by decide +kernel, by decide +kernel⟩
theorem ok__law_same (F : Facts w K mg) (G0 : Cals P w K mg base (k + 1) c) (G1 : Cals P w K mg base k c1) : BodyOk P w K mg base (k + 1) ["actual", "due", "p"] "_law_same" (defScope st__law_same) (defBody st__law_same) (b__law_same c c1) := by
  intro f cd A outer s H E hr tk hp
  have hu := hu_of hr
  unfold b__law_same
  exact (gs_cons (gs_if (gt_of (ge_isT (ge_var (pv 1)) F.z_tuple bt_tuple rfl rfl F.z_isinstance))
 (gs_cons (gs_if (gt_w (gw_or (gt_not (gt_of (ge_isT (ge_var (pv 0)) F.z_tuple bt_tuple rfl rfl F.z_isinstance))) (gw_or1 (gt_cmp (o_ne hr.units) (ge_callB c_len rfl F.z_len bt_len (ga_cons (ge_var (pv 0)) ga_nil)) (ge_callB c_len rfl F.z_len bt_len (ga_cons (ge_var (pv 1)) ga_nil)) (by rfl)))))
 (gs_cons (gs_ret ge_bl)
 gs_nil)
 gs_nil)
 (gs_cons (gs_ret (ge_callBT (c_tmp (c_all (by rfl))) rfl F.z_all bt_all (gl_lc (own := [("p", 2)]) (by rfl) sc__law_same.nd (gi_range1 rfl F.z_range (ge_callB c_len rfl F.z_len bt_len (ga_cons (ge_var (pv 1)) ga_nil))) (blkOk_by (N := NN__law_same) (sc := defScope st__law_same) (by decide +kernel)) (fun _ _ _ _ _ => (gg_name (i := 2) sc__law_same.nd rfl (by first | exact Or.inl rfl | exact Or.inr rfl))) (by decide) (fun _ _ _ _ _ => gts_nil) (fun _ _ _ _ _ => (ge_call G0.c__law_same hr rfl takes_none5 (ga_cons (ge_ix hu (ge_var (pv 0)) (ge_var (pv 2))) (ga_cons (ge_ix hu (ge_var (pv 1)) (ge_var (pv 2))) ga_nil)))))))
 gs_nil))
 gs_nil)
 (gs_cons (gs_if (gt_cmp o_is (ge_var (pv 1)) ge_non (by rfl))
 (gs_cons (gs_ret (ge_cmp o_is (ge_var (pv 0)) ge_non (by rfl)))
 gs_nil)
 gs_nil)
 (gs_cons (gs_if (gt_of (ge_isT (ge_var (pv 1)) F.z_str bt_str rfl rfl F.z_isinstance))
 (gs_cons (gs_ret (ge_and (ge_isT (ge_var (pv 0)) F.z_str bt_str rfl rfl F.z_isinstance) (ge_one (ge_cmp (o_eq hr.units) (ge_var (pv 0)) (ge_var (pv 1)) (by rfl)))))
 gs_nil)
 gs_nil)
 (gs_cons (gs_if (gt_of (ge_isT (ge_var (pv 1)) F.z_bool bt_bool rfl rfl F.z_isinstance))
 (gs_cons (gs_ret (ge_and (ge_isT (ge_var (pv 0)) F.z_bool bt_bool rfl rfl F.z_isinstance) (ge_one (ge_cmp (o_eq hr.units) (ge_var (pv 0)) (ge_var (pv 1)) (by rfl)))))
 gs_nil)
 gs_nil)
 (gs_cons (gs_ret (ge_and (ge_isT (ge_var (pv 0)) F.z_int bt_int rfl rfl F.z_isinstance) (ge_and (ge_not (ge_isT (ge_var (pv 0)) F.z_bool bt_bool rfl rfl F.z_isinstance)) (ge_one (ge_cmp (o_eq hr.units) (ge_var (pv 0)) (ge_var (pv 1)) (by rfl))))))
 gs_nil)))))
abbrev NN__law_number : List Str := ["state", "way"]
theorem sc__law_number : FnScope ["state", "way"] ["state"] (defScope st__law_number) := ⟨rfl, rfl, rfl, by decide +kernel, rfl, by decide +kernel, by decide +kernel⟩
theorem ok__law_number (F : Facts w K mg) (G0 : Cals P w K mg base (k + 1) c) (G1 : Cals P w K mg base k c1) : BodyOk P w K mg base (k + 1) ["state", "way"] "_law_number" (defScope st__law_number) (defBody st__law_number) (b__law_number c c1) := by
  intro f cd A outer s H E hr tk hp
  have hu := hu_of hr
  unfold b__law_number
  exact (gs_cons (gs_set (i := 1) sc__law_number.nd rfl (by first | exact Or.inl rfl | exact Or.inr rfl) (ge_call G0.c__law_pick hr rfl tk (ga_cons (ge_var (pv 0)) (ga_cons ge_int ga_nil))))
 (gs_cons (gs_if (gt_cmp o_lt (ge_var (pv 1)) ge_int (by rfl))
 (gs_cons (gs_ret (ge_call G0.c__law_pick hr rfl tk (ga_cons (ge_var (pv 0)) (ga_cons ge_int ga_nil))))
 gs_nil)
 gs_nil)
 (gs_cons (gs_if (gt_cmp o_lt (ge_var (pv 1)) ge_int (by rfl))
 (gs_cons (gs_ret (ge_call G0.c__law_pick hr rfl tk (ga_cons (ge_var (pv 0)) (ga_cons ge_int ga_nil))))
 gs_nil)
 gs_nil)
 (gs_cons (gs_ret (ge_op o_sub ge_int (ge_call G0.c__law_pick hr rfl tk (ga_cons (ge_var (pv 0)) (ga_cons (ge_ixL (gl_lst (ga_cons ge_int (ga_cons ge_int ga_nil))) (ge_call G0.c__law_pick hr rfl tk (ga_cons (ge_var (pv 0)) (ga_cons ge_int ga_nil)))) ga_nil)))))
 gs_nil))))
abbrev NN__law_expression : List Str := ["state", "numbers", "rows", "functions", "levels", "way", "words", "word", "first", "second", "name", "more", "row", "k"]
theorem sc__law_expression : FnScope ["state", "numbers", "rows", "functions", "levels", "way", "words", "word", "first", "second", "name", "more", "row", "k"] ["state", "numbers", "rows", "functions", "levels"] (defScope st__law_expression) := ⟨rfl, rfl, rfl, by decide +kernel, rfl, by decide +kernel, by decide +kernel⟩
theorem ok__law_expression (F : Facts w K mg) (G0 : Cals P w K mg base (k + 1) c) (G1 : Cals P w K mg base k c1) : BodyOk P w K mg base (k + 1) ["state", "numbers", "rows", "functions", "levels", "way", "words", "word", "first", "second", "name", "more", "row", "k"] "_law_expression" (defScope st__law_expression) (defBody st__law_expression) (b__law_expression c c1) := by
  intro f cd A outer s H E hr tk hp
  have hu := hu_of hr
  unfold b__law_expression
  exact (gs_cons (gs_set (i := 5) sc__law_expression.nd rfl (by first | exact Or.inl rfl | exact Or.inr rfl) (ge_call G0.c__law_pick hr rfl tk (ga_cons (ge_var (pv 0)) (ga_cons ge_int ga_nil))))
 (gs_cons (gs_if (gt_w (gw_or (gt_cmp (o_eq hr.units) (ge_var (pv 4)) ge_int (by rfl)) (gw_or1 (gt_cmp o_lt (ge_var (pv 5)) ge_int (by rfl)))))
 (gs_cons (gs_if (gt_w (gw_and (gt_cmp o_gt (ge_callB c_len rfl F.z_len bt_len (ga_cons (ge_var (pv 1)) ga_nil)) ge_int (by rfl)) (gw_and1 (gt_cmp o_gt (ge_call G0.c__law_pick hr rfl tk (ga_cons (ge_var (pv 0)) (ga_cons ge_int ga_nil))) ge_int (by rfl)))))
 (gs_cons (gs_ret (ge_ix hu (ge_var (pv 1)) (ge_call G0.c__law_pick hr rfl tk (ga_cons (ge_var (pv 0)) (ga_cons (ge_callB c_len rfl F.z_len bt_len (ga_cons (ge_var (pv 1)) ga_nil)) ga_nil)))))
 gs_nil)
 gs_nil)
 (gs_cons (gs_ret (ge_call G0.c__law_number hr rfl tk (ga_cons (ge_var (pv 0)) ga_nil)))
 gs_nil))
 gs_nil)
 (gs_cons (gs_if (gt_cmp o_lt (ge_var (pv 5)) ge_int (by rfl))
 (gs_cons (gs_set (i := 6) sc__law_expression.nd rfl (by first | exact Or.inl rfl | exact Or.inr rfl) (ge_ofL (gl_lst (ga_cons ge_str (ga_cons ge_str (ga_cons ge_str (ga_cons ge_str (ga_cons ge_str (ga_cons ge_str (ga_cons ge_str (ga_cons ge_str (ga_cons ge_str ga_nil))))))))))))
 (gs_cons (gs_set (i := 7) sc__law_expression.nd rfl (by first | exact Or.inl rfl | exact Or.inr rfl) (ge_ix hu (ge_var (pv 6)) (ge_call G0.c__law_pick hr rfl tk (ga_cons (ge_var (pv 0)) (ga_cons ge_int ga_nil)))))
 (gs_cons (gs_set (i := 8) sc__law_expression.nd rfl (by first | exact Or.inl rfl | exact Or.inr rfl) (ge_call G0.c__law_expression hr rfl tk (ga_cons (ge_var (pv 0)) (ga_cons (ge_var (pv 1)) (ga_cons (ge_var (pv 2)) (ga_cons (ge_var (pv 3)) (ga_cons (ge_op o_sub (ge_var (pv 4)) ge_int) ga_nil)))))))
 (gs_cons (gs_ret (ge_tup (ga_cons (ge_var (pv 7)) (ga_cons (ge_var (pv 8)) (ga_cons (ge_call G0.c__law_expression hr rfl tk (ga_cons (ge_var (pv 0)) (ga_cons (ge_var (pv 1)) (ga_cons (ge_var (pv 2)) (ga_cons (ge_var (pv 3)) (ga_cons (ge_op o_sub (ge_var (pv 4)) ge_int) ga_nil)))))) ga_nil)))))
 gs_nil))))
 gs_nil)
 (gs_cons (gs_set (i := 8) sc__law_expression.nd rfl (by first | exact Or.inl rfl | exact Or.inr rfl) (ge_call G0.c__law_expression hr rfl tk (ga_cons (ge_var (pv 0)) (ga_cons (ge_var (pv 1)) (ga_cons (ge_var (pv 2)) (ga_cons (ge_var (pv 3)) (ga_cons (ge_op o_sub (ge_var (pv 4)) ge_int) ga_nil)))))))
 (gs_cons (gs_if (gt_cmp (o_eq hr.units) (ge_var (pv 5)) ge_int (by rfl))
 (gs_cons (gs_set (i := 9) sc__law_expression.nd rfl (by first | exact Or.inl rfl | exact Or.inr rfl) (ge_call G0.c__law_expression hr rfl tk (ga_cons (ge_var (pv 0)) (ga_cons (ge_var (pv 1)) (ga_cons (ge_var (pv 2)) (ga_cons (ge_var (pv 3)) (ga_cons (ge_op o_sub (ge_var (pv 4)) ge_int) ga_nil)))))))
 (gs_cons (gs_ret (ge_tup (ga_cons ge_str (ga_cons (ge_var (pv 8)) (ga_cons (ge_var (pv 9)) (ga_cons (ge_call G0.c__law_expression hr rfl tk (ga_cons (ge_var (pv 0)) (ga_cons (ge_var (pv 1)) (ga_cons (ge_var (pv 2)) (ga_cons (ge_var (pv 3)) (ga_cons (ge_op o_sub (ge_var (pv 4)) ge_int) ga_nil)))))) ga_nil))))))
 gs_nil))
 gs_nil)
 (gs_cons (gs_if (gt_cmp (o_eq hr.units) (ge_var (pv 5)) ge_int (by rfl))
 (gs_cons (gs_ret (ge_tup (ga_cons ge_str (ga_cons (ge_var (pv 8)) (ga_cons (ge_callTyT c_tupleT rfl F.z_tuple bt_tuple (gl_lc (own := [("k", 13)]) (by rfl) sc__law_expression.nd (gi_range1 rfl F.z_range (ge_call G0.c__law_pick hr rfl tk (ga_cons (ge_var (pv 0)) (ga_cons ge_int ga_nil)))) (blkOk_by (N := NN__law_expression) (sc := defScope st__law_expression) (by decide +kernel)) (fun _ _ _ _ _ => (gg_name (i := 13) sc__law_expression.nd rfl (by first | exact Or.inl rfl | exact Or.inr rfl))) (by decide) (fun _ _ _ _ _ => gts_nil) (fun _ _ _ _ _ => (ge_call G0.c__law_number hr rfl takes_none5 (ga_cons (ge_var (pv 0)) ga_nil))))) (ga_cons (ge_call G0.c__law_number hr rfl tk (ga_cons (ge_var (pv 0)) ga_nil)) ga_nil))))))
 gs_nil)
 gs_nil)
 (gs_cons (gs_if (gt_w (gw_and (gt_cmp (o_eq hr.units) (ge_var (pv 5)) ge_int (by rfl)) (gw_and1 (gt_cmp o_gt (ge_callB c_len rfl F.z_len bt_len (ga_cons (ge_var (pv 3)) ga_nil)) ge_int (by rfl)))))
 (gs_cons (gs_set (i := 10) sc__law_expression.nd rfl (by first | exact Or.inl rfl | exact Or.inr rfl) (ge_ix hu (ge_callB (c_sorted (by rfl)) rfl F.z_sorted bt_sorted (ga_cons (ge_var (pv 3)) ga_nil)) (ge_call G0.c__law_pick hr rfl tk (ga_cons (ge_var (pv 0)) (ga_cons (ge_callB c_len rfl F.z_len bt_len (ga_cons (ge_var (pv 3)) ga_nil)) ga_nil)))))
 (gs_cons (gs_setLc (i := 11) (own := [("k", 13)]) (by rfl) sc__law_expression.nd rfl rfl (sw_true rfl rfl rfl (by decide +kernel)) (gi_range1 rfl F.z_range (ge_op o_sub (ge_callB c_len rfl F.z_len bt_len (ga_cons (ge_ix hu (ge_ix hu (ge_var (pv 3)) (ge_var (pv 10))) ge_int) ga_nil)) ge_int)) (blkOk_by (N := NN__law_expression) (sc := defScope st__law_expression) (by decide +kernel)) (fun _ _ _ _ _ => (gg_name (i := 13) sc__law_expression.nd rfl (by first | exact Or.inl rfl | exact Or.inr rfl))) (by decide) (fun _ _ _ _ _ => gts_nil) (fun _ _ _ _ _ => (ge_call G0.c__law_expression hr rfl takes_none5 (ga_cons (ge_var (pv 0)) (ga_cons (ge_var (pv 1)) (ga_cons (ge_var (pv 2)) (ga_cons (ge_var (pv 3)) (ga_cons ge_int ga_nil))))))))
 (gs_cons (gs_ret (ge_op o_add (ge_tup (ga_cons ge_str (ga_cons (ge_var (pv 10)) (ga_cons (ge_var (pv 8)) ga_nil)))) (ge_callTy c_tuple rfl F.z_tuple bt_tuple (ga_cons (ge_var (pv 11)) ga_nil))))
 gs_nil)))
 gs_nil)
 (gs_cons (gs_if (gt_cmp (o_eq hr.units) (ge_callB c_len rfl F.z_len bt_len (ga_cons (ge_var (pv 2)) ga_nil)) ge_int (by rfl))
 (gs_cons (gs_ret (ge_var (pv 8)))
 gs_nil)
 gs_nil)
 (gs_cons (gs_set (i := 12) sc__law_expression.nd rfl (by first | exact Or.inl rfl | exact Or.inr rfl) (ge_ix hu (ge_var (pv 2)) (ge_call G0.c__law_pick hr rfl tk (ga_cons (ge_var (pv 0)) (ga_cons (ge_callB c_len rfl F.z_len bt_len (ga_cons (ge_var (pv 2)) ga_nil)) ga_nil)))))
 (gs_cons (gs_setLc (i := 11) (own := [("k", 13)]) (by rfl) sc__law_expression.nd rfl rfl (sw_true rfl rfl rfl (by decide +kernel)) (gi_range1 rfl F.z_range (ge_op o_sub (ge_ix hu (ge_var (pv 12)) ge_int) ge_int)) (blkOk_by (N := NN__law_expression) (sc := defScope st__law_expression) (by decide +kernel)) (fun _ _ _ _ _ => (gg_name (i := 13) sc__law_expression.nd rfl (by first | exact Or.inl rfl | exact Or.inr rfl))) (by decide) (fun _ _ _ _ _ => gts_nil) (fun _ _ _ _ _ => (ge_call G0.c__law_expression hr rfl takes_none5 (ga_cons (ge_var (pv 0)) (ga_cons (ge_var (pv 1)) (ga_cons (ge_var (pv 2)) (ga_cons (ge_var (pv 3)) (ga_cons ge_int ga_nil))))))))
 (gs_cons (gs_ret (ge_op o_add (ge_tup (ga_cons ge_str (ga_cons (ge_ix hu (ge_var (pv 12)) ge_int) (ga_cons (ge_var (pv 8)) ga_nil)))) (ge_callTy c_tuple rfl F.z_tuple bt_tuple (ga_cons (ge_var (pv 11)) ga_nil))))
 gs_nil)))))))))))
abbrev NN__law_new : List Str := ["state", "used", "letters", "heads", "way", "word", "k"]
theorem sc__law_new : FnScope ["state", "used", "letters", "heads", "way", "word", "k"] ["state", "used"] (defScope st__law_new) := ⟨rfl, rfl, rfl, by decide +kernel, rfl, by decide +kernel, by decide +kernel⟩
theorem ok__law_new (F : Facts w K mg) (G0 : Cals P w K mg base (k + 1) c) (G1 : Cals P w K mg base k c1) : BodyOk P w K mg base (k + 1) ["state", "used", "letters", "heads", "way", "word", "k"] "_law_new" (defScope st__law_new) (defBody st__law_new) (b__law_new c c1) := by
  intro f cd A outer s H E hr tk hp
  have hu := hu_of hr
  unfold b__law_new
  exact (gs_cons (gs_set (i := 2) sc__law_new.nd rfl (by first | exact Or.inl rfl | exact Or.inr rfl) ge_str)
 (gs_cons (gs_set (i := 3) sc__law_new.nd rfl (by first | exact Or.inl rfl | exact Or.inr rfl) (ge_ofL (gl_lst (ga_cons ge_str (ga_cons ge_str (ga_cons ge_str (ga_cons ge_str (ga_cons ge_str (ga_cons ge_str (ga_cons ge_str (ga_cons ge_str (ga_cons ge_str (ga_cons ge_str ga_nil)))))))))))))
 (gs_cons (gs_set (i := 4) sc__law_new.nd rfl (by first | exact Or.inl rfl | exact Or.inr rfl) (ge_call G0.c__law_pick hr rfl tk (ga_cons (ge_var (pv 0)) (ga_cons ge_int ga_nil))))
 (gs_cons (gs_set (i := 5) sc__law_new.nd rfl (by first | exact Or.inl rfl | exact Or.inr rfl) (ge_ix hu (ge_var (pv 2)) (ge_call G0.c__law_pick hr rfl tk (ga_cons (ge_var (pv 0)) (ga_cons ge_int ga_nil)))))
 (gs_cons (gs_if (gt_cmp (o_eq hr.units) (ge_var (pv 4)) ge_int (by rfl))
 (gs_cons (gs_set (i := 5) sc__law_new.nd rfl (by first | exact Or.inl rfl | exact Or.inr rfl) (ge_bm PySem.F.plainAttrs_str PySem.F.slot_str_join PySem.F.type_str_join m_join ge_str (ga_cons (ge_ofL (gl_lc (own := [("k", 6)]) (by rfl) sc__law_new.nd (gi_range1 rfl F.z_range (ge_op o_add ge_int (ge_call G0.c__law_pick hr rfl tk (ga_cons (ge_var (pv 0)) (ga_cons ge_int ga_nil))))) (blkOk_by (N := NN__law_new) (sc := defScope st__law_new) (by decide +kernel)) (fun _ _ _ _ _ => (gg_name (i := 6) sc__law_new.nd rfl (by first | exact Or.inl rfl | exact Or.inr rfl))) (by decide) (fun _ _ _ _ _ => gts_nil) (fun _ _ _ _ _ => (ge_ix hu (ge_var (pv 2)) (ge_call G0.c__law_pick hr rfl takes_none5 (ga_cons (ge_var (pv 0)) (ga_cons ge_int ga_nil))))))) ga_nil)))
 gs_nil)
 gs_nil)
 (gs_cons (gs_if (gt_cmp (o_eq hr.units) (ge_var (pv 4)) ge_int (by rfl))
 (gs_cons (gs_set (i := 5) sc__law_new.nd rfl (by first | exact Or.inl rfl | exact Or.inr rfl) (ge_ix hu (ge_var (pv 3)) (ge_call G0.c__law_pick hr rfl tk (ga_cons (ge_var (pv 0)) (ga_cons ge_int ga_nil)))))
 gs_nil)
 gs_nil)
 (gs_cons (gs_for hp (by rfl) (gi_range1 rfl F.z_range ge_int) (gg_name (i := 6) sc__law_new.nd rfl (by first | exact Or.inl rfl | exact Or.inr rfl))
 (gs_cons (gs_if (gt_cmp (o_notin hu) (ge_var (pv 5)) (ge_var (pv 1)) (by rfl))
 (gs_cons gs_break
 gs_nil)
 gs_nil)
 (gs_cons (gs_set (i := 5) sc__law_new.nd rfl (by first | exact Or.inl rfl | exact Or.inr rfl) (ge_op o_add (ge_ix hu (ge_var (pv 2)) (ge_op o_div (ge_var (pv 6)) ge_int)) (ge_ix hu (ge_var (pv 2)) (ge_op o_mod (ge_callTy c_int rfl F.z_int bt_int (ga_cons (ge_var (pv 6)) ga_nil)) ge_int))))
 gs_nil)))
 (gs_cons (gs_ret (ge_var (pv 5)))
 gs_nil))))))))
abbrev NN__law_names : List Str := ["state", "used", "many", "names", "k"]
theorem sc__law_names : FnScope ["state", "used", "many", "names", "k"] ["state", "used", "many"] (defScope st__law_names) := ⟨rfl, rfl, rfl, by decide +kernel, rfl, by decide +kernel, by decide +kernel⟩
theorem ok__law_names (F : Facts w K mg) (G0 : Cals P w K mg base (k + 1) c) (G1 : Cals P w K mg base k c1) : BodyOk P w K mg base (k + 1) ["state", "used", "many", "names", "k"] "_law_names" (defScope st__law_names) (defBody st__law_names) (b__law_names c c1) := by
  intro f cd A outer s H E hr tk hp
  have hu := hu_of hr
  unfold b__law_names
  exact (gs_cons (gs_set (i := 3) sc__law_names.nd rfl (by first | exact Or.inl rfl | exact Or.inr rfl) (ge_ofL (gl_lst ga_nil)))
 (gs_cons (gs_for hp (by rfl) (gi_range1 rfl F.z_range (ge_var (pv 2))) (gg_name (i := 4) sc__law_names.nd rfl (by first | exact Or.inl rfl | exact Or.inr rfl))
 (gs_cons (gs_do (ge_bm PySem.F.plainAttrs_list PySem.F.slot_list_append PySem.F.type_list_append m_append (ge_var (pv 3)) (ga_cons (ge_call G0.c__law_new hr rfl tk (ga_cons (ge_var (pv 0)) (ga_cons (ge_op o_add (ge_var (pv 1)) (ge_var (pv 3))) ga_nil))) ga_nil)))
 gs_nil))
 (gs_cons (gs_ret (ge_var (pv 3)))
 gs_nil)))
abbrev NN__law_with : List Str := ["env", "name", "worth", "more"]
theorem sc__law_with : FnScope ["env", "name", "worth", "more"] ["env", "name", "worth"] (defScope st__law_with) := ⟨rfl, rfl, rfl, by decide +kernel, rfl, by decide +kernel, by decide +kernel⟩
theorem ok__law_with (F : Facts w K mg) (G0 : Cals P w K mg base (k + 1) c) (G1 : Cals P w K mg base k c1) : BodyOk P w K mg base (k + 1) ["env", "name", "worth", "more"] "_law_with" (defScope st__law_with) (defBody st__law_with) (b__law_with c c1) := by
  intro f cd A outer s H E hr tk hp
  have hu := hu_of hr
  unfold b__law_with
  exact (gs_cons (gs_set (i := 3) sc__law_with.nd rfl (by first | exact Or.inl rfl | exact Or.inr rfl) (ge_bm0 PySem.F.plainAttrs_dict PySem.F.slot_dict_copy PySem.F.type_dict_copy m_copy (ge_var (pv 0))))
 (gs_cons (gs_put hu (ge_var (pv 2)) (ge_var (pv 3)) (ge_var (pv 1)))
 (gs_cons (gs_ret (ge_var (pv 3)))
 gs_nil)))
abbrev NN__law_met : List Str := ["state", "names", "functions", "levels", "room", "way", "numbers", "rows", "first", "head", "word", "start", "inner", "name"]
theorem sc__law_met : FnScope ["state", "names", "functions", "levels", "room", "way", "numbers", "rows", "first", "head", "word", "start", "inner", "name"] ["state", "names", "functions", "levels", "room"] (defScope st__law_met) := ⟨rfl, rfl, rfl, by decide +kernel, rfl, by decide +kernel, by decide +kernel⟩
theorem ok__law_met (F : Facts w K mg) (G0 : Cals P w K mg base (k + 1) c) (G1 : Cals P w K mg base k c1) : BodyOk P w K mg base (k + 1) ["state", "names", "functions", "levels", "room", "way", "numbers", "rows", "first", "head", "word", "start", "inner", "name"] "_law_met" (defScope st__law_met) (defBody st__law_met) (b__law_met c c1) := by
  intro f cd A outer s H E hr tk hp
  have hu := hu_of hr
  unfold b__law_met
  exact (gs_cons (gs_set (i := 5) sc__law_met.nd rfl (by first | exact Or.inl rfl | exact Or.inr rfl) (ge_call G0.c__law_pick hr rfl tk (ga_cons (ge_var (pv 0)) (ga_cons ge_int ga_nil))))
 (gs_cons (gs_if (gt_w (gw_or (gt_cmp (o_eq hr.units) (ge_var (pv 3)) ge_int (by rfl)) (gw_or1 (gt_cmp o_lt (ge_var (pv 5)) ge_int (by rfl)))))
 (gs_cons (gs_lock (i := 1) (gs_setLc (i := 6) (own := [("name", 13)]) (by rfl) sc__law_met.nd rfl rfl (sw_true rfl rfl rfl (by decide +kernel)) (gi_key (ge_var (pv 1))) (blkOk_by (N := NN__law_met) (sc := defScope st__law_met) (by decide +kernel)) (fun _ _ _ _ _ => (gg_name (i := 13) sc__law_met.nd rfl (by first | exact Or.inl rfl | exact Or.inr rfl))) (by decide) (fun _ _ _ _ _ => (gts_one (gt_cmp (o_eq hr.units) (ge_ix hu (ge_var (pv 1)) (ge_var (pv 13))) ge_int (by rfl)))) (fun _ _ _ _ _ => (ge_var (pv 13)))))
 (gs_cons (gs_lock (i := 1) (gs_setLc (i := 7) (own := [("name", 13)]) (by rfl) sc__law_met.nd rfl rfl (sw_true rfl rfl rfl (by decide +kernel)) (gi_key (ge_var (pv 1))) (blkOk_by (N := NN__law_met) (sc := defScope st__law_met) (by decide +kernel)) (fun _ _ _ _ _ => (gg_name (i := 13) sc__law_met.nd rfl (by first | exact Or.inl rfl | exact Or.inr rfl))) (by decide) (fun _ _ _ _ _ => (gts_one (gt_cmp o_gt (ge_ix hu (ge_var (pv 1)) (ge_var (pv 13))) ge_int (by rfl)))) (fun _ _ _ _ _ => (ge_tup (ga_cons (ge_var (pv 13)) (ga_cons (ge_ix hu (ge_var (pv 1)) (ge_var (pv 13))) ga_nil))))))
 (gs_cons (gs_set (i := 8) sc__law_met.nd rfl (by first | exact Or.inl rfl | exact Or.inr rfl) (ge_call G0.c__law_expression hr rfl tk (ga_cons (ge_var (pv 0)) (ga_cons (ge_var (pv 6)) (ga_cons (ge_var (pv 7)) (ga_cons (ge_var (pv 2)) (ga_cons (ge_call G0.c__law_pick hr rfl tk (ga_cons (ge_var (pv 0)) (ga_cons ge_int ga_nil))) ga_nil)))))))
 (gs_cons (gs_ret (ge_tup (ga_cons ge_str (ga_cons (ge_var (pv 8)) (ga_cons (ge_call G0.c__law_expression hr rfl tk (ga_cons (ge_var (pv 0)) (ga_cons (ge_var (pv 6)) (ga_cons (ge_var (pv 7)) (ga_cons (ge_var (pv 2)) (ga_cons (ge_call G0.c__law_pick hr rfl tk (ga_cons (ge_var (pv 0)) (ga_cons ge_int ga_nil))) ga_nil)))))) ga_nil)))))
 gs_nil))))
 gs_nil)
 (gs_cons (gs_if (gt_w (gw_and (gt_cmp o_lt (ge_var (pv 5)) ge_int (by rfl)) (gw_and1 (gt_cmp o_gt (ge_ix hu (ge_var (pv 4)) ge_int) ge_int (by rfl)))))
 (gs_cons (gs_put hu (ge_op o_sub (ge_ix hu (ge_var (pv 4)) ge_int) ge_int) (ge_var (pv 4)) ge_int)
 (gs_cons (gs_set (i := 8) sc__law_met.nd rfl (by first | exact Or.inl rfl | exact Or.inr rfl) (ge_call G0.c__law_met hr rfl tk (ga_cons (ge_var (pv 0)) (ga_cons (ge_var (pv 1)) (ga_cons (ge_var (pv 2)) (ga_cons (ge_op o_sub (ge_var (pv 3)) ge_int) (ga_cons (ge_var (pv 4)) ga_nil)))))))
 (gs_cons (gs_ret (ge_tup (ga_cons (ge_ixL (gl_lst (ga_cons ge_str (ga_cons ge_str ga_nil))) (ge_call G0.c__law_pick hr rfl tk (ga_cons (ge_var (pv 0)) (ga_cons ge_int ga_nil)))) (ga_cons (ge_var (pv 8)) (ga_cons (ge_call G0.c__law_met hr rfl tk (ga_cons (ge_var (pv 0)) (ga_cons (ge_var (pv 1)) (ga_cons (ge_var (pv 2)) (ga_cons (ge_op o_sub (ge_var (pv 3)) ge_int) (ga_cons (ge_var (pv 4)) ga_nil)))))) ga_nil)))))
 gs_nil)))
 gs_nil)
 (gs_cons (gs_set (i := 9) sc__law_met.nd rfl (by first | exact Or.inl rfl | exact Or.inr rfl) (ge_ixL (gl_lst (ga_cons ge_str (ga_cons ge_str (ga_cons ge_str (ga_cons ge_str (ga_cons ge_str (ga_cons ge_str ga_nil))))))) (ge_call G0.c__law_pick hr rfl tk (ga_cons (ge_var (pv 0)) (ga_cons ge_int ga_nil)))))
 (gs_cons (gs_set (i := 10) sc__law_met.nd rfl (by first | exact Or.inl rfl | exact Or.inr rfl) (ge_ixL (gl_keysOf (by rfl) rfl F.z_list (ge_var (pv 1))) (ge_call G0.c__law_pick hr rfl tk (ga_cons (ge_var (pv 0)) (ga_cons (ge_callB c_len rfl F.z_len bt_len (ga_cons (ge_var (pv 1)) ga_nil)) ga_nil)))))
 (gs_cons (gs_if (gt_cmp (o_eq hr.units) (ge_call G0.c__law_pick hr rfl tk (ga_cons (ge_var (pv 0)) (ga_cons ge_int ga_nil))) ge_int (by rfl))
 (gs_cons (gs_set (i := 10) sc__law_met.nd rfl (by first | exact Or.inl rfl | exact Or.inr rfl) (ge_call G0.c__law_new hr rfl tk (ga_cons (ge_var (pv 0)) (ga_cons (ge_ofL (gl_lst ga_nil)) ga_nil))))
 gs_nil)
 gs_nil)
 (gs_cons (gs_set (i := 11) sc__law_met.nd rfl (by first | exact Or.inl rfl | exact Or.inr rfl) (ge_tup (ga_cons (ge_var (pv 9)) (ga_cons (ge_var (pv 10)) ga_nil))))
 (gs_cons (gs_if (gt_cmp (o_in hu) (ge_var (pv 9)) (ge_ofL (gl_lst (ga_cons ge_str (ga_cons ge_str ga_nil)))) (by rfl))
 (gs_cons (gs_set (i := 11) sc__law_met.nd rfl (by first | exact Or.inl rfl | exact Or.inr rfl) (ge_tup (ga_cons (ge_var (pv 9)) (ga_cons (ge_var (pv 10)) (ga_cons (ge_op o_add ge_int (ge_call G0.c__law_pick hr rfl tk (ga_cons (ge_var (pv 0)) (ga_cons ge_int ga_nil)))) ga_nil)))))
 gs_nil)
 gs_nil)
 (gs_cons (gs_set (i := 12) sc__law_met.nd rfl (by first | exact Or.inl rfl | exact Or.inr rfl) (ge_call G0.c__law_with hr rfl tk (ga_cons (ge_var (pv 1)) (ga_cons (ge_var (pv 10)) (ga_cons (ge_callTy c_int rfl F.z_int bt_int (ga_cons (ge_cmp (o_in hu) (ge_var (pv 9)) (ge_ofL (gl_lst (ga_cons ge_str (ga_cons ge_str ga_nil)))) (by rfl)) ga_nil)) ga_nil)))))
 (gs_cons (gs_ret (ge_op o_add (ge_var (pv 11)) (ge_tup (ga_cons (ge_call G0.c__law_met hr rfl tk (ga_cons (ge_var (pv 0)) (ga_cons (ge_var (pv 12)) (ga_cons (ge_var (pv 2)) (ga_cons (ge_op o_sub (ge_var (pv 3)) ge_int) (ga_cons (ge_var (pv 4)) ga_nil)))))) ga_nil))))
 gs_nil))))))))))
abbrev NN__law_items : List Str := ["e"]
theorem sc__law_items : FnScope ["e"] ["e"] (defScope st__law_items) := ⟨rfl, rfl, rfl, by decide +kernel, rfl, by decide +kernel, by decide +kernel⟩
theorem ok__law_items (F : Facts w K mg) (G0 : Cals P w K mg base (k + 1) c) (G1 : Cals P w K mg base k c1) : BodyOk P w K mg base (k + 1) ["e"] "_law_items" (defScope st__law_items) (defBody st__law_items) (b__law_items c c1) := by
  intro f cd A outer s H E hr tk hp
  have hu := hu_of hr
  unfold b__law_items
  exact (gs_cons (gs_if (gt_cmp (o_eq hr.units) (ge_ix hu (ge_var (pv 0)) ge_int) ge_str (by rfl))
 (gs_cons (gs_ret (ge_ofL (gl_listOf rfl F.z_list (ge_cut (ge_var (pv 0)) (go_some ge_int) (go_some ge_int)))))
 gs_nil)
 gs_nil)
 (gs_cons (gs_if (gt_cmp (o_in hu) (ge_ix hu (ge_var (pv 0)) ge_int) (ge_ofL (gl_lst (ga_cons ge_str (ga_cons ge_str ga_nil)))) (by rfl))
 (gs_cons (gs_ret (ge_ofL (gl_listOf rfl F.z_list (ge_cut (ge_var (pv 0)) (go_some ge_int) go_none))))
 gs_nil)
 gs_nil)
 (gs_cons (gs_ret (ge_ofL (gl_listOf rfl F.z_list (ge_cut (ge_var (pv 0)) (go_some ge_int) go_none))))
 gs_nil)))
abbrev NN__law_rebuilt : List Str := ["e", "items"]
theorem sc__law_rebuilt : FnScope ["e", "items"] ["e", "items"] (defScope st__law_rebuilt) := ⟨rfl, rfl, rfl, by decide +kernel, rfl, by decide +kernel, by decide +kernel⟩
theorem ok__law_rebuilt (F : Facts w K mg) (G0 : Cals P w K mg base (k + 1) c) (G1 : Cals P w K mg base k c1) : BodyOk P w K mg base (k + 1) ["e", "items"] "_law_rebuilt" (defScope st__law_rebuilt) (defBody st__law_rebuilt) (b__law_rebuilt c c1) := by
  intro f cd A outer s H E hr tk hp
  have hu := hu_of hr
  unfold b__law_rebuilt
  exact (gs_cons (gs_if (gt_cmp (o_eq hr.units) (ge_ix hu (ge_var (pv 0)) ge_int) ge_str (by rfl))
 (gs_cons (gs_ret (ge_tup (ga_cons ge_str (ga_cons (ge_ix hu (ge_var (pv 1)) ge_int) (ga_cons (ge_ix hu (ge_var (pv 0)) ge_int) (ga_cons (ge_ix hu (ge_var (pv 0)) ge_int) ga_nil))))))
 gs_nil)
 gs_nil)
 (gs_cons (gs_if (gt_cmp (o_in hu) (ge_ix hu (ge_var (pv 0)) ge_int) (ge_ofL (gl_lst (ga_cons ge_str (ga_cons ge_str ga_nil)))) (by rfl))
 (gs_cons (gs_ret (ge_op o_add (ge_tup (ga_cons (ge_ix hu (ge_var (pv 0)) ge_int) (ga_cons (ge_ix hu (ge_var (pv 0)) ge_int) ga_nil))) (ge_callTy c_tuple rfl F.z_tuple bt_tuple (ga_cons (ge_var (pv 1)) ga_nil))))
 gs_nil)
 gs_nil)
 (gs_cons (gs_ret (ge_op o_add (ge_tup (ga_cons (ge_ix hu (ge_var (pv 0)) ge_int) ga_nil)) (ge_callTy c_tuple rfl F.z_tuple bt_tuple (ga_cons (ge_var (pv 1)) ga_nil))))
 gs_nil)))
abbrev NN__law_words : List Str := ["e", "found", "item"]
theorem sc__law_words : FnScope ["e", "found", "item"] ["e"] (defScope st__law_words) := ⟨rfl, rfl, rfl, by decide +kernel, rfl, by decide +kernel, by decide +kernel⟩
theorem ok__law_words (F : Facts w K mg) (G0 : Cals P w K mg base (k + 1) c) (G1 : Cals P w K mg base k c1) : BodyOk P w K mg base (k + 1) ["e", "found", "item"] "_law_words" (defScope st__law_words) (defBody st__law_words) (b__law_words c c1) := by
  intro f cd A outer s H E hr tk hp
  have hu := hu_of hr
  unfold b__law_words
  exact (gs_cons (gs_if (gt_of (ge_isT (ge_var (pv 0)) F.z_str bt_str rfl rfl F.z_isinstance))
 (gs_cons (gs_ret (ge_ofL (gl_lst (ga_cons (ge_var (pv 0)) ga_nil))))
 gs_nil)
 gs_nil)
 (gs_cons (gs_if (gt_of (ge_isT (ge_var (pv 0)) F.z_int bt_int rfl rfl F.z_isinstance))
 (gs_cons (gs_ret (ge_ofL (gl_lst ga_nil)))
 gs_nil)
 gs_nil)
 (gs_cons (gs_set (i := 1) sc__law_words.nd rfl (by first | exact Or.inl rfl | exact Or.inr rfl) (ge_ofL (gl_lst ga_nil)))
 (gs_cons (gs_if (gt_cmp (o_eq hr.units) (ge_ix hu (ge_var (pv 0)) ge_int) ge_str (by rfl))
 (gs_cons (gs_do (ge_bm PySem.F.plainAttrs_list PySem.F.slot_list_append PySem.F.type_list_append m_append (ge_var (pv 1)) (ga_cons (ge_ix hu (ge_var (pv 0)) ge_int) ga_nil)))
 gs_nil)
 gs_nil)
 (gs_cons (gs_for hp (by rfl) (gi_seq (ge_call G0.c__law_items hr rfl tk (ga_cons (ge_var (pv 0)) ga_nil))) (gg_name (i := 2) sc__law_words.nd rfl (by first | exact Or.inl rfl | exact Or.inr rfl))
 (gs_cons (gs_set (i := 1) sc__law_words.nd rfl (by first | exact Or.inl rfl | exact Or.inr rfl) (ge_op o_add (ge_var (pv 1)) (ge_call G0.c__law_words hr rfl tk (ga_cons (ge_var (pv 2)) ga_nil))))
 gs_nil))
 (gs_cons (gs_ret (ge_var (pv 1)))
 gs_nil))))))
abbrev NN__law_free : List Str := ["s", "word"]
theorem sc__law_free : FnScope ["s", "word"] ["s"] (defScope st__law_free) := ⟨rfl, rfl, rfl, by decide +kernel, rfl, by decide +kernel, by decide +kernel⟩
theorem ok__law_free (F : Facts w K mg) (G0 : Cals P w K mg base (k + 1) c) (G1 : Cals P w K mg base k c1) : BodyOk P w K mg base (k + 1) ["s", "word"] "_law_free" (defScope st__law_free) (defBody st__law_free) (b__law_free c c1) := by
  intro f cd A outer s H E hr tk hp
  have hu := hu_of hr
  unfold b__law_free
  exact (gs_cons (gs_if (gt_cmp (o_eq hr.units) (ge_ix hu (ge_var (pv 0)) ge_int) ge_str (by rfl))
 (gs_cons (gs_ret (ge_op o_add (ge_call G0.c__law_words hr rfl tk (ga_cons (ge_ix hu (ge_var (pv 0)) ge_int) ga_nil)) (ge_call G0.c__law_words hr rfl tk (ga_cons (ge_ix hu (ge_var (pv 0)) ge_int) ga_nil))))
 gs_nil)
 gs_nil)
 (gs_cons (gs_if (gt_cmp (o_in hu) (ge_ix hu (ge_var (pv 0)) ge_int) (ge_ofL (gl_lst (ga_cons ge_str (ga_cons ge_str ga_nil)))) (by rfl))
 (gs_cons (gs_ret (ge_op o_add (ge_call G0.c__law_free hr rfl tk (ga_cons (ge_ix hu (ge_var (pv 0)) ge_int) ga_nil)) (ge_call G0.c__law_free hr rfl tk (ga_cons (ge_ix hu (ge_var (pv 0)) ge_int) ga_nil))))
 gs_nil)
 gs_nil)
 (gs_cons (gs_ret (ge_ofL (gl_lc (own := [("word", 1)]) (by rfl) sc__law_free.nd (gi_seq (ge_call G0.c__law_free hr rfl tk (ga_cons (ge_ix hu (ge_var (pv 0)) (ge_un u_neg ge_int)) ga_nil))) (blkOk_by (N := NN__law_free) (sc := defScope st__law_free) (by decide +kernel)) (fun _ _ _ _ _ => (gg_name (i := 1) sc__law_free.nd rfl (by first | exact Or.inl rfl | exact Or.inr rfl))) (by decide) (fun _ _ _ _ _ => (gts_one (gt_cmp (o_ne hr.units) (ge_var (pv 1)) (ge_ix hu (ge_var (pv 0)) ge_int) (by rfl)))) (fun _ _ _ _ _ => (ge_var (pv 1))))))
 gs_nil)))
abbrev NN__law_put : List Str := ["term", "path", "part"]
theorem sc__law_put : FnScope ["term", "path", "part"] ["term", "path", "part"] (defScope st__law_put) := ⟨rfl, rfl, rfl, by decide +kernel, rfl, by decide +kernel, by decide +kernel⟩
theorem ok__law_put (F : Facts w K mg) (G0 : Cals P w K mg base (k + 1) c) (G1 : Cals P w K mg base k c1) : BodyOk P w K mg base (k + 1) ["term", "path", "part"] "_law_put" (defScope st__law_put) (defBody st__law_put) (b__law_put c c1) := by
  intro f cd A outer s H E hr tk hp
  have hu := hu_of hr
  unfold b__law_put
  exact (gs_cons (gs_if (gt_cmp (o_eq hr.units) (ge_callB c_len rfl F.z_len bt_len (ga_cons (ge_var (pv 1)) ga_nil)) ge_int (by rfl))
 (gs_cons (gs_ret (ge_var (pv 2)))
 gs_nil)
 gs_nil)
 (gs_cons (gs_ret (ge_op o_add (ge_op o_add (ge_cut (ge_var (pv 0)) go_none (go_some (ge_ix hu (ge_var (pv 1)) ge_int))) (ge_tup (ga_cons (ge_call G0.c__law_put hr rfl tk (ga_cons (ge_ix hu (ge_var (pv 0)) (ge_ix hu (ge_var (pv 1)) ge_int)) (ga_cons (ge_cut (ge_var (pv 1)) (go_some ge_int) go_none) (ga_cons (ge_var (pv 2)) ga_nil)))) ga_nil))) (ge_cut (ge_var (pv 0)) (go_some (ge_op o_add (ge_ix hu (ge_var (pv 1)) ge_int) ge_int)) go_none)))
 gs_nil))
abbrev NN__law_tower : List Str := ["state", "names", "functions", "numbers", "rows", "first", "sentence", "free", "k", "word", "name"]
theorem sc__law_tower : FnScope ["state", "names", "functions", "numbers", "rows", "first", "sentence", "free", "k", "word", "name"] ["state", "names", "functions"] (defScope st__law_tower) := ⟨rfl, rfl, rfl, by decide +kernel, rfl, by decide +kernel, by decide +kernel⟩
theorem ok__law_tower (F : Facts w K mg) (G0 : Cals P w K mg base (k + 1) c) (G1 : Cals P w K mg base k c1) : BodyOk P w K mg base (k + 1) ["state", "names", "functions", "numbers", "rows", "first", "sentence", "free", "k", "word", "name"] "_law_tower" (defScope st__law_tower) (defBody st__law_tower) (b__law_tower c c1) := by
  intro f cd A outer s H E hr tk hp
  have hu := hu_of hr
  unfold b__law_tower
  exact (gs_cons (gs_lock (i := 1) (gs_setLc (i := 3) (own := [("name", 10)]) (by rfl) sc__law_tower.nd rfl rfl (sw_true rfl rfl rfl (by decide +kernel)) (gi_key (ge_var (pv 1))) (blkOk_by (N := NN__law_tower) (sc := defScope st__law_tower) (by decide +kernel)) (fun _ _ _ _ _ => (gg_name (i := 10) sc__law_tower.nd rfl (by first | exact Or.inl rfl | exact Or.inr rfl))) (by decide) (fun _ _ _ _ _ => (gts_one (gt_cmp (o_eq hr.units) (ge_ix hu (ge_var (pv 1)) (ge_var (pv 10))) ge_int (by rfl)))) (fun _ _ _ _ _ => (ge_var (pv 10)))))
 (gs_cons (gs_lock (i := 1) (gs_setLc (i := 4) (own := [("name", 10)]) (by rfl) sc__law_tower.nd rfl rfl (sw_true rfl rfl rfl (by decide +kernel)) (gi_key (ge_var (pv 1))) (blkOk_by (N := NN__law_tower) (sc := defScope st__law_tower) (by decide +kernel)) (fun _ _ _ _ _ => (gg_name (i := 10) sc__law_tower.nd rfl (by first | exact Or.inl rfl | exact Or.inr rfl))) (by decide) (fun _ _ _ _ _ => (gts_one (gt_cmp o_gt (ge_ix hu (ge_var (pv 1)) (ge_var (pv 10))) ge_int (by rfl)))) (fun _ _ _ _ _ => (ge_tup (ga_cons (ge_var (pv 10)) (ga_cons (ge_ix hu (ge_var (pv 1)) (ge_var (pv 10))) ga_nil))))))
 (gs_cons (gs_set (i := 5) sc__law_tower.nd rfl (by first | exact Or.inl rfl | exact Or.inr rfl) (ge_call G0.c__law_expression hr rfl tk (ga_cons (ge_var (pv 0)) (ga_cons (ge_var (pv 3)) (ga_cons (ge_var (pv 4)) (ga_cons (ge_var (pv 2)) (ga_cons ge_int ga_nil)))))))
 (gs_cons (gs_set (i := 6) sc__law_tower.nd rfl (by first | exact Or.inl rfl | exact Or.inr rfl) (ge_tup (ga_cons ge_str (ga_cons (ge_var (pv 5)) (ga_cons (ge_call G0.c__law_expression hr rfl tk (ga_cons (ge_var (pv 0)) (ga_cons (ge_var (pv 3)) (ga_cons (ge_var (pv 4)) (ga_cons (ge_var (pv 2)) (ga_cons ge_int ga_nil)))))) ga_nil)))))
 (gs_cons (gs_set (i := 7) sc__law_tower.nd rfl (by first | exact Or.inl rfl | exact Or.inr rfl) (ge_call G0.c__law_free hr rfl tk (ga_cons (ge_var (pv 6)) ga_nil)))
 (gs_cons (gs_for hp (by rfl) (gi_range1 rfl F.z_range (ge_call G0.c__law_pick hr rfl tk (ga_cons (ge_var (pv 0)) (ga_cons ge_int ga_nil)))) (gg_name (i := 8) sc__law_tower.nd rfl (by first | exact Or.inl rfl | exact Or.inr rfl))
 (gs_cons (gs_set (i := 9) sc__law_tower.nd rfl (by first | exact Or.inl rfl | exact Or.inr rfl) (ge_ixL (gl_keysOf (by rfl) rfl F.z_list (ge_var (pv 1))) (ge_call G0.c__law_pick hr rfl tk (ga_cons (ge_var (pv 0)) (ga_cons (ge_callB c_len rfl F.z_len bt_len (ga_cons (ge_var (pv 1)) ga_nil)) ga_nil)))))
 (gs_cons (gs_if (gt_cmp (o_eq hr.units) (ge_ix hu (ge_var (pv 1)) (ge_var (pv 9))) ge_int (by rfl))
 (gs_cons (gs_set (i := 6) sc__law_tower.nd rfl (by first | exact Or.inl rfl | exact Or.inr rfl) (ge_ixL (gl_lst (ga_cons (ge_tup (ga_cons ge_str (ga_cons (ge_var (pv 9)) (ga_cons (ge_var (pv 6)) ga_nil)))) (ga_cons (ge_tup (ga_cons ge_str (ga_cons (ge_var (pv 9)) (ga_cons (ge_var (pv 6)) ga_nil)))) (ga_cons (ge_tup (ga_cons ge_str (ga_cons (ge_var (pv 9)) (ga_cons ge_int (ga_cons (ge_var (pv 6)) ga_nil))))) ga_nil)))) (ge_call G0.c__law_pick hr rfl tk (ga_cons (ge_var (pv 0)) (ga_cons ge_int ga_nil)))))
 gs_nil)
 (gs_cons (gs_if (gt_w (gw_or (gt_cmp (o_eq hr.units) (ge_ix hu (ge_var (pv 1)) (ge_var (pv 9))) ge_int (by rfl)) (gw_or1 (gt_cmp (o_notin hu) (ge_var (pv 9)) (ge_var (pv 7)) (by rfl)))))
 (gs_cons (gs_set (i := 6) sc__law_tower.nd rfl (by first | exact Or.inl rfl | exact Or.inr rfl) (ge_tup (ga_cons (ge_ixL (gl_lst (ga_cons ge_str (ga_cons ge_str ga_nil))) (ge_call G0.c__law_pick hr rfl tk (ga_cons (ge_var (pv 0)) (ga_cons ge_int ga_nil)))) (ga_cons (ge_var (pv 9)) (ga_cons (ge_var (pv 6)) ga_nil)))))
 gs_nil)
 gs_nil)
 gs_nil))
 gs_nil)))
 (gs_cons (gs_ret (ge_var (pv 6)))
 gs_nil)))))))
abbrev NN__law_filled : List Str := ["e", "env", "filled", "item"]
theorem sc__law_filled : FnScope ["e", "env", "filled", "item"] ["e", "env"] (defScope st__law_filled) := ⟨rfl, rfl, rfl, by decide +kernel, rfl, by decide +kernel, by decide +kernel⟩
theorem ok__law_filled (F : Facts w K mg) (G0 : Cals P w K mg base (k + 1) c) (G1 : Cals P w K mg base k c1) : BodyOk P w K mg base (k + 1) ["e", "env", "filled", "item"] "_law_filled" (defScope st__law_filled) (defBody st__law_filled) (b__law_filled c c1) := by
  intro f cd A outer s H E hr tk hp
  have hu := hu_of hr
  unfold b__law_filled
  exact (gs_cons (gs_if (gt_of (ge_isT (ge_var (pv 0)) F.z_str bt_str rfl rfl F.z_isinstance))
 (gs_cons (gs_ret (ge_get2 hu (ge_var (pv 1)) (ge_var (pv 0)) (ge_var (pv 0))))
 gs_nil)
 gs_nil)
 (gs_cons (gs_if (gt_of (ge_isT (ge_var (pv 0)) F.z_int bt_int rfl rfl F.z_isinstance))
 (gs_cons (gs_ret (ge_var (pv 0)))
 gs_nil)
 gs_nil)
 (gs_cons (gs_set (i := 2) sc__law_filled.nd rfl (by first | exact Or.inl rfl | exact Or.inr rfl) (ge_call G0.c__law_rebuilt hr rfl tk (ga_cons (ge_var (pv 0)) (ga_cons (ge_ofL (gl_lc (own := [("item", 3)]) (by rfl) sc__law_filled.nd (gi_seq (ge_call G0.c__law_items hr rfl tk (ga_cons (ge_var (pv 0)) ga_nil))) (blkOk_by (N := NN__law_filled) (sc := defScope st__law_filled) (by decide +kernel)) (fun _ _ _ _ _ => (gg_name (i := 3) sc__law_filled.nd rfl (by first | exact Or.inl rfl | exact Or.inr rfl))) (by decide) (fun _ _ _ _ _ => gts_nil) (fun _ _ _ _ _ => (ge_call G0.c__law_filled hr rfl takes_none5 (ga_cons (ge_var (pv 3)) (ga_cons (ge_var (pv 1)) ga_nil)))))) ga_nil))))
 (gs_cons (gs_if (gt_cmp (o_eq hr.units) (ge_ix hu (ge_var (pv 0)) ge_int) ge_str (by rfl))
 (gs_cons (gs_ret (ge_op o_add (ge_tup (ga_cons ge_str (ga_cons (ge_get2 hu (ge_var (pv 1)) (ge_ix hu (ge_var (pv 0)) ge_int) (ge_ix hu (ge_var (pv 0)) ge_int)) ga_nil))) (ge_cut (ge_var (pv 2)) (go_some ge_int) go_none)))
 gs_nil)
 gs_nil)
 (gs_cons (gs_ret (ge_var (pv 2)))
 gs_nil)))))
abbrev NN__law_plain : List Str := ["s", "env", "depth", "word"]
theorem sc__law_plain : FnScope ["s", "env", "depth", "word"] ["s", "env", "depth"] (defScope st__law_plain) := ⟨rfl, rfl, rfl, by decide +kernel, rfl, by decide +kernel, by decide +kernel⟩
theorem ok__law_plain (F : Facts w K mg) (G0 : Cals P w K mg base (k + 1) c) (G1 : Cals P w K mg base k c1) : BodyOk P w K mg base (k + 1) ["s", "env", "depth", "word"] "_law_plain" (defScope st__law_plain) (defBody st__law_plain) (b__law_plain c c1) := by
  intro f cd A outer s H E hr tk hp
  have hu := hu_of hr
  unfold b__law_plain
  exact (gs_cons (gs_if (gt_cmp (o_eq hr.units) (ge_ix hu (ge_var (pv 0)) ge_int) ge_str (by rfl))
 (gs_cons (gs_ret (ge_tup (ga_cons ge_str (ga_cons (ge_call G0.c__law_filled hr rfl tk (ga_cons (ge_ix hu (ge_var (pv 0)) ge_int) (ga_cons (ge_var (pv 1)) ga_nil))) (ga_cons (ge_call G0.c__law_filled hr rfl tk (ga_cons (ge_ix hu (ge_var (pv 0)) ge_int) (ga_cons (ge_var (pv 1)) ga_nil))) ga_nil)))))
 gs_nil)
 gs_nil)
 (gs_cons (gs_if (gt_cmp (o_in hu) (ge_ix hu (ge_var (pv 0)) ge_int) (ge_ofL (gl_lst (ga_cons ge_str (ga_cons ge_str ga_nil)))) (by rfl))
 (gs_cons (gs_ret (ge_tup (ga_cons (ge_ix hu (ge_var (pv 0)) ge_int) (ga_cons (ge_call G0.c__law_plain hr rfl tk (ga_cons (ge_ix hu (ge_var (pv 0)) ge_int) (ga_cons (ge_var (pv 1)) (ga_cons (ge_var (pv 2)) ga_nil)))) (ga_cons (ge_call G0.c__law_plain hr rfl tk (ga_cons (ge_ix hu (ge_var (pv 0)) ge_int) (ga_cons (ge_var (pv 1)) (ga_cons (ge_var (pv 2)) ga_nil)))) ga_nil)))))
 gs_nil)
 gs_nil)
 (gs_cons (gs_set (i := 3) sc__law_plain.nd rfl (by first | exact Or.inl rfl | exact Or.inr rfl) (ge_op o_add ge_str (ge_callTy c_str rfl F.z_str bt_str (ga_cons (ge_var (pv 2)) ga_nil))))
 (gs_cons (gs_ret (ge_op o_add (ge_op o_add (ge_tup (ga_cons (ge_ix hu (ge_var (pv 0)) ge_int) (ga_cons (ge_var (pv 3)) ga_nil))) (ge_cut (ge_var (pv 0)) (go_some ge_int) (go_some (ge_un u_neg ge_int)))) (ge_tup (ga_cons (ge_call G0.c__law_plain hr rfl tk (ga_cons (ge_ix hu (ge_var (pv 0)) (ge_un u_neg ge_int)) (ga_cons (ge_call G0.c__law_with hr rfl tk (ga_cons (ge_var (pv 1)) (ga_cons (ge_ix hu (ge_var (pv 0)) ge_int) (ga_cons (ge_var (pv 3)) ga_nil)))) (ga_cons (ge_op o_add (ge_var (pv 2)) ge_int) ga_nil)))) ga_nil))))
 gs_nil))))
abbrev NN__law_renamed : List Str := ["state", "s", "env", "words", "first", "barred", "word"]
theorem sc__law_renamed : FnScope ["state", "s", "env", "words", "first", "barred", "word"] ["state", "s", "env", "words"] (defScope st__law_renamed) := ⟨rfl, rfl, rfl, by decide +kernel, rfl, by decide +kernel, by decide +kernel⟩
theorem ok__law_renamed (F : Facts w K mg) (G0 : Cals P w K mg base (k + 1) c) (G1 : Cals P w K mg base k c1) : BodyOk P w K mg base (k + 1) ["state", "s", "env", "words", "first", "barred", "word"] "_law_renamed" (defScope st__law_renamed) (defBody st__law_renamed) (b__law_renamed c c1) := by
  intro f cd A outer s H E hr tk hp
  have hu := hu_of hr
  unfold b__law_renamed
  exact (gs_cons (gs_if (gt_cmp (o_eq hr.units) (ge_ix hu (ge_var (pv 1)) ge_int) ge_str (by rfl))
 (gs_cons (gs_ret (ge_tup (ga_cons ge_str (ga_cons (ge_call G0.c__law_filled hr rfl tk (ga_cons (ge_ix hu (ge_var (pv 1)) ge_int) (ga_cons (ge_var (pv 2)) ga_nil))) (ga_cons (ge_call G0.c__law_filled hr rfl tk (ga_cons (ge_ix hu (ge_var (pv 1)) ge_int) (ga_cons (ge_var (pv 2)) ga_nil))) ga_nil)))))
 gs_nil)
 gs_nil)
 (gs_cons (gs_if (gt_cmp (o_in hu) (ge_ix hu (ge_var (pv 1)) ge_int) (ge_ofL (gl_lst (ga_cons ge_str (ga_cons ge_str ga_nil)))) (by rfl))
 (gs_cons (gs_set (i := 4) sc__law_renamed.nd rfl (by first | exact Or.inl rfl | exact Or.inr rfl) (ge_call G0.c__law_renamed hr rfl tk (ga_cons (ge_var (pv 0)) (ga_cons (ge_ix hu (ge_var (pv 1)) ge_int) (ga_cons (ge_var (pv 2)) (ga_cons (ge_var (pv 3)) ga_nil))))))
 (gs_cons (gs_ret (ge_tup (ga_cons (ge_ix hu (ge_var (pv 1)) ge_int) (ga_cons (ge_var (pv 4)) (ga_cons (ge_call G0.c__law_renamed hr rfl tk (ga_cons (ge_var (pv 0)) (ga_cons (ge_ix hu (ge_var (pv 1)) ge_int) (ga_cons (ge_var (pv 2)) (ga_cons (ge_var (pv 3)) ga_nil))))) ga_nil)))))
 gs_nil))
 gs_nil)
 (gs_cons (gs_setLc (i := 5) (own := [("word", 6)]) (by rfl) sc__law_renamed.nd rfl rfl (sw_true rfl rfl rfl (by decide +kernel)) (gi_seq (ge_call G0.c__law_free hr rfl tk (ga_cons (ge_ix hu (ge_var (pv 1)) (ge_un u_neg ge_int)) ga_nil))) (blkOk_by (N := NN__law_renamed) (sc := defScope st__law_renamed) (by decide +kernel)) (fun _ _ _ _ _ => (gg_name (i := 6) sc__law_renamed.nd rfl (by first | exact Or.inl rfl | exact Or.inr rfl))) (by decide) (fun _ _ _ _ _ => (gts_one (gt_cmp (o_ne hr.units) (ge_var (pv 6)) (ge_ix hu (ge_var (pv 1)) ge_int) (by rfl)))) (fun _ _ _ _ _ => (ge_get2 hu (ge_var (pv 2)) (ge_var (pv 6)) (ge_var (pv 6)))))
 (gs_cons (gs_set (i := 6) sc__law_renamed.nd rfl (by first | exact Or.inl rfl | exact Or.inr rfl) (ge_ix hu (ge_var (pv 3)) (ge_call G0.c__law_pick hr rfl tk (ga_cons (ge_var (pv 0)) (ga_cons (ge_callB c_len rfl F.z_len bt_len (ga_cons (ge_var (pv 3)) ga_nil)) ga_nil)))))
 (gs_cons (gs_if (gt_w (gw_or (gt_cmp (o_in hu) (ge_var (pv 6)) (ge_var (pv 5)) (by rfl)) (gw_or1 (gt_cmp (o_eq hr.units) (ge_call G0.c__law_pick hr rfl tk (ga_cons (ge_var (pv 0)) (ga_cons ge_int ga_nil))) ge_int (by rfl)))))
 (gs_cons (gs_set (i := 6) sc__law_renamed.nd rfl (by first | exact Or.inl rfl | exact Or.inr rfl) (ge_call G0.c__law_new hr rfl tk (ga_cons (ge_var (pv 0)) (ga_cons (ge_var (pv 5)) ga_nil))))
 gs_nil)
 gs_nil)
 (gs_cons (gs_ret (ge_op o_add (ge_op o_add (ge_tup (ga_cons (ge_ix hu (ge_var (pv 1)) ge_int) (ga_cons (ge_var (pv 6)) ga_nil))) (ge_cut (ge_var (pv 1)) (go_some ge_int) (go_some (ge_un u_neg ge_int)))) (ge_tup (ga_cons (ge_call G0.c__law_renamed hr rfl tk (ga_cons (ge_var (pv 0)) (ga_cons (ge_ix hu (ge_var (pv 1)) (ge_un u_neg ge_int)) (ga_cons (ge_call G0.c__law_with hr rfl tk (ga_cons (ge_var (pv 2)) (ga_cons (ge_ix hu (ge_var (pv 1)) ge_int) (ga_cons (ge_var (pv 6)) ga_nil)))) (ga_cons (ge_var (pv 3)) ga_nil))))) ga_nil))))
 gs_nil))))))
abbrev NN__law_uses_in : List Str := ["e", "found", "item"]
theorem sc__law_uses_in : FnScope ["e", "found", "item"] ["e"] (defScope st__law_uses_in) := ⟨rfl, rfl, rfl, by decide +kernel, rfl, by decide +kernel, by decide +kernel⟩
theorem ok__law_uses_in (F : Facts w K mg) (G0 : Cals P w K mg base (k + 1) c) (G1 : Cals P w K mg base k c1) : BodyOk P w K mg base (k + 1) ["e", "found", "item"] "_law_uses_in" (defScope st__law_uses_in) (defBody st__law_uses_in) (b__law_uses_in c c1) := by
  intro f cd A outer s H E hr tk hp
  have hu := hu_of hr
  unfold b__law_uses_in
  exact (gs_cons (gs_if (gt_of (ge_isT (ge_var (pv 0)) F.z_str bt_str rfl rfl F.z_isinstance))
 (gs_cons (gs_ret (ge_ofL (gl_lst (ga_cons (ge_tup (ga_cons (ge_var (pv 0)) (ga_cons ge_int ga_nil))) ga_nil))))
 gs_nil)
 gs_nil)
 (gs_cons (gs_if (gt_of (ge_isT (ge_var (pv 0)) F.z_int bt_int rfl rfl F.z_isinstance))
 (gs_cons (gs_ret (ge_ofL (gl_lst ga_nil)))
 gs_nil)
 gs_nil)
 (gs_cons (gs_set (i := 1) sc__law_uses_in.nd rfl (by first | exact Or.inl rfl | exact Or.inr rfl) (ge_ofL (gl_lst ga_nil)))
 (gs_cons (gs_if (gt_cmp (o_eq hr.units) (ge_ix hu (ge_var (pv 0)) ge_int) ge_str (by rfl))
 (gs_cons (gs_do (ge_bm PySem.F.plainAttrs_list PySem.F.slot_list_append PySem.F.type_list_append m_append (ge_var (pv 1)) (ga_cons (ge_tup (ga_cons (ge_ix hu (ge_var (pv 0)) ge_int) (ga_cons (ge_op o_sub (ge_callB c_len rfl F.z_len bt_len (ga_cons (ge_var (pv 0)) ga_nil)) ge_int) ga_nil))) ga_nil)))
 gs_nil)
 gs_nil)
 (gs_cons (gs_for hp (by rfl) (gi_seq (ge_call G0.c__law_items hr rfl tk (ga_cons (ge_var (pv 0)) ga_nil))) (gg_name (i := 2) sc__law_uses_in.nd rfl (by first | exact Or.inl rfl | exact Or.inr rfl))
 (gs_cons (gs_set (i := 1) sc__law_uses_in.nd rfl (by first | exact Or.inl rfl | exact Or.inr rfl) (ge_op o_add (ge_var (pv 1)) (ge_call G0.c__law_uses_in hr rfl tk (ga_cons (ge_var (pv 2)) ga_nil))))
 gs_nil))
 (gs_cons (gs_ret (ge_var (pv 1)))
 gs_nil))))))
abbrev NN__law_uses : List Str := ["s", "found", "use"]
theorem sc__law_uses : FnScope ["s", "found", "use"] ["s"] (defScope st__law_uses) := ⟨rfl, rfl, rfl, by decide +kernel, rfl, by decide +kernel, by decide +kernel⟩
theorem ok__law_uses (F : Facts w K mg) (G0 : Cals P w K mg base (k + 1) c) (G1 : Cals P w K mg base k c1) : BodyOk P w K mg base (k + 1) ["s", "found", "use"] "_law_uses" (defScope st__law_uses) (defBody st__law_uses) (b__law_uses c c1) := by
  intro f cd A outer s H E hr tk hp
  have hu := hu_of hr
  unfold b__law_uses
  exact (gs_cons (gs_if (gt_cmp (o_eq hr.units) (ge_ix hu (ge_var (pv 0)) ge_int) ge_str (by rfl))
 (gs_cons (gs_ret (ge_op o_add (ge_call G0.c__law_uses_in hr rfl tk (ga_cons (ge_ix hu (ge_var (pv 0)) ge_int) ga_nil)) (ge_call G0.c__law_uses_in hr rfl tk (ga_cons (ge_ix hu (ge_var (pv 0)) ge_int) ga_nil))))
 gs_nil)
 gs_nil)
 (gs_cons (gs_if (gt_cmp (o_in hu) (ge_ix hu (ge_var (pv 0)) ge_int) (ge_ofL (gl_lst (ga_cons ge_str (ga_cons ge_str ga_nil)))) (by rfl))
 (gs_cons (gs_ret (ge_op o_add (ge_call G0.c__law_uses hr rfl tk (ga_cons (ge_ix hu (ge_var (pv 0)) ge_int) ga_nil)) (ge_call G0.c__law_uses hr rfl tk (ga_cons (ge_ix hu (ge_var (pv 0)) ge_int) ga_nil))))
 gs_nil)
 gs_nil)
 (gs_cons (gs_set (i := 1) sc__law_uses.nd rfl (by first | exact Or.inl rfl | exact Or.inr rfl) (ge_ofL (gl_lst ga_nil)))
 (gs_cons (gs_if (gt_w (gw_and (gt_cmp (o_eq hr.units) (ge_callB c_len rfl F.z_len bt_len (ga_cons (ge_var (pv 0)) ga_nil)) ge_int (by rfl)) (gw_and1 (gt_not (gt_chain o_le o_le ge_int (ge_ix hu (ge_var (pv 0)) ge_int) ge_int)))))
 (gs_cons (gs_do (ge_bm PySem.F.plainAttrs_list PySem.F.slot_list_append PySem.F.type_list_append m_append (ge_var (pv 1)) (ga_cons (ge_tup (ga_cons ge_str (ga_cons ge_int ga_nil))) ga_nil)))
 gs_nil)
 gs_nil)
 (gs_cons (gs_for hp (by rfl) (gi_seq (ge_call G0.c__law_uses hr rfl tk (ga_cons (ge_ix hu (ge_var (pv 0)) (ge_un u_neg ge_int)) ga_nil))) (gg_name (i := 2) sc__law_uses.nd rfl (by first | exact Or.inl rfl | exact Or.inr rfl))
 (gs_cons (gs_if (gt_cmp (o_ne hr.units) (ge_ix hu (ge_var (pv 2)) ge_int) (ge_ix hu (ge_var (pv 0)) ge_int) (by rfl))
 (gs_cons (gs_do (ge_bm PySem.F.plainAttrs_list PySem.F.slot_list_append PySem.F.type_list_append m_append (ge_var (pv 1)) (ga_cons (ge_var (pv 2)) ga_nil)))
 gs_nil)
 (gs_cons (gs_if (gt_cmp (o_ne hr.units) (ge_ix hu (ge_var (pv 2)) ge_int) (ge_callTy c_int rfl F.z_int bt_int (ga_cons (ge_cmp (o_in hu) (ge_ix hu (ge_var (pv 0)) ge_int) (ge_ofL (gl_lst (ga_cons ge_str (ga_cons ge_str ga_nil)))) (by rfl)) ga_nil)) (by rfl))
 (gs_cons (gs_do (ge_bm PySem.F.plainAttrs_list PySem.F.slot_list_append PySem.F.type_list_append m_append (ge_var (pv 1)) (ga_cons (ge_tup (ga_cons ge_str (ga_cons ge_int ga_nil))) ga_nil)))
 gs_nil)
 gs_nil)
 gs_nil))
 gs_nil))
 (gs_cons (gs_ret (ge_var (pv 1)))
 gs_nil))))))
abbrev NN__law_fits : List Str := ["s", "kinds", "use"]
theorem sc__law_fits : FnScope ["s", "kinds", "use"] ["s"] (defScope st__law_fits) := ⟨rfl, rfl, rfl, by decide +kernel, rfl, by decide +kernel, by decide +kernel⟩
theorem ok__law_fits (F : Facts w K mg) (G0 : Cals P w K mg base (k + 1) c) (G1 : Cals P w K mg base k c1) : BodyOk P w K mg base (k + 1) ["s", "kinds", "use"] "_law_fits" (defScope st__law_fits) (defBody st__law_fits) (b__law_fits c c1) := by
  intro f cd A outer s H E hr tk hp
  have hu := hu_of hr
  unfold b__law_fits
  exact (gs_cons (gs_set (i := 1) sc__law_fits.nd rfl (by first | exact Or.inl rfl | exact Or.inr rfl) ge_dict0)
 (gs_cons (gs_for hp (by rfl) (gi_seq (ge_call G0.c__law_uses hr rfl tk (ga_cons (ge_var (pv 0)) ga_nil))) (gg_name (i := 2) sc__law_fits.nd rfl (by first | exact Or.inl rfl | exact Or.inr rfl))
 (gs_cons (gs_if (gt_w (gw_or (gt_cmp (o_eq hr.units) (ge_ix hu (ge_var (pv 2)) ge_int) ge_str (by rfl)) (gw_or1 (gt_cmp (o_ne hr.units) (ge_get2 hu (ge_var (pv 1)) (ge_ix hu (ge_var (pv 2)) ge_int) (ge_ix hu (ge_var (pv 2)) ge_int)) (ge_ix hu (ge_var (pv 2)) ge_int) (by rfl)))))
 (gs_cons (gs_ret ge_bl)
 gs_nil)
 gs_nil)
 (gs_cons (gs_put hu (ge_ix hu (ge_var (pv 2)) ge_int) (ge_var (pv 1)) (ge_ix hu (ge_var (pv 2)) ge_int))
 gs_nil)))
 (gs_cons (gs_ret ge_bl)
 gs_nil)))
abbrev NN__law_leaves : List Str := ["term", "path", "found", "k"]
theorem sc__law_leaves : FnScope ["term", "path", "found", "k"] ["term", "path"] (defScope st__law_leaves) := ⟨rfl, rfl, rfl, by decide +kernel, rfl, by decide +kernel, by decide +kernel⟩
theorem ok__law_leaves (F : Facts w K mg) (G0 : Cals P w K mg base (k + 1) c) (G1 : Cals P w K mg base k c1) : BodyOk P w K mg base (k + 1) ["term", "path", "found", "k"] "_law_leaves" (defScope st__law_leaves) (defBody st__law_leaves) (b__law_leaves c c1) := by
  intro f cd A outer s H E hr tk hp
  have hu := hu_of hr
  unfold b__law_leaves
  exact (gs_cons (gs_if (gt_not (gt_of (ge_isT (ge_var (pv 0)) F.z_tuple bt_tuple rfl rfl F.z_isinstance)))
 (gs_cons (gs_ret (ge_ofL (gl_lst (ga_cons (ge_var (pv 1)) ga_nil))))
 gs_nil)
 gs_nil)
 (gs_cons (gs_set (i := 2) sc__law_leaves.nd rfl (by first | exact Or.inl rfl | exact Or.inr rfl) (ge_ofL (gl_lst ga_nil)))
 (gs_cons (gs_for hp (by rfl) (gi_range1 rfl F.z_range (ge_callB c_len rfl F.z_len bt_len (ga_cons (ge_var (pv 0)) ga_nil))) (gg_name (i := 3) sc__law_leaves.nd rfl (by first | exact Or.inl rfl | exact Or.inr rfl))
 (gs_cons (gs_set (i := 2) sc__law_leaves.nd rfl (by first | exact Or.inl rfl | exact Or.inr rfl) (ge_op o_add (ge_var (pv 2)) (ge_call G0.c__law_leaves hr rfl tk (ga_cons (ge_ix hu (ge_var (pv 0)) (ge_var (pv 3))) (ga_cons (ge_op o_add (ge_var (pv 1)) (ge_tup (ga_cons (ge_var (pv 3)) ga_nil))) ga_nil)))))
 gs_nil))
 (gs_cons (gs_ret (ge_var (pv 2)))
 gs_nil))))
abbrev NN__law_other_leaf : List Str := ["state", "leaf", "path", "words", "groups", "group"]
theorem sc__law_other_leaf : FnScope ["state", "leaf", "path", "words", "groups", "group"] ["state", "leaf", "path", "words"] (defScope st__law_other_leaf) := ⟨rfl, rfl, rfl, by decide +kernel, rfl, by decide +kernel, by decide +kernel⟩
theorem ok__law_other_leaf (F : Facts w K mg) (G0 : Cals P w K mg base (k + 1) c) (G1 : Cals P w K mg base k c1) : BodyOk P w K mg base (k + 1) ["state", "leaf", "path", "words", "groups", "group"] "_law_other_leaf" (defScope st__law_other_leaf) (defBody st__law_other_leaf) (b__law_other_leaf c c1) := by
  intro f cd A outer s H E hr tk hp
  have hu := hu_of hr
  unfold b__law_other_leaf
  exact (gs_cons (gs_if (gt_of (ge_isT (ge_var (pv 1)) F.z_int bt_int rfl rfl F.z_isinstance))
 (gs_cons (gs_ret (ge_ixL (gl_lst (ga_cons (ge_callB (c_min2 (by rfl)) rfl F.z_min bt_min (ga_cons (ge_op o_add (ge_var (pv 1)) ge_int) (ga_cons ge_int ga_nil))) (ga_cons (ge_callB (c_max2 (by rfl)) rfl F.z_max bt_max (ga_cons (ge_op o_sub (ge_var (pv 1)) ge_int) (ga_cons ge_int ga_nil))) (ga_cons (ge_call G0.c__law_number hr rfl tk (ga_cons (ge_var (pv 0)) ga_nil)) (ga_cons (ge_op o_add ge_int (ge_call G0.c__law_pick hr rfl tk (ga_cons (ge_var (pv 0)) (ga_cons ge_int ga_nil)))) ga_nil))))) (ge_call G0.c__law_pick hr rfl tk (ga_cons (ge_var (pv 0)) (ga_cons ge_int ga_nil)))))
 gs_nil)
 gs_nil)
 (gs_cons (gs_if (gt_cmp o_gt (ge_ix hu (ge_var (pv 2)) (ge_un u_neg ge_int)) ge_int (by rfl))
 (gs_cons (gs_ret (ge_ix hu (ge_op o_add (ge_var (pv 3)) (ge_ofL (gl_lst (ga_cons (ge_call G0.c__law_new hr rfl tk (ga_cons (ge_var (pv 0)) (ga_cons (ge_ofL (gl_lst ga_nil)) ga_nil))) ga_nil)))) (ge_call G0.c__law_pick hr rfl tk (ga_cons (ge_var (pv 0)) (ga_cons (ge_op o_add (ge_callB c_len rfl F.z_len bt_len (ga_cons (ge_var (pv 3)) ga_nil)) ge_int) ga_nil)))))
 gs_nil)
 gs_nil)
 (gs_cons (gs_set (i := 4) sc__law_other_leaf.nd rfl (by first | exact Or.inl rfl | exact Or.inr rfl) (ge_ofL (gl_lst (ga_cons (ge_ofL (gl_lst (ga_cons ge_str (ga_cons ge_str (ga_cons ge_str (ga_cons ge_str (ga_cons ge_str (ga_cons ge_str (ga_cons ge_str (ga_cons ge_str (ga_cons ge_str ga_nil))))))))))) (ga_cons (ge_ofL (gl_lst (ga_cons ge_str (ga_cons ge_str ga_nil)))) ga_nil)))))
 (gs_cons (gs_set (i := 4) sc__law_other_leaf.nd rfl (by first | exact Or.inl rfl | exact Or.inr rfl) (ge_op o_add (ge_var (pv 4)) (ge_ofL (gl_lst (ga_cons (ge_ofL (gl_lst (ga_cons ge_str (ga_cons ge_str (ga_cons ge_str (ga_cons ge_str ga_nil)))))) (ga_cons (ge_ofL (gl_lst (ga_cons ge_str (ga_cons ge_str ga_nil)))) ga_nil))))))
 (gs_cons (gs_for hp (by rfl) (gi_seq (ge_var (pv 4))) (gg_name (i := 5) sc__law_other_leaf.nd rfl (by first | exact Or.inl rfl | exact Or.inr rfl))
 (gs_cons (gs_if (gt_cmp (o_in hu) (ge_var (pv 1)) (ge_var (pv 5)) (by rfl))
 (gs_cons (gs_ret (ge_ix hu (ge_var (pv 5)) (ge_call G0.c__law_pick hr rfl tk (ga_cons (ge_var (pv 0)) (ga_cons (ge_callB c_len rfl F.z_len bt_len (ga_cons (ge_var (pv 5)) ga_nil)) ga_nil)))))
 gs_nil)
 gs_nil)
 gs_nil))
 (gs_cons (gs_ret (ge_var (pv 1)))
 gs_nil))))))
abbrev NN__law_changed : List Str := ["state", "s", "words", "paths", "turn", "path", "leaf", "k", "other"]
theorem sc__law_changed : FnScope ["state", "s", "words", "paths", "turn", "path", "leaf", "k", "other"] ["state", "s", "words"] (defScope st__law_changed) := ⟨rfl, rfl, rfl, by decide +kernel, rfl, by decide +kernel, by decide +kernel⟩
theorem ok__law_changed (F : Facts w K mg) (G0 : Cals P w K mg base (k + 1) c) (G1 : Cals P w K mg base k c1) : BodyOk P w K mg base (k + 1) ["state", "s", "words", "paths", "turn", "path", "leaf", "k", "other"] "_law_changed" (defScope st__law_changed) (defBody st__law_changed) (b__law_changed c c1) := by
  intro f cd A outer s H E hr tk hp
  have hu := hu_of hr
  unfold b__law_changed
  exact (gs_cons (gs_set (i := 3) sc__law_changed.nd rfl (by first | exact Or.inl rfl | exact Or.inr rfl) (ge_call G0.c__law_leaves hr rfl tk (ga_cons (ge_var (pv 1)) (ga_cons (ge_tup ga_nil) ga_nil))))
 (gs_cons (gs_for hp (by rfl) (gi_range1 rfl F.z_range ge_int) (gg_name (i := 4) sc__law_changed.nd rfl (by first | exact Or.inl rfl | exact Or.inr rfl))
 (gs_cons (gs_set (i := 5) sc__law_changed.nd rfl (by first | exact Or.inl rfl | exact Or.inr rfl) (ge_ix hu (ge_var (pv 3)) (ge_call G0.c__law_pick hr rfl tk (ga_cons (ge_var (pv 0)) (ga_cons (ge_callB c_len rfl F.z_len bt_len (ga_cons (ge_var (pv 3)) ga_nil)) ga_nil)))))
 (gs_cons (gs_set (i := 6) sc__law_changed.nd rfl (by first | exact Or.inl rfl | exact Or.inr rfl) (ge_var (pv 1)))
 (gs_cons (gs_for hp (by rfl) (gi_seq (ge_var (pv 5))) (gg_name (i := 7) sc__law_changed.nd rfl (by first | exact Or.inl rfl | exact Or.inr rfl))
 (gs_cons (gs_set (i := 6) sc__law_changed.nd rfl (by first | exact Or.inl rfl | exact Or.inr rfl) (ge_ix hu (ge_var (pv 6)) (ge_var (pv 7))))
 gs_nil))
 (gs_cons (gs_set (i := 8) sc__law_changed.nd rfl (by first | exact Or.inl rfl | exact Or.inr rfl) (ge_call G0.c__law_put hr rfl tk (ga_cons (ge_var (pv 1)) (ga_cons (ge_var (pv 5)) (ga_cons (ge_call G0.c__law_other_leaf hr rfl tk (ga_cons (ge_var (pv 0)) (ga_cons (ge_var (pv 6)) (ga_cons (ge_var (pv 5)) (ga_cons (ge_var (pv 2)) ga_nil))))) ga_nil)))))
 (gs_cons (gs_if (gt_w (gw_and (gt_cmp (o_ne hr.units) (ge_var (pv 8)) (ge_var (pv 1)) (by rfl)) (gw_and1 (gt_of (ge_call G0.c__law_fits hr rfl tk (ga_cons (ge_var (pv 8)) ga_nil))))))
 (gs_cons (gs_ret (ge_var (pv 8)))
 gs_nil)
 gs_nil)
 gs_nil))))))
 (gs_cons (gs_ret (ge_var (pv 1)))
 gs_nil)))
abbrev NN_law : List Str := ["script", "state", "words", "names", "k", "functions", "sentence", "renamed", "changed", "sentences", "plains", "pairs", "j", "pair", "one"]
theorem sc_law : FnScope ["script", "state", "words", "names", "k", "functions", "sentence", "renamed", "changed", "sentences", "plains", "pairs", "j", "pair", "one"] ["script"] (defScope st_law) := ⟨rfl, rfl, rfl, by decide +kernel, rfl, by decide +kernel, by decide +kernel⟩
theorem ok_law (F : Facts w K mg) (G0 : Cals P w K mg base (k + 1) c) (G1 : Cals P w K mg base k c1) : BodyOk P w K mg base (k + 1) ["script", "state", "words", "names", "k", "functions", "sentence", "renamed", "changed", "sentences", "plains", "pairs", "j", "pair", "one"] "law" (defScope st_law) (defBody st_law) (b_law c c1) := by
  intro f cd A outer s H E hr tk hp
  have hu := hu_of hr
  unfold b_law
  exact (gs_cons (gs_set (i := 1) sc_law.nd rfl (by first | exact Or.inl rfl | exact Or.inr rfl) (ge_call G0.c__law_start hr rfl tk (ga_cons (ge_var (pv 0)) ga_nil)))
 (gs_cons (gs_set (i := 2) sc_law.nd rfl (by first | exact Or.inl rfl | exact Or.inr rfl) (ge_call G0.c__law_names hr rfl tk (ga_cons (ge_var (pv 1)) (ga_cons (ge_ofL (gl_lst ga_nil)) (ga_cons ge_int ga_nil)))))
 (gs_cons (gs_set (i := 3) sc_law.nd rfl (by first | exact Or.inl rfl | exact Or.inr rfl) ge_dict0)
 (gs_cons (gs_for hp (by rfl) (gi_range1 rfl F.z_range ge_int) (gg_name (i := 4) sc_law.nd rfl (by first | exact Or.inl rfl | exact Or.inr rfl))
 (gs_cons (gs_put hu ge_int (ge_var (pv 3)) (ge_ix hu (ge_var (pv 2)) (ge_var (pv 4))))
 gs_nil))
 (gs_cons (gs_put hu ge_int (ge_var (pv 3)) (ge_ix hu (ge_var (pv 2)) ge_int))
 (gs_cons (gs_put hu (ge_op o_add ge_int (ge_call G0.c__law_pick hr rfl tk (ga_cons (ge_var (pv 1)) (ga_cons ge_int ga_nil)))) (ge_var (pv 3)) (ge_ix hu (ge_var (pv 2)) ge_int))
 (gs_cons (gs_set (i := 5) sc_law.nd rfl (by first | exact Or.inl rfl | exact Or.inr rfl) (ge_disp (gp_cons (ge_ix hu (ge_var (pv 2)) (ge_call G0.c__law_pick hr rfl tk (ga_cons (ge_var (pv 1)) (ga_cons ge_int ga_nil)))) (ge_tup (ga_cons (ge_tup (ga_cons ge_str ga_nil)) (ga_cons ge_str ga_nil))) (gp_cons (ge_call G0.c__law_new hr rfl tk (ga_cons (ge_var (pv 1)) (ga_cons (ge_ofL (gl_lst ga_nil)) ga_nil))) (ge_tup (ga_cons (ge_tup (ga_cons ge_str ga_nil)) (ga_cons ge_str ga_nil))) gp_nil))))
 (gs_cons (gs_if (gt_cmp (o_eq hr.units) (ge_call G0.c__law_pick hr rfl tk (ga_cons (ge_var (pv 1)) (ga_cons ge_int ga_nil))) ge_int (by rfl))
 (gs_cons (gs_set (i := 6) sc_law.nd rfl (by first | exact Or.inl rfl | exact Or.inr rfl) (ge_call G0.c__law_tower hr rfl tk (ga_cons (ge_var (pv 1)) (ga_cons (ge_var (pv 3)) (ga_cons (ge_var (pv 5)) ga_nil)))))
 gs_nil)
 (gs_cons (gs_set (i := 6) sc_law.nd rfl (by first | exact Or.inl rfl | exact Or.inr rfl) (ge_call G0.c__law_met hr rfl tk (ga_cons (ge_var (pv 1)) (ga_cons (ge_var (pv 3)) (ga_cons (ge_var (pv 5)) (ga_cons (ge_call G0.c__law_pick hr rfl tk (ga_cons (ge_var (pv 1)) (ga_cons ge_int ga_nil))) (ga_cons (ge_ofL (gl_lst (ga_cons ge_int ga_nil))) ga_nil)))))))
 gs_nil))
 (gs_cons (gs_set (i := 7) sc_law.nd rfl (by first | exact Or.inl rfl | exact Or.inr rfl) (ge_call G0.c__law_renamed hr rfl tk (ga_cons (ge_var (pv 1)) (ga_cons (ge_var (pv 6)) (ga_cons ge_dict0 (ga_cons (ge_var (pv 2)) ga_nil))))))
 (gs_cons (gs_set (i := 8) sc_law.nd rfl (by first | exact Or.inl rfl | exact Or.inr rfl) (ge_call G0.c__law_changed hr rfl tk (ga_cons (ge_var (pv 1)) (ga_cons (ge_var (pv 6)) (ga_cons (ge_var (pv 2)) ga_nil)))))
 (gs_cons (gs_set (i := 9) sc_law.nd rfl (by first | exact Or.inl rfl | exact Or.inr rfl) (ge_ofL (gl_lst (ga_cons (ge_var (pv 6)) (ga_cons (ge_var (pv 7)) (ga_cons (ge_var (pv 8)) (ga_cons (ge_call G0.c__law_changed hr rfl tk (ga_cons (ge_var (pv 1)) (ga_cons (ge_var (pv 7)) (ga_cons (ge_var (pv 2)) ga_nil)))) (ga_cons (ge_call G0.c__law_renamed hr rfl tk (ga_cons (ge_var (pv 1)) (ga_cons (ge_var (pv 8)) (ga_cons ge_dict0 (ga_cons (ge_var (pv 2)) ga_nil))))) ga_nil))))))))
 (gs_cons (gs_do (ge_bm PySem.F.plainAttrs_list PySem.F.slot_list_append PySem.F.type_list_append m_append (ge_var (pv 9)) (ga_cons (ge_call G0.c__law_met hr rfl tk (ga_cons (ge_var (pv 1)) (ga_cons (ge_var (pv 3)) (ga_cons (ge_var (pv 5)) (ga_cons (ge_call G0.c__law_pick hr rfl tk (ga_cons (ge_var (pv 1)) (ga_cons ge_int ga_nil))) (ga_cons (ge_ofL (gl_lst (ga_cons ge_int ga_nil))) ga_nil)))))) ga_nil)))
 (gs_cons (gs_setLc (i := 10) (own := [("one", 14)]) (by rfl) sc_law.nd rfl rfl (sw_true rfl rfl rfl (by decide +kernel)) (gi_seq (ge_var (pv 9))) (blkOk_by (N := NN_law) (sc := defScope st_law) (by decide +kernel)) (fun _ _ _ _ _ => (gg_name (i := 14) sc_law.nd rfl (by first | exact Or.inl rfl | exact Or.inr rfl))) (by decide) (fun _ _ _ _ _ => gts_nil) (fun _ _ _ _ _ => (ge_call G0.c__law_plain hr rfl takes_none5 (ga_cons (ge_var (pv 14)) (ga_cons ge_dict0 (ga_cons ge_int ga_nil))))))
 (gs_cons (gs_set (i := 11) sc_law.nd rfl (by first | exact Or.inl rfl | exact Or.inr rfl) (ge_ofL (gl_lst ga_nil)))
 (gs_cons (gs_for hp (by rfl) (gi_range1 rfl F.z_range (ge_callB c_len rfl F.z_len bt_len (ga_cons (ge_var (pv 9)) ga_nil))) (gg_name (i := 12) sc_law.nd rfl (by first | exact Or.inl rfl | exact Or.inr rfl))
 (gs_cons (gs_set (i := 11) sc_law.nd rfl (by first | exact Or.inl rfl | exact Or.inr rfl) (ge_op o_add (ge_var (pv 11)) (ge_ofL (gl_lc (own := [("k", 4)]) (by rfl) sc_law.nd (gi_range1 rfl F.z_range (ge_callB c_len rfl F.z_len bt_len (ga_cons (ge_var (pv 9)) ga_nil))) (blkOk_by (N := NN_law) (sc := defScope st_law) (by decide +kernel)) (fun _ _ _ _ _ => (gg_name (i := 4) sc_law.nd rfl (by first | exact Or.inl rfl | exact Or.inr rfl))) (by decide) (fun _ _ _ _ _ => gts_nil) (fun _ _ _ _ _ => (ge_tup (ga_cons (ge_var (pv 12)) (ga_cons (ge_var (pv 4)) ga_nil))))))))
 gs_nil))
 (gs_cons (gs_for hp (by rfl) (gi_seq (ge_op o_add (ge_var (pv 11)) (ge_ofL (gl_lst (ga_cons (ge_tup (ga_cons ge_int (ga_cons ge_int ga_nil))) (ga_cons (ge_tup (ga_cons ge_int (ga_cons ge_int ga_nil))) (ga_cons (ge_tup (ga_cons ge_int (ga_cons ge_int ga_nil))) ga_nil))))))) (gg_name (i := 13) sc_law.nd rfl (by first | exact Or.inl rfl | exact Or.inr rfl))
 (gs_cons (gs_if (gt_not (gt_of (ge_call G0.c__law_same hr rfl tk (ga_cons (ge_call G0.c_are_alike hr rfl tk (ga_cons (ge_ix hu (ge_var (pv 9)) (ge_ix hu (ge_var (pv 13)) ge_int)) (ga_cons (ge_ix hu (ge_var (pv 9)) (ge_ix hu (ge_var (pv 13)) ge_int)) ga_nil))) (ga_cons (ge_cmp (o_eq hr.units) (ge_ix hu (ge_var (pv 10)) (ge_ix hu (ge_var (pv 13)) ge_int)) (ge_ix hu (ge_var (pv 10)) (ge_ix hu (ge_var (pv 13)) ge_int)) (by rfl)) ga_nil)))))
 (gs_cons (gs_ret ge_bl)
 gs_nil)
 gs_nil)
 gs_nil))
 (gs_cons (gs_ret ge_bl)
 gs_nil)))))))))))))))))
theorem cals_zero (F : Facts w K mg) (k : Nat) : Cals P w K mg base k tb0 where
  c_law := cal_zero F.c_law
  c__law_same := cal_zero F.c__law_same
  c_are_alike := cal_zero F.c_are_alike
  c__law_plain := cal_zero F.c__law_plain
  c__law_met := cal_zero F.c__law_met
  c__law_pick := cal_zero F.c__law_pick
  c__law_renamed := cal_zero F.c__law_renamed
  c__law_changed := cal_zero F.c__law_changed
  c__law_tower := cal_zero F.c__law_tower
  c__law_new := cal_zero F.c__law_new
  c__law_names := cal_zero F.c__law_names
  c__law_start := cal_zero F.c__law_start
  c_alike_parts := cal_zero F.c_alike_parts
  c__law_with := cal_zero F.c__law_with
  c__law_filled := cal_zero F.c__law_filled
  c__law_expression := cal_zero F.c__law_expression
  c__law_free := cal_zero F.c__law_free
  c__law_fits := cal_zero F.c__law_fits
  c__law_put := cal_zero F.c__law_put
  c__law_other_leaf := cal_zero F.c__law_other_leaf
  c__law_leaves := cal_zero F.c__law_leaves
  c_alike_expressions := cal_zero F.c_alike_expressions
  c__law_rebuilt := cal_zero F.c__law_rebuilt
  c__law_items := cal_zero F.c__law_items
  c__law_number := cal_zero F.c__law_number
  c__law_words := cal_zero F.c__law_words
  c__law_uses := cal_zero F.c__law_uses
  c_inner_end := cal_zero F.c_inner_end
  c_items_start := cal_zero F.c_items_start
  c_same_words := cal_zero F.c_same_words
  c__law_uses_in := cal_zero F.c__law_uses_in
theorem cals_next (F : Facts w K mg) (G0 : Cals P w K mg base (k + 1) c) (G1 : Cals P w K mg base k c1) : Cals P w K mg base (k + 2) (nextTb c c1) where
  c_law := cal_def F.c_law sc_law rfl rfl (ok_law F G0 G1)
  c__law_same := cal_def F.c__law_same sc__law_same rfl rfl (ok__law_same F G0 G1)
  c_are_alike := cal_def F.c_are_alike sc_are_alike rfl rfl (ok_are_alike F G0 G1)
  c__law_plain := cal_def F.c__law_plain sc__law_plain rfl rfl (ok__law_plain F G0 G1)
  c__law_met := cal_def F.c__law_met sc__law_met rfl rfl (ok__law_met F G0 G1)
  c__law_pick := cal_def F.c__law_pick sc__law_pick rfl rfl (ok__law_pick F G0 G1)
  c__law_renamed := cal_def F.c__law_renamed sc__law_renamed rfl rfl (ok__law_renamed F G0 G1)
  c__law_changed := cal_def F.c__law_changed sc__law_changed rfl rfl (ok__law_changed F G0 G1)
  c__law_tower := cal_def F.c__law_tower sc__law_tower rfl rfl (ok__law_tower F G0 G1)
  c__law_new := cal_def F.c__law_new sc__law_new rfl rfl (ok__law_new F G0 G1)
  c__law_names := cal_def F.c__law_names sc__law_names rfl rfl (ok__law_names F G0 G1)
  c__law_start := cal_def F.c__law_start sc__law_start rfl rfl (ok__law_start F G0 G1)
  c_alike_parts := cal_def F.c_alike_parts sc_alike_parts rfl rfl (ok_alike_parts F G0 G1)
  c__law_with := cal_def F.c__law_with sc__law_with rfl rfl (ok__law_with F G0 G1)
  c__law_filled := cal_def F.c__law_filled sc__law_filled rfl rfl (ok__law_filled F G0 G1)
  c__law_expression := cal_def F.c__law_expression sc__law_expression rfl rfl (ok__law_expression F G0 G1)
  c__law_free := cal_def F.c__law_free sc__law_free rfl rfl (ok__law_free F G0 G1)
  c__law_fits := cal_def F.c__law_fits sc__law_fits rfl rfl (ok__law_fits F G0 G1)
  c__law_put := cal_def F.c__law_put sc__law_put rfl rfl (ok__law_put F G0 G1)
  c__law_other_leaf := cal_def F.c__law_other_leaf sc__law_other_leaf rfl rfl (ok__law_other_leaf F G0 G1)
  c__law_leaves := cal_def F.c__law_leaves sc__law_leaves rfl rfl (ok__law_leaves F G0 G1)
  c_alike_expressions := cal_def F.c_alike_expressions sc_alike_expressions rfl rfl (ok_alike_expressions F G0 G1)
  c__law_rebuilt := cal_def F.c__law_rebuilt sc__law_rebuilt rfl rfl (ok__law_rebuilt F G0 G1)
  c__law_items := cal_def F.c__law_items sc__law_items rfl rfl (ok__law_items F G0 G1)
  c__law_number := cal_def F.c__law_number sc__law_number rfl rfl (ok__law_number F G0 G1)
  c__law_words := cal_def F.c__law_words sc__law_words rfl rfl (ok__law_words F G0 G1)
  c__law_uses := cal_def F.c__law_uses sc__law_uses rfl rfl (ok__law_uses F G0 G1)
  c_inner_end := cal_def F.c_inner_end sc_inner_end rfl rfl (ok_inner_end F G0 G1)
  c_items_start := cal_def F.c_items_start sc_items_start rfl rfl (ok_items_start F G0 G1)
  c_same_words := cal_def F.c_same_words sc_same_words rfl rfl (ok_same_words F G0 G1)
  c__law_uses_in := cal_def F.c__law_uses_in sc__law_uses_in rfl rfl (ok__law_uses_in F G0 G1)
theorem cals_all (F : Facts w K mg) : ∀ k, Cals P w K mg base k (sem k)
  | 0 => cals_zero F 0
  | 1 => cals_zero F 1
  | k + 2 => cals_next F (cals_all F (k + 1)) (cals_all F k)
end
end K06

set_option maxRecDepth 100000
/-! The plain layer H, part 0: how the shallow code is run. Each step's rest is a word of its own (no binder), so that simp goes from the left to the right. -/
namespace G
open PySem PySem.Spec PyProof.Rows L2

def varR (o : Option (Option D)) (S : Sto) : R D := match o with
  | some (some d) => .ok d S
  | _ => .bad
@[simp] theorem varR_some (d : D) (S : Sto) : varR (some (some d)) S = .ok d S := (rfl)
@[simp] theorem eVar_eq (i : Nat) (env : Slots) (S : Sto) : eVar i env S = varR env[i]? S := (rfl)
@[simp] theorem eC_eq (d : D) (env : Slots) (S : Sto) : eC d env S = .ok d S := (rfl)
@[simp] theorem sNil_eq (env : Slots) (S : Sto) : sNil env S = .nx env S := (rfl)

def SR.sq (r : SR) (g : SX) : SR := match r with
  | .nx env S => g env S
  | r => r
@[simp] theorem sq_nx (g : SX) (env : Slots) (S : Sto) : (SR.nx env S).sq g = g env S := (rfl)
@[simp] theorem sq_rt (g : SX) (d : D) (S : Sto) : (SR.rt d S).sq g = .rt d S := (rfl)
@[simp] theorem sq_bk (g : SX) (env : Slots) (S : Sto) : (SR.bk env S).sq g = .bk env S := (rfl)
@[simp] theorem sq_ct (g : SX) (env : Slots) (S : Sto) : (SR.ct env S).sq g = .ct env S := (rfl)
@[simp] theorem sq_ex (g : SX) (e : Exn) (env : Slots) (S : Sto) : (SR.ex e env S).sq g = .ex e env S := (rfl)
@[simp] theorem sq_bad (g : SX) : SR.bad.sq g = .bad := (rfl)
@[simp] theorem sSeq_eq (f g : SX) (env : Slots) (S : Sto) : sSeq f g env S = (f env S).sq g := (rfl)
def ifR (r : R Bool) (env : Slots) (f g : SX) : SR := r.then env fun b S1 => bif b then f env S1 else g env S1
@[simp] theorem ifR_t (env : Slots) (f g : SX) (S : Sto) : ifR (.ok true S) env f g = f env S := (rfl)
@[simp] theorem ifR_f (env : Slots) (f g : SX) (S : Sto) : ifR (.ok false S) env f g = g env S := (rfl)
@[simp] theorem ifR_x (env : Slots) (f g : SX) (e : Exn) (S : Sto) : ifR (.exc e S) env f g = .ex e env S := (rfl)
@[simp] theorem sIf_eq (c : BX) (f g : SX) (env : Slots) (S : Sto) : sIf c f g env S = ifR (c env S) env f g := (rfl)
def setR (r : R D) (env : Slots) (i : Nat) : SR := r.then env fun d S1 => .nx (env.set i (some d)) S1
@[simp] theorem setR_ok (d : D) (env : Slots) (i : Nat) (S : Sto) : setR (.ok d S) env i = .nx (env.set i (some d)) S := (rfl)
@[simp] theorem setR_x (e : Exn) (env : Slots) (i : Nat) (S : Sto) : setR (.exc e S) env i = .ex e env S := (rfl)
@[simp] theorem sSet_eq (i : Nat) (f : EX) (env : Slots) (S : Sto) : sSet i f env S = setR (f env S) env i := (rfl)
def retR (r : R D) (env : Slots) : SR := r.then env fun d S1 => .rt d S1
@[simp] theorem retR_ok (d : D) (env : Slots) (S : Sto) : retR (.ok d S) env = .rt d S := (rfl)
@[simp] theorem retR_x (e : Exn) (env : Slots) (S : Sto) : retR (.exc e S) env = .ex e env S := (rfl)
@[simp] theorem sRet_eq (f : EX) (env : Slots) (S : Sto) : sRet f env S = retR (f env S) env := (rfl)
def doR (r : R D) (env : Slots) : SR := r.then env fun _ S1 => .nx env S1
@[simp] theorem doR_ok (d : D) (env : Slots) (S : Sto) : doR (.ok d S) env = .nx env S := (rfl)
@[simp] theorem doR_x (e : Exn) (env : Slots) (S : Sto) : doR (.exc e S) env = .ex e env S := (rfl)
@[simp] theorem sDo_eq (f : EX) (env : Slots) (S : Sto) : sDo f env S = doR (f env S) env := (rfl)
@[simp] theorem sRaise_eq (c : Str) (env : Slots) (S : Sto) : sRaise c env S = .ex ⟨c, []⟩ env S := (rfl)
@[simp] theorem sBreak_eq (env : Slots) (S : Sto) : sBreak env S = .bk env S := (rfl)
@[simp] theorem sCont_eq (env : Slots) (S : Sto) : sCont env S = .ct env S := (rfl)
@[simp] theorem sRetN_eq (env : Slots) (S : Sto) : sRetN env S = .rt (.a .non) S := (rfl)

/-! ### expressions -/
def bin2 (r : R D) (g : Op2) (d : D) : R D := r.bind fun e S2 => ofO (g d e S2)
@[simp] theorem bin2_ok (g : Op2) (d e : D) (S : Sto) : bin2 (.ok e S) g d = ofO (g d e S) := (rfl)
@[simp] theorem bin2_x (g : Op2) (d : D) (e : Exn) (S : Sto) : bin2 (.exc e S) g d = .exc e S := (rfl)
def bin1 (r : R D) (g : Op2) (fb : EX) (env : Slots) : R D := r.bind fun d S1 => bin2 (fb env S1) g d
@[simp] theorem bin1_ok (g : Op2) (fb : EX) (env : Slots) (d : D) (S : Sto) : bin1 (.ok d S) g fb env = bin2 (fb env S) g d := (rfl)
@[simp] theorem bin1_x (g : Op2) (fb : EX) (env : Slots) (e : Exn) (S : Sto) : bin1 (.exc e S) g fb env = .exc e S := (rfl)
@[simp] theorem eBin_eq (g : Op2) (fa fb : EX) (env : Slots) (S : Sto) : eBin g fa fb env S = bin1 (fa env S) g fb env := (rfl)
def un1 (r : R D) (g : D → Sto → Option (D × Sto)) : R D := r.bind fun d S1 => ofO (g d S1)
@[simp] theorem un1_ok (g : D → Sto → Option (D × Sto)) (d : D) (S : Sto) : un1 (.ok d S) g = ofO (g d S) := (rfl)
@[simp] theorem eUn_eq (g : D → Sto → Option (D × Sto)) (fa : EX) (env : Slots) (S : Sto) : eUn g fa env S = un1 (fa env S) g := (rfl)
def toB (r : R D) : R Bool := r.bind fun d S => match d with
  | .a (.bl b) => .ok b S
  | _ => .bad
@[simp] theorem toB_ok (b : Bool) (S : Sto) : toB (.ok (.a (.bl b)) S) = .ok b S := (rfl)
@[simp] theorem toB_x (e : Exn) (S : Sto) : toB (.exc e S) = .exc e S := (rfl)
@[simp] theorem tBin_eq (g : Op2) (fa fb : EX) (env : Slots) (S : Sto) : tBin g fa fb env S = toB (bin1 (fa env S) g fb env) := by
  unfold tBin toB bin1 bin2
  cases fa env S with
  | bad => rfl
  | exc e S => rfl
  | ok d S1 =>
    simp only [R.bind_ok]
    cases fb env S1 <;> rfl
def trR (r : R D) : R Bool := r.bind fun d S1 => ofB (dTruth d S1) S1
@[simp] theorem trR_ok (d : D) (S : Sto) : trR (.ok d S) = ofB (dTruth d S) S := (rfl)
@[simp] theorem trR_x (e : Exn) (S : Sto) : trR (.exc e S) = .exc e S := (rfl)
@[simp] theorem tOf_eq (f : EX) (env : Slots) (S : Sto) : tOf f env S = trR (f env S) := (rfl)
@[simp] theorem truth_bl (b : Bool) (S : Sto) : dTruth (.a (.bl b)) S = some b := (rfl)
@[simp] theorem truth_int (i : Int) (S : Sto) : dTruth (.a (.int i)) S = some (i != 0) := (rfl)
@[simp] theorem truth_non (S : Sto) : dTruth (.a .non) S = some false := (rfl)
@[simp] theorem truth_tup (ds : List D) (S : Sto) : dTruth (.tup ds) S = some (!ds.isEmpty) := (rfl)
def andR (r : R Bool) (g : BX) (env : Slots) : R Bool := r.bind fun b S1 => bif b then g env S1 else .ok false S1
@[simp] theorem andR_t (g : BX) (env : Slots) (S : Sto) : andR (.ok true S) g env = g env S := (rfl)
@[simp] theorem andR_f (g : BX) (env : Slots) (S : Sto) : andR (.ok false S) g env = .ok false S := (rfl)
@[simp] theorem tAnd_eq (f g : BX) (env : Slots) (S : Sto) : tAnd f g env S = andR (f env S) g env := (rfl)
def orR (r : R Bool) (g : BX) (env : Slots) : R Bool := r.bind fun b S1 => bif b then .ok true S1 else g env S1
@[simp] theorem orR_t (g : BX) (env : Slots) (S : Sto) : orR (.ok true S) g env = .ok true S := (rfl)
@[simp] theorem orR_f (g : BX) (env : Slots) (S : Sto) : orR (.ok false S) g env = g env S := (rfl)
@[simp] theorem tOr_eq (f g : BX) (env : Slots) (S : Sto) : tOr f g env S = orR (f env S) g env := (rfl)
def notR (r : R Bool) : R Bool := r.bind fun b S1 => .ok (!b) S1
@[simp] theorem notR_ok (b : Bool) (S : Sto) : notR (.ok b S) = .ok (!b) S := (rfl)
@[simp] theorem tNot_eq (f : BX) (env : Slots) (S : Sto) : tNot f env S = notR (f env S) := (rfl)
def eAndR (r : R D) (g : EX) (env : Slots) : R D := r.bind fun d S1 => match d with
  | .a (.bl true) => g env S1
  | .a (.bl false) => .ok (.a (.bl false)) S1
  | _ => .bad
@[simp] theorem eAndR_t (g : EX) (env : Slots) (S : Sto) : eAndR (.ok (.a (.bl true)) S) g env = g env S := (rfl)
@[simp] theorem eAndR_f (g : EX) (env : Slots) (S : Sto) : eAndR (.ok (.a (.bl false)) S) g env = .ok (.a (.bl false)) S := (rfl)
@[simp] theorem eAnd_eq (f g : EX) (env : Slots) (S : Sto) : eAnd f g env S = eAndR (f env S) g env := (rfl)
def eOrR (r : R D) (g : EX) (env : Slots) : R D := r.bind fun d S1 => match d with
  | .a (.bl false) => g env S1
  | .a (.bl true) => .ok (.a (.bl true)) S1
  | _ => .bad
@[simp] theorem eOrR_f (g : EX) (env : Slots) (S : Sto) : eOrR (.ok (.a (.bl false)) S) g env = g env S := (rfl)
@[simp] theorem eOrR_t (g : EX) (env : Slots) (S : Sto) : eOrR (.ok (.a (.bl true)) S) g env = .ok (.a (.bl true)) S := (rfl)
@[simp] theorem eOr_eq (f g : EX) (env : Slots) (S : Sto) : eOr f g env S = eOrR (f env S) g env := (rfl)
def eNotR (r : R D) : R D := r.bind fun d S1 => match d with
  | .a (.bl b) => .ok (.a (.bl (!b))) S1
  | _ => .bad
@[simp] theorem eNotR_ok (b : Bool) (S : Sto) : eNotR (.ok (.a (.bl b)) S) = .ok (.a (.bl (!b))) S := (rfl)
@[simp] theorem eNot_eq (f : EX) (env : Slots) (S : Sto) : eNot f env S = eNotR (f env S) := (rfl)
def ifE (r : R Bool) (f g : EX) (env : Slots) : R D := r.bind fun b S1 => bif b then f env S1 else g env S1
@[simp] theorem ifE_t (f g : EX) (env : Slots) (S : Sto) : ifE (.ok true S) f g env = f env S := (rfl)
@[simp] theorem ifE_f (f g : EX) (env : Slots) (S : Sto) : ifE (.ok false S) f g env = g env S := (rfl)
@[simp] theorem eIf_eq (c : BX) (f g : EX) (env : Slots) (S : Sto) : eIf c f g env S = ifE (c env S) f g env := (rfl)
/-! lists of arguments -/
def cons2 (r : R (List D)) (d : D) : R (List D) := r.bind fun ds S2 => .ok (d :: ds) S2
@[simp] theorem cons2_ok (d : D) (ds : List D) (S : Sto) : cons2 (.ok ds S) d = .ok (d :: ds) S := (rfl)
@[simp] theorem cons2_x (d : D) (e : Exn) (S : Sto) : cons2 (.exc e S) d = .exc e S := (rfl)
def cons1 (r : R D) (g : AX) (env : Slots) : R (List D) := r.bind fun d S1 => cons2 (g env S1) d
@[simp] theorem cons1_ok (g : AX) (env : Slots) (d : D) (S : Sto) : cons1 (.ok d S) g env = cons2 (g env S) d := (rfl)
@[simp] theorem cons1_x (g : AX) (env : Slots) (e : Exn) (S : Sto) : cons1 (.exc e S) g env = .exc e S := (rfl)
@[simp] theorem aNil_eq (env : Slots) (S : Sto) : aNil env S = .ok [] S := (rfl)
@[simp] theorem aCons_eq (f : EX) (g : AX) (env : Slots) (S : Sto) : aCons f g env S = cons1 (f env S) g env := (rfl)
def tupR (r : R (List D)) : R D := r.bind fun ds S1 => .ok (.tup ds) S1
@[simp] theorem tupR_ok (ds : List D) (S : Sto) : tupR (.ok ds S) = .ok (.tup ds) S := (rfl)
@[simp] theorem tupR_x (e : Exn) (S : Sto) : tupR (.exc e S) = .exc e S := (rfl)
@[simp] theorem eTup_eq (f : AX) (env : Slots) (S : Sto) : eTup f env S = tupR (f env S) := (rfl)
def ofLR (r : R (List D)) : R D := r.bind fun ds S1 => .ok (.cel S1.length) (S1 ++ [.lst ds])
@[simp] theorem ofLR_ok (ds : List D) (S : Sto) : ofLR (.ok ds S) = .ok (.cel S.length) (S ++ [.lst ds]) := (rfl)
@[simp] theorem eOfL_eq (f : AX) (env : Slots) (S : Sto) : eOfL f env S = ofLR (f env S) := (rfl)
def ixL2 (r : R D) (ds : List D) : R D := r.bind fun e S2 => match e with
  | .a (.int k) => match atI ds k with
    | some d => .ok d S2
    | none => .bad
  | _ => .bad
def optR (o : Option D) (S : Sto) : R D := match o with
  | some d => .ok d S
  | none => .bad
@[simp] theorem optR_some (d : D) (S : Sto) : optR (some d) S = .ok d S := (rfl)
@[simp] theorem ixL2_ok (ds : List D) (k : Int) (S : Sto) : ixL2 (.ok (.a (.int k)) S) ds = optR (atI ds k) S := (rfl)
def ixL1 (r : R (List D)) (fb : EX) (env : Slots) : R D := r.bind fun ds S1 => ixL2 (fb env S1) ds
@[simp] theorem ixL1_ok (fb : EX) (env : Slots) (ds : List D) (S : Sto) : ixL1 (.ok ds S) fb env = ixL2 (fb env S) ds := (rfl)
@[simp] theorem eIxL_eq (fl : AX) (fb : EX) (env : Slots) (S : Sto) : eIxL fl fb env S = ixL1 (fl env S) fb env := (rfl)
/-! slices -/
@[simp] theorem oNone_eq (env : Slots) (S : Sto) : oNone env S = .ok none S := (rfl)
def someR (r : R D) : R (Option Int) := r.bind fun d S1 => match d with
  | .a (.int i) => .ok (some i) S1
  | _ => .bad
@[simp] theorem someR_ok (i : Int) (S : Sto) : someR (.ok (.a (.int i)) S) = .ok (some i) S := (rfl)
@[simp] theorem oSome_eq (f : EX) (env : Slots) (S : Sto) : oSome f env S = someR (f env S) := (rfl)
def cut3 (r : R (Option Int)) (d : D) (lo : Option Int) : R D := r.bind fun hi S3 => ofO (dCut d lo hi S3)
@[simp] theorem cut3_ok (d : D) (lo hi : Option Int) (S : Sto) : cut3 (.ok hi S) d lo = ofO (dCut d lo hi S) := (rfl)
def cut2 (r : R (Option Int)) (d : D) (fh : OX) (env : Slots) : R D := r.bind fun lo S2 => cut3 (fh env S2) d lo
@[simp] theorem cut2_ok (d : D) (lo : Option Int) (fh : OX) (env : Slots) (S : Sto) : cut2 (.ok lo S) d fh env = cut3 (fh env S) d lo := (rfl)
def cut1 (r : R D) (fl fh : OX) (env : Slots) : R D := r.bind fun d S1 => cut2 (fl env S1) d fh env
@[simp] theorem cut1_ok (d : D) (fl fh : OX) (env : Slots) (S : Sto) : cut1 (.ok d S) fl fh env = cut2 (fl env S) d fh env := (rfl)
@[simp] theorem eCut_eq (fa : EX) (fl fh : OX) (env : Slots) (S : Sto) : eCut fa fl fh env S = cut1 (fa env S) fl fh env := (rfl)
@[simp] theorem dCut_tup (ds : List D) (lo hi : Option Int) (S : Sto) : dCut (.tup ds) lo hi S = some (.tup (cutL ds lo hi), S) := (rfl)
/-! calls -/
def cbR (r : R (List D)) (g : OpC) : R D := r.bind fun ds S1 => ofO (g ds S1)
@[simp] theorem cbR_ok (g : OpC) (ds : List D) (S : Sto) : cbR (.ok ds S) g = ofO (g ds S) := (rfl)
@[simp] theorem cbR_x (g : OpC) (e : Exn) (S : Sto) : cbR (.exc e S) g = .exc e S := (rfl)
@[simp] theorem eCallB_eq (g : OpC) (fa : AX) (env : Slots) (S : Sto) : eCallB g fa env S = cbR (fa env S) g := (rfl)
@[simp] theorem eCallT_eq (g : List D → Sto → Option (D × Sto)) (fa : AX) (env : Slots) (S : Sto) : eCallT g fa env S = cbR (fa env S) g := (rfl)
def callR (r : R (List D)) (F : List D → Sto → R D) (dds : List D) : R D := r.bind fun ds S1 => F (ds ++ dds) S1
@[simp] theorem callR_ok (F : List D → Sto → R D) (dds ds : List D) (S : Sto) : callR (.ok ds S) F dds = F (ds ++ dds) S := (rfl)
@[simp] theorem callR_x (F : List D → Sto → R D) (dds : List D) (e : Exn) (S : Sto) : callR (.exc e S) F dds = .exc e S := (rfl)
@[simp] theorem eCall_eq (F : List D → Sto → R D) (dds : List D) (fa : AX) (env : Slots) (S : Sto) : eCall F dds fa env S = callR (fa env S) F dds := (rfl)
/-- a method of the instance in the cell -/
def methG (c m : Str) (o : Option Cell) : Bool := match o with
  | some (.ins c' fs) => decide (c' = c ∧ fs.lookup m = none)
  | _ => false
def meth3 (r : R (List D)) (F : List D → Sto → R D) (dds : List D) (d : D) : R D := r.bind fun ds S2 => F (d :: (ds ++ dds)) S2
@[simp] theorem meth3_ok (F : List D → Sto → R D) (dds ds : List D) (d : D) (S : Sto) : meth3 (.ok ds S) F dds d = F (d :: (ds ++ dds)) S := (rfl)
def meth2 (b : Bool) (d : D) (F : List D → Sto → R D) (dds : List D) (fa : AX) (env : Slots) (S : Sto) : R D := bif b then meth3 (fa env S) F dds d else .bad
@[simp] theorem meth2_t (d : D) (F : List D → Sto → R D) (dds : List D) (fa : AX) (env : Slots) (S : Sto) : meth2 true d F dds fa env S = meth3 (fa env S) F dds d := (rfl)
def meth1 (r : R D) (c m : Str) (F : List D → Sto → R D) (dds : List D) (fa : AX) (env : Slots) : R D := r.bind fun d S1 => match d with
  | .cel n => meth2 (methG c m S1[n]?) (.cel n) F dds fa env S1
  | _ => .bad
@[simp] theorem meth1_ok (n : Nat) (c m : Str) (F : List D → Sto → R D) (dds : List D) (fa : AX) (env : Slots) (S : Sto) : meth1 (.ok (.cel n) S) c m F dds fa env = meth2 (methG c m S[n]?) (.cel n) F dds fa env S := (rfl)
@[simp] theorem meth1_x (e : Exn) (c m : Str) (F : List D → Sto → R D) (dds : List D) (fa : AX) (env : Slots) (S : Sto) : meth1 (.exc e S) c m F dds fa env = .exc e S := (rfl)
@[simp] theorem eMethO_eq (c m : Str) (F : List D → Sto → R D) (dds : List D) (fo : EX) (fa : AX) (env : Slots) (S : Sto) : eMethO c m F dds fo fa env S = meth1 (fo env S) c m F dds fa env := by
  unfold eMethO meth1
  cases fo env S with
  | bad => rfl
  | exc e S => rfl
  | ok d S1 =>
    simp only [R.bind_ok]
    cases d with
    | cel n =>
      dsimp only
      cases h : S1[n]? with
      | none => rfl
      | some z =>
        cases z with
        | ins c' fs =>
          dsimp only
          unfold methG
          by_cases h : c' = c ∧ fs.lookup m = none
          · rw [if_pos h]
            dsimp only
            rw [decide_eq_true h]; rfl
          · rw [if_neg h]
            dsimp only
            rw [decide_eq_false h]; rfl
        | _ => rfl
    | _ => rfl
def make2 (r : R D) (n : Nat) : R D := r.bind fun v S2 => match v with
  | .a .non => .ok (.cel n) S2
  | _ => .bad
@[simp] theorem make2_ok (n : Nat) (S : Sto) : make2 (.ok (.a .non) S) n = .ok (.cel n) S := (rfl)
@[simp] theorem make2_x (n : Nat) (e : Exn) (S : Sto) : make2 (.exc e S) n = .exc e S := (rfl)
def make1 (r : R (List D)) (c : Str) (F : List D → Sto → R D) (dds : List D) : R D := r.bind fun ds S1 => make2 (F (.cel S1.length :: (ds ++ dds)) (S1 ++ [.ins c []])) S1.length
@[simp] theorem make1_ok (ds : List D) (S : Sto) (c : Str) (F : List D → Sto → R D) (dds : List D) : make1 (.ok ds S) c F dds = make2 (F (.cel S.length :: (ds ++ dds)) (S ++ [.ins c []])) S.length := (rfl)
@[simp] theorem eMake_eq (c : Str) (F : List D → Sto → R D) (dds : List D) (fa : AX) (env : Slots) (S : Sto) : eMake c F dds fa env S = make1 (fa env S) c F dds := (rfl)
/-- a field -/
def fldR (r : R D) (cs : List Str) (f : Str) : R D := r.bind fun d S1 => match d with
  | .cel n => match S1[n]? with
    | some (.ins c fs) => if c ∈ cs then match fs.lookup f with
      | some v => .ok v S1
      | none => .bad else .bad
    | _ => .bad
  | _ => .bad
@[simp] theorem eFld_eq (cs : List Str) (f : Str) (fo : EX) (env : Slots) (S : Sto) : eFld cs f fo env S = fldR (fo env S) cs f := (rfl)
theorem fldR_at {cs : List Str} {f : Str} {n : Nat} {S : Sto} {c : Str} {fs : List (Str × D)} {v : D} (h : S[n]? = some (.ins c fs)) (hc : c ∈ cs) (hv : fs.lookup f = some v) : fldR (.ok (.cel n) S) cs f = .ok v S := by
  unfold fldR
  rw [R.bind_ok]
  dsimp only
  rw [h]
  dsimp only
  rw [if_pos hc, hv]
@[simp] theorem fldR_x (cs : List Str) (f : Str) (e : Exn) (S : Sto) : fldR (.exc e S) cs f = .exc e S := (rfl)
theorem methG_at {c m : Str} {n : Nat} {S : Sto} {fs : List (Str × D)} (h : S[n]? = some (.ins c fs)) (hm : fs.lookup m = none) : methG c m S[n]? = true := by
  rw [h]
  exact decide_eq_true ⟨rfl, hm⟩
/-- o[i] of an instance -/
def ixO2 (r : R D) (c : Str) (F : List D → Sto → R D) (d : D) : R D := r.bind fun e S2 => match d with
  | .cel n => match S2[n]? with
    | some (.ins c' _) => if c' = c then F [d, e] S2 else .bad
    | _ => ofO (dIx d e S2)
  | _ => ofO (dIx d e S2)
def ixO1 (r : R D) (c : Str) (F : List D → Sto → R D) (gb : EX) (env : Slots) : R D := r.bind fun d S1 => ixO2 (gb env S1) c F d
@[simp] theorem ixO1_ok (d : D) (c : Str) (F : List D → Sto → R D) (gb : EX) (env : Slots) (S : Sto) : ixO1 (.ok d S) c F gb env = ixO2 (gb env S) c F d := (rfl)
@[simp] theorem eIxO_eq (c : Str) (F : List D → Sto → R D) (ga gb : EX) (env : Slots) (S : Sto) : eIxO c F ga gb env S = ixO1 (ga env S) c F gb env := (rfl)
theorem ixO2_at {c : Str} {F : List D → Sto → R D} {n : Nat} {e : D} {S : Sto} {fs : List (Str × D)} (h : S[n]? = some (.ins c fs)) : ixO2 (.ok e S) c F (.cel n) = F [.cel n, e] S := by
  unfold ixO2
  rw [R.bind_ok]
  dsimp only
  rw [h]
  exact if_pos rfl
def isCR (r : R D) (sub : Str → Option Bool) : R D := r.bind fun d S1 => match d with
  | .cel n => match S1[n]? with
    | some (.ins c _) => match sub c with
      | some b => .ok (.a (.bl b)) S1
      | none => .bad
    | _ => .bad
  | _ => .bad
@[simp] theorem eIsC_eq (sub : Str → Option Bool) (fo : EX) (env : Slots) (S : Sto) : eIsC sub fo env S = isCR (fo env S) sub := (rfl)
theorem isCR_at {sub : Str → Option Bool} {n : Nat} {S : Sto} {c : Str} {fs : List (Str × D)} {b : Bool} (h : S[n]? = some (.ins c fs)) (hb : sub c = some b) : isCR (.ok (.cel n) S) sub = .ok (.a (.bl b)) S := by
  unfold isCR
  rw [R.bind_ok]
  dsimp only
  rw [h]
  dsimp only
  rw [hb]
@[simp] theorem eIsE_nil (c : Str) (sub : Str → Option Bool) (env : Slots) (S : Sto) : eIsE ⟨c, []⟩ sub env S = match sub c with
  | some b => .ok (.a (.bl b)) S
  | none => .bad := (rfl)
/-! statements with targets -/
def asgR (r : R D) (t : TgX) (env : Slots) : SR := r.then env fun d S1 => match t d env S1 with
  | some (env', S') => .nx env' S'
  | none => .bad
def nxO (o : Option (Slots × Sto)) : SR := match o with
  | some (env', S') => .nx env' S'
  | none => .bad
@[simp] theorem nxO_some (env : Slots) (S : Sto) : nxO (some (env, S)) = .nx env S := (rfl)
@[simp] theorem asgR_ok (d : D) (t : TgX) (env : Slots) (S : Sto) : asgR (.ok d S) t env = nxO (t d env S) := (rfl)
@[simp] theorem sAsg_eq (f : EX) (t : TgX) (env : Slots) (S : Sto) : sAsg f t env S = asgR (f env S) t env := (rfl)
@[simp] theorem gN_eq (i : Nat) (d : D) (env : Slots) (S : Sto) : gN i d env S = some (env.set i (some d), S) := (rfl)
@[simp] theorem gsNil_eq (env : Slots) (S : Sto) : gsNil [] env S = some (env, S) := (rfl)
def put3 (r : R D) (env : Slots) (v o : D) : SR := r.then env fun i S3 => match dPut o i v S3 with
  | some S4 => .nx env S4
  | none => .bad
def put2 (r : R D) (env : Slots) (v : D) (fi : EX) : SR := r.then env fun o S2 => put3 (fi env S2) env v o
def put1 (r : R D) (env : Slots) (fo fi : EX) : SR := r.then env fun v S1 => put2 (fo env S1) env v fi
def nxS (o : Option Sto) (env : Slots) : SR := match o with
  | some S4 => .nx env S4
  | none => .bad
@[simp] theorem nxS_some (env : Slots) (S : Sto) : nxS (some S) env = .nx env S := (rfl)
@[simp] theorem put3_ok (i v o : D) (env : Slots) (S : Sto) : put3 (.ok i S) env v o = nxS (dPut o i v S) env := (rfl)
@[simp] theorem put2_ok (v o : D) (fi : EX) (env : Slots) (S : Sto) : put2 (.ok o S) env v fi = put3 (fi env S) env v o := (rfl)
@[simp] theorem put1_ok (v : D) (fo fi : EX) (env : Slots) (S : Sto) : put1 (.ok v S) env fo fi = put2 (fo env S) env v fi := (rfl)
@[simp] theorem sPut_eq (fv fo fi : EX) (env : Slots) (S : Sto) : sPut fv fo fi env S = put1 (fv env S) env fo fi := (rfl)
def sfld2 (r : R D) (env : Slots) (cs : List Str) (f : Str) (v : D) : SR := r.then env fun d S2 => match d with
  | .cel n => match S2[n]? with
    | some (.ins c fs) => if c ∈ cs ∧ fs.length < 1000 then .nx env (S2.set n (.ins c (putD f v fs))) else .bad
    | _ => .bad
  | _ => .bad
def sfld1 (r : R D) (env : Slots) (cs : List Str) (f : Str) (fo : EX) : SR := r.then env fun v S1 => sfld2 (fo env S1) env cs f v
@[simp] theorem sfld1_ok (v : D) (env : Slots) (cs : List Str) (f : Str) (fo : EX) (S : Sto) : sfld1 (.ok v S) env cs f fo = sfld2 (fo env S) env cs f v := (rfl)
@[simp] theorem sFldX_eq (cs : List Str) (f : Str) (fv fo : EX) (env : Slots) (S : Sto) : sFldX cs f fv fo env S = sfld1 (fv env S) env cs f fo := (rfl)
theorem sfld2_at {cs : List Str} {f : Str} {v : D} {env : Slots} {n : Nat} {S : Sto} {c : Str} {fs : List (Str × D)} (h : S[n]? = some (.ins c fs)) (hc : c ∈ cs) (hl : fs.length < 1000) : sfld2 (.ok (.cel n) S) env cs f v = .nx env (S.set n (.ins c (putD f v fs))) := by
  unfold sfld2
  rw [R.then_ok]
  dsimp only
  rw [h]
  exact if_pos ⟨hc, hl⟩
def aug2 (o : Option (D × Sto)) (env : Slots) (i : Nat) : SR := match o with
  | some (z, S2) => .nx (env.set i (some z)) S2
  | none => .bad
@[simp] theorem aug2_some (z : D) (S : Sto) (env : Slots) (i : Nat) : aug2 (some (z, S)) env i = .nx (env.set i (some z)) S := (rfl)
def aug1 (r : R D) (env : Slots) (i : Nat) (g : Op2) (x : D) : SR := r.then env fun y S1 => aug2 (g x y S1) env i
@[simp] theorem aug1_ok (y : D) (S : Sto) (env : Slots) (i : Nat) (g : Op2) (x : D) : aug1 (.ok y S) env i g x = aug2 (g x y S) env i := (rfl)
def aug0 (o : Option (Option D)) (env : Slots) (i : Nat) (g : Op2) (f : EX) (S : Sto) : SR := match o with
  | some (some x) => aug1 (f env S) env i g x
  | _ => .bad
@[simp] theorem aug0_some (x : D) (env : Slots) (i : Nat) (g : Op2) (f : EX) (S : Sto) : aug0 (some (some x)) env i g f S = aug1 (f env S) env i g x := (rfl)
@[simp] theorem sAug_eq (i : Nat) (g : Op2) (f : EX) (env : Slots) (S : Sto) : sAug i g f env S = aug0 env[i]? env i g f S := by
  unfold sAug aug0
  cases env[i]? with
  | none => rfl
  | some x =>
    cases x with
    | none => rfl
    | some x =>
      unfold aug1
      dsimp only
      cases f env S <;> rfl
/-! loops -/
def forR (r : R (List D × Gd)) (t : TgX) (body : SX) (env : Slots) (go : Gd → List D → TgX → SX → List D → Slots → Sto → SR) : SR := r.then env fun w S1 => go w.2 w.1 t body w.1 env S1
@[simp] theorem sFor_eq (it : IX) (t : TgX) (body : SX) (env : Slots) (S : Sto) : sFor it t body env S = forR (it env S) t body env forGo := (rfl)
@[simp] theorem forR_ok (ds : List D) (g : Gd) (t : TgX) (body : SX) (env : Slots) (S : Sto) (go : Gd → List D → TgX → SX → List D → Slots → Sto → SR) : forR (.ok (ds, g) S) t body env go = go g ds t body ds env S := (rfl)
def iR1R (r : R D) : R (List D × Gd) := r.bind fun d S1 => match d with
  | .a (.int j) => if -(2 ^ 62) ≤ j ∧ j < 2 ^ 62 then .ok (rangeL 0 j.toNat, none) S1 else .bad
  | _ => .bad
@[simp] theorem iR1_eq (f : EX) (env : Slots) (S : Sto) : iR1 f env S = iR1R (f env S) := (rfl)
theorem iR1R_nat {n : Nat} (S : Sto) (h : n < 2 ^ 62) : iR1R (.ok (.a (.int n)) S) = .ok (rangeL 0 n, none) S := by
  unfold iR1R
  rw [R.bind_ok]
  dsimp only
  rw [if_pos (by omega), Int.toNat_natCast]
def iR2b (r : R D) (d : D) : R (List D × Gd) := r.bind fun e S2 => match d, e with
  | .a (.int i), .a (.int j) => if -(2 ^ 62) ≤ i ∧ i < 2 ^ 62 ∧ -(2 ^ 62) ≤ j ∧ j < 2 ^ 62 then .ok (rangeL i (j - i).toNat, none) S2 else .bad
  | _, _ => .bad
def iR2R (r : R D) (g : EX) (env : Slots) : R (List D × Gd) := r.bind fun d S1 => iR2b (g env S1) d
@[simp] theorem iR2R_ok (d : D) (g : EX) (env : Slots) (S : Sto) : iR2R (.ok d S) g env = iR2b (g env S) d := (rfl)
@[simp] theorem iR2_eq (f g : EX) (env : Slots) (S : Sto) : iR2 f g env S = iR2R (f env S) g env := (rfl)
theorem iR2b_ok {i j : Int} (S : Sto) (h : -(2 ^ 62) ≤ i ∧ i < 2 ^ 62 ∧ -(2 ^ 62) ≤ j ∧ j < 2 ^ 62) : iR2b (.ok (.a (.int j)) S) (.a (.int i)) = .ok (rangeL i (j - i).toNat, none) S := if_pos h
def seqR (r : R D) : R (List D × Gd) := r.bind fun d S1 => match walkOf S1 d with
  | some w => .ok w S1
  | none => .bad
@[simp] theorem iSeq_eq (f : EX) (env : Slots) (S : Sto) : iSeq f env S = seqR (f env S) := (rfl)
@[simp] theorem seqR_tup (ds : List D) (S : Sto) : seqR (.ok (.tup ds) S) = .ok (ds, none) S := (rfl)
def tmpR (r : R (List D)) : R (List D × Gd) := r.bind fun ds S1 => .ok (ds, none) S1
@[simp] theorem tmpR_ok (ds : List D) (S : Sto) : tmpR (.ok ds S) = .ok (ds, none) S := (rfl)
@[simp] theorem iTmp_eq (f : AX) (env : Slots) (S : Sto) : iTmp f env S = tmpR (f env S) := (rfl)
/-- a body's end, then the rest of the loop -/
def forB (r : SR) (k : Slots → Sto → SR) : SR := match r with
  | .nx e s => k e s
  | .ct e s => k e s
  | .bk e s => .nx e s
  | r => r
@[simp] theorem forB_nx (e : Slots) (s : Sto) (k : Slots → Sto → SR) : forB (.nx e s) k = k e s := (rfl)
@[simp] theorem forB_ct (e : Slots) (s : Sto) (k : Slots → Sto → SR) : forB (.ct e s) k = k e s := (rfl)
@[simp] theorem forB_bk (e : Slots) (s : Sto) (k : Slots → Sto → SR) : forB (.bk e s) k = .nx e s := (rfl)
@[simp] theorem forB_rt (d : D) (s : Sto) (k : Slots → Sto → SR) : forB (.rt d s) k = .rt d s := (rfl)
@[simp] theorem forB_ex (x : Exn) (e : Slots) (s : Sto) (k : Slots → Sto → SR) : forB (.ex x e s) k = .ex x e s := (rfl)
theorem forGo_nil {all : List D} {t : TgX} {body : SX} {env : Slots} {S : Sto} : forGo none all t body [] env S = .nx env S := by
  unfold forGo
  rw [if_pos ((held_none _ _).mpr trivial)]
theorem forGo_cons {all : List D} {i : Nat} {body : SX} {d : D} {r : List D} {env : Slots} {S : Sto} : forGo none all (gN i) body (d :: r) env S = forB (body (env.set i (some d)) S) (forGo none all (gN i) body r) := by
  conv => lhs; unfold forGo
  rw [if_pos ((held_none _ _).mpr trivial)]
  simp only [gN_eq]
  cases body (env.set i (some d)) S <;> rfl
/-- a loop by its invariant: each turn goes on, or ends in what Q takes -/
theorem forGo_inv {all : List D} {i : Nat} {body : SX} {Q : SR → Prop} (Inv : Nat → Slots → Sto → Prop) : ∀ (r : List D) (n : Nat) (env : Slots) (S : Sto), Inv n env S →
    (∀ j d env S, r[j]? = some d → Inv (n + j) env S → (∃ env' S', (body (env.set i (some d)) S = .nx env' S' ∨ body (env.set i (some d)) S = .ct env' S') ∧ Inv (n + j + 1) env' S') ∨ (∃ e s, body (env.set i (some d)) S = .bk e s ∧ Q (.nx e s)) ∨ (∃ d' s, body (env.set i (some d)) S = .rt d' s ∧ Q (.rt d' s)) ∨ (∃ x e s, body (env.set i (some d)) S = .ex x e s ∧ Q (.ex x e s))) →
    (∀ env S, Inv (n + r.length) env S → Q (.nx env S)) → Q (forGo none all (gN i) body r env S)
  | [], n, env, S, h0, _, he => by
    rw [forGo_nil]
    exact he env S h0
  | d :: r, n, env, S, h0, hs, he => by
    rw [forGo_cons]
    have rest : ∀ env' S', Inv (n + 0 + 1) env' S' → Q (forGo none all (gN i) body r env' S') := fun env' S' h => by
      refine forGo_inv Inv r (n + 1) env' S' h (fun j d' env S hd hi => ?_) fun env S hi => he env S ?_
      · have := hs (j + 1) d' env S (by simpa using hd) (by rw [← Nat.add_assoc]; rwa [show n + j + 1 = n + 1 + j by omega])
        rwa [show n + (j + 1) + 1 = n + 1 + j + 1 by omega] at this
      · rw [List.length_cons]
        rwa [show n + (r.length + 1) = n + 1 + r.length by omega]
    rcases hs 0 d env S (by simp) h0 with ⟨env', S', hb, hi⟩ | ⟨e, s, hb, hq⟩ | ⟨d', s, hb, hq⟩ | ⟨x, e, s, hb, hq⟩
    · rcases hb with hb | hb
      · rw [hb]; exact rest _ _ hi
      · rw [hb]; exact rest _ _ hi
    · rw [hb]; exact hq
    · rw [hb]; exact hq
    · rw [hb]; exact hq
/-! comprehensions -/
@[simp] theorem tTrue_eq (env : Slots) (S : Sto) : tTrue env S = .ok true S := (rfl)
def lcR (r : R (List D × Gd)) (t : TgX) (ifs : BX) (elt : EX) (env : Slots) (go : Gd → List D → TgX → BX → EX → Slots → List D → Sto → R (List D)) : R (List D) := r.bind fun w S1 => if w.1.length ≤ sizeLine then go w.2 w.1 t ifs elt env w.1 S1 else .bad
@[simp] theorem aLc_eq (it : IX) (t : TgX) (vs : List Nat) (ifs : BX) (elt : EX) (env : Slots) (S : Sto) : aLc it t vs ifs elt env S = lcR (it env S) t ifs elt (wipeS env vs) lcGo := (rfl)
theorem lcR_ok {ds : List D} {t : TgX} {ifs : BX} {elt : EX} {env : Slots} {S : Sto} {g : Gd} {go : Gd → List D → TgX → BX → EX → Slots → List D → Sto → R (List D)} (h : ds.length ≤ sizeLine) : lcR (.ok (ds, g) S) t ifs elt env go = go g ds t ifs elt env ds S := if_pos h
theorem lcR_rng {lo : Int} {n : Nat} {t : TgX} {ifs : BX} {elt : EX} {env : Slots} {S : Sto} {g : Gd} {go : Gd → List D → TgX → BX → EX → Slots → List D → Sto → R (List D)} (h : n ≤ sizeLine) : lcR (.ok (rangeL lo n, g) S) t ifs elt env go = go g (rangeL lo n) t ifs elt env (rangeL lo n) S := lcR_ok (by rw [rangeL_len]; exact h)
/-- without tests, nothing written -/
theorem lcGo_map {all : List D} {i : Nat} {elt : EX} {env : Slots} {S : Sto} (f : D → D) : ∀ r : List D, (∀ d ∈ r, elt (env.set i (some d)) S = .ok (f d) S) → lcGo none all (gN i) tTrue elt env r S = .ok (r.map f) S
  | [], _ => by
    unfold lcGo
    rw [if_pos ((held_none _ _).mpr trivial)]
    rfl
  | d :: r, h => by
    unfold lcGo
    rw [if_pos ((held_none _ _).mpr trivial)]
    simp only [gN_eq, tTrue_eq, noX_ok, R.bind_ok, cond_true]
    rw [h d (List.mem_cons_self ..), noX_ok, R.bind_ok, lcGo_map f r fun d hd => h d (List.mem_cons_of_mem _ hd), R.bind_ok]
    rfl
/-- with a test, nothing written -/
theorem lcGo_filter {all : List D} {i : Nat} {elt : EX} {ifs : BX} {env : Slots} {S : Sto} (f : D → D) (p : D → Bool) : ∀ r : List D, (∀ d ∈ r, ifs (env.set i (some d)) S = .ok (p d) S) → (∀ d ∈ r, p d = true → elt (env.set i (some d)) S = .ok (f d) S) → lcGo none all (gN i) ifs elt env r S = .ok ((r.filter p).map f) S
  | [], _, _ => by
    unfold lcGo
    rw [if_pos ((held_none _ _).mpr trivial)]
    rfl
  | d :: r, hp, h => by
    have ih := lcGo_filter (all := all) f p r (fun d hd => hp d (List.mem_cons_of_mem _ hd)) fun d hd => h d (List.mem_cons_of_mem _ hd)
    unfold lcGo
    rw [if_pos ((held_none _ _).mpr trivial)]
    simp only [gN_eq]
    rw [hp d (List.mem_cons_self ..), noX_ok, R.bind_ok]
    cases e : p d with
    | true => rw [cond_true, h d (List.mem_cons_self ..) e, noX_ok, R.bind_ok, ih, R.bind_ok, List.filter_cons_of_pos e]; rfl
    | false => rw [cond_false, ih, List.filter_cons_of_neg (by rw [e]; exact Bool.false_ne_true)]
/-- each item writes, what it writes keeps I -/
theorem lcGo_inv {all : List D} {i : Nat} {elt : EX} {env : Slots} (I : Sto → Prop) (Q : D → Prop) : ∀ (r : List D) (S : Sto), I S → (∀ d ∈ r, ∀ S, I S → ∃ x S', elt (env.set i (some d)) S = .ok x S' ∧ I S' ∧ Q x) →
    ∃ xs S', lcGo none all (gN i) tTrue elt env r S = .ok xs S' ∧ I S' ∧ xs.length = r.length ∧ ∀ x ∈ xs, Q x
  | [], S, hI, _ => by
    refine ⟨[], S, ?_, hI, rfl, fun _ h => nomatch h⟩
    unfold lcGo
    rw [if_pos ((held_none _ _).mpr trivial)]
  | d :: r, S, hI, h => by
    obtain ⟨x, S1, h1, hI1, hq⟩ := h d (List.mem_cons_self ..) S hI
    obtain ⟨xs, S2, h2, hI2, hl, hqs⟩ := lcGo_inv (all := all) I Q r S1 hI1 fun d hd => h d (List.mem_cons_of_mem _ hd)
    refine ⟨x :: xs, S2, ?_, hI2, by rw [List.length_cons, List.length_cons, hl], fun y hy => (List.mem_cons.mp hy).elim (fun e => e ▸ hq) (hqs y)⟩
    unfold lcGo
    rw [if_pos ((held_none _ _).mpr trivial)]
    simp only [gN_eq, tTrue_eq, noX_ok, R.bind_ok, cond_true]
    rw [h1, noX_ok, R.bind_ok, h2, R.bind_ok]
/-! while -/
def whR (r : R Bool) (env : Slots) (c : BX) (body : SX) (n : Nat) : SR := r.then env fun b S1 => bif b then forB (body env S1) (whileGo c body n) else .nx env S1
@[simp] theorem whR_t (env : Slots) (c : BX) (body : SX) (n : Nat) (S : Sto) : whR (.ok true S) env c body n = forB (body env S) (whileGo c body n) := (rfl)
@[simp] theorem whR_f (env : Slots) (c : BX) (body : SX) (n : Nat) (S : Sto) : whR (.ok false S) env c body n = .nx env S := (rfl)
theorem whileGo_succ {c : BX} {body : SX} {n : Nat} {env : Slots} {S : Sto} : whileGo c body (n + 1) env S = whR (c env S) env c body n := by
  show (c env S).then env _ = _
  unfold whR
  cases c env S with
  | bad => rfl
  | exc e s => rfl
  | ok b S1 =>
    cases b with
    | false => rfl
    | true =>
      simp only [R.then_ok, cond_true]
      cases body env S1 <;> rfl
/-- a while by its invariant and a measure -/
theorem while_inv {c : BX} {body : SX} {Q : SR → Prop} (Inv : Nat → Slots → Sto → Prop)
    (hs : ∀ n env S, Inv n env S → (∃ S1, c env S = .ok false S1 ∧ Q (.nx env S1)) ∨ (∃ S1, c env S = .ok true S1 ∧ ((∃ m env' S', m < n ∧ (body env S1 = .nx env' S' ∨ body env S1 = .ct env' S') ∧ Inv m env' S') ∨ (∃ e s, body env S1 = .bk e s ∧ Q (.nx e s)) ∨ (∃ d' s, body env S1 = .rt d' s ∧ Q (.rt d' s)) ∨ (∃ x e s, body env S1 = .ex x e s ∧ Q (.ex x e s))))) :
    ∀ (f n : Nat) (env : Slots) (S : Sto), n < f → Inv n env S → Q (whileGo c body f env S)
  | 0, n, env, S, h, _ => absurd h (Nat.not_lt_zero n)
  | f + 1, n, env, S, h, hi => by
    rw [whileGo_succ]
    rcases hs n env S hi with ⟨S1, hc, hq⟩ | ⟨S1, hc, hb⟩
    · rw [hc, whR_f]; exact hq
    · rw [hc, whR_t]
      rcases hb with ⟨m, env', S', hm, hb, hi'⟩ | ⟨e, s, hb, hq⟩ | ⟨d', s, hb, hq⟩ | ⟨x, e, s, hb, hq⟩
      · have ih := while_inv Inv hs f m env' S' (by omega) hi'
        rcases hb with hb | hb
        · rw [hb]; exact ih
        · rw [hb]; exact ih
      · rw [hb]; exact hq
      · rw [hb]; exact hq
      · rw [hb]; exact hq
theorem sWhile_inv {c : BX} {body : SX} {Q : SR → Prop} {n : Nat} {env : Slots} {S : Sto} (Inv : Nat → Slots → Sto → Prop) (hn : n < 2 ^ 64) (h0 : Inv n env S)
    (hs : ∀ n env S, Inv n env S → (∃ S1, c env S = .ok false S1 ∧ Q (.nx env S1)) ∨ (∃ S1, c env S = .ok true S1 ∧ ((∃ m env' S', m < n ∧ (body env S1 = .nx env' S' ∨ body env S1 = .ct env' S') ∧ Inv m env' S') ∨ (∃ e s, body env S1 = .bk e s ∧ Q (.nx e s)) ∨ (∃ d' s, body env S1 = .rt d' s ∧ Q (.rt d' s)) ∨ (∃ x e s, body env S1 = .ex x e s ∧ Q (.ex x e s))))) :
    Q (sWhile c body env S) := while_inv Inv hs _ n env S hn h0
/-! operators on known data -/
@[simp] theorem dAdd_int (i j : Int) (S : Sto) : dAdd (.a (.int i)) (.a (.int j)) S = some (.a (.int (i + j)), S) := (rfl)
@[simp] theorem dAddI_int (i j : Int) (S : Sto) : dAddI (.a (.int i)) (.a (.int j)) S = some (.a (.int (i + j)), S) := (rfl)
@[simp] theorem dSub_int (i j : Int) (S : Sto) : dSub (.a (.int i)) (.a (.int j)) S = some (.a (.int (i - j)), S) := (rfl)
@[simp] theorem dNeg_int (i : Int) (S : Sto) : dNeg (.a (.int i)) S = some (.a (.int (-i)), S) := (rfl)
@[simp] theorem dLt_int (i j : Int) (S : Sto) : dLt (.a (.int i)) (.a (.int j)) S = some (.a (.bl (decide (i < j))), S) := (rfl)
@[simp] theorem dLe_int (i j : Int) (S : Sto) : dLe (.a (.int i)) (.a (.int j)) S = some (.a (.bl (decide (i ≤ j))), S) := (rfl)
@[simp] theorem dGt_int (i j : Int) (S : Sto) : dGt (.a (.int i)) (.a (.int j)) S = some (.a (.bl (decide (j < i))), S) := (rfl)
@[simp] theorem dGe_int (i j : Int) (S : Sto) : dGe (.a (.int i)) (.a (.int j)) S = some (.a (.bl (decide (j ≤ i))), S) := (rfl)
@[simp] theorem dEq_int (i j : Int) (S : Sto) : dEq (.a (.int i)) (.a (.int j)) S = some (.a (.bl (decide (i = j))), S) := (rfl)
@[simp] theorem dNe_int (i j : Int) (S : Sto) : dNe (.a (.int i)) (.a (.int j)) S = some (.a (.bl (!decide (i = j))), S) := (rfl)
@[simp] theorem dEq_str (i j : String) (S : Sto) : dEq (.a (.str i)) (.a (.str j)) S = some (.a (.bl (decide ((i : Str) = j))), S) := (rfl)
@[simp] theorem dIs_bl (i j : Bool) (S : Sto) : dIs (.a (.bl i)) (.a (.bl j)) S = some (.a (.bl (decide (i = j))), S) := (rfl)
@[simp] theorem dIsNot_bl (i j : Bool) (S : Sto) : dIsNot (.a (.bl i)) (.a (.bl j)) S = some (.a (.bl (!decide (i = j))), S) := (rfl)
theorem dMod_pos {i j : Int} {S : Sto} (h : 0 < j) : dMod (.a (.int i)) (.a (.int j)) S = some (.a (.int (i % j)), S) := if_pos h
theorem dDiv_pos {i j : Int} {S : Sto} (h : 0 < j) (h2 : j < 2 ^ 300) : dDiv (.a (.int i)) (.a (.int j)) S = some (.a (.int (i / j)), S) := if_pos ⟨h, h2⟩
@[simp] theorem dLen_tup (ds : List D) (S : Sto) : dLen [.tup ds] S = some (.a (.int ds.length), S) := (rfl)
@[simp] theorem dLen_ils (ds : List D) (S : Sto) : dLen [.ils ds] S = some (.a (.int ds.length), S) := (rfl)
theorem dLen_lst {n : Nat} {ds : List D} {S : Sto} (h : S[n]? = some (.lst ds)) : dLen [.cel n] S = some (.a (.int ds.length), S) := by
  unfold dLen itemsOf
  dsimp only
  rw [h]
@[simp] theorem dInt_int (i : Int) (S : Sto) : dInt [.a (.int i)] S = some (.a (.int i), S) := (rfl)
@[simp] theorem dMax2_int (i j : Int) (S : Sto) : dMax2 [.a (.int i), .a (.int j)] S = some (.a (.int (if j > i then j else i)), S) := (rfl)
@[simp] theorem dMin2_int (i j : Int) (S : Sto) : dMin2 [.a (.int i), .a (.int j)] S = some (.a (.int (if j < i then j else i)), S) := (rfl)
@[simp] theorem tTuple_eq (ds : List D) (S : Sto) : tTuple ds S = some (.tup ds, S) := (rfl)
theorem dTuple_lst {n : Nat} {ds : List D} {S : Sto} (h : S[n]? = some (.lst ds)) : dTuple [.cel n] S = some (.tup ds, S) := by
  show (itemsOf S (.cel n)).map (fun ds => (D.tup ds, S)) = _
  unfold itemsOf
  dsimp only
  rw [h]
  rfl
@[simp] theorem dIx_tup (ds : List D) (k : Int) (S : Sto) : dIx (.tup ds) (.a (.int k)) S = (atI ds k).map fun d => (d, S) := (rfl)
@[simp] theorem dIx_ils (ds : List D) (k : Int) (S : Sto) : dIx (.ils ds) (.a (.int k)) S = (atI ds k).map fun d => (d, S) := (rfl)
theorem dIx_lst {n : Nat} {ds : List D} {k : Int} {S : Sto} (h : S[n]? = some (.lst ds)) : dIx (.cel n) (.a (.int k)) S = (atI ds k).map fun d => (d, S) := by
  unfold dIx
  dsimp only
  rw [h]
theorem dPut_lst {n : Nat} {ds : List D} {k : Nat} {v : D} {S : Sto} (h : S[n]? = some (.lst ds)) (hk : k < ds.length) : dPut (.cel n) (.a (.int k)) v S = some (S.set n (.lst (ds.set k v))) := by
  unfold dPut
  dsimp only
  rw [h]
  dsimp only
  unfold ixN
  rw [if_pos (by omega), if_pos (by omega), Int.toNat_natCast]
/-- the place k of a list -/
theorem atI_nat {α : Type} {xs : List α} {k : Nat} (h : k < xs.length) : atI xs (k : Int) = some xs[k] := by
  unfold atI ixN
  rw [if_pos (by omega), if_pos (by omega), Int.toNat_natCast]
  exact List.getElem?_eq_getElem h
/-! what a def leaves -/
theorem region_nop (d : D) (S : Sto) : region S.length (.ok d S) = .ok d S := by
  unfold region
  dsimp only
  rw [List.take_length]
  split
  · rfl
  · cases d with
    | cel k =>
      dsimp only
      cases h : S[k]? with
      | none => rfl
      | some c =>
        dsimp only
        rw [if_neg fun z => absurd (List.getElem?_eq_some_iff.mp h).1 (by omega)]
    | _ => rfl
theorem region_nopx (e : Exn) (S : Sto) : region S.length (.exc e S) = .exc e S := by
  unfold region
  dsimp only
  rw [List.take_length]
  split <;> rfl
def bodyR (r : SR) : R D := match r with
  | .nx _ S' => .ok (.a .non) S'
  | .rt d S' => .ok d S'
  | .ex e _ S' => .exc e S'
  | _ => .bad
@[simp] theorem bodyR_nx (env : Slots) (S : Sto) : bodyR (.nx env S) = .ok (.a .non) S := (rfl)
@[simp] theorem bodyR_rt (d : D) (S : Sto) : bodyR (.rt d S) = .ok d S := (rfl)
@[simp] theorem bodyR_ex (e : Exn) (env : Slots) (S : Sto) : bodyR (.ex e env S) = .exc e S := (rfl)
theorem defSem_eq {n N : Nat} {b : SX} {ds : List D} {S : Sto} (h : ds.length = n) : defSem n N b ds S = region S.length (bodyR (b (ds.map some ++ List.replicate (N - ds.length) none) S)) := if_pos h
/-- a result without exception, and what holds of it -/
def OkP (P : D → Sto → Prop) : R D → Prop
  | .ok d S => P d S
  | _ => False
@[simp] theorem OkP_ok (P : D → Sto → Prop) (d : D) (S : Sto) : OkP P (.ok d S) ↔ P d S := (Iff.rfl)
theorem OkP.get {P : D → Sto → Prop} {r : R D} (h : OkP P r) : ∃ d S, r = .ok d S ∧ P d S := by
  cases r with
  | ok d S => exact ⟨d, S, rfl, h⟩
  | _ => exact h.elim
theorem OkP.mono {P Q : D → Sto → Prop} {r : R D} (h : OkP P r) (hq : ∀ d S, P d S → Q d S) : OkP Q r := by
  cases r with
  | ok d S => exact hq _ _ h
  | _ => exact h.elim
/-- a body's result -/
def RtP (P : D → Sto → Prop) : SR → Prop
  | .rt d S => P d S
  | .nx _ S => P (.a .non) S
  | _ => False
@[simp] theorem RtP_rt (P : D → Sto → Prop) (d : D) (S : Sto) : RtP P (.rt d S) ↔ P d S := (Iff.rfl)
@[simp] theorem RtP_nx (P : D → Sto → Prop) (env : Slots) (S : Sto) : RtP P (.nx env S) ↔ P (.a .non) S := (Iff.rfl)
theorem RtP.body {P : D → Sto → Prop} {r : SR} (h : RtP P r) : OkP P (bodyR r) := by
  cases r with
  | rt d S => exact h
  | nx e S => exact h
  | _ => exact h.elim
theorem RtP.mono {P Q : D → Sto → Prop} {r : SR} (h : RtP P r) (hq : ∀ d S, P d S → Q d S) : RtP Q r := by
  cases r with
  | rt d S => exact hq _ _ h
  | nx e S => exact hq _ _ h
  | _ => exact h.elim
/-- a def's promise from its body's, where no cell is new -/
theorem def_len {n N : Nat} {b : SX} {ds : List D} {S : Sto} {P : D → Sto → Prop} (h : ds.length = n) (hb : RtP (fun d S' => S'.length = S.length ∧ P d S') (b (ds.map some ++ List.replicate (N - ds.length) none) S)) : OkP P (defSem n N b ds S) := by
  rw [defSem_eq h]
  obtain ⟨d, S', e, hl, hp⟩ := hb.body.get
  rw [e, ← hl, region_nop]
  exact hp
/-- a def that writes nothing -/
theorem def_pure {n N : Nat} {b : SX} {ds : List D} {S : Sto} {d : D} (h : ds.length = n) (hb : bodyR (b (ds.map some ++ List.replicate (N - ds.length) none) S) = .ok d S) : defSem n N b ds S = .ok d S := by
  rw [defSem_eq h, hb, region_nop]
theorem def_purex {n N : Nat} {b : SX} {ds : List D} {S : Sto} {e : Exn} (h : ds.length = n) (hb : bodyR (b (ds.map some ++ List.replicate (N - ds.length) none) S) = .exc e S) : defSem n N b ds S = .exc e S := by
  rw [defSem_eq h, hb, region_nopx]
end G
set_option maxRecDepth 100000
set_option exponentiation.threshold 600
/-! The plain layer H, part 1: what every law uses: _law_start, _law_pick, _law_same. -/
namespace G
open PySem PySem.Spec PyProof.Rows L2

/-- ilist as data -/
def ilist (ns : List Int) : List D := ns.map fun i => .a (.int i)
@[simp] theorem ilist_len (ns : List Int) : (ilist ns).length = ns.length := List.length_map ..
theorem ilist_at {ns : List Int} {k : Nat} (h : k < ns.length) : atI (ilist ns) (k : Int) = some (.a (.int ns[k])) := by
  rw [atI_nat (by rw [ilist_len]; exact h)]
  simp [ilist]

/-! ### _law_same -/
noncomputable def bSame (F : List D → Sto → R D) : SX :=
  (sSeq (sIf (tOf (eCallB dIsi (aCons (eVar 1) (aCons (eC (.a (.ty "tuple"))) aNil))))
   (sSeq (sIf (tOr (tNot (tOf (eCallB dIsi (aCons (eVar 0) (aCons (eC (.a (.ty "tuple"))) aNil))))) (tBin dNe (eCallB dLen (aCons (eVar 0) aNil)) (eCallB dLen (aCons (eVar 1) aNil))))
   (sSeq (sRet (eC (.a (.bl false)))) sNil)
   sNil)
   (sSeq (sRet (eCallT tAll (aLc (iR1 (eCallB dLen (aCons (eVar 1) aNil))) (gN 2) (List.map (fun p => p.2) ([("p", 2)] : List (Str × Nat))) tTrue (eCall F [] (aCons (eBin dIx (eVar 0) (eVar 2)) (aCons (eBin dIx (eVar 1) (eVar 2)) aNil))))))
   sNil))
   sNil)
   (sSeq (sIf (tBin dIs (eVar 1) (eC (.a .non)))
   (sSeq (sRet (eBin dIs (eVar 0) (eC (.a .non)))) sNil)
   sNil)
   (sSeq (sIf (tOf (eCallB dIsi (aCons (eVar 1) (aCons (eC (.a (.ty "str"))) aNil))))
   (sSeq (sRet (eAnd (eCallB dIsi (aCons (eVar 0) (aCons (eC (.a (.ty "str"))) aNil))) (eBin dEq (eVar 0) (eVar 1)))) sNil)
   sNil)
   (sSeq (sIf (tOf (eCallB dIsi (aCons (eVar 1) (aCons (eC (.a (.ty "bool"))) aNil))))
   (sSeq (sRet (eAnd (eCallB dIsi (aCons (eVar 0) (aCons (eC (.a (.ty "bool"))) aNil))) (eBin dEq (eVar 0) (eVar 1)))) sNil)
   sNil)
   (sSeq (sRet (eAnd (eCallB dIsi (aCons (eVar 0) (aCons (eC (.a (.ty "int"))) aNil))) (eAnd (eNot (eCallB dIsi (aCons (eVar 0) (aCons (eC (.a (.ty "bool"))) aNil)))) (eBin dEq (eVar 0) (eVar 1)))))
   sNil)))))
/-- plain data, tuples at most k deep -/
def pl : Nat → D → Bool
  | _, .a (.int _) => true
  | _, .a (.bl _) => true
  | _, .a .non => true
  | _, .a (.str _) => true
  | k + 1, .tup ds => decide (ds.length ≤ sizeLine) && ds.all (pl k)
  | _, _ => false
theorem isi_eq (d : D) (T : String) (S : Sto) : dIsi [d, .a (.ty T)] S = ((tyOf S d).bind fun t => kitB t T).map fun b => (.a (.bl b), S) := rfl
theorem sizeLine62 : sizeLine < 2 ^ 62 := by
  rw [sizeLine_eq]
  omega
theorem all_true : ∀ n : Nat, (asBls (List.replicate n (.a (.bl true)))) = some (List.replicate n true)
  | 0 => rfl
  | n + 1 => by rw [List.replicate_succ, List.replicate_succ]; unfold asBls; rw [all_true n]; rfl
theorem tAll_true (n : Nat) (S : Sto) : tAll (List.replicate n (.a (.bl true))) S = some (.a (.bl true), S) := by
  unfold tAll
  rw [all_true]
  simp
theorem rangeL_mem {n : Nat} {d : D} (h : d ∈ rangeL 0 n) : ∃ i : Nat, i < n ∧ d = .a (.int (i : Int)) := by
  unfold rangeL at h
  obtain ⟨i, hi, rfl⟩ := List.mem_map.mp h
  exact ⟨i, List.mem_range.mp hi, by simp⟩
theorem kb1 : kitB "int" "tuple" = some false := by decide +kernel
theorem kb2 : kitB "int" "str" = some false := by decide +kernel
theorem kb3 : kitB "int" "bool" = some false := by decide +kernel
theorem kb4 : kitB "int" "int" = some true := by decide +kernel
theorem kb5 : kitB "bool" "tuple" = some false := by decide +kernel
theorem kb6 : kitB "bool" "str" = some false := by decide +kernel
theorem kb7 : kitB "bool" "bool" = some true := by decide +kernel
theorem kb8 : kitB "str" "tuple" = some false := by decide +kernel
theorem kb9 : kitB "str" "str" = some true := by decide +kernel
theorem kbA : kitB "tuple" "tuple" = some true := by decide +kernel
theorem kbB : kitB "NoneType" "tuple" = some false := by decide +kernel
theorem isi_int (i : Int) (T : String) (S : Sto) : dIsi [.a (.int i), .a (.ty T)] S = (kitB "int" T).map fun b => (.a (.bl b), S) := rfl
theorem isi_bl (i : Bool) (T : String) (S : Sto) : dIsi [.a (.bl i), .a (.ty T)] S = (kitB "bool" T).map fun b => (.a (.bl b), S) := rfl
theorem isi_non (T : String) (S : Sto) : dIsi [.a .non, .a (.ty T)] S = (kitB "NoneType" T).map fun b => (.a (.bl b), S) := rfl
theorem isi_str (i : Str) (T : String) (S : Sto) : dIsi [.a (.str i), .a (.ty T)] S = (kitB "str" T).map fun b => (.a (.bl b), S) := rfl
theorem isi_tup (ds : List D) (T : String) (S : Sto) : dIsi [.tup ds, .a (.ty T)] S = (kitB "tuple" T).map fun b => (.a (.bl b), S) := rfl
theorem dIs_in (i : Int) (S : Sto) : dIs (.a (.int i)) (.a .non) S = some (.a (.bl false), S) := rfl
theorem dIs_bn (i : Bool) (S : Sto) : dIs (.a (.bl i)) (.a .non) S = some (.a (.bl false), S) := rfl
theorem dIs_sn (i : Str) (S : Sto) : dIs (.a (.str i)) (.a .non) S = some (.a (.bl false), S) := rfl
theorem dIs_nn (S : Sto) : dIs (.a .non) (.a .non) S = some (.a (.bl true), S) := rfl
theorem dEq_bb (i : Bool) (S : Sto) : dEq (.a (.bl i)) (.a (.bl i)) S = some (.a (.bl true), S) := by
  show some (D.a (.bl (decide (i = i))), S) = _
  rw [decide_eq_true rfl]
theorem dEq_ss (i : Str) (S : Sto) : dEq (.a (.str i)) (.a (.str i)) S = some (.a (.bl true), S) := by
  show some (D.a (.bl (decide (i = i))), S) = _
  rw [decide_eq_true rfl]
theorem dEq_ii (i : Int) (S : Sto) : dEq (.a (.int i)) (.a (.int i)) S = some (.a (.bl true), S) := by
  show some (D.a (.bl (decide (i = i))), S) = _
  rw [decide_eq_true rfl]
theorem same_atom (F : List D → Sto → R D) (v : V) (S : Sto) (hp : pl 0 (.a v) = true) : bodyR (bSame F [some (.a v), some (.a v), none] S) = .ok (.a (.bl true)) S := by
  cases v with
  | int i => simp [bSame, isi_int, kb1, kb2, kb3, kb4, dIs_in]
  | bl b => simp [bSame, isi_bl, kb5, kb6, kb7, dIs_bn, dEq_bb]
  | non => simp [bSame, isi_non, kbB, dIs_nn]
  | str x => simp [bSame, isi_str, kb8, kb9, dIs_sn, dEq_ss]
  | _ => cases hp
theorem same_tup1 (F : List D → Sto → R D) (ds : List D) (S : Sto) (h : ∀ (i : Nat) (hi : i < ds.length), F [ds[i], ds[i]] S = .ok (.a (.bl true)) S) : lcGo none (rangeL 0 ds.length) (gN 2) tTrue (eCall F [] (aCons (eBin dIx (eVar 0) (eVar 2)) (aCons (eBin dIx (eVar 1) (eVar 2)) aNil))) [some (.tup ds), some (.tup ds), none] (rangeL 0 ds.length) S = .ok (List.replicate ds.length (.a (.bl true))) S := by
  rw [lcGo_map (fun _ => .a (.bl true)), List.map_const', rangeL_len]
  intro d hd
  obtain ⟨i, hi, rfl⟩ := rangeL_mem hd
  simp [atI_nat hi, h i hi]
theorem same_tup2 (F : List D → Sto → R D) (ds : List D) (S : Sto) (h1 : ds.length ≤ sizeLine) (hlc : lcGo none (rangeL 0 ds.length) (gN 2) tTrue (eCall F [] (aCons (eBin dIx (eVar 0) (eVar 2)) (aCons (eBin dIx (eVar 1) (eVar 2)) aNil))) [some (.tup ds), some (.tup ds), none] (rangeL 0 ds.length) S = .ok (List.replicate ds.length (.a (.bl true))) S) : lcR (.ok (rangeL 0 ds.length, none) S) (gN 2) tTrue (eCall F [] (aCons (eBin dIx (eVar 0) (eVar 2)) (aCons (eBin dIx (eVar 1) (eVar 2)) aNil))) [some (.tup ds), some (.tup ds), none] lcGo = .ok (List.replicate ds.length (.a (.bl true))) S := by
  rw [lcR_rng h1, hlc]
theorem iR1R_len (ds : List D) (S : Sto) (h1 : ds.length ≤ sizeLine) : iR1R (.ok (.a (.int ds.length)) S) = .ok (rangeL 0 ds.length, none) S := iR1R_nat S (Nat.lt_of_le_of_lt h1 sizeLine62)
theorem same_tup3 (F : List D → Sto → R D) (ds : List D) (S : Sto) (hr : iR1R (.ok (.a (.int ds.length)) S) = .ok (rangeL 0 ds.length, none) S) (hX : lcR (.ok (rangeL 0 ds.length, none) S) (gN 2) tTrue (eCall F [] (aCons (eBin dIx (eVar 0) (eVar 2)) (aCons (eBin dIx (eVar 1) (eVar 2)) aNil))) [some (.tup ds), some (.tup ds), none] lcGo = .ok (List.replicate ds.length (.a (.bl true))) S) :
    bodyR (bSame F [some (.tup ds), some (.tup ds), none] S) = .ok (.a (.bl true)) S := by
  simp [bSame, isi_tup, kbA, hr, wipeS, hX, tAll_true]
theorem same_tup (F : List D → Sto → R D) (ds : List D) (S : Sto) (h1 : ds.length ≤ sizeLine) (h : ∀ (i : Nat) (hi : i < ds.length), F [ds[i], ds[i]] S = .ok (.a (.bl true)) S) : bodyR (bSame F [some (.tup ds), some (.tup ds), none] S) = .ok (.a (.bl true)) S :=
  same_tup3 F ds S (iR1R_len ds S h1) (same_tup2 F ds S h1 (same_tup1 F ds S h))
theorem pl_tup {k : Nat} {ds : List D} (hp : pl (k + 1) (.tup ds) = true) : ds.length ≤ sizeLine ∧ ∀ d ∈ ds, pl k d = true := by
  unfold pl at hp
  obtain ⟨h1, h2⟩ := Bool.and_eq_true_iff.mp hp
  exact ⟨of_decide_eq_true h1, List.all_eq_true.mp h2⟩
theorem pl_atom {k : Nat} {v : V} (hp : pl k (.a v) = true) : pl 0 (.a v) = true := by
  cases v <;> first | rfl | (cases k <;> cases hp)
theorem same_refl {F : Nat → List D → Sto → R D} (hF : ∀ k, F (k + 1) = defSem 2 3 (bSame (F k))) (k : Nat) : ∀ (d : D) (S : Sto), pl k d = true → F (k + 1) [d, d] S = .ok (.a (.bl true)) S := by
  induction k with
  | zero =>
    intro d S hp
    cases d with
    | a v => rw [hF]; exact def_pure rfl (same_atom _ v S hp)
    | _ => cases hp
  | succ k ih =>
    intro d S hp
    cases d with
    | a v => rw [hF]; exact def_pure rfl (same_atom _ v S (pl_atom hp))
    | tup ds =>
      obtain ⟨h1, h2⟩ := pl_tup hp
      rw [hF]
      exact def_pure rfl (same_tup _ ds S h1 fun i hi => ih _ S (h2 _ (List.getElem_mem hi)))
    | _ => cases hp

/-! ### _law_pick -/
noncomputable def bPick : SX :=
 (sSeq (sIf (tBin dGe (eBin dIx (eVar 0) (eC (.a (.int (3))))) (eVar 1))
 (sSeq (sSet 2 (eCallB dInt (aCons (eBin dIx (eVar 0) (eC (.a (.int (3))))) aNil)))
 (sSeq (sPut (eBin dDiv (eVar 2) (eVar 1)) (eVar 0) (eC (.a (.int (3)))))
 (sSeq (sRet (eBin dMod (eVar 2) (eVar 1)))
 sNil)))
 sNil)
 (sSeq (sSet 3 (eC (.a (.int (11)))))
 (sSeq (sIf (tBin dLt (eBin dIx (eVar 0) (eC (.a (.int (2))))) (eCallB dLen (aCons (eBin dIx (eVar 0) (eC (.a (.int (1))))) aNil)))
 (sSeq (sSet 3 (eCallB dInt (aCons (eBin dIx (eBin dIx (eVar 0) (eC (.a (.int (1))))) (eBin dIx (eVar 0) (eC (.a (.int (2)))))) aNil)))
 (sSeq (sPut (eBin dAdd (eBin dIx (eVar 0) (eC (.a (.int (2))))) (eC (.a (.int (1))))) (eVar 0) (eC (.a (.int (2)))))
 (sSeq (sIf (tBin dLt (eVar 3) (eC (.a (.int (0)))))
 (sSeq (sSet 3 (eBin dSub (eC (.a (.int (1)))) (eVar 3)))
 sNil)
 sNil)
 (sSeq (sIf (tBin dGe (eVar 3) (eBin dPow (eC (.a (.int (10)))) (eC (.a (.int (18))))))
 (sSeq (sPut (eBin dDiv (eVar 3) (eVar 1)) (eVar 0) (eC (.a (.int (3)))))
 (sSeq (sRet (eBin dMod (eVar 3) (eVar 1)))
 sNil))
 sNil)
 sNil))))
 sNil)
 (sSeq (sSet 4 (eBin dMod (eBin dMul (eBin dAdd (eBin dAdd (eCallB dInt (aCons (eBin dIx (eVar 0) (eC (.a (.int (0))))) aNil)) (eBin dMod (eVar 3) (eC (.a (.int (2147483647)))))) (eC (.a (.int (1))))) (eC (.a (.int (48271))))) (eC (.a (.int (2147483647))))))
 (sSeq (sPut (eBin dMod (eBin dAdd (eBin dMul (eVar 4) (eC (.a (.int (69621))))) (eC (.a (.int (12345))))) (eC (.a (.int (2147483647))))) (eVar 0) (eC (.a (.int (0)))))
 (sSeq (sRet (eBin dMod (eBin dDiv (eCallB dInt (aCons (eBin dIx (eVar 0) (eC (.a (.int (0))))) aNil)) (eC (.a (.int (7))))) (eVar 1)))
 sNil))))))
/-- the state of the draws stands in the cell s -/
def Stt (S : Sto) (s : Nat) : Prop := ∃ c2 seed k rest ns, S[s]? = some (.lst [.a (.int seed), .cel c2, .a (.int k), .a (.int rest)]) ∧ S[c2]? = some (.lst (ilist ns)) ∧ s ≠ c2 ∧ 0 ≤ rest ∧ 0 ≤ k
/-- nothing but the cell s has changed, cells may be new -/
structure Ext (s : Nat) (S S' : Sto) : Prop where
  len : S.length ≤ S'.length
  at_ : ∀ i, i < S.length → i ≠ s → S'[i]? = S[i]?
theorem Ext.refl {s : Nat} {S : Sto} : Ext s S S := ⟨Nat.le_refl _, fun _ _ _ => rfl⟩
theorem Ext.trans {s : Nat} {S S1 S2 : Sto} (a : Ext s S S1) (b : Ext s S1 S2) : Ext s S S2 := ⟨Nat.le_trans a.len b.len, fun i h n => (b.at_ i (Nat.lt_of_lt_of_le h a.len) n).trans (a.at_ i h n)⟩
theorem Ext.get {s : Nat} {S S' : Sto} (a : Ext s S S') {i : Nat} {c : Cell} (h : S[i]? = some c) (n : i ≠ s) : S'[i]? = some c := (a.at_ i (List.getElem?_eq_some_iff.mp h).1 n).trans h
theorem Ext.set {s : Nat} {S : Sto} {c : Cell} : Ext s S (S.set s c) := ⟨Nat.le_of_eq (List.length_set ..).symm, fun i _ n => List.getElem?_set_ne (Ne.symm n)⟩
theorem Ext.push {s : Nat} {S : Sto} {l : List Cell} : Ext s S (S ++ l) := ⟨by rw [List.length_append]; omega, fun i h _ => List.getElem?_append_left h⟩
theorem region_len {n : Nat} (d : D) (S : Sto) (h : S.length = n) : region n (.ok d S) = .ok d S := by
  subst h
  exact region_nop d S
theorem dPow_lit {a b : Int} (S : Sto) (h : CPow a b) : dPow (.a (.int a)) (.a (.int b)) S = some (.a (.int (a ^ b.toNat)), S) := if_pos h
theorem dMul_int {i j : Int} (S : Sto) (h : CMul i j) : dMul (.a (.int i)) (.a (.int j)) S = some (.a (.int (i * j)), S) := if_pos h
theorem pow18 : CPow 10 18 := by decide +kernel
/-- what a draw gives -/
def PickP (s : Nat) (S : Sto) (L : Int) : D → Sto → Prop := fun d S' => ∃ v, d = .a (.int v) ∧ 0 ≤ v ∧ v < L ∧ Stt S' s ∧ S'.length = S.length ∧ Ext s S S'
theorem at4_0 (a b c d : D) : atI [a, b, c, d] 0 = some a := rfl
theorem at4_1 (a b c d : D) : atI [a, b, c, d] 1 = some b := rfl
theorem at4_2 (a b c d : D) : atI [a, b, c, d] 2 = some c := rfl
theorem at4_3 (a b c d : D) : atI [a, b, c, d] 3 = some d := rfl
theorem pick_tail {S S1 : Sto} {s c2 : Nat} {L seed k1 cell rest : Int} {ns : List Int} {x y : Option D} (h0 : 0 < L) (h1s : S1[s]? = some (.lst [.a (.int seed), .cel c2, .a (.int k1), .a (.int rest)])) (h1c : S1[c2]? = some (.lst (ilist ns))) (hne : s ≠ c2) (h1l : S1.length = S.length) (h1e : Ext s S S1) (hk1 : 0 ≤ k1) (hr : 0 ≤ rest) :
    RtP (fun d S' => S'.length = S.length ∧ PickP s S L d S') ((sSeq (sSet 4 (eBin dMod (eBin dMul (eBin dAdd (eBin dAdd (eCallB dInt (aCons (eBin dIx (eVar 0) (eC (.a (.int (0))))) aNil)) (eBin dMod (eVar 3) (eC (.a (.int (2147483647)))))) (eC (.a (.int (1))))) (eC (.a (.int (48271))))) (eC (.a (.int (2147483647))))))
          (sSeq (sPut (eBin dMod (eBin dAdd (eBin dMul (eVar 4) (eC (.a (.int (69621))))) (eC (.a (.int (12345))))) (eC (.a (.int (2147483647))))) (eVar 0) (eC (.a (.int (0)))))
          (sSeq (sRet (eBin dMod (eBin dDiv (eCallB dInt (aCons (eBin dIx (eVar 0) (eC (.a (.int (0))))) aNil)) (eC (.a (.int (7))))) (eVar 1))) sNil))) [some (.cel s), some (.a (.int L)), x, some (.a (.int cell)), y] S1) := by
  have hsl1 : s < S1.length := (List.getElem?_eq_some_iff.mp h1s).1
  have m1 : ∀ (i : Int) (S : Sto), dMod (.a (.int i)) (.a (.int 2147483647)) S = some (.a (.int (i % 2147483647)), S) := fun i S => dMod_pos (by decide)
  have m2 : ∀ (i : Int) (S : Sto), dMul (.a (.int i)) (.a (.int 48271)) S = some (.a (.int (i * 48271)), S) := fun i S => dMul_int S (.inr ⟨by decide, by decide⟩)
  have m3 : ∀ (i : Int) (S : Sto), dMul (.a (.int i)) (.a (.int 69621)) S = some (.a (.int (i * 69621)), S) := fun i S => dMul_int S (.inr ⟨by decide, by decide⟩)
  have m4 : ∀ (i : Int) (S : Sto), dDiv (.a (.int i)) (.a (.int 7)) S = some (.a (.int (i / 7)), S) := fun i S => dDiv_pos (by decide) (by decide)
  have e5 : ∀ v : D, dPut (.cel s) (.a (.int 0)) v S1 = some (S1.set s (.lst [v, .cel c2, .a (.int k1), .a (.int rest)])) := fun v => dPut_lst (k := 0) h1s (by simp)
  have q : ∀ c : Cell, (S1.set s c)[s]? = some c := fun c => List.getElem?_set_self hsl1
  have q2 : ∀ c : Cell, (S1.set s c)[c2]? = some (.lst (ilist ns)) := fun c => by rw [List.getElem?_set_ne hne]; exact h1c
  simp [dIx_lst h1s, at4_0, m1, m2, m3, e5, dIx_lst (q _), m4, dMod_pos h0, h1l]
  refine ⟨_, rfl, Int.emod_nonneg _ (by omega), Int.emod_lt_of_pos _ h0, ⟨c2, _, k1, rest, ns, q _, q2 _, hne, hr, hk1⟩, by rw [List.length_set, h1l], h1e.trans Ext.set⟩
theorem pick_spec {S : Sto} {s : Nat} {L : Int} (h : Stt S s) (h0 : 0 < L) (h1 : L < 2 ^ 300) : OkP (PickP s S L) (defSem 2 5 bPick [.cel s, .a (.int L)] S) := by
  obtain ⟨c2, seed, k, rest, ns, hs, hc, hne, hr, hk⟩ := h
  have hsl : s < S.length := (List.getElem?_eq_some_iff.mp hs).1
  have p : ∀ c : Cell, (S.set s c)[s]? = some c := fun c => List.getElem?_set_self hsl
  have p2 : ∀ c : Cell, (S.set s c)[c2]? = some (.lst (ilist ns)) := fun c => by rw [List.getElem?_set_ne hne]; exact hc
  refine def_len (n := 2) (ds := [_, _]) rfl ?_
  by_cases hge : L ≤ rest
  · have e4 : dPut (.cel s) (.a (.int 3)) (.a (.int (rest / L))) S = some (S.set s (.lst [.a (.int seed), .cel c2, .a (.int k), .a (.int (rest / L))])) := dPut_lst (k := 3) hs (by simp)
    simp [bPick, dIx_lst hs, at4_3, hge, dDiv_pos h0 h1, e4, dMod_pos h0]
    exact ⟨_, rfl, Int.emod_nonneg _ (by omega), Int.emod_lt_of_pos _ h0, ⟨c2, seed, k, rest / L, ns, p _, p2 _, hne, Int.ediv_nonneg hr (by omega), hk⟩, List.length_set .., Ext.set⟩
  · by_cases hkl : k < (ns.length : Int)
    · obtain ⟨j, rfl⟩ := Int.eq_ofNat_of_zero_le hk
      have hj : j < ns.length := by omega
      have e2 : dPut (.cel s) (.a (.int 2)) (.a (.int ((j : Int) + 1))) S = some (S.set s (.lst [.a (.int seed), .cel c2, .a (.int ((j : Int) + 1)), .a (.int rest)])) := dPut_lst (k := 2) hs (by simp)
      have hS1 := p (.lst [.a (.int seed), .cel c2, .a (.int ((j : Int) + 1)), .a (.int rest)])
      have hS2 := p2 (.lst [.a (.int seed), .cel c2, .a (.int ((j : Int) + 1)), .a (.int rest)])
      have hl1 : (S.set s (.lst [.a (.int seed), .cel c2, .a (.int ((j : Int) + 1)), .a (.int rest)])).length = S.length := List.length_set ..
      have fin : ∀ cell : Int, 0 ≤ cell → RtP (fun d S' => S'.length = S.length ∧ PickP s S L d S') ((sSeq (sIf (tBin dGe (eVar 3) (eBin dPow (eC (.a (.int (10)))) (eC (.a (.int (18))))))
         (sSeq (sPut (eBin dDiv (eVar 3) (eVar 1)) (eVar 0) (eC (.a (.int (3)))))
         (sSeq (sRet (eBin dMod (eVar 3) (eVar 1))) sNil)) sNil) sNil
         [some (.cel s), some (.a (.int L)), none, some (.a (.int cell)), none] (S.set s (.lst [.a (.int seed), .cel c2, .a (.int ((j : Int) + 1)), .a (.int rest)]))).sq
         (sSeq (sSet 4 (eBin dMod (eBin dMul (eBin dAdd (eBin dAdd (eCallB dInt (aCons (eBin dIx (eVar 0) (eC (.a (.int (0))))) aNil)) (eBin dMod (eVar 3) (eC (.a (.int (2147483647)))))) (eC (.a (.int (1))))) (eC (.a (.int (48271))))) (eC (.a (.int (2147483647))))))
          (sSeq (sPut (eBin dMod (eBin dAdd (eBin dMul (eVar 4) (eC (.a (.int (69621))))) (eC (.a (.int (12345))))) (eC (.a (.int (2147483647))))) (eVar 0) (eC (.a (.int (0)))))
          (sSeq (sRet (eBin dMod (eBin dDiv (eCallB dInt (aCons (eBin dIx (eVar 0) (eC (.a (.int (0))))) aNil)) (eC (.a (.int (7))))) (eVar 1))) sNil)))) := by
        intro cell hcell
        have tl := pick_tail (S := S) (L := L) (cell := cell) (x := none) (y := none) h0 hS1 hS2 hne hl1 Ext.set (by omega) hr
        generalize hB : (sSeq (sSet 4 (eBin dMod (eBin dMul (eBin dAdd (eBin dAdd (eCallB dInt (aCons (eBin dIx (eVar 0) (eC (.a (.int (0))))) aNil)) (eBin dMod (eVar 3) (eC (.a (.int (2147483647)))))) (eC (.a (.int (1))))) (eC (.a (.int (48271))))) (eC (.a (.int (2147483647))))))
          (sSeq (sPut (eBin dMod (eBin dAdd (eBin dMul (eVar 4) (eC (.a (.int (69621))))) (eC (.a (.int (12345))))) (eC (.a (.int (2147483647))))) (eVar 0) (eC (.a (.int (0)))))
          (sSeq (sRet (eBin dMod (eBin dDiv (eCallB dInt (aCons (eBin dIx (eVar 0) (eC (.a (.int (0))))) aNil)) (eC (.a (.int (7))))) (eVar 1))) sNil))) = B at tl ⊢
        by_cases hbig : 10 ^ 18 ≤ cell
        · have e3 : dPut (.cel s) (.a (.int 3)) (.a (.int (cell / L))) (S.set s (.lst [.a (.int seed), .cel c2, .a (.int ((j : Int) + 1)), .a (.int rest)])) = some ((S.set s (.lst [.a (.int seed), .cel c2, .a (.int ((j : Int) + 1)), .a (.int rest)])).set s (.lst [.a (.int seed), .cel c2, .a (.int ((j : Int) + 1)), .a (.int (cell / L))])) := dPut_lst (k := 3) hS1 (by simp)
          have hd : decide ((10 : Int) ^ 18 ≤ cell) = true := decide_eq_true hbig
          simp only [sSeq_eq, sIf_eq, tBin_eq, eVar_eq, List.getElem?_cons_zero, List.getElem?_cons_succ, varR_some, bin1_ok, eBin_eq, eC_eq, bin2_ok, dPow_lit _ pow18, ofO_some, dGe_int, toB_ok]
          rw [show ((10 : Int) ^ (18 : Int).toNat) = 10 ^ 18 from rfl, hd]
          simp [dDiv_pos h0 h1, e3, dMod_pos h0]
          exact ⟨_, rfl, Int.emod_nonneg _ (by omega), Int.emod_lt_of_pos _ h0, ⟨c2, seed, (j : Int) + 1, cell / L, ns, p _, p2 _, hne, Int.ediv_nonneg hcell (by omega), by omega⟩, List.length_set .., Ext.set⟩
        · have hd : decide ((10 : Int) ^ 18 ≤ cell) = false := decide_eq_false hbig
          simp only [sSeq_eq, sIf_eq, tBin_eq, eVar_eq, List.getElem?_cons_zero, List.getElem?_cons_succ, varR_some, bin1_ok, eBin_eq, eC_eq, bin2_ok, dPow_lit _ pow18, ofO_some, dGe_int, toB_ok]
          rw [show ((10 : Int) ^ (18 : Int).toNat) = 10 ^ 18 from rfl, hd]
          simpa using tl
      by_cases hneg : ns[j] < 0
      · have f := fin (1 - ns[j]) (by omega)
        simp [bPick, dIx_lst hs, at4_3, at4_2, at4_1, hge, dLen_lst hc, hj, dIx_lst hc, ilist_at hj, e2, hneg]
        simpa using f
      · have f := fin (ns[j]) (by omega)
        simp [bPick, dIx_lst hs, at4_3, at4_2, at4_1, hge, dLen_lst hc, hj, dIx_lst hc, ilist_at hj, e2, hneg]
        simpa using f
    · have tl := pick_tail (S := S) (L := L) (cell := 11) (x := none) (y := none) h0 hs hc hne rfl Ext.refl hk hr
      simp [bPick, dIx_lst hs, at4_3, at4_2, at4_1, hge, dLen_lst hc, hkl]
      simpa [dIx_lst hs] using tl
end G
set_option maxRecDepth 100000
set_option exponentiation.threshold 600
/-! The plain layer H, part 2: tuples of ints; searches; new cells; _law_start. -/
namespace G
open PySem PySem.Spec PyProof.Rows L2

/-! ### tuples of ints -/
theorem pdL_ilist : ∀ ns : List Int, pdL (ilist ns) = some (ns.map PyData.int)
  | [] => rfl
  | n :: r => by
    show pdL (D.a (.int n) :: ilist r) = _
    unfold pdL
    rw [pdL_ilist r]
    rfl
theorem eqvAll_ints : ∀ xs ys : List Int, PyData.eqvAll (xs.map PyData.int) (ys.map PyData.int) = decide (xs = ys)
  | [], [] => rfl
  | [], _ :: _ => rfl
  | _ :: _, [] => rfl
  | x :: xs, y :: ys => by
    rw [List.map_cons, List.map_cons]
    unfold PyData.eqvAll
    rw [eqvAll_ints xs ys]
    show ((x == y) && _) = _
    by_cases h : x = y
    · subst h
      simp
    · simp [h]
theorem canLay_ints : ∀ xs : List Int, PyData.canLayAll0 (xs.map PyData.int) = true
  | [] => rfl
  | x :: r => by
    rw [List.map_cons]
    unfold PyData.canLayAll0
    rw [canLay_ints r]
    rfl
theorem depth_ints : ∀ xs : List Int, PyData.depthAll (xs.map PyData.int) = 0
  | [] => rfl
  | x :: r => by
    rw [List.map_cons]
    unfold PyData.depthAll
    rw [depth_ints r]
    rfl
theorem shaped_ints (xs : List Int) : SeqAt.shaped (.tuple (xs.map PyData.int)) = true := by
  unfold SeqAt.shaped PyData.canLay0 PyData.depth
  rw [canLay_ints, depth_ints]
  rfl
theorem dEq_ilist (xs ys : List Int) (S : Sto) : dEq (.tup (ilist xs)) (.tup (ilist ys)) S = some (.a (.bl (decide (xs = ys))), S) := by
  have h1 : ∀ xs : List Int, pdS S (.tup (ilist xs)) = some (.tuple (xs.map PyData.int)) := fun xs => by
    show pd (.tup (ilist xs)) = _
    unfold pd
    rw [pdL_ilist]
    rfl
  unfold dEq eqD
  dsimp only
  rw [h1, h1]
  dsimp only
  rw [if_pos ⟨shaped_ints _, shaped_ints _⟩]
  unfold PyData.eqv
  rw [eqvAll_ints]
  rfl
theorem ilist_get {ns : List Int} {k : Int} {v : Int} (h : atI ns k = some v) : atI (ilist ns) k = some (.a (.int v)) := by
  unfold atI at h ⊢
  rw [ilist_len]
  cases hk : ixN ns.length k with
  | none => rw [hk] at h; cases h
  | some j =>
    rw [hk] at h
    rw [Option.bind_some] at h ⊢
    unfold ilist
    rw [List.getElem?_map, h]
    rfl
theorem atI_lt {ns : List Int} {k : Nat} (h : k < ns.length) : atI ns (k : Int) = some (ns.getD k 0) := by
  rw [atI_nat h]
  simp [h]
/-- from the end -/
theorem atI_neg {ns : List Int} {k : Nat} (h0 : 0 < k) (h : k ≤ ns.length) : atI ns (-(k : Int)) = some (ns.getD (ns.length - k) 0) := by
  unfold atI ixN
  rw [if_neg (by omega), if_pos (by omega), Option.bind_some, show (-(k : Int) + (ns.length : Int)).toNat = ns.length - k by omega]
  have hl : ns.length - k < ns.length := by omega
  simp [hl]
theorem sIx_nat' (n d k : Nat) : HT.sIx n d (some (k : Int)) = min k n := HT.sIx_nat n d k
theorem cutL_map {α β : Type} (f : α → β) (xs : List α) (lo hi : Option Int) : cutL (xs.map f) lo hi = (cutL xs lo hi).map f := by
  unfold cutL
  rw [List.length_map, List.map_take, List.map_drop]
theorem cut_ilist (xs : List Int) (lo hi : Option Int) : cutL (ilist xs) lo hi = ilist (cutL xs lo hi) := cutL_map _ _ _ _
theorem cutL_take {α : Type} {xs : List α} {k : Nat} (h : k ≤ xs.length) : cutL xs none (some (k : Int)) = xs.take k := by
  unfold cutL
  rw [HT.sIx_none, HT.sIx_nat, Nat.min_eq_left h]
  simp
theorem cutL_drop {α : Type} {xs : List α} {k : Nat} (h : k ≤ xs.length) : cutL xs (some (k : Int)) none = xs.drop k := by
  unfold cutL
  rw [HT.sIx_none, HT.sIx_nat, Nat.min_eq_left h, List.take_of_length_le (by rw [List.length_drop]; omega)]
theorem cutL_mid {α : Type} {xs : List α} {k j : Nat} (h : j ≤ xs.length) (hk : k ≤ j) : cutL xs (some (k : Int)) (some (j : Int)) = (xs.drop k).take (j - k) := by
  unfold cutL
  rw [HT.sIx_nat, HT.sIx_nat, Nat.min_eq_left h, Nat.min_eq_left (by omega)]
theorem dMul_tup {xs : List D} {k : Nat} {S : Sto} (h : xs ≠ []) (h1 : 2 ≤ k) (h2 : k ≤ 1000) (h3 : xs.length ≤ 1000) : dMul (.tup xs) (.a (.int k)) S = some (.tup (List.replicate k xs).flatten, S) := by
  unfold dMul
  dsimp only
  rw [if_pos ⟨h, by omega, by omega, h3⟩, Int.toNat_natCast]
theorem flat_map {α β : Type} (f : α → β) (xs : List α) : ∀ k, (List.replicate k (xs.map f)).flatten = (List.replicate k xs).flatten.map f
  | 0 => rfl
  | k + 1 => by rw [List.replicate_succ, List.replicate_succ, List.flatten_cons, List.flatten_cons, List.map_append, flat_map f xs k]
theorem flat_ilist (xs : List Int) (k : Nat) : (List.replicate k (ilist xs)).flatten = ilist (List.replicate k xs).flatten := flat_map _ _ _
theorem dAdd_tup {xs ys : List D} {S : Sto} (h : xs.length + ys.length ≤ sizeLine) : dAdd (.tup xs) (.tup ys) S = some (.tup (xs ++ ys), S) := if_pos h
theorem ilist_app (xs ys : List Int) : ilist xs ++ ilist ys = ilist (xs ++ ys) := List.map_append.symm
theorem small_line {n : Nat} (h : n ≤ 100000) : n ≤ sizeLine := by
  rw [sizeLine_eq]
  omega
/-! ### a loop that looks for something -/
theorem forGo_find {all : List D} {i : Nat} {body : SX} {S : Sto} {env0 : Slots} (P : D → Bool) (f : D → D) : ∀ (r : List D) (x : Option D),
    (∀ d ∈ r, body (env0.set i (some d)) S = if P d = true then .rt (f d) S else .nx (env0.set i (some d)) S) →
    ∃ y, forGo none all (gN i) body r (env0.set i x) S = match r.find? P with
      | some d => .rt (f d) S
      | none => .nx (env0.set i y) S
  | [], x, _ => ⟨x, forGo_nil⟩
  | d :: r, x, h => by
    rw [forGo_cons, List.set_set, h d (List.mem_cons_self ..)]
    cases hp : P d with
    | true =>
      refine ⟨x, ?_⟩
      rw [if_pos rfl, List.find?_cons_of_pos hp]
      rfl
    | false =>
      rw [if_neg Bool.false_ne_true, List.find?_cons_of_neg (by rw [hp]; exact Bool.false_ne_true)]
      exact forGo_find P f r (some d) fun d hd => h d (List.mem_cons_of_mem _ hd)
/-! ### new cells -/
/-- cells may be new, the old ones stand -/
structure Fix (S S' : Sto) : Prop where
  len : S.length ≤ S'.length
  at_ : ∀ i, i < S.length → S'[i]? = S[i]?
theorem Fix.refl {S : Sto} : Fix S S := ⟨Nat.le_refl _, fun _ _ => rfl⟩
theorem Fix.trans {S S1 S2 : Sto} (a : Fix S S1) (b : Fix S1 S2) : Fix S S2 := ⟨Nat.le_trans a.len b.len, fun i h => (b.at_ i (Nat.lt_of_lt_of_le h a.len)).trans (a.at_ i h)⟩
theorem Fix.get {S S' : Sto} (a : Fix S S') {i : Nat} {c : Cell} (h : S[i]? = some c) : S'[i]? = some c := (a.at_ i (List.getElem?_eq_some_iff.mp h).1).trans h
theorem Fix.push {S : Sto} {l : List Cell} : Fix S (S ++ l) := ⟨by rw [List.length_append]; omega, fun i h => List.getElem?_append_left h⟩
theorem Fix.ext {S S' : Sto} {s : Nat} (a : Fix S S') : Ext s S S' := ⟨a.len, fun i h _ => a.at_ i h⟩
theorem Fix.stt {S S' : Sto} {s : Nat} (a : Fix S S') (h : Stt S s) : Stt S' s := by
  obtain ⟨c2, seed, k, rest, ns, h1, h2, h3⟩ := h
  exact ⟨c2, seed, k, rest, ns, a.get h1, a.get h2, h3⟩
theorem Fix.cut {S S' : Sto} (a : Fix S S') : S'.take S.length = S := by
  refine List.ext_getElem? fun i => ?_
  by_cases hi : i < S.length
  · rw [List.getElem?_take_of_lt hi]
    exact a.at_ i hi
  · rw [List.getElem?_eq_none (by rw [List.length_take]; omega), List.getElem?_eq_none (by omega)]
theorem new_at {S : Sto} {c : Cell} : (S ++ [c])[S.length]? = some c := by simp
/-- pure data: no cells within -/
def noC (d : D) : Prop := ∀ n, D.lo n d = true
theorem noC_atom (v : V) : noC (.a v) := fun _ => rfl
theorem loL_ilist (n : Nat) : ∀ xs : List Int, D.loL n (ilist xs) = true
  | [] => rfl
  | x :: r => by
    show (D.lo n (.a (.int x)) && D.loL n (ilist r)) = true
    rw [loL_ilist n r]
    rfl
theorem noC_ilist (xs : List Int) : noC (.tup (ilist xs)) := fun n => by
  unfold D.lo
  exact loL_ilist n xs
/-- a def's result is pure data, new cells may be dropped -/
theorem region_fixA {S S' : Sto} {d : D} (hd : noC d) (h : Fix S S') : ∃ S2, region S.length (.ok d S') = .ok d S2 ∧ Fix S S2 := by
  unfold region
  dsimp only
  split
  · rw [h.cut]
    exact ⟨S, rfl, Fix.refl⟩
  · cases d with
    | cel k =>
      have := hd 0
      unfold D.lo at this
      simp at this
    | _ => exact ⟨S', rfl, h⟩
theorem region_fixX {S S' : Sto} {c : Str} (h : Fix S S') : ∃ S2, region S.length (.exc ⟨c, []⟩ S') = .exc ⟨c, []⟩ S2 ∧ Fix S S2 := by
  unfold region
  dsimp only
  split
  · rw [h.cut]
    exact ⟨S, rfl, Fix.refl⟩
  · exact ⟨S', rfl, h⟩
/-- .. is a new cell -/
theorem region_fixB {S S' : Sto} {k : Nat} {c : Cell} (hk : S.length ≤ k) (hc : S'[k]? = some c) (h : Fix S S') : ∃ j S2, region S.length (.ok (.cel k) S') = .ok (.cel j) S2 ∧ S.length ≤ j ∧ S2[j]? = some c ∧ Fix S S2 := by
  unfold region
  dsimp only
  rw [if_neg fun z => by
    have := z.1
    unfold D.lo at this
    have := of_decide_eq_true this
    omega]
  rw [hc]
  dsimp only
  split
  · rw [h.cut]
    exact ⟨_, _, rfl, Nat.le_refl _, new_at, Fix.push⟩
  · exact ⟨k, S', rfl, hk, hc, h⟩
/-- .. where the state's cell has changed -/
theorem lo_get {n : Nat} {S : Sto} {i : Nat} {c : Cell} (h : Sto.lo S = true) (hi : S[i]? = some c) : Cell.lo S.length c = true := List.all_eq_true.mp h c (List.mem_of_getElem? hi)
theorem Stt.cut {S' : Sto} {s n : Nat} (hs : s < n) (hn : n ≤ S'.length) (hl : Sto.lo (S'.take n) = true) (h : Stt S' s) : Stt (S'.take n) s := by
  obtain ⟨c2, seed, k, rest, ns, h1, h2, h3⟩ := h
  have h1' : (S'.take n)[s]? = some (.lst [.a (.int seed), .cel c2, .a (.int k), .a (.int rest)]) := by rw [List.getElem?_take_of_lt hs]; exact h1
  have hc := lo_get (n := n) hl h1'
  have hln : (S'.take n).length = n := by rw [List.length_take]; omega
  rw [hln] at hc
  have hc2 : c2 < n := by
    unfold Cell.lo at hc
    simp [D.loL, D.lo] at hc
    exact hc
  exact ⟨c2, seed, k, rest, ns, h1', by rw [List.getElem?_take_of_lt hc2]; exact h2, h3⟩
theorem Ext.cut {S S' : Sto} {s : Nat} (a : Ext s S S') : Ext s S (S'.take S.length) := ⟨by rw [List.length_take]; have := a.len; omega, fun i hi n => by rw [List.getElem?_take_of_lt hi]; exact a.at_ i hi n⟩
theorem region_extA {S S' : Sto} {s : Nat} {d : D} (hd : noC d) (hs : s < S.length) (h : Ext s S S') (ht : Stt S' s) : ∃ S2, region S.length (.ok d S') = .ok d S2 ∧ Ext s S S2 ∧ Stt S2 s := by
  unfold region
  dsimp only
  split
  · rename_i hb
    exact ⟨_, rfl, h.cut, ht.cut hs h.len hb.2⟩
  · cases d with
    | cel k =>
      have := hd 0
      unfold D.lo at this
      simp at this
    | _ => exact ⟨S', rfl, h, ht⟩
theorem region_extB {S S' : Sto} {s k : Nat} {c : Cell} (hk : S.length ≤ k) (hc : S'[k]? = some c) (hs : s < S.length) (h : Ext s S S') (ht : Stt S' s) : ∃ j S2, region S.length (.ok (.cel k) S') = .ok (.cel j) S2 ∧ S.length ≤ j ∧ S2[j]? = some c ∧ Ext s S S2 ∧ Stt S2 s := by
  unfold region
  dsimp only
  rw [if_neg fun z => by
    have := z.1
    unfold D.lo at this
    have := of_decide_eq_true this
    omega]
  rw [hc]
  dsimp only
  split
  · rename_i hb
    have hl : (S'.take S.length).length = S.length := by rw [List.length_take]; have := h.len; omega
    have e : (S'.take S.length ++ [c])[S.length]? = some c := by
      have := new_at (S := S'.take S.length) (c := c)
      rw [hl] at this
      exact this
    exact ⟨_, _, rfl, Nat.le_refl _, e, h.cut.trans Fix.push.ext, Fix.push.stt (ht.cut hs h.len hb.2.2.1)⟩
  · exact ⟨k, S', rfl, hk, hc, h, ht⟩
theorem Stt.lt {S : Sto} {s : Nat} (h : Stt S s) : s < S.length := by
  obtain ⟨c2, seed, k, rest, ns, h1, _⟩ := h
  exact (List.getElem?_eq_some_iff.mp h1).1
/-! defs by what their bodies do -/
/-- the result is pure, cells may be new -/
def FixA (S : Sto) (Q : D → Prop) : D → Sto → Prop := fun d S' => Q d ∧ noC d ∧ Fix S S'
def FixB (S : Sto) (Q : Cell → Prop) : D → Sto → Prop := fun d S' => ∃ k c, d = .cel k ∧ S.length ≤ k ∧ S'[k]? = some c ∧ Q c ∧ Fix S S'
def ExtA (s : Nat) (S : Sto) (Q : D → Prop) : D → Sto → Prop := fun d S' => Q d ∧ noC d ∧ Ext s S S' ∧ Stt S' s
def ExtB (s : Nat) (S : Sto) (Q : Cell → Prop) : D → Sto → Prop := fun d S' => ∃ k c, d = .cel k ∧ S.length ≤ k ∧ S'[k]? = some c ∧ Q c ∧ Ext s S S' ∧ Stt S' s
section
variable {n N s : Nat} {b : SX} {ds : List D} {S : Sto} {Q : D → Prop} {Qc : Cell → Prop}
theorem def_fixA (h : ds.length = n) (hb : RtP (FixA S Q) (b (ds.map some ++ List.replicate (N - ds.length) none) S)) : OkP (FixA S Q) (defSem n N b ds S) := by
  rw [defSem_eq h]
  obtain ⟨d, S', e, h1, h2, h3⟩ := hb.body.get
  obtain ⟨S2, e2, h4⟩ := region_fixA h2 h3
  rw [e, e2]
  exact ⟨h1, h2, h4⟩
theorem def_fixB (h : ds.length = n) (hb : RtP (FixB S Qc) (b (ds.map some ++ List.replicate (N - ds.length) none) S)) : OkP (FixB S Qc) (defSem n N b ds S) := by
  rw [defSem_eq h]
  obtain ⟨d, S', e, k, c, rfl, h1, h2, h3, h4⟩ := hb.body.get
  obtain ⟨j, S2, e2, h5, h6, h7⟩ := region_fixB h1 h2 h4
  rw [e, e2]
  exact ⟨j, c, rfl, h5, h6, h3, h7⟩
theorem def_extA (h : ds.length = n) (hs : s < S.length) (hb : RtP (ExtA s S Q) (b (ds.map some ++ List.replicate (N - ds.length) none) S)) : OkP (ExtA s S Q) (defSem n N b ds S) := by
  rw [defSem_eq h]
  obtain ⟨d, S', e, h1, h2, h3, h4⟩ := hb.body.get
  obtain ⟨S2, e2, h5, h6⟩ := region_extA h2 hs h3 h4
  rw [e, e2]
  exact ⟨h1, h2, h5, h6⟩
theorem def_extB (h : ds.length = n) (hs : s < S.length) (hb : RtP (ExtB s S Qc) (b (ds.map some ++ List.replicate (N - ds.length) none) S)) : OkP (ExtB s S Qc) (defSem n N b ds S) := by
  rw [defSem_eq h]
  obtain ⟨d, S', e, k, c, rfl, h1, h2, h3, h4, h5⟩ := hb.body.get
  obtain ⟨j, S2, e2, h6, h7, h8, h9⟩ := region_extB h1 h2 hs h4 h5
  rw [e, e2]
  exact ⟨j, c, rfl, h6, h7, h3, h8, h9⟩
end
/-! ### _law_start -/
noncomputable def bStart : SX :=
 (sSeq (sSet 1 (eC (.a (.int (7)))))
 (sSeq (sFor (iR1 (eCallB dLen (aCons (eVar 0) aNil))) (gN 2)
 (sSeq (sSet 1 (eBin dMod (eBin dAdd (eBin dAdd (eBin dAdd (eBin dMul (eVar 1) (eC (.a (.int (48271))))) (eBin dMod (eCallB dInt (aCons (eBin dIx (eVar 0) (eVar 2)) aNil)) (eC (.a (.int (2147483647)))))) (eVar 2)) (eC (.a (.int (1))))) (eC (.a (.int (2147483647))))))
 sNil))
 (sSeq (sRet (eOfL (aCons (eVar 1) (aCons (eOfL (aListOf (eVar 0))) (aCons (eC (.a (.int (0)))) (aCons (eC (.a (.int (0)))) aNil))))))
 sNil)))
theorem start_spec (ns : List Int) (h : ns.length ≤ 63) : ∃ S' s, defSem 1 3 bStart [.ils (ilist ns)] [] = .ok (.cel s) S' ∧ Stt S' s := by
  have m1 : ∀ (i : Int) (S : Sto), dMod (.a (.int i)) (.a (.int 2147483647)) S = some (.a (.int (i % 2147483647)), S) := fun i S => dMod_pos (by decide)
  have m2 : ∀ (i : Int) (S : Sto), dMul (.a (.int i)) (.a (.int 48271)) S = some (.a (.int (i * 48271)), S) := fun i S => dMul_int S (.inr ⟨by decide, by decide⟩)
  obtain ⟨r, hr, hf⟩ : ∃ r, bStart [some (.ils (ilist ns)), none, none] [] = r ∧ RtP (fun d S' => ∃ s seed, d = .cel s ∧ S' = [.lst (ilist ns), .lst [.a (.int seed), .cel 0, .a (.int 0), .a (.int 0)]] ∧ s = 1) r := by
    refine ⟨_, rfl, ?_⟩
    have loop : ∀ body : SX, (∀ (seed : Int) (y : Option D) (j : Nat), j < ns.length → ∃ seed', body ([some (.ils (ilist ns)), some (.a (.int seed)), y].set 2 (some (.a (.int (j : Int))))) [] = .nx [some (.ils (ilist ns)), some (.a (.int seed')), some (.a (.int (j : Int)))] []) →
        ∀ seed : Int, ∃ seed2 y, forGo none (rangeL 0 ns.length) (gN 2) body (rangeL 0 ns.length) [some (.ils (ilist ns)), some (.a (.int seed)), none] [] = SR.nx [some (.ils (ilist ns)), some (.a (.int seed2)), y] [] := fun body hb seed => by
      refine forGo_inv (body := body) (all := rangeL 0 ns.length) (i := 2) (Q := fun r => ∃ seed y, r = SR.nx [some (.ils (ilist ns)), some (.a (.int seed)), y] []) (fun j env S => ∃ seed y, env = [some (.ils (ilist ns)), some (.a (.int seed)), y] ∧ S = []) (rangeL 0 ns.length) 0 _ _ ⟨seed, none, rfl, rfl⟩ ?_ ?_
      · rintro j d env S hd ⟨seed, y, rfl, rfl⟩
        obtain ⟨hj, rfl⟩ := rangeL_get hd
        obtain ⟨seed', hs⟩ := hb seed y j hj
        rw [Int.zero_add]
        exact .inl ⟨_, _, .inl hs, seed', _, rfl, rfl⟩
      · rintro env S ⟨seed, y, rfl, rfl⟩
        exact ⟨seed, y, rfl⟩
    have hr := iR1R_nat (n := ns.length) ([] : Sto) (by omega)
    simp only [bStart, sSeq_eq, sSet_eq, eC_eq, setR_ok, sq_nx, sFor_eq, iR1_eq, eCallB_eq, aCons_eq, eVar_eq, List.set_cons_succ, List.set_cons_zero, List.getElem?_cons_zero, varR_some, aNil_eq, cons1_ok, cons2_ok, cbR_ok, dLen_ils, ilist_len, ofO_some, hr, forR_ok]
    generalize hB : (sSeq (sSet 1 (eBin dMod (eBin dAdd (eBin dAdd (eBin dAdd (eBin dMul (eVar 1) (eC (.a (.int (48271))))) (eBin dMod (eCallB dInt (aCons (eBin dIx (eVar 0) (eVar 2)) aNil)) (eC (.a (.int (2147483647)))))) (eVar 2)) (eC (.a (.int (1))))) (eC (.a (.int (2147483647)))))) sNil) = B
    obtain ⟨seed, y, hl⟩ := loop B (fun seed y j hj => ⟨(seed * 48271 + (ns.getD j 0) % 2147483647 + j + 1) % 2147483647, by
      subst hB
      simp [ilist_get (atI_lt hj), m1, m2]⟩) 7
    rw [hl]
    have hal : aListOf (eVar 0) [some (.ils (ilist ns)), some (.a (.int seed)), y] [] = .ok (ilist ns) [] := rfl
    simp [hal]
  have hg := RtP.body hf
  obtain ⟨d, S', e, hp⟩ := OkP.get hg
  obtain ⟨s, seed, h1, h2, h3⟩ := hp
  subst h1 h2 h3
  have e := (congrArg bodyR hr).trans e
  rw [defSem_eq (n := 1) (ds := [_]) rfl]
  have er : region 0 (.ok (.cel 1) [.lst (ilist ns), .lst [.a (.int seed), .cel 0, .a (.int 0), .a (.int 0)]]) = .ok (.cel 1) [.lst (ilist ns), .lst [.a (.int seed), .cel 0, .a (.int 0), .a (.int 0)]] := by
    unfold region
    simp [D.lo, Cell.lo, D.loL]
  exact ⟨[.lst (ilist ns), .lst [.a (.int seed), .cel 0, .a (.int 0), .a (.int 0)]], 1, (congrArg (region 0) e).trans er, 0, seed, 0, 0, ns, by simp, by simp, by decide, by decide, by decide⟩
end G
set_option maxRecDepth 100000
set_option exponentiation.threshold 600
/-! The plain layer H, part 3: loops that run to their end. -/
namespace G
open PySem PySem.Spec PyProof.Rows L2
theorem forGo_nxG {all : List D} {i : Nat} {body : SX} (Inv : Nat → Slots → Sto → Prop) : ∀ (r : List D) (n : Nat) (env : Slots) (S : Sto), Inv n env S →
    (∀ j d env S, r[j]? = some d → Inv (n + j) env S → ∃ env' S', body (env.set i (some d)) S = .nx env' S' ∧ Inv (n + j + 1) env' S') →
    ∃ env' S', forGo none all (gN i) body r env S = .nx env' S' ∧ Inv (n + r.length) env' S'
  | [], n, env, S, h0, _ => ⟨env, S, forGo_nil, h0⟩
  | d :: r, n, env, S, h0, hs => by
    obtain ⟨env1, S1, hb, hi⟩ := hs 0 d env S (by simp) h0
    obtain ⟨env2, S2, h2, hi2⟩ := forGo_nxG (all := all) (i := i) (body := body) Inv r (n + 1) env1 S1 hi fun j d' env S hd hi => by
      have := hs (j + 1) d' env S (by simpa using hd) (by rw [← Nat.add_assoc]; rwa [show n + j + 1 = n + 1 + j by omega])
      rwa [show n + (j + 1) + 1 = n + 1 + j + 1 by omega] at this
    refine ⟨env2, S2, ?_, ?_⟩
    · rw [forGo_cons, hb]; exact h2
    · rw [List.length_cons]
      rwa [show n + (r.length + 1) = n + 1 + r.length by omega]
/-- each turn goes on -/
theorem forGo_nx {all : List D} {i : Nat} {body : SX} {r : List D} {env : Slots} {S : Sto} (Inv : Nat → Slots → Sto → Prop) (h0 : Inv 0 env S)
    (hs : ∀ j d env S, r[j]? = some d → Inv j env S → ∃ env' S', body (env.set i (some d)) S = .nx env' S' ∧ Inv (j + 1) env' S') :
    ∃ env' S', forGo none all (gN i) body r env S = .nx env' S' ∧ Inv r.length env' S' := by
  have := forGo_nxG (all := all) (i := i) (body := body) Inv r 0 env S h0 fun j d env S hd hi => by
    rw [Nat.zero_add] at hi ⊢
    exact hs j d env S hd hi
  rwa [Nat.zero_add] at this
end G
set_option maxRecDepth 100000
set_option exponentiation.threshold 600
/-! The plain layer H, part 4: a body statement by statement. -/
namespace G
open PySem PySem.Spec PyProof.Rows L2
section
variable {P : D → Sto → Prop} {f fv fo fi : EX} {g a b : SX} {c : BX} {env env' : Slots} {S S1 S2 S3 S4 S' : Sto} {d v o i : D} {n : Nat}
theorem st_set (h : f env S = .ok d S') (k : RtP P (g (env.set n (some d)) S')) : RtP P (sSeq (sSet n f) g env S) := by
  rw [sSeq_eq, sSet_eq, h, setR_ok, sq_nx]
  exact k
theorem st_ret (h : f env S = .ok d S') (k : P d S') : RtP P (sSeq (sRet f) g env S) := by
  rw [sSeq_eq, sRet_eq, h, retR_ok, sq_rt]
  exact k
theorem sq_assoc {r : SR} : (r.sq a).sq g = r.sq (sSeq a g) := by
  cases r <;> rfl
theorem st_seq (k : RtP P (sSeq a (sSeq b g) env S)) : RtP P (sSeq (sSeq a b) g env S) := by
  rw [sSeq_eq, sSeq_eq, sq_assoc]
  exact k
theorem st_nil (k : RtP P (g env S)) : RtP P (sSeq sNil g env S) := k
theorem st_ift (h : c env S = .ok true S') (k : RtP P (sSeq a g env S')) : RtP P (sSeq (sIf c a b) g env S) := by
  rw [sSeq_eq, sIf_eq, h, ifR_t]
  exact k
theorem st_iff (h : c env S = .ok false S') (k : RtP P (sSeq b g env S')) : RtP P (sSeq (sIf c a b) g env S) := by
  rw [sSeq_eq, sIf_eq, h, ifR_f]
  exact k
theorem st_put (hv : fv env S = .ok v S1) (ho : fo env S1 = .ok o S2) (hi : fi env S2 = .ok i S3) (hp : dPut o i v S3 = some S4) (k : RtP P (g env S4)) : RtP P (sSeq (sPut fv fo fi) g env S) := by
  rw [sSeq_eq, sPut_eq, hv, put1_ok, ho, put2_ok, hi, put3_ok, hp, nxS_some, sq_nx]
  exact k
theorem st_asg {t : TgX} (h : f env S = .ok d S1) (ht : t d env S1 = some (env', S')) (k : RtP P (g env' S')) : RtP P (sSeq (sAsg f t) g env S) := by
  rw [sSeq_eq, sAsg_eq, h, asgR_ok, ht, nxO_some, sq_nx]
  exact k
theorem st_do (h : f env S = .ok d S') (k : RtP P (g env S')) : RtP P (sSeq (sDo f) g env S) := by
  rw [sSeq_eq, sDo_eq, h, doR_ok, sq_nx]
  exact k
theorem st_for {it : IX} {t : TgX} {ds : List D} {gg : Gd} (h : it env S = .ok (ds, gg) S1) (hl : forGo gg ds t b ds env S1 = .nx env' S') (k : RtP P (g env' S')) : RtP P (sSeq (sFor it t b) g env S) := by
  rw [sSeq_eq, sFor_eq, h, forR_ok, hl, sq_nx]
  exact k
end
/-! drawing -/
theorem dAdd_lst {i j : Nat} {xs ys : List D} {S : Sto} (hi : S[i]? = some (.lst xs)) (hj : S[j]? = some (.lst ys)) (h : xs.length + ys.length ≤ sizeLine) : dAdd (.cel i) (.cel j) S = some (.cel S.length, S ++ [.lst (xs ++ ys)]) := by
  unfold dAdd
  dsimp only
  rw [hi, hj]
  dsimp only
  rw [if_pos h]
theorem dMul_lst {i : Nat} {xs : List D} {k : Nat} {S : Sto} (hi : S[i]? = some (.lst xs)) (hk : k ≤ 100000) (h : xs.length * k ≤ sizeLine) : dMul (.cel i) (.a (.int k)) S = some (.cel S.length, S ++ [.lst (List.replicate k xs).flatten]) := by
  unfold dMul
  dsimp only
  rw [hi]
  dsimp only
  rw [if_pos ⟨by omega, by omega, by rw [Int.toNat_natCast]; exact h⟩, Int.toNat_natCast]
theorem dCut_lst {i : Nat} {xs : List D} {lo hi : Option Int} {S : Sto} (h : S[i]? = some (.lst xs)) : dCut (.cel i) lo hi S = some (.cel S.length, S ++ [.lst (cutL xs lo hi)]) := by
  unfold dCut
  dsimp only
  rw [h]
theorem dMul_tup1 {xs : List D} {S : Sto} : dMul (.tup xs) (.a (.int 1)) S = some (.tup xs, S) := by
  unfold dMul
  dsimp only
  rw [if_neg (by omega), if_pos rfl]
/-- a tuple by k, 1 ≤ k -/
theorem dMul_tupG {xs : List D} {k : Nat} {S : Sto} (h : xs ≠ []) (h1 : 1 ≤ k) (h2 : k ≤ 1000) (h3 : xs.length ≤ 1000) : dMul (.tup xs) (.a (.int k)) S = some (.tup (List.replicate k xs).flatten, S) := by
  by_cases hk : k = 1
  · subst hk
    have := dMul_tup1 (xs := xs) (S := S)
    simpa using this
  · exact dMul_tup h (by omega) h2 h3
/-- items that are ints -/
theorem ilist_of {P : Int → Prop} : ∀ {xs : List D}, (∀ x ∈ xs, ∃ z, x = .a (.int z) ∧ P z) → ∃ zs, xs = ilist zs ∧ ∀ z ∈ zs, P z
  | [], _ => ⟨[], rfl, fun _ h => nomatch h⟩
  | x :: r, h => by
    obtain ⟨z, rfl, hz⟩ := h x (List.mem_cons_self ..)
    obtain ⟨zs, rfl, hzs⟩ := ilist_of fun x hx => h x (List.mem_cons_of_mem _ hx)
    exact ⟨z :: zs, rfl, fun y hy => (List.mem_cons.mp hy).elim (fun e => e ▸ hz) (hzs y)⟩
/-- a draw, the limit being what f gives -/
theorem pickE {F : List D → Sto → R D} {f : EX} {env : Slots} {s i : Nat} {L : Int} {S S1 : Sto} (hF : F = defSem 2 5 bPick) (he : env[i]? = some (some (.cel s))) (hf : f env S = .ok (.a (.int L)) S1) (h : Stt S1 s) (h0 : 0 < L) (h1 : L < 2 ^ 300) :
    ∃ v S', eCall F [] (aCons (eVar i) (aCons f aNil)) env S = .ok (.a (.int v)) S' ∧ 0 ≤ v ∧ v < L ∧ Stt S' s ∧ S'.length = S1.length ∧ Ext s S1 S' := by
  obtain ⟨d, S', e, v, rfl, hv⟩ := (pick_spec h h0 h1).get
  refine ⟨v, S', ?_, hv⟩
  subst hF
  simp [he, hf]
  exact e
theorem at3 {x y z : D} {v : Int} (h0 : 0 ≤ v) (h1 : v < 3) : atI [x, y, z] v = some x ∨ atI [x, y, z] v = some y ∨ atI [x, y, z] v = some z := by
  have : v = 0 ∨ v = 1 ∨ v = 2 := by omega
  rcases this with rfl | rfl | rfl
  · exact .inl rfl
  · exact .inr (.inl rfl)
  · exact .inr (.inr rfl)
/-- one of three -/
theorem choose3 {F : List D → Sto → R D} {fl : AX} {env : Slots} {s i : Nat} {x y z : D} {S : Sto} (hF : F = defSem 2 5 bPick) (he : env[i]? = some (some (.cel s))) (hl : fl env S = .ok [x, y, z] S) (h : Stt S s) :
    ∃ t S', eIxL fl (eCall F [] (aCons (eVar i) (aCons (eC (.a (.int (3)))) aNil))) env S = .ok t S' ∧ (t = x ∨ t = y ∨ t = z) ∧ Stt S' s ∧ S'.length = S.length ∧ Ext s S S' := by
  obtain ⟨v, S', e, h0, h1, h2⟩ := pickE (f := eC (.a (.int (3)))) (L := 3) hF he rfl h (by decide) (by decide)
  rw [eIxL_eq, hl, ixL1_ok, e, ixL2_ok]
  rcases at3 (x := x) (y := y) (z := z) h0 h1 with q | q | q
  · exact ⟨x, S', by rw [q]; rfl, .inl rfl, h2⟩
  · exact ⟨y, S', by rw [q]; rfl, .inr (.inl rfl), h2⟩
  · exact ⟨z, S', by rw [q]; rfl, .inr (.inr rfl), h2⟩
/-- a list of draws -/
theorem drawn {F : List D → Sto → R D} {f : EX} {all : List D} {env : Slots} {s i j : Nat} {L : Int} {S : Sto} (hF : F = defSem 2 5 bPick) (hij : i ≠ j) (he : env[i]? = some (some (.cel s))) (hf : ∀ d S, f (env.set j (some d)) S = .ok (.a (.int L)) S) (h : Stt S s) (h0 : 0 < L) (h1 : L < 2 ^ 300) (r : List D) :
    ∃ zs S', lcGo none all (gN j) tTrue (eCall F [] (aCons (eVar i) (aCons f aNil))) env r S = .ok (ilist zs) S' ∧ zs.length = r.length ∧ (∀ z ∈ zs, 0 ≤ z ∧ z < L) ∧ Stt S' s ∧ S'.length = S.length ∧ Ext s S S' := by
  obtain ⟨xs, S', e, ⟨h2, h3, h4⟩, hl, hq⟩ := lcGo_inv (all := all) (i := j) (elt := eCall F [] (aCons (eVar i) (aCons f aNil))) (env := env) (fun S' => Stt S' s ∧ S'.length = S.length ∧ Ext s S S') (fun x => ∃ z, x = .a (.int z) ∧ 0 ≤ z ∧ z < L) r S ⟨h, rfl, Ext.refl⟩ fun d _ S1 ⟨i1, i2, i3⟩ => by
    obtain ⟨v, S2, e, g0, g1, g2, g3, g4⟩ := pickE (f := f) (env := env.set j (some d)) (i := i) (s := s) hF (by rw [List.getElem?_set_ne (Ne.symm hij)]; exact he) (hf d S1) i1 h0 h1
    exact ⟨_, S2, e, ⟨g2, g3.trans i2, i3.trans g4⟩, v, rfl, g0, g1⟩
  obtain ⟨zs, rfl, hz⟩ := ilist_of hq
  exact ⟨zs, S', e, by rw [← hl, ilist_len], hz, h2, h3, h4⟩
end G
set_option maxRecDepth 100000
set_option exponentiation.threshold 600
/-! The plain layer H, part 5: lists that are drawn. -/
namespace G
open PySem PySem.Spec PyProof.Rows L2
theorem st_nx {P : D → Sto → Prop} {f g : SX} {env env' : Slots} {S S' : Sto} (h : f env S = .nx env' S') (k : RtP P (g env' S')) : RtP P (sSeq f g env S) := by
  rw [sSeq_eq, h, sq_nx]
  exact k
theorem getD_eq' (c : List Int) (i : Nat) : c.getD i 0 = (c[i]?).getD 0 := by simp [List.getD]
/-- [pick(state, L) for j in range(n)], a new list -/
theorem drawList {F : List D → Sto → R D} {eA f : EX} {env : Slots} {s i j n : Nat} {L : Int} {S S1 : Sto} {vs : List Nat} (hF : F = defSem 2 5 bPick) (hij : i ≠ j) (he : (wipeS env vs)[i]? = some (some (.cel s))) (hA : eA env S = .ok (.a (.int (n : Nat))) S1) (hn : n ≤ 100000)
    (hf : ∀ d S, f ((wipeS env vs).set j (some d)) S = .ok (.a (.int L)) S) (h : Stt S1 s) (h0 : 0 < L) (h1 : L < 2 ^ 300) :
    ∃ zs S2, eOfL (aLc (iR1 eA) (gN j) vs tTrue (eCall F [] (aCons (eVar i) (aCons f aNil)))) env S = .ok (.cel S1.length) S2 ∧ S2[S1.length]? = some (.lst (ilist zs)) ∧ zs.length = n ∧ (∀ z ∈ zs, 0 ≤ z ∧ z < L) ∧ Stt S2 s ∧ S2.length = S1.length + 1 ∧ Ext s S1 S2 := by
  obtain ⟨zs, S2, e, hl, hz, q, l, x⟩ := drawn (all := rangeL 0 n) hF hij he hf h h0 h1 (rangeL 0 n)
  refine ⟨zs, S2 ++ [.lst (ilist zs)], ?_, by rw [← l]; exact new_at, by rw [hl, rangeL_len], hz, Fix.push.stt q, by rw [List.length_append, l]; rfl, x.trans Fix.push.ext⟩
  rw [eOfL_eq, aLc_eq, iR1_eq, hA, iR1R_nat _ (by omega), lcR_rng (small_line hn), e, ofLR_ok, l]
/-- pick(state, one of three) -/
theorem pick3E {F : List D → Sto → R D} {fl : AX} {env : Slots} {s i : Nat} {x y z : Int} {S : Sto} (hF : F = defSem 2 5 bPick) (he : env[i]? = some (some (.cel s))) (hl : fl env S = .ok [.a (.int x), .a (.int y), .a (.int z)] S) (h : Stt S s) {B : Int} (hx : 0 < x ∧ x ≤ B) (hy : 0 < y ∧ y ≤ B) (hz : 0 < z ∧ z ≤ B) (hB : B < 2 ^ 300) :
    ∃ (v : Nat) (S' : Sto), eCall F [] (aCons (eVar i) (aCons (eIxL fl (eCall F [] (aCons (eVar i) (aCons (eC (.a (.int (3)))) aNil)))) aNil)) env S = .ok (.a (.int (v : Nat))) S' ∧ (v : Int) < B ∧ Stt S' s ∧ S'.length = S.length ∧ Ext s S S' := by
  obtain ⟨t, S1, e1, ht, q1, l1, x1⟩ := choose3 hF he hl h
  obtain ⟨w, rfl, hw⟩ : ∃ w, t = .a (.int w) ∧ 0 < w ∧ w ≤ B := by
    rcases ht with rfl | rfl | rfl
    · exact ⟨x, rfl, hx⟩
    · exact ⟨y, rfl, hy⟩
    · exact ⟨z, rfl, hz⟩
  obtain ⟨v, S2, e2, g0, g1, q2, l2, x2⟩ := pickE hF he e1 q1 hw.1 (by omega)
  obtain ⟨m, rfl⟩ := Int.eq_ofNat_of_zero_le g0
  exact ⟨m, S2, e2, by omega, q2, l2.trans l1, x1.trans x2⟩
/-- at = pick(state, len(xs)); xs[at] = int(xs[at] + 1) % top -/
theorem bump {F : List D → Sto → R D} {env : Slots} {s a t ci ti : Nat} {top : Int} {xs : List Int} {S : Sto} (hF : F = defSem 2 5 bPick) (he0 : env[0]? = some (some (.cel s))) (he1 : env[ti]? = some (some (.a (.int top)))) (hea : env[a]? = some (some (.cel ci))) (hat : a ≠ t) (ht0 : t ≠ 0) (ht1 : ti ≠ t) (hl4 : t < env.length)
    (hx : S[ci]? = some (.lst (ilist xs))) (hne : xs ≠ []) (hxl : xs.length ≤ 100000) (hci : ci ≠ s) (ht : 0 < top) (h : Stt S s) :
    ∃ (v : Nat) (S' : Sto), sSeq (sSet t (eCall F [] (aCons (eVar 0) (aCons (eCallB dLen (aCons (eVar a) aNil)) aNil)))) (sSeq (sPut (eBin dMod (eCallB dInt (aCons (eBin dAdd (eBin dIx (eVar a) (eVar t)) (eC (.a (.int (1))))) aNil)) (eVar ti)) (eVar a) (eVar t)) sNil) env S = .nx (env.set t (some (.a (.int (v : Nat))))) S' ∧
      v < xs.length ∧ S'[ci]? = some (.lst (ilist (xs.set v ((xs.getD v 0 + 1) % top)))) ∧ Stt S' s ∧ S'.length = S.length ∧ (∀ i, i < S.length → i ≠ s → i ≠ ci → S'[i]? = S[i]?) := by
  have hl : (0 : Int) < xs.length := by have := List.length_pos_iff.mpr hne; omega
  obtain ⟨v, S1, e, g0, g1, q, l, x⟩ := pickE (S := S) (S1 := S) (f := eCallB dLen (aCons (eVar a) aNil)) (L := xs.length) hF he0 (by simp [hea, dLen_lst hx]) h hl (by omega)
  obtain ⟨m, rfl⟩ := Int.eq_ofNat_of_zero_le g0
  have hm : m < xs.length := by omega
  have hx1 := x.get hx hci
  have f0 : (env.set t (some (.a (.int (m : Nat)))))[a]? = some (some (.cel ci)) := by rw [List.getElem?_set_ne (Ne.symm hat)]; exact hea
  have f1 : (env.set t (some (.a (.int (m : Nat)))))[ti]? = some (some (.a (.int top))) := by rw [List.getElem?_set_ne (Ne.symm ht1)]; exact he1
  have f2 : (env.set t (some (.a (.int (m : Nat)))))[t]? = some (some (.a (.int (m : Nat)))) := List.getElem?_set_self hl4
  have hp : dPut (.cel ci) (.a (.int (m : Nat))) (.a (.int ((xs.getD m 0 + 1) % top))) S1 = some (S1.set ci (.lst (ilist (xs.set m ((xs.getD m 0 + 1) % top))))) := by
    rw [dPut_lst hx1 (by rw [ilist_len]; exact hm)]
    congr 3
    exact List.map_set.symm
  have hcl : ci < S1.length := (List.getElem?_eq_some_iff.mp hx1).1
  refine ⟨m, S1.set ci (.lst (ilist (xs.set m ((xs.getD m 0 + 1) % top)))), ?_, hm, List.getElem?_set_self hcl, ?_, by rw [List.length_set, l], fun i hi h1 h2 => ?_⟩
  · have hg := ilist_get (atI_lt hm)
    generalize xs.getD m 0 = y at hp hg ⊢
    generalize hS2 : S1.set ci (.lst (ilist (xs.set m ((y + 1) % top)))) = S2 at hp ⊢
    rw [sSeq_eq, sSet_eq, e, setR_ok, sq_nx, sSeq_eq, sPut_eq]
    have hv : eBin dMod (eCallB dInt (aCons (eBin dAdd (eBin dIx (eVar a) (eVar t)) (eC (.a (.int (1))))) aNil)) (eVar ti) (env.set t (some (.a (.int (m : Nat))))) S1 = .ok (.a (.int ((y + 1) % top))) S1 := by
      simp only [eBin_eq, eCallB_eq, aCons_eq, eVar_eq, f0, f1, f2, varR_some, bin1_ok, bin2_ok, dIx_lst hx1, hg, Option.map_some, ofO_some, eC_eq, dAdd_int, cons1_ok, aNil_eq, cons2_ok, cbR_ok, dInt_int, dMod_pos ht]
    rw [hv, put1_ok, eVar_eq, f0, varR_some, put2_ok, eVar_eq, f2, varR_some, put3_ok, hp, nxS_some, sq_nx, sNil_eq]
  · obtain ⟨c2, seed, k, rest, ns, h1, h2, h3, h4⟩ := q
    by_cases hc2 : c2 = ci
    · subst hc2
      exact ⟨c2, seed, k, rest, _, by rw [List.getElem?_set_ne (Ne.symm h3)]; exact h1, List.getElem?_set_self hcl, h3, h4⟩
    · exact ⟨c2, seed, k, rest, ns, by rw [List.getElem?_set_ne hci]; exact h1, by rw [List.getElem?_set_ne (Ne.symm hc2)]; exact h2, h3, h4⟩
  · rw [List.getElem?_set_ne (Ne.symm h2)]
    exact x.at_ i hi h1
end G
set_option maxRecDepth 100000
set_option exponentiation.threshold 600
/-! The plain layer H, part 6: a block statement by statement, whatever is asked of its end. -/
namespace G
open PySem PySem.Spec PyProof.Rows L2
section
variable {Q : SR → Prop} {f fv fo fi : EX} {g a b : SX} {c : BX} {env env' : Slots} {S S1 S2 S3 S4 S' : Sto} {d v o i : D} {n : Nat}
theorem q_set (h : f env S = .ok d S') (k : Q (g (env.set n (some d)) S')) : Q (sSeq (sSet n f) g env S) := by
  rw [sSeq_eq, sSet_eq, h, setR_ok, sq_nx]
  exact k
theorem q_ret (h : f env S = .ok d S') (k : Q (.rt d S')) : Q (sSeq (sRet f) g env S) := by
  rw [sSeq_eq, sRet_eq, h, retR_ok, sq_rt]
  exact k
theorem q_seq (k : Q (sSeq a (sSeq b g) env S)) : Q (sSeq (sSeq a b) g env S) := by
  rw [sSeq_eq, sSeq_eq, sq_assoc]
  exact k
theorem q_nil (k : Q (g env S)) : Q (sSeq sNil g env S) := k
theorem q_ift (h : c env S = .ok true S') (k : Q (sSeq a g env S')) : Q (sSeq (sIf c a b) g env S) := by
  rw [sSeq_eq, sIf_eq, h, ifR_t]
  exact k
theorem q_iff (h : c env S = .ok false S') (k : Q (sSeq b g env S')) : Q (sSeq (sIf c a b) g env S) := by
  rw [sSeq_eq, sIf_eq, h, ifR_f]
  exact k
theorem q_put (hv : fv env S = .ok v S1) (ho : fo env S1 = .ok o S2) (hi : fi env S2 = .ok i S3) (hp : dPut o i v S3 = some S4) (k : Q (g env S4)) : Q (sSeq (sPut fv fo fi) g env S) := by
  rw [sSeq_eq, sPut_eq, hv, put1_ok, ho, put2_ok, hi, put3_ok, hp, nxS_some, sq_nx]
  exact k
theorem q_asg {t : TgX} (h : f env S = .ok d S1) (ht : t d env S1 = some (env', S')) (k : Q (g env' S')) : Q (sSeq (sAsg f t) g env S) := by
  rw [sSeq_eq, sAsg_eq, h, asgR_ok, ht, nxO_some, sq_nx]
  exact k
theorem q_do (h : f env S = .ok d S') (k : Q (g env S')) : Q (sSeq (sDo f) g env S) := by
  rw [sSeq_eq, sDo_eq, h, doR_ok, sq_nx]
  exact k
theorem q_nx {f : SX} (h : f env S = .nx env' S') (k : Q (g env' S')) : Q (sSeq f g env S) := by
  rw [sSeq_eq, h, sq_nx]
  exact k
theorem q_for {it : IX} {t : TgX} {ds : List D} {gg : Gd} (h : it env S = .ok (ds, gg) S1) (hl : forGo gg ds t b ds env S1 = .nx env' S') (k : Q (g env' S')) : Q (sSeq (sFor it t b) g env S) := by
  rw [sSeq_eq, sFor_eq, h, forR_ok, hl, sq_nx]
  exact k
end
/-- the block goes on, and what holds then -/
def NxP (P : Slots → Sto → Prop) : SR → Prop
  | .nx env S => P env S
  | _ => False
theorem NxP.get {P : Slots → Sto → Prop} {r : SR} (h : NxP P r) : ∃ env S, r = .nx env S ∧ P env S := by
  cases r with
  | nx env S => exact ⟨env, S, rfl, h⟩
  | _ => exact h.elim
theorem at4 {x y z u : D} {v : Int} (h0 : 0 ≤ v) (h1 : v < 4) : atI [x, y, z, u] v = some x ∨ atI [x, y, z, u] v = some y ∨ atI [x, y, z, u] v = some z ∨ atI [x, y, z, u] v = some u := by
  have : v = 0 ∨ v = 1 ∨ v = 2 ∨ v = 3 := by omega
  rcases this with rfl | rfl | rfl | rfl
  · exact .inl rfl
  · exact .inr (.inl rfl)
  · exact .inr (.inr (.inl rfl))
  · exact .inr (.inr (.inr rfl))
theorem at2 {x y : D} {v : Int} (h0 : 0 ≤ v) (h1 : v < 2) : atI [x, y] v = some x ∨ atI [x, y] v = some y := by
  have : v = 0 ∨ v = 1 := by omega
  rcases this with rfl | rfl
  · exact .inl rfl
  · exact .inr rfl
/-- a draw below a written number -/
theorem pickC {F : List D → Sto → R D} {env : Slots} {s i : Nat} {L : Int} {S : Sto} (hF : F = defSem 2 5 bPick) (he : env[i]? = some (some (.cel s))) (h : Stt S s) (h0 : 0 < L) (h1 : L < 2 ^ 300) :
    ∃ (v : Nat) (S' : Sto), eCall F [] (aCons (eVar i) (aCons (eC (.a (.int (L)))) aNil)) env S = .ok (.a (.int (v : Nat))) S' ∧ (v : Int) < L ∧ Stt S' s ∧ S'.length = S.length ∧ Ext s S S' := by
  obtain ⟨v, S', e, a, b, q⟩ := pickE (f := eC (.a (.int L))) (S := S) (S1 := S) hF he rfl h h0 h1
  obtain ⟨m, rfl⟩ := Int.eq_ofNat_of_zero_le a
  exact ⟨m, S', e, b, q⟩
end G
set_option maxRecDepth 100000
set_option exponentiation.threshold 600
/-! The plain layer H, part 7: what G12 .. G14 have added. -/
namespace G
open PySem PySem.Spec PyProof.Rows L2
@[simp] theorem bOf_ok (b : Bool) (S : Sto) : bOf (.ok (.a (.bl b)) S) = .ok b S := (rfl)
def chR3 (r : R D) (g' : Op2) (y : D) : R D := r.bind fun w S4 => ofO (g' y w S4)
@[simp] theorem chR3_ok (g' : Op2) (y w : D) (S : Sto) : chR3 (.ok w S) g' y = ofO (g' y w S) := (rfl)
def chR2 (r : R D) (g' : Op2) (y : D) (fc : EX) (env : Slots) : R D := r.bind fun z S3 => match z with
  | .a (.bl true) => chR3 (fc env S3) g' y
  | .a (.bl false) => .ok (.a (.bl false)) S3
  | _ => .bad
@[simp] theorem chR2_t (g' : Op2) (y : D) (fc : EX) (env : Slots) (S : Sto) : chR2 (.ok (.a (.bl true)) S) g' y fc env = chR3 (fc env S) g' y := (rfl)
@[simp] theorem chR2_f (g' : Op2) (y : D) (fc : EX) (env : Slots) (S : Sto) : chR2 (.ok (.a (.bl false)) S) g' y fc env = .ok (.a (.bl false)) S := (rfl)
def chR1 (r : R D) (g g' : Op2) (x : D) (fc : EX) (env : Slots) : R D := r.bind fun y S2 => chR2 (ofO (g x y S2)) g' y fc env
@[simp] theorem chR1_ok (g g' : Op2) (x y : D) (fc : EX) (env : Slots) (S : Sto) : chR1 (.ok y S) g g' x fc env = chR2 (ofO (g x y S)) g' y fc env := (rfl)
def chR0 (r : R D) (g g' : Op2) (fb fc : EX) (env : Slots) : R D := r.bind fun x S1 => chR1 (fb env S1) g g' x fc env
@[simp] theorem chR0_ok (g g' : Op2) (x : D) (fb fc : EX) (env : Slots) (S : Sto) : chR0 (.ok x S) g g' fb fc env = chR1 (fb env S) g g' x fc env := (rfl)
@[simp] theorem eChain_eq (g g' : Op2) (fa fb fc : EX) (env : Slots) (S : Sto) : eChain g g' fa fb fc env S = chR0 (fa env S) g g' fb fc env := (rfl)
@[simp] theorem tCh_eq (g g' : Op2) (fa fb fc : EX) (env : Slots) (S : Sto) : tCh g g' fa fb fc env S = bOf (chR0 (fa env S) g g' fb fc env) := (rfl)
/-! dicts -/
@[simp] theorem eDict0_eq (env : Slots) (S : Sto) : eDict0 env S = .ok (.cel S.length) (S ++ [.dic []]) := (rfl)
@[simp] theorem pNil_eq (env : Slots) (S : Sto) : pNil env S = .ok [] S := (rfl)
def pR3 (r : R (List (Key × D))) (k v : D) : R (List (Key × D)) := r.bind fun ps S3 => match keyOf k with
  | some y => .ok ((y, v) :: ps) S3
  | none => .bad
theorem pR3_ok {ps : List (Key × D)} {k v : D} {y : Key} {S : Sto} (h : keyOf k = some y) : pR3 (.ok ps S) k v = .ok ((y, v) :: ps) S := by
  unfold pR3
  rw [R.bind_ok, h]
@[simp] theorem pR3_str (ps : List (Key × D)) (x : Str) (v : D) (S : Sto) : pR3 (.ok ps S) (.a (.str x)) v = .ok ((.inr x, v) :: ps) S := (rfl)
@[simp] theorem pR3_int (ps : List (Key × D)) (x : Int) (v : D) (S : Sto) : pR3 (.ok ps S) (.a (.int x)) v = .ok ((.inl x, v) :: ps) S := (rfl)
def pR2 (r : R D) (k : D) (f : PX) (env : Slots) : R (List (Key × D)) := r.bind fun v S2 => pR3 (f env S2) k v
@[simp] theorem pR2_ok (k v : D) (f : PX) (env : Slots) (S : Sto) : pR2 (.ok v S) k f env = pR3 (f env S) k v := (rfl)
def pR1 (r : R D) (fv : EX) (f : PX) (env : Slots) : R (List (Key × D)) := r.bind fun k S1 => pR2 (fv env S1) k f env
@[simp] theorem pR1_ok (k : D) (fv : EX) (f : PX) (env : Slots) (S : Sto) : pR1 (.ok k S) fv f env = pR2 (fv env S) k f env := (rfl)
@[simp] theorem pCons_eq (fk fv : EX) (f : PX) (env : Slots) (S : Sto) : pCons fk fv f env S = pR1 (fk env S) fv f env := (rfl)
def dispR (r : R (List (Key × D))) : R D := r.bind fun ps S1 => if ps.length ≤ 15 then .ok (.cel S1.length) (S1 ++ [.dic (foldK [] ps)]) else .bad
theorem dispR_ok {ps : List (Key × D)} {S : Sto} (h : ps.length ≤ 15) : dispR (.ok ps S) = .ok (.cel S.length) (S ++ [.dic (foldK [] ps)]) := if_pos h
@[simp] theorem eDisp_eq (f : PX) (env : Slots) (S : Sto) : eDisp f env S = dispR (f env S) := (rfl)
theorem getR_at {n : Nat} {S : Sto} {kvs : List (Key × D)} {k x : D} {y : Key} (h : S[n]? = some (.dic kvs)) (hk : keyOf k = some y) : getR (.cel n) k x S = .ok ((getK kvs y).getD x) S := by
  unfold getR
  dsimp only
  rw [h]
  dsimp only
  rw [hk]
theorem isDic_at {n : Nat} {S : Sto} {kvs : List (Key × D)} (h : S[n]? = some (.dic kvs)) : isDic S n = true := by
  unfold isDic
  rw [h]
/-- d.get(k), d.get(k, x), the arguments writing nothing -/
theorem get1_at {fo fk : EX} {env : Slots} {S : Sto} {n : Nat} {kvs : List (Key × D)} {k : D} {y : Key} (ho : fo env S = .ok (.cel n) S) (h : S[n]? = some (.dic kvs)) (hk : fk env S = .ok k S) (hy : keyOf k = some y) : eGet1 fo fk env S = .ok ((getK kvs y).getD (.a .non)) S := by
  unfold eGet1
  rw [ho, R.bind_ok]
  dsimp only
  rw [isDic_at h, cond_true, hk, R.bind_ok, getR_at h hy]
theorem get2_at {fo fk fx : EX} {env : Slots} {S : Sto} {n : Nat} {kvs : List (Key × D)} {k x : D} {y : Key} (ho : fo env S = .ok (.cel n) S) (h : S[n]? = some (.dic kvs)) (hk : fk env S = .ok k S) (hx : fx env S = .ok x S) (hy : keyOf k = some y) : eGet2 fo fk fx env S = .ok ((getK kvs y).getD x) S := by
  unfold eGet2
  rw [ho, R.bind_ok]
  dsimp only
  rw [isDic_at h, cond_true, hk, R.bind_ok, hx, R.bind_ok, getR_at h hy]
theorem dIn_dic {n : Nat} {S : Sto} {kvs : List (Key × D)} {k : D} {y : Key} (h : S[n]? = some (.dic kvs)) (hk : keyOf k = some y) : dIn k (.cel n) S = some (.a (.bl (getK kvs y).isSome), S) := by
  unfold dIn dInB
  dsimp only
  rw [h]
  dsimp only
  rw [hk]
  rfl
theorem dNotIn_dic {n : Nat} {S : Sto} {kvs : List (Key × D)} {k : D} {y : Key} (h : S[n]? = some (.dic kvs)) (hk : keyOf k = some y) : dNotIn k (.cel n) S = some (.a (.bl (!(getK kvs y).isSome)), S) := by
  unfold dNotIn dInB
  dsimp only
  rw [h]
  dsimp only
  rw [hk]
  rfl
theorem dCopy_at {n : Nat} {S : Sto} {kvs : List (Key × D)} (h : S[n]? = some (.dic kvs)) : dCopy (.cel n) [] S = some (.cel S.length, S ++ [.dic kvs]) := by
  unfold dCopy
  dsimp only
  rw [h]
/-! methods of built-in types -/
def meR2 (r : R (List D)) (g : OpM) (d : D) : R D := r.bind fun ds S2 => ofO (g d ds S2)
@[simp] theorem meR2_ok (g : OpM) (d : D) (ds : List D) (S : Sto) : meR2 (.ok ds S) g d = ofO (g d ds S) := (rfl)
def meR1 (b : Bool) (g : OpM) (d : D) (fa : AX) (env : Slots) (S : Sto) : R D := bif b then meR2 (fa env S) g d else .bad
@[simp] theorem meR1_t (g : OpM) (d : D) (fa : AX) (env : Slots) (S : Sto) : meR1 true g d fa env S = meR2 (fa env S) g d := (rfl)
def meR0 (r : R D) (T : String) (g : OpM) (fa : AX) (env : Slots) : R D := r.bind fun d S1 => meR1 (isTy T d S1) g d fa env S1
@[simp] theorem meR0_ok (T : String) (g : OpM) (d : D) (fa : AX) (env : Slots) (S : Sto) : meR0 (.ok d S) T g fa env = meR1 (isTy T d S) g d fa env S := (rfl)
@[simp] theorem eMeth_eq (T : String) (g : OpM) (fo : EX) (fa : AX) (env : Slots) (S : Sto) : eMeth T g fo fa env S = meR0 (fo env S) T g fa env := (rfl)
theorem isTy_lst {n : Nat} {S : Sto} {ds : List D} (h : S[n]? = some (.lst ds)) : isTy "list" (.cel n) S = true := by
  unfold isTy
  dsimp only
  rw [h]
  exact beq_self_eq_true _
theorem isTy_dic {n : Nat} {S : Sto} {kvs : List (Key × D)} (h : S[n]? = some (.dic kvs)) : isTy "dict" (.cel n) S = true := by
  unfold isTy
  dsimp only
  rw [h]
  exact beq_self_eq_true _
end G
set_option maxRecDepth 100000
set_option exponentiation.threshold 600
/-! The plain layer H, part 8: what holds of a run's end; simp moves to what is stuck. -/
namespace G
open PySem PySem.Spec PyProof.Rows L2

/-- of a run's end: Q of a result, X of an exception -/
def Wp {α : Type} (X : Exn → Sto → Prop) (Q : α → Sto → Prop) : R α → Prop
  | .ok x S => Q x S
  | .exc e S => X e S
  | .bad => False
/-- no exception -/
abbrev nX : Exn → Sto → Prop := fun _ _ => False
/-- of a block's end -/
def Ws (K : SR → Prop) : SR → Prop
  | .bad => False
  | r => K r
section
variable {α : Type} {X X' : Exn → Sto → Prop} {Q Q' : α → Sto → Prop} {K : SR → Prop}
@[simp] theorem Wp_ok (x : α) (S : Sto) : Wp X Q (.ok x S) ↔ Q x S := (Iff.rfl)
@[simp] theorem Wp_exc (e : Exn) (S : Sto) : Wp X Q (.exc e S : R α) ↔ X e S := (Iff.rfl)
@[simp] theorem Wp_bad : Wp X Q (.bad : R α) ↔ False := (Iff.rfl)
@[simp] theorem Ws_nx (env : Slots) (S : Sto) : Ws K (.nx env S) ↔ K (.nx env S) := (Iff.rfl)
@[simp] theorem Ws_rt (d : D) (S : Sto) : Ws K (.rt d S) ↔ K (.rt d S) := (Iff.rfl)
@[simp] theorem Ws_bk (env : Slots) (S : Sto) : Ws K (.bk env S) ↔ K (.bk env S) := (Iff.rfl)
@[simp] theorem Ws_ct (env : Slots) (S : Sto) : Ws K (.ct env S) ↔ K (.ct env S) := (Iff.rfl)
@[simp] theorem Ws_ex (e : Exn) (env : Slots) (S : Sto) : Ws K (.ex e env S) ↔ K (.ex e env S) := (Iff.rfl)
@[simp] theorem Ws_bad : Ws K .bad ↔ False := (Iff.rfl)
theorem Wp.use {r : R α} (h : Wp X' Q' r) (hq : ∀ x S, Q' x S → Q x S) (hx : ∀ e S, X' e S → X e S := by exact fun _ _ h => h.elim) : Wp X Q r := by
  cases r with
  | ok x S => exact hq x S h
  | exc e S => exact hx e S h
  | bad => exact h
theorem Wp.get {r : R α} (h : Wp nX Q r) : ∃ x S, r = .ok x S ∧ Q x S := by
  cases r with
  | ok x S => exact ⟨x, S, rfl, h⟩
  | exc e S => exact h.elim
  | bad => exact h.elim
theorem Wp.eq {r : R α} {x : α} {S : Sto} (h : r = .ok x S) (hq : Q x S) : Wp X Q r := by rw [h]; exact hq
theorem Wp_bind {β : Type} {r : R β} {k : β → Sto → R α} : Wp X Q (r.bind k) ↔ Wp X (fun x S => Wp X Q (k x S)) r := by cases r <;> exact Iff.rfl
theorem Ws_then {β : Type} {r : R β} {env : Slots} {k : β → Sto → SR} : Ws K (r.then env k) ↔ Wp (fun e S => K (.ex e env S)) (fun x S => Ws K (k x S)) r := by cases r <;> exact Iff.rfl
/-- what a block asks of its first part -/
def sqK (K : SR → Prop) (g : SX) : SR → Prop
  | .nx env S => Ws K (g env S)
  | .bad => False
  | r => K r
@[simp] theorem sqK_nx (g : SX) (env : Slots) (S : Sto) : sqK K g (.nx env S) ↔ Ws K (g env S) := (Iff.rfl)
@[simp] theorem sqK_rt (g : SX) (d : D) (S : Sto) : sqK K g (.rt d S) ↔ K (.rt d S) := (Iff.rfl)
@[simp] theorem sqK_bk (g : SX) (env : Slots) (S : Sto) : sqK K g (.bk env S) ↔ K (.bk env S) := (Iff.rfl)
@[simp] theorem sqK_ct (g : SX) (env : Slots) (S : Sto) : sqK K g (.ct env S) ↔ K (.ct env S) := (Iff.rfl)
@[simp] theorem sqK_ex (g : SX) (e : Exn) (env : Slots) (S : Sto) : sqK K g (.ex e env S) ↔ K (.ex e env S) := (Iff.rfl)
@[simp] theorem Ws_sq (r : SR) (g : SX) : Ws K (r.sq g) ↔ Ws (sqK K g) r := by cases r <;> exact Iff.rfl
end
section
variable {X : Exn → Sto → Prop} {Q : D → Sto → Prop} {QB : Bool → Sto → Prop} {QL : List D → Sto → Prop} {K : SR → Prop}
def onB (Q : Bool → Sto → Prop) : D → Sto → Prop
  | .a (.bl b), S => Q b S
  | _, _ => False
@[simp] theorem onB_b (b : Bool) (S : Sto) : onB QB (.a (.bl b)) S ↔ QB b S := (Iff.rfl)
def onI (Q : Int → Sto → Prop) : D → Sto → Prop
  | .a (.int b), S => Q b S
  | _, _ => False
@[simp] theorem onI_i (Q : Int → Sto → Prop) (b : Int) (S : Sto) : onI Q (.a (.int b)) S ↔ Q b S := (Iff.rfl)
def onC (Q : Nat → Sto → Prop) : D → Sto → Prop
  | .cel n, S => Q n S
  | _, _ => False
@[simp] theorem onC_c (Q : Nat → Sto → Prop) (n : Nat) (S : Sto) : onC Q (.cel n) S ↔ Q n S := (Iff.rfl)
@[simp] theorem Wp_bin2 (r : R D) (g : Op2) (d : D) : Wp X Q (bin2 r g d) ↔ Wp X (fun e S => Wp X Q (ofO (g d e S))) r := Wp_bind
@[simp] theorem Wp_bin1 (r : R D) (g : Op2) (fb : EX) (env : Slots) : Wp X Q (bin1 r g fb env) ↔ Wp X (fun d S => Wp X Q (bin2 (fb env S) g d)) r := Wp_bind
@[simp] theorem Wp_un1 (r : R D) (g : D → Sto → Option (D × Sto)) : Wp X Q (un1 r g) ↔ Wp X (fun d S => Wp X Q (ofO (g d S))) r := Wp_bind
@[simp] theorem Wp_toB (r : R D) : Wp X QB (toB r) ↔ Wp X (onB QB) r := by
  cases r with
  | ok d S =>
    cases d with
    | a v => cases v <;> exact Iff.rfl
    | _ => exact Iff.rfl
  | _ => exact Iff.rfl
@[simp] theorem Wp_bOf (r : R D) : Wp X QB (bOf r) ↔ Wp X (onB QB) r := Wp_toB r
@[simp] theorem Wp_trR (r : R D) : Wp X QB (trR r) ↔ Wp X (fun d S => Wp X QB (ofB (dTruth d S) S)) r := Wp_bind
@[simp] theorem Wp_andR (r : R Bool) (g : BX) (env : Slots) : Wp X QB (andR r g env) ↔ Wp X (fun b S => (b = true → Wp X QB (g env S)) ∧ (b = false → QB false S)) r := by
  cases r with
  | ok b S => cases b <;> simp [andR, Wp]
  | _ => exact Iff.rfl
@[simp] theorem Wp_orR (r : R Bool) (g : BX) (env : Slots) : Wp X QB (orR r g env) ↔ Wp X (fun b S => (b = true → QB true S) ∧ (b = false → Wp X QB (g env S))) r := by
  cases r with
  | ok b S => cases b <;> simp [orR, Wp]
  | _ => exact Iff.rfl
@[simp] theorem Wp_notR (r : R Bool) : Wp X QB (notR r) ↔ Wp X (fun b S => QB (!b) S) r := Wp_bind
@[simp] theorem Wp_eAndR (r : R D) (g : EX) (env : Slots) : Wp X Q (eAndR r g env) ↔ Wp X (onB fun b S => (b = true → Wp X Q (g env S)) ∧ (b = false → Q (.a (.bl false)) S)) r := by
  cases r with
  | ok d S =>
    show Wp X Q (match d with | .a (.bl true) => g env S | .a (.bl false) => .ok (.a (.bl false)) S | _ => .bad) ↔ onB _ d S
    unfold onB
    split
    · simp
    · simp
    · rename_i h1 h2
      split
      · rename_i b
        cases b
        · exact absurd rfl h2
        · exact absurd rfl h1
      · exact Iff.rfl
  | _ => exact Iff.rfl
@[simp] theorem Wp_eOrR (r : R D) (g : EX) (env : Slots) : Wp X Q (eOrR r g env) ↔ Wp X (onB fun b S => (b = false → Wp X Q (g env S)) ∧ (b = true → Q (.a (.bl true)) S)) r := by
  cases r with
  | ok d S =>
    show Wp X Q (match d with | .a (.bl false) => g env S | .a (.bl true) => .ok (.a (.bl true)) S | _ => .bad) ↔ onB _ d S
    unfold onB
    split
    · simp
    · simp
    · rename_i h1 h2
      split
      · rename_i b
        cases b
        · exact absurd rfl h1
        · exact absurd rfl h2
      · exact Iff.rfl
  | _ => exact Iff.rfl
@[simp] theorem Wp_eNotR (r : R D) : Wp X Q (eNotR r) ↔ Wp X (onB fun b S => Q (.a (.bl (!b))) S) r := by
  cases r with
  | ok d S =>
    cases d with
    | a v => cases v <;> exact Iff.rfl
    | _ => exact Iff.rfl
  | _ => exact Iff.rfl
@[simp] theorem Wp_ifE (r : R Bool) (f g : EX) (env : Slots) : Wp X Q (ifE r f g env) ↔ Wp X (fun b S => (b = true → Wp X Q (f env S)) ∧ (b = false → Wp X Q (g env S))) r := by
  cases r with
  | ok b S => cases b <;> simp [ifE, Wp]
  | _ => exact Iff.rfl
@[simp] theorem Wp_cons2 (r : R (List D)) (d : D) : Wp X QL (cons2 r d) ↔ Wp X (fun ds S => QL (d :: ds) S) r := Wp_bind
@[simp] theorem Wp_cons1 (r : R D) (g : AX) (env : Slots) : Wp X QL (cons1 r g env) ↔ Wp X (fun d S => Wp X QL (cons2 (g env S) d)) r := Wp_bind
@[simp] theorem Wp_tupR (r : R (List D)) : Wp X Q (tupR r) ↔ Wp X (fun ds S => Q (.tup ds) S) r := Wp_bind
@[simp] theorem Wp_ofLR (r : R (List D)) : Wp X Q (ofLR r) ↔ Wp X (fun ds S => Q (.cel S.length) (S ++ [.lst ds])) r := Wp_bind
@[simp] theorem Wp_ixL2 (r : R D) (ds : List D) : Wp X Q (ixL2 r ds) ↔ Wp X (onI fun k S => Wp X Q (optR (atI ds k) S)) r := by
  cases r with
  | ok d S =>
    cases d with
    | a v => cases v <;> exact Iff.rfl
    | _ => exact Iff.rfl
  | _ => exact Iff.rfl
@[simp] theorem Wp_ixL1 (r : R (List D)) (fb : EX) (env : Slots) : Wp X Q (ixL1 r fb env) ↔ Wp X (fun ds S => Wp X Q (ixL2 (fb env S) ds)) r := Wp_bind
@[simp] theorem Wp_someR (r : R D) (Q : Option Int → Sto → Prop) : Wp X Q (someR r) ↔ Wp X (onI fun k S => Q (some k) S) r := by
  cases r with
  | ok d S =>
    cases d with
    | a v => cases v <;> exact Iff.rfl
    | _ => exact Iff.rfl
  | _ => exact Iff.rfl
@[simp] theorem Wp_cut3 (r : R (Option Int)) (d : D) (lo : Option Int) : Wp X Q (cut3 r d lo) ↔ Wp X (fun hi S => Wp X Q (ofO (dCut d lo hi S))) r := Wp_bind
@[simp] theorem Wp_cut2 (r : R (Option Int)) (d : D) (fh : OX) (env : Slots) : Wp X Q (cut2 r d fh env) ↔ Wp X (fun lo S => Wp X Q (cut3 (fh env S) d lo)) r := Wp_bind
@[simp] theorem Wp_cut1 (r : R D) (fl fh : OX) (env : Slots) : Wp X Q (cut1 r fl fh env) ↔ Wp X (fun d S => Wp X Q (cut2 (fl env S) d fh env)) r := Wp_bind
@[simp] theorem Wp_cbR (r : R (List D)) (g : OpC) : Wp X Q (cbR r g) ↔ Wp X (fun ds S => Wp X Q (ofO (g ds S))) r := Wp_bind
@[simp] theorem Wp_callR (r : R (List D)) (F : List D → Sto → R D) (dds : List D) : Wp X Q (callR r F dds) ↔ Wp X (fun ds S => Wp X Q (F (ds ++ dds) S)) r := Wp_bind
@[simp] theorem Wp_meth3 (r : R (List D)) (F : List D → Sto → R D) (dds : List D) (d : D) : Wp X Q (meth3 r F dds d) ↔ Wp X (fun ds S => Wp X Q (F (d :: (ds ++ dds)) S)) r := Wp_bind
@[simp] theorem Wp_meR2 (r : R (List D)) (g : OpM) (d : D) : Wp X Q (meR2 r g d) ↔ Wp X (fun ds S => Wp X Q (ofO (g d ds S))) r := Wp_bind
@[simp] theorem Wp_meR0 (r : R D) (T : String) (g : OpM) (fa : AX) (env : Slots) : Wp X Q (meR0 r T g fa env) ↔ Wp X (fun d S => Wp X Q (meR1 (isTy T d S) g d fa env S)) r := Wp_bind
@[simp] theorem Wp_make2 (r : R D) (n : Nat) : Wp X Q (make2 r n) ↔ Wp X (fun v S => v = .a .non ∧ Q (.cel n) S) r := by
  cases r with
  | ok d S =>
    cases d with
    | a v => cases v <;> simp [make2, Wp]
    | _ => simp [make2, Wp]
  | _ => exact Iff.rfl
@[simp] theorem Wp_make1 (r : R (List D)) (c : Str) (F : List D → Sto → R D) (dds : List D) : Wp X Q (make1 r c F dds) ↔ Wp X (fun ds S => Wp X Q (make2 (F (.cel S.length :: (ds ++ dds)) (S ++ [.ins c []])) S.length)) r := Wp_bind
@[simp] theorem Wp_chR3 (r : R D) (g' : Op2) (y : D) : Wp X Q (chR3 r g' y) ↔ Wp X (fun w S => Wp X Q (ofO (g' y w S))) r := Wp_bind
@[simp] theorem Wp_chR2 (r : R D) (g' : Op2) (y : D) (fc : EX) (env : Slots) : Wp X Q (chR2 r g' y fc env) ↔ Wp X (onB fun b S => (b = true → Wp X Q (chR3 (fc env S) g' y)) ∧ (b = false → Q (.a (.bl false)) S)) r := by
  cases r with
  | ok d S =>
    show Wp X Q (match d with | .a (.bl true) => _ | .a (.bl false) => .ok (.a (.bl false)) S | _ => .bad) ↔ onB _ d S
    unfold onB
    split
    · simp
    · simp
    · rename_i h1 h2
      split
      · rename_i b
        cases b
        · exact absurd rfl h2
        · exact absurd rfl h1
      · exact Iff.rfl
  | _ => exact Iff.rfl
@[simp] theorem Wp_chR1 (r : R D) (g g' : Op2) (x : D) (fc : EX) (env : Slots) : Wp X Q (chR1 r g g' x fc env) ↔ Wp X (fun y S => Wp X Q (chR2 (ofO (g x y S)) g' y fc env)) r := Wp_bind
@[simp] theorem Wp_chR0 (r : R D) (g g' : Op2) (fb fc : EX) (env : Slots) : Wp X Q (chR0 r g g' fb fc env) ↔ Wp X (fun x S => Wp X Q (chR1 (fb env S) g g' x fc env)) r := Wp_bind
/-! iterables -/
abbrev QW := List D × Gd → Sto → Prop
@[simp] theorem Wp_iR1R (r : R D) (Q : QW) : Wp X Q (iR1R r) ↔ Wp X (onI fun j S => (-(2 ^ 62) ≤ j ∧ j < 2 ^ 62) ∧ Q (rangeL 0 j.toNat, none) S) r := by
  cases r with
  | ok d S =>
    cases d with
    | a v =>
      cases v with
      | int j =>
        show Wp X Q (if _ then _ else _) ↔ _ ∧ _
        split
        · rename_i h
          exact ⟨fun q => ⟨h, q⟩, fun q => q.2⟩
        · rename_i h
          exact ⟨fun q => q.elim, fun q => absurd q.1 h⟩
      | _ => exact Iff.rfl
    | _ => exact Iff.rfl
  | _ => exact Iff.rfl
@[simp] theorem Wp_iR2R (r : R D) (g : EX) (env : Slots) (Q : QW) : Wp X Q (iR2R r g env) ↔ Wp X (fun d S => Wp X Q (iR2b (g env S) d)) r := Wp_bind
@[simp] theorem Wp_iR2b (r : R D) (i : Int) (Q : QW) : Wp X Q (iR2b r (.a (.int i))) ↔ Wp X (onI fun j S => (-(2 ^ 62) ≤ i ∧ i < 2 ^ 62 ∧ -(2 ^ 62) ≤ j ∧ j < 2 ^ 62) ∧ Q (rangeL i (j - i).toNat, none) S) r := by
  cases r with
  | ok d S =>
    cases d with
    | a v =>
      cases v with
      | int j =>
        show Wp X Q (if _ then _ else _) ↔ _ ∧ _
        split
        · rename_i h
          exact ⟨fun q => ⟨h, q⟩, fun q => q.2⟩
        · rename_i h
          exact ⟨fun q => q.elim, fun q => absurd q.1 h⟩
      | _ => exact Iff.rfl
    | _ => exact Iff.rfl
  | _ => exact Iff.rfl
@[simp] theorem Wp_seqR (r : R D) (Q : QW) : Wp X Q (seqR r) ↔ Wp X (fun d S => ∃ w, walkOf S d = some w ∧ Q w S) r := by
  cases r with
  | ok d S =>
    show Wp X Q (match walkOf S d with | some w => .ok w S | none => .bad) ↔ ∃ w, walkOf S d = some w ∧ Q w S
    cases h : walkOf S d with
    | none => simp
    | some w => simp
  | _ => exact Iff.rfl
@[simp] theorem Wp_tmpR (r : R (List D)) (Q : QW) : Wp X Q (tmpR r) ↔ Wp X (fun ds S => Q (ds, none) S) r := Wp_bind
@[simp] theorem Wp_lcR (r : R (List D × Gd)) (t : TgX) (ifs : BX) (elt : EX) (env : Slots) (go : Gd → List D → TgX → BX → EX → Slots → List D → Sto → R (List D)) :
    Wp X QL (lcR r t ifs elt env go) ↔ Wp X (fun w S => w.1.length ≤ sizeLine ∧ Wp X QL (go w.2 w.1 t ifs elt env w.1 S)) r := by
  cases r with
  | ok w S =>
    show Wp X QL (if _ then _ else _) ↔ _ ∧ _
    split
    · rename_i h
      exact ⟨fun q => ⟨h, q⟩, fun q => q.2⟩
    · rename_i h
      exact ⟨fun q => q.elim, fun q => absurd q.1 h⟩
  | _ => exact Iff.rfl
@[simp] theorem Wp_noX {α : Type} (r : R α) (Q : α → Sto → Prop) : Wp X Q (noX r) ↔ Wp nX Q r := by cases r <;> exact Iff.rfl
/-! statements -/
@[simp] theorem Ws_ifR (r : R Bool) (env : Slots) (f g : SX) : Ws K (ifR r env f g) ↔ Wp (fun e S => K (.ex e env S)) (fun b S => (b = true → Ws K (f env S)) ∧ (b = false → Ws K (g env S))) r := by
  cases r with
  | ok b S => cases b <;> simp [ifR]
  | _ => exact Iff.rfl
@[simp] theorem Ws_setR (r : R D) (env : Slots) (i : Nat) : Ws K (setR r env i) ↔ Wp (fun e S => K (.ex e env S)) (fun d S => K (.nx (env.set i (some d)) S)) r := Ws_then
@[simp] theorem Ws_retR (r : R D) (env : Slots) : Ws K (retR r env) ↔ Wp (fun e S => K (.ex e env S)) (fun d S => K (.rt d S)) r := Ws_then
@[simp] theorem Ws_doR (r : R D) (env : Slots) : Ws K (doR r env) ↔ Wp (fun e S => K (.ex e env S)) (fun _ S => K (.nx env S)) r := Ws_then
@[simp] theorem Ws_asgR (r : R D) (t : TgX) (env : Slots) : Ws K (asgR r t env) ↔ Wp (fun e S => K (.ex e env S)) (fun d S => Ws K (nxO (t d env S))) r := by
  refine Ws_then.trans ?_
  cases r with
  | ok d S =>
    show Ws K (match t d env S with | some (env', S') => .nx env' S' | none => .bad) ↔ Ws K (nxO (t d env S))
    cases t d env S <;> exact Iff.rfl
  | _ => exact Iff.rfl
@[simp] theorem Ws_put1 (r : R D) (env : Slots) (fo fi : EX) : Ws K (put1 r env fo fi) ↔ Wp (fun e S => K (.ex e env S)) (fun v S => Ws K (put2 (fo env S) env v fi)) r := Ws_then
@[simp] theorem Ws_put2 (r : R D) (env : Slots) (v : D) (fi : EX) : Ws K (put2 r env v fi) ↔ Wp (fun e S => K (.ex e env S)) (fun o S => Ws K (put3 (fi env S) env v o)) r := Ws_then
@[simp] theorem Ws_put3 (r : R D) (env : Slots) (v o : D) : Ws K (put3 r env v o) ↔ Wp (fun e S => K (.ex e env S)) (fun i S => Ws K (nxS (dPut o i v S) env)) r := by
  refine Ws_then.trans ?_
  cases r with
  | ok d S =>
    show Ws K (match dPut o d v S with | some S4 => .nx env S4 | none => .bad) ↔ Ws K (nxS (dPut o d v S) env)
    cases dPut o d v S <;> exact Iff.rfl
  | _ => exact Iff.rfl
@[simp] theorem Ws_sfld1 (r : R D) (env : Slots) (cs : List Str) (f : Str) (fo : EX) : Ws K (sfld1 r env cs f fo) ↔ Wp (fun e S => K (.ex e env S)) (fun v S => Ws K (sfld2 (fo env S) env cs f v)) r := Ws_then
@[simp] theorem Ws_aug1 (r : R D) (env : Slots) (i : Nat) (g : Op2) (x : D) : Ws K (aug1 r env i g x) ↔ Wp (fun e S => K (.ex e env S)) (fun y S => Ws K (aug2 (g x y S) env i)) r := Ws_then
@[simp] theorem Ws_forR (r : R (List D × Gd)) (t : TgX) (body : SX) (env : Slots) (go : Gd → List D → TgX → SX → List D → Slots → Sto → SR) : Ws K (forR r t body env go) ↔ Wp (fun e S => K (.ex e env S)) (fun w S => Ws K (go w.2 w.1 t body w.1 env S)) r := Ws_then
/-- an item of a literal list, drawn -/
theorem Wp_at {xs : List D} {v : Nat} {S : Sto} (h : v < xs.length) (k : ∀ x ∈ xs, Q x S) : Wp X Q (optR (atI xs (v : Int)) S) := by
  rw [atI_nat h]
  exact k _ (List.getElem_mem h)
theorem atI_mem {xs : List D} {v : Nat} (h : v < xs.length) : ∃ x ∈ xs, atI xs (v : Int) = some x := ⟨_, List.getElem_mem h, atI_nat h⟩
end
/-! ### loops -/
/-- what a loop asks of its body's end -/
def lpK (I : Slots → Sto → Prop) (K : SR → Prop) : SR → Prop
  | .nx e s => I e s
  | .ct e s => I e s
  | .bk e s => K (.nx e s)
  | r => K r
section
variable {I : Slots → Sto → Prop} {K : SR → Prop}
@[simp] theorem lpK_nx (e : Slots) (s : Sto) : lpK I K (.nx e s) ↔ I e s := (Iff.rfl)
@[simp] theorem lpK_ct (e : Slots) (s : Sto) : lpK I K (.ct e s) ↔ I e s := (Iff.rfl)
@[simp] theorem lpK_bk (e : Slots) (s : Sto) : lpK I K (.bk e s) ↔ K (.nx e s) := (Iff.rfl)
@[simp] theorem lpK_rt (d : D) (s : Sto) : lpK I K (.rt d s) ↔ K (.rt d s) := (Iff.rfl)
@[simp] theorem lpK_ex (x : Exn) (e : Slots) (s : Sto) : lpK I K (.ex x e s) ↔ K (.ex x e s) := (Iff.rfl)
theorem forGo_wpG {all : List D} {i : Nat} {body : SX} (Inv : Nat → Slots → Sto → Prop) : ∀ (r : List D) (n : Nat) (env : Slots) (S : Sto), Inv n env S →
    (∀ j d env S, r[j]? = some d → Inv (n + j) env S → Ws (lpK (Inv (n + j + 1)) K) (body (env.set i (some d)) S)) →
    (∀ env S, Inv (n + r.length) env S → K (.nx env S)) → Ws K (forGo none all (gN i) body r env S)
  | [], n, env, S, h0, _, he => by
    rw [forGo_nil]
    exact he env S h0
  | d :: r, n, env, S, h0, hs, he => by
    rw [forGo_cons]
    have h1 := hs 0 d env S (by simp) h0
    have rest : ∀ env' S', Inv (n + 0 + 1) env' S' → Ws K (forGo none all (gN i) body r env' S') := fun env' S' h => by
      refine forGo_wpG Inv r (n + 1) env' S' h (fun j d' env S hd hi => ?_) fun env S hi => he env S ?_
      · have := hs (j + 1) d' env S (by simpa using hd) (by rw [← Nat.add_assoc]; rwa [show n + j + 1 = n + 1 + j by omega])
        rwa [show n + (j + 1) + 1 = n + 1 + j + 1 by omega] at this
      · rw [List.length_cons]
        rwa [show n + (r.length + 1) = n + 1 + r.length by omega]
    cases hb : body (env.set i (some d)) S with
    | nx e s => rw [hb] at h1; exact rest _ _ h1
    | ct e s => rw [hb] at h1; exact rest _ _ h1
    | bk e s => rw [hb] at h1; exact h1
    | rt v s => rw [hb] at h1; exact h1
    | ex x e s => rw [hb] at h1; exact h1
    | bad => rw [hb] at h1; exact h1.elim
/-- a for by its invariant -/
theorem forGo_wp {all : List D} {i : Nat} {body : SX} {r : List D} {env : Slots} {S : Sto} (Inv : Nat → Slots → Sto → Prop) (h0 : Inv 0 env S)
    (hs : ∀ j d env S, r[j]? = some d → Inv j env S → Ws (lpK (Inv (j + 1)) K) (body (env.set i (some d)) S))
    (he : ∀ env S, Inv r.length env S → K (.nx env S)) : Ws K (forGo none all (gN i) body r env S) :=
  forGo_wpG Inv r 0 env S h0 (fun j d env S hd hi => by rw [Nat.zero_add] at hi ⊢; exact hs j d env S hd hi) fun env S h => he env S (by rwa [Nat.zero_add] at h)
theorem while_wp {c : BX} {body : SX} (Inv : Nat → Slots → Sto → Prop)
    (hs : ∀ n env S, Inv n env S → Wp (fun e S => K (.ex e env S)) (fun b S1 => (b = true → Ws (lpK (fun e s => ∃ m, m < n ∧ Inv m e s) K) (body env S1)) ∧ (b = false → K (.nx env S1))) (c env S)) :
    ∀ (f n : Nat) (env : Slots) (S : Sto), n < f → Inv n env S → Ws K (whileGo c body f env S)
  | 0, n, env, S, h, _ => absurd h (Nat.not_lt_zero n)
  | f + 1, n, env, S, h, hi => by
    rw [whileGo_succ]
    have h1 := hs n env S hi
    cases hc : c env S with
    | bad => rw [hc] at h1; exact h1.elim
    | exc e s => rw [hc] at h1; exact h1
    | ok b S1 =>
      rw [hc] at h1
      cases b with
      | false => rw [whR_f]; exact h1.2 rfl
      | true =>
        rw [whR_t]
        have h2 := h1.1 rfl
        cases hb : body env S1 with
        | nx e s =>
          rw [hb] at h2
          obtain ⟨m, hm, hi'⟩ := h2
          exact while_wp Inv hs f m e s (by omega) hi'
        | ct e s =>
          rw [hb] at h2
          obtain ⟨m, hm, hi'⟩ := h2
          exact while_wp Inv hs f m e s (by omega) hi'
        | bk e s => rw [hb] at h2; exact h2
        | rt v s => rw [hb] at h2; exact h2
        | ex x e s => rw [hb] at h2; exact h2
        | bad => rw [hb] at h2; exact h2.elim
/-- a while by its invariant and a measure -/
theorem sWhile_wp {c : BX} {body : SX} {n : Nat} {env : Slots} {S : Sto} (Inv : Nat → Slots → Sto → Prop) (hn : n < 2 ^ 64) (h0 : Inv n env S)
    (hs : ∀ n env S, Inv n env S → Wp (fun e S => K (.ex e env S)) (fun b S1 => (b = true → Ws (lpK (fun e s => ∃ m, m < n ∧ Inv m e s) K) (body env S1)) ∧ (b = false → K (.nx env S1))) (c env S)) : Ws K (sWhile c body env S) := while_wp Inv hs _ n env S hn h0
end
section
variable {X : Exn → Sto → Prop} {QL : List D → Sto → Prop}
theorem lcGo_wpG {all : List D} {i : Nat} {elt : EX} {env : Slots} (Inv : List D → Sto → Prop) : ∀ (r xs : List D) (S : Sto) {QL : List D → Sto → Prop}, Inv xs S →
    (∀ j d ys S, r[j]? = some d → ys.length = xs.length + j → Inv ys S → Wp nX (fun x S' => Inv (ys ++ [x]) S') (elt (env.set i (some d)) S)) →
    (∀ ys S', Inv (xs ++ ys) S' → ys.length = r.length → QL ys S') → Wp X QL (lcGo none all (gN i) tTrue elt env r S)
  | [], xs, S, QL, h0, _, hq => by
    unfold lcGo
    rw [if_pos ((held_none _ _).mpr trivial)]
    exact hq [] S (by simpa using h0) rfl
  | d :: r, xs, S, QL, h0, hs, hq => by
    unfold lcGo
    rw [if_pos ((held_none _ _).mpr trivial)]
    simp only [gN_eq, tTrue_eq, noX_ok, R.bind_ok, cond_true]
    rw [Wp_bind, Wp_noX]
    refine Wp.use (hs 0 d xs S (by simp) (by simp) h0) fun x S1 h1 => ?_
    rw [Wp_bind]
    refine lcGo_wpG Inv r (xs ++ [x]) S1 h1 (fun j d' ys S hd hl hi => hs (j + 1) d' ys S (by simpa using hd) (by rw [hl, List.length_append, List.length_singleton]; omega) hi) fun ys S' hi hl => ?_
    exact hq (x :: ys) S' (by simpa using hi) (by rw [List.length_cons, List.length_cons, hl])
/-- [elt for i in r], what is made being kept -/
theorem lcGo_wp {all : List D} {i : Nat} {elt : EX} {env : Slots} {r : List D} {S : Sto} (Inv : List D → Sto → Prop) (h0 : Inv [] S)
    (hs : ∀ d ys S, r[ys.length]? = some d → Inv ys S → Wp nX (fun x S' => Inv (ys ++ [x]) S') (elt (env.set i (some d)) S))
    (hq : ∀ ys S', Inv ys S' → ys.length = r.length → QL ys S') : Wp X QL (lcGo none all (gN i) tTrue elt env r S) :=
  lcGo_wpG Inv r [] S h0 (fun j d ys S hd hl hi => hs d ys S (by rw [hl, List.length_nil, Nat.zero_add]; exact hd) hi) fun ys S' hi hl => hq ys S' (by simpa using hi) hl
/-- .. nothing written -/
theorem lcGo_wpm {all : List D} {i : Nat} {elt : EX} {env : Slots} {r : List D} {S : Sto} (f : D → D) (h : ∀ d ∈ r, elt (env.set i (some d)) S = .ok (f d) S) (hq : QL (r.map f) S) : Wp X QL (lcGo none all (gN i) tTrue elt env r S) := by
  rw [lcGo_map f r h]
  exact hq
end
end G
set_option maxRecDepth 100000
set_option exponentiation.threshold 600
/-! The plain layer H, part 9: stores that lean on themselves; draws; what a def leaves. -/
namespace G
open PySem PySem.Spec PyProof.Rows L2

/-- the state of the draws stands in the cell s, the numbers in c2 -/
def StcG (s c2 : Nat) (S : Sto) : Prop := ∃ seed k rest ns, S[s]? = some (.lst [.a (.int seed), .cel c2, .a (.int k), .a (.int rest)]) ∧ S[c2]? = some (.lst (ilist ns)) ∧ s ≠ c2 ∧ 0 ≤ rest ∧ 0 ≤ k
def PickG (s c2 : Nat) (S : Sto) (L : Int) : D → Sto → Prop := fun d S' => ∃ v, d = .a (.int v) ∧ 0 ≤ v ∧ v < L ∧ StcG s c2 S' ∧ S'.length = S.length ∧ Ext s S S'
theorem pick_tailG {S S1 : Sto} {s c2 : Nat} {L seed k1 cell rest : Int} {ns : List Int} {x y : Option D} (h0 : 0 < L) (h1s : S1[s]? = some (.lst [.a (.int seed), .cel c2, .a (.int k1), .a (.int rest)])) (h1c : S1[c2]? = some (.lst (ilist ns))) (hne : s ≠ c2) (h1l : S1.length = S.length) (h1e : Ext s S S1) (hk1 : 0 ≤ k1) (hr : 0 ≤ rest) :
    RtP (fun d S' => S'.length = S.length ∧ PickG s c2 S L d S') ((sSeq (sSet 4 (eBin dMod (eBin dMul (eBin dAdd (eBin dAdd (eCallB dInt (aCons (eBin dIx (eVar 0) (eC (.a (.int (0))))) aNil)) (eBin dMod (eVar 3) (eC (.a (.int (2147483647)))))) (eC (.a (.int (1))))) (eC (.a (.int (48271))))) (eC (.a (.int (2147483647))))))
          (sSeq (sPut (eBin dMod (eBin dAdd (eBin dMul (eVar 4) (eC (.a (.int (69621))))) (eC (.a (.int (12345))))) (eC (.a (.int (2147483647))))) (eVar 0) (eC (.a (.int (0)))))
          (sSeq (sRet (eBin dMod (eBin dDiv (eCallB dInt (aCons (eBin dIx (eVar 0) (eC (.a (.int (0))))) aNil)) (eC (.a (.int (7))))) (eVar 1))) sNil))) [some (.cel s), some (.a (.int L)), x, some (.a (.int cell)), y] S1) := by
  have hsl1 : s < S1.length := (List.getElem?_eq_some_iff.mp h1s).1
  have m1 : ∀ (i : Int) (S : Sto), dMod (.a (.int i)) (.a (.int 2147483647)) S = some (.a (.int (i % 2147483647)), S) := fun i S => dMod_pos (by decide)
  have m2 : ∀ (i : Int) (S : Sto), dMul (.a (.int i)) (.a (.int 48271)) S = some (.a (.int (i * 48271)), S) := fun i S => dMul_int S (.inr ⟨by decide, by decide⟩)
  have m3 : ∀ (i : Int) (S : Sto), dMul (.a (.int i)) (.a (.int 69621)) S = some (.a (.int (i * 69621)), S) := fun i S => dMul_int S (.inr ⟨by decide, by decide⟩)
  have m4 : ∀ (i : Int) (S : Sto), dDiv (.a (.int i)) (.a (.int 7)) S = some (.a (.int (i / 7)), S) := fun i S => dDiv_pos (by decide) (by decide)
  have e5 : ∀ v : D, dPut (.cel s) (.a (.int 0)) v S1 = some (S1.set s (.lst [v, .cel c2, .a (.int k1), .a (.int rest)])) := fun v => dPut_lst (k := 0) h1s (by simp)
  have q : ∀ c : Cell, (S1.set s c)[s]? = some c := fun c => List.getElem?_set_self hsl1
  have q2 : ∀ c : Cell, (S1.set s c)[c2]? = some (.lst (ilist ns)) := fun c => by rw [List.getElem?_set_ne hne]; exact h1c
  simp [dIx_lst h1s, at4_0, m1, m2, m3, e5, dIx_lst (q _), m4, dMod_pos h0, h1l]
  refine ⟨_, rfl, Int.emod_nonneg _ (by omega), Int.emod_lt_of_pos _ h0, ⟨_, k1, rest, ns, q _, q2 _, hne, hr, hk1⟩, by rw [List.length_set, h1l], h1e.trans Ext.set⟩
theorem pick_specG {S : Sto} {s c2 : Nat} {L : Int} (h : StcG s c2 S) (h0 : 0 < L) (h1 : L < 2 ^ 300) : OkP (PickG s c2 S L) (defSem 2 5 bPick [.cel s, .a (.int L)] S) := by
  obtain ⟨seed, k, rest, ns, hs, hc, hne, hr, hk⟩ := h
  have hsl : s < S.length := (List.getElem?_eq_some_iff.mp hs).1
  have p : ∀ c : Cell, (S.set s c)[s]? = some c := fun c => List.getElem?_set_self hsl
  have p2 : ∀ c : Cell, (S.set s c)[c2]? = some (.lst (ilist ns)) := fun c => by rw [List.getElem?_set_ne hne]; exact hc
  refine def_len (n := 2) (ds := [_, _]) rfl ?_
  by_cases hge : L ≤ rest
  · have e4 : dPut (.cel s) (.a (.int 3)) (.a (.int (rest / L))) S = some (S.set s (.lst [.a (.int seed), .cel c2, .a (.int k), .a (.int (rest / L))])) := dPut_lst (k := 3) hs (by simp)
    simp [bPick, dIx_lst hs, at4_3, hge, dDiv_pos h0 h1, e4, dMod_pos h0]
    exact ⟨_, rfl, Int.emod_nonneg _ (by omega), Int.emod_lt_of_pos _ h0, ⟨seed, k, rest / L, ns, p _, p2 _, hne, Int.ediv_nonneg hr (by omega), hk⟩, List.length_set .., Ext.set⟩
  · by_cases hkl : k < (ns.length : Int)
    · obtain ⟨j, rfl⟩ := Int.eq_ofNat_of_zero_le hk
      have hj : j < ns.length := by omega
      have e2 : dPut (.cel s) (.a (.int 2)) (.a (.int ((j : Int) + 1))) S = some (S.set s (.lst [.a (.int seed), .cel c2, .a (.int ((j : Int) + 1)), .a (.int rest)])) := dPut_lst (k := 2) hs (by simp)
      have hS1 := p (.lst [.a (.int seed), .cel c2, .a (.int ((j : Int) + 1)), .a (.int rest)])
      have hS2 := p2 (.lst [.a (.int seed), .cel c2, .a (.int ((j : Int) + 1)), .a (.int rest)])
      have hl1 : (S.set s (.lst [.a (.int seed), .cel c2, .a (.int ((j : Int) + 1)), .a (.int rest)])).length = S.length := List.length_set ..
      have fin : ∀ cell : Int, 0 ≤ cell → RtP (fun d S' => S'.length = S.length ∧ PickG s c2 S L d S') ((sSeq (sIf (tBin dGe (eVar 3) (eBin dPow (eC (.a (.int (10)))) (eC (.a (.int (18))))))
         (sSeq (sPut (eBin dDiv (eVar 3) (eVar 1)) (eVar 0) (eC (.a (.int (3)))))
         (sSeq (sRet (eBin dMod (eVar 3) (eVar 1))) sNil)) sNil) sNil
         [some (.cel s), some (.a (.int L)), none, some (.a (.int cell)), none] (S.set s (.lst [.a (.int seed), .cel c2, .a (.int ((j : Int) + 1)), .a (.int rest)]))).sq
         (sSeq (sSet 4 (eBin dMod (eBin dMul (eBin dAdd (eBin dAdd (eCallB dInt (aCons (eBin dIx (eVar 0) (eC (.a (.int (0))))) aNil)) (eBin dMod (eVar 3) (eC (.a (.int (2147483647)))))) (eC (.a (.int (1))))) (eC (.a (.int (48271))))) (eC (.a (.int (2147483647))))))
          (sSeq (sPut (eBin dMod (eBin dAdd (eBin dMul (eVar 4) (eC (.a (.int (69621))))) (eC (.a (.int (12345))))) (eC (.a (.int (2147483647))))) (eVar 0) (eC (.a (.int (0)))))
          (sSeq (sRet (eBin dMod (eBin dDiv (eCallB dInt (aCons (eBin dIx (eVar 0) (eC (.a (.int (0))))) aNil)) (eC (.a (.int (7))))) (eVar 1))) sNil)))) := by
        intro cell hcell
        have tl := pick_tailG (S := S) (L := L) (cell := cell) (x := none) (y := none) h0 hS1 hS2 hne hl1 Ext.set (by omega) hr
        generalize hB : (sSeq (sSet 4 (eBin dMod (eBin dMul (eBin dAdd (eBin dAdd (eCallB dInt (aCons (eBin dIx (eVar 0) (eC (.a (.int (0))))) aNil)) (eBin dMod (eVar 3) (eC (.a (.int (2147483647)))))) (eC (.a (.int (1))))) (eC (.a (.int (48271))))) (eC (.a (.int (2147483647))))))
          (sSeq (sPut (eBin dMod (eBin dAdd (eBin dMul (eVar 4) (eC (.a (.int (69621))))) (eC (.a (.int (12345))))) (eC (.a (.int (2147483647))))) (eVar 0) (eC (.a (.int (0)))))
          (sSeq (sRet (eBin dMod (eBin dDiv (eCallB dInt (aCons (eBin dIx (eVar 0) (eC (.a (.int (0))))) aNil)) (eC (.a (.int (7))))) (eVar 1))) sNil))) = B at tl ⊢
        by_cases hbig : 10 ^ 18 ≤ cell
        · have e3 : dPut (.cel s) (.a (.int 3)) (.a (.int (cell / L))) (S.set s (.lst [.a (.int seed), .cel c2, .a (.int ((j : Int) + 1)), .a (.int rest)])) = some ((S.set s (.lst [.a (.int seed), .cel c2, .a (.int ((j : Int) + 1)), .a (.int rest)])).set s (.lst [.a (.int seed), .cel c2, .a (.int ((j : Int) + 1)), .a (.int (cell / L))])) := dPut_lst (k := 3) hS1 (by simp)
          have hd : decide ((10 : Int) ^ 18 ≤ cell) = true := decide_eq_true hbig
          simp only [sSeq_eq, sIf_eq, tBin_eq, eVar_eq, List.getElem?_cons_zero, List.getElem?_cons_succ, varR_some, bin1_ok, eBin_eq, eC_eq, bin2_ok, dPow_lit _ pow18, ofO_some, dGe_int, toB_ok]
          rw [show ((10 : Int) ^ (18 : Int).toNat) = 10 ^ 18 from rfl, hd]
          simp [dDiv_pos h0 h1, e3, dMod_pos h0]
          exact ⟨_, rfl, Int.emod_nonneg _ (by omega), Int.emod_lt_of_pos _ h0, ⟨seed, (j : Int) + 1, cell / L, ns, p _, p2 _, hne, Int.ediv_nonneg hcell (by omega), by omega⟩, List.length_set .., Ext.set⟩
        · have hd : decide ((10 : Int) ^ 18 ≤ cell) = false := decide_eq_false hbig
          simp only [sSeq_eq, sIf_eq, tBin_eq, eVar_eq, List.getElem?_cons_zero, List.getElem?_cons_succ, varR_some, bin1_ok, eBin_eq, eC_eq, bin2_ok, dPow_lit _ pow18, ofO_some, dGe_int, toB_ok]
          rw [show ((10 : Int) ^ (18 : Int).toNat) = 10 ^ 18 from rfl, hd]
          simpa using tl
      by_cases hneg : ns[j] < 0
      · have f := fin (1 - ns[j]) (by omega)
        simp [bPick, dIx_lst hs, at4_3, at4_2, at4_1, hge, dLen_lst hc, hj, dIx_lst hc, ilist_at hj, e2, hneg]
        simpa using f
      · have f := fin (ns[j]) (by omega)
        simp [bPick, dIx_lst hs, at4_3, at4_2, at4_1, hge, dLen_lst hc, hj, dIx_lst hc, ilist_at hj, e2, hneg]
        simpa using f
    · have tl := pick_tailG (S := S) (L := L) (cell := 11) (x := none) (y := none) h0 hs hc hne rfl Ext.refl hk hr
      simp [bPick, dIx_lst hs, at4_3, at4_2, at4_1, hge, dLen_lst hc, hkl]
      simpa [dIx_lst hs] using tl

/-! ### closed stores -/
def Clo (S : Sto) : Prop := Sto.lo S = true
mutual
theorem D.lo_mono {n m : Nat} (h : n ≤ m) : ∀ d : D, D.lo n d = true → D.lo m d = true
  | .a _, _ => rfl
  | .tup ds, q => by
    unfold D.lo at q ⊢
    exact D.loL_mono h ds q
  | .ils ds, q => by
    unfold D.lo at q ⊢
    exact D.loL_mono h ds q
  | .cel k, q => by
    unfold D.lo at q ⊢
    simp at q ⊢
    omega
theorem D.loL_mono {n m : Nat} (h : n ≤ m) : ∀ ds : List D, D.loL n ds = true → D.loL m ds = true
  | [], _ => rfl
  | d :: ds, q => by
    unfold D.loL at q ⊢
    obtain ⟨q1, q2⟩ := Bool.and_eq_true_iff.mp q
    rw [D.lo_mono h d q1, D.loL_mono h ds q2]
    rfl
end
theorem loL_all {n : Nat} : ∀ ds : List D, D.loL n ds = ds.all (D.lo n)
  | [] => rfl
  | d :: ds => by
    unfold D.loL
    rw [List.all_cons, loL_all ds]
theorem Cell.lo_mono {n m : Nat} (h : n ≤ m) {c : Cell} (q : Cell.lo n c = true) : Cell.lo m c = true := by
  cases c with
  | lst ds => exact D.loL_mono h ds q
  | dic kvs => exact List.all_eq_true.mpr fun kv hk => D.lo_mono h _ (List.all_eq_true.mp q kv hk)
  | fdc kvs => exact List.all_eq_true.mpr fun kv hk => D.lo_mono h _ (List.all_eq_true.mp q kv hk)
  | dit kvs => exact List.all_eq_true.mpr fun kv hk => D.lo_mono h _ (List.all_eq_true.mp q kv hk)
  | ins c fs => exact List.all_eq_true.mpr fun kv hk => D.lo_mono h _ (List.all_eq_true.mp q kv hk)
theorem Clo.at {S : Sto} (h : Clo S) {i : Nat} {c : Cell} (e : S[i]? = some c) : Cell.lo S.length c = true := List.all_eq_true.mp h c (List.mem_of_getElem? e)
theorem clo_of {S : Sto} (h : ∀ (i : Nat) (c : Cell), S[i]? = some c → Cell.lo S.length c = true) : Clo S := List.all_eq_true.mpr fun c hc => by
  obtain ⟨i, hi⟩ := List.getElem?_of_mem hc
  exact h i c hi
theorem Clo.push {S : Sto} {c : Cell} (h : Clo S) (hc : Cell.lo (S.length + 1) c = true) : Clo (S ++ [c]) := clo_of fun i c' e => by
  rw [List.length_append, List.length_singleton]
  by_cases hi : i < S.length
  · rw [List.getElem?_append_left hi] at e
    exact Cell.lo_mono (Nat.le_succ _) (h.at e)
  · rw [List.getElem?_append_right (by omega)] at e
    have : c' = c := by
      have h2 := List.mem_of_getElem? e
      simpa using h2
    rw [this]
    exact hc
theorem Clo.set {S : Sto} {c : Cell} {n : Nat} (h : Clo S) (hc : Cell.lo S.length c = true) : Clo (S.set n c) := clo_of fun i c' e => by
  rw [List.length_set]
  by_cases hi : i = n
  · subst hi
    have hl : i < S.length := by
      have := (List.getElem?_eq_some_iff.mp e).1
      rwa [List.length_set] at this
    rw [List.getElem?_set_self hl] at e
    cases e
    exact hc
  · rw [List.getElem?_set_ne (Ne.symm hi)] at e
    exact h.at e
theorem Clo.nil : Clo [] := rfl
theorem lo_atom (n : Nat) (v : V) : D.lo n (.a v) = true := rfl
/-- ints and texts, tuples of such -/
theorem noC.lo {d : D} (h : noC d) (n : Nat) : D.lo n d = true := h n
theorem noC_tup {ds : List D} (h : ∀ d ∈ ds, noC d) : noC (.tup ds) := fun n => by
  unfold D.lo
  rw [loL_all, List.all_eq_true]
  exact fun d hd => h d hd n
theorem lo_strs (n : Nat) (xs : List Str) : Cell.lo n (.lst (xs.map fun x => .a (.str x))) = true := by
  show D.loL n _ = true
  rw [loL_all, List.all_eq_true]
  intro d hd
  obtain ⟨x, _, rfl⟩ := List.mem_map.mp hd
  rfl
theorem lo_lst {n : Nat} {ds : List D} (h : ∀ d ∈ ds, noC d) : Cell.lo n (.lst ds) = true := by
  show D.loL n _ = true
  rw [loL_all, List.all_eq_true]
  exact fun d hd => h d hd n
theorem lo_dic {n : Nat} {kvs : List (Key × D)} (h : ∀ kv ∈ kvs, noC kv.2) : Cell.lo n (.dic kvs) = true := List.all_eq_true.mpr fun kv hk => h kv hk n
/-! ### what a def leaves that draws nothing -/
section
variable {n N : Nat} {b : SX} {ds : List D} {S : Sto} {d : D} {c : Cell}
theorem region_det {S' : Sto} (hc : Clo S) (hd : D.lo S.length d = true) (h : Fix S S') : region S.length (.ok d S') = .ok d S := by
  unfold region
  dsimp only
  rw [h.cut, if_pos ⟨hd, hc⟩]
theorem def_det (h : ds.length = n) (hc : Clo S) (hd : D.lo S.length d = true) (hb : Ws (RtP fun d' S' => d' = d ∧ Fix S S') (b (ds.map some ++ List.replicate (N - ds.length) none) S)) : defSem n N b ds S = .ok d S := by
  rw [defSem_eq h]
  cases hr : b (ds.map some ++ List.replicate (N - ds.length) none) S with
  | rt d' S' =>
    rw [hr] at hb
    obtain ⟨rfl, f⟩ := hb
    exact region_det hc hd f
  | nx env S' =>
    rw [hr] at hb
    obtain ⟨e, f⟩ := hb
    rw [bodyR_nx, e]
    exact region_det hc hd f
  | bk _ _ => rw [hr] at hb; exact hb.elim
  | ct _ _ => rw [hr] at hb; exact hb.elim
  | ex _ _ _ => rw [hr] at hb; exact hb.elim
  | bad => rw [hr] at hb; exact hb.elim
theorem def_detL (h : ds.length = n) (hc : Clo S) (hl : Cell.lo S.length c = true) (hb : Ws (RtP fun d' S' => ∃ k, d' = .cel k ∧ S.length ≤ k ∧ S'[k]? = some c ∧ Fix S S') (b (ds.map some ++ List.replicate (N - ds.length) none) S)) : defSem n N b ds S = .ok (.cel S.length) (S ++ [c]) := by
  rw [defSem_eq h]
  have key : ∀ k S', S.length ≤ k → S'[k]? = some c → Fix S S' → region S.length (.ok (.cel k) S') = .ok (.cel S.length) (S ++ [c]) := fun k S' h1 h2 f => by
    unfold region
    dsimp only
    have hk := (List.getElem?_eq_some_iff.mp h2).1
    rw [if_neg fun z => by
      have := z.1
      unfold D.lo at this
      have := of_decide_eq_true this
      omega]
    rw [h2]
    dsimp only
    rw [f.cut, if_pos ⟨h1, hl, hc, f.len⟩]
  cases hr : b (ds.map some ++ List.replicate (N - ds.length) none) S with
  | rt d' S' =>
    rw [hr] at hb
    obtain ⟨k, rfl, h1, h2, f⟩ := hb
    exact key k S' h1 h2 f
  | nx env S' =>
    rw [hr] at hb
    obtain ⟨k, e, _⟩ := hb
    cases e
  | bk _ _ => rw [hr] at hb; exact hb.elim
  | ct _ _ => rw [hr] at hb; exact hb.elim
  | ex _ _ _ => rw [hr] at hb; exact hb.elim
  | bad => rw [hr] at hb; exact hb.elim
theorem def_detX {e : Exn} (h : ds.length = n) (hc : Clo S) (he : (e.fs.all fun kv => D.lo S.length kv.2) = true) (hb : Ws (fun r => ∃ env S', r = .ex e env S' ∧ Fix S S') (b (ds.map some ++ List.replicate (N - ds.length) none) S)) : defSem n N b ds S = .exc e S := by
  rw [defSem_eq h]
  cases hr : b (ds.map some ++ List.replicate (N - ds.length) none) S with
  | ex x env S' =>
    rw [hr] at hb
    obtain ⟨env', S2, e1, f⟩ := hb
    cases e1
    rw [bodyR_ex]
    unfold region
    dsimp only
    rw [f.cut, if_pos ⟨he, hc⟩]
  | rt _ _ => rw [hr] at hb; obtain ⟨_, _, e, _⟩ := hb; cases e
  | nx _ _ => rw [hr] at hb; obtain ⟨_, _, e, _⟩ := hb; cases e
  | bk _ _ => rw [hr] at hb; obtain ⟨_, _, e, _⟩ := hb; cases e
  | ct _ _ => rw [hr] at hb; obtain ⟨_, _, e, _⟩ := hb; cases e
  | bad => rw [hr] at hb; exact hb.elim
end
/-! ### draws: the state stands in cell 1, the numbers in cell 0; the cells ms may change, too -/
abbrev Stc (S : Sto) : Prop := StcG 1 0 S
abbrev stD : D := .cel 1
structure Dr (ms : List Nat) (S0 S : Sto) : Prop where
  len : S.length = S0.length
  at_ : ∀ i, i ≠ 1 → i ∉ ms → S[i]? = S0[i]?
  st0 : Stc S0
  stc : Stc S
  clo : Clo S
/-- .. cells may be new -/
structure Dx (ms : List Nat) (S0 S : Sto) : Prop where
  len : S0.length ≤ S.length
  at_ : ∀ i, i < S0.length → i ≠ 1 → i ∉ ms → S[i]? = S0[i]?
  st0 : Stc S0
  stc : Stc S
  clo : Clo S
section
variable {ms : List Nat} {S0 S S1 S2 : Sto}
theorem Stc.lt {S : Sto} (h : Stc S) : 1 < S.length := by
  obtain ⟨_, _, _, _, h1, _⟩ := h
  exact (List.getElem?_eq_some_iff.mp h1).1
theorem Dr.refl (h : Stc S) (c : Clo S) : Dr ms S S := ⟨rfl, fun _ _ _ => rfl, h, h, c⟩
theorem Dx.refl (h : Stc S) (c : Clo S) : Dx ms S S := ⟨Nat.le_refl _, fun _ _ _ _ => rfl, h, h, c⟩
theorem Dr.trans (a : Dr ms S0 S1) (b : Dr ms S1 S2) : Dr ms S0 S2 := ⟨b.len.trans a.len, fun i h1 h2 => (b.at_ i h1 h2).trans (a.at_ i h1 h2), a.st0, b.stc, b.clo⟩
theorem Dx.trans (a : Dx ms S0 S1) (b : Dx ms S1 S2) : Dx ms S0 S2 := ⟨Nat.le_trans a.len b.len, fun i h h1 h2 => (b.at_ i (Nat.lt_of_lt_of_le h a.len) h1 h2).trans (a.at_ i h h1 h2), a.st0, b.stc, b.clo⟩
theorem Dr.dx (a : Dr ms S0 S1) : Dx ms S0 S1 := ⟨Nat.le_of_eq a.len.symm, fun i _ h1 h2 => a.at_ i h1 h2, a.st0, a.stc, a.clo⟩
theorem Dr.more (ms : List Nat) (a : Dr [] S0 S1) : Dr ms S0 S1 := ⟨a.len, fun i h1 _ => a.at_ i h1 (by simp), a.st0, a.stc, a.clo⟩
theorem Dx.more (ms : List Nat) (a : Dx [] S0 S1) : Dx ms S0 S1 := ⟨a.len, fun i h h1 _ => a.at_ i h h1 (by simp), a.st0, a.stc, a.clo⟩
theorem Dx.step (a : Dx ms S0 S) (b : Dr ms S S1) : Dx ms S0 S1 := a.trans b.dx
theorem Dx.step0 (a : Dx ms S0 S) (b : Dr [] S S1) : Dx ms S0 S1 := a.trans (b.more ms).dx
theorem Dx.here (a : Dx ms S0 S) : Dx ms S S := .refl a.stc a.clo
theorem Dr.here (a : Dr ms S0 S) : Dx ms S S := .refl a.stc a.clo
theorem Dx.here0 (a : Dx ms S0 S) : Dx [] S S := .refl a.stc a.clo
theorem Dr.here0 (a : Dr ms S0 S) : Dx [] S S := .refl a.stc a.clo
theorem Dx.get (a : Dx ms S0 S) {i : Nat} {c : Cell} (h : S0[i]? = some c) (h1 : i ≠ 1) (h2 : i ∉ ms) : S[i]? = some c := (a.at_ i (List.getElem?_eq_some_iff.mp h).1 h1 h2).trans h
theorem Dr.get (a : Dr ms S0 S) {i : Nat} {c : Cell} (h : S0[i]? = some c) (h1 : i ≠ 1) (h2 : i ∉ ms) : S[i]? = some c := (a.at_ i h1 h2).trans h
theorem Stc.nd {n : Nat} {kvs : List (Key × D)} (h : Stc S) (e : S[n]? = some (.dic kvs)) : n ≠ 1 := fun z => by
  obtain ⟨_, _, _, _, h1, _⟩ := h
  rw [z, h1] at e
  cases e
/-- a dict stands -/
theorem Dx.dic (a : Dx [] S0 S) {n : Nat} {kvs : List (Key × D)} (h : S0[n]? = some (.dic kvs)) : S[n]? = some (.dic kvs) := a.get h (a.st0.nd h) (by simp)
theorem Dr.dic (a : Dr [] S0 S) {n : Nat} {kvs : List (Key × D)} (h : S0[n]? = some (.dic kvs)) : S[n]? = some (.dic kvs) := a.get h (a.st0.nd h) (by simp)
theorem Stc.push {c : Cell} (h : Stc S) : Stc (S ++ [c]) := by
  obtain ⟨a, b, d, e, h1, h2, h3⟩ := h
  exact ⟨a, b, d, e, by rw [List.getElem?_append_left (List.getElem?_eq_some_iff.mp h1).1]; exact h1, by rw [List.getElem?_append_left (List.getElem?_eq_some_iff.mp h2).1]; exact h2, h3⟩
theorem Stc.set {n : Nat} {c : Cell} (hn : 2 ≤ n) (h : Stc S) : Stc (S.set n c) := by
  obtain ⟨a, b, d, e, h1, h2, h3⟩ := h
  exact ⟨a, b, d, e, by rw [List.getElem?_set_ne (by omega)]; exact h1, by rw [List.getElem?_set_ne (by omega)]; exact h2, h3⟩
theorem Dx.push (a : Dx ms S0 S) {c : Cell} (hc : Cell.lo (S.length + 1) c = true) : Dx ms S0 (S ++ [c]) :=
  ⟨by rw [List.length_append]; have := a.len; omega, fun i h h1 h2 => by rw [List.getElem?_append_left (Nat.lt_of_lt_of_le h a.len)]; exact a.at_ i h h1 h2, a.st0, a.stc.push, a.clo.push hc⟩
/-- a new cell is written -/
theorem Dx.set (a : Dx ms S0 S) {n : Nat} {c : Cell} (hn : S0.length ≤ n) (hc : Cell.lo S.length c = true) : Dx ms S0 (S.set n c) :=
  ⟨by rw [List.length_set]; exact a.len, fun i h h1 h2 => by rw [List.getElem?_set_ne (by omega)]; exact a.at_ i h h1 h2, a.st0, a.stc.set (by have := a.st0.lt; omega), a.clo.set hc⟩
/-- one of ms is written -/
theorem Dx.setm (a : Dx ms S0 S) {n : Nat} {c : Cell} (hm : n ∈ ms) (hn : 2 ≤ n) (hc : Cell.lo S.length c = true) : Dx ms S0 (S.set n c) :=
  ⟨by rw [List.length_set]; exact a.len, fun i h h1 h2 => by rw [List.getElem?_set_ne (fun z => h2 (by rw [← z]; exact hm))]; exact a.at_ i h h1 h2, a.st0, a.stc.set hn, a.clo.set hc⟩
theorem Dx.fix (a : Dx ms S0 S) (f : Fix S S1) (c : Clo S1) : Dx ms S0 S1 := by
  refine ⟨Nat.le_trans a.len f.len, fun i h h1 h2 => (f.at_ i (Nat.lt_of_lt_of_le h a.len)).trans (a.at_ i h h1 h2), a.st0, ?_, c⟩
  obtain ⟨x, b, d, e, h1, h2, h3⟩ := a.stc
  exact ⟨x, b, d, e, f.get h1, f.get h2, h3⟩
theorem get_app {n : Nat} {c : Cell} {l : List Cell} (h : S[n]? = some c) : (S ++ l)[n]? = some c := by rw [List.getElem?_append_left (List.getElem?_eq_some_iff.mp h).1]; exact h
theorem get_lt {n : Nat} {c : Cell} (h : S[n]? = some c) : n < S.length := (List.getElem?_eq_some_iff.mp h).1
/-- the cut to what stood before -/
theorem Dx.cut (a : Dx ms S0 S) (c0 : Clo S0) (hm : ∀ r c, r ∈ ms → S[r]? = some c → Cell.lo S0.length c = true) : Sto.lo (S.take S0.length) = true ∧ Dr ms S0 (S.take S0.length) := by
  have hl : (S.take S0.length).length = S0.length := by rw [List.length_take]; have := a.len; omega
  obtain ⟨sd, k, rest, ns, h1, h2, h3⟩ := a.stc
  have l1 := a.st0.lt
  have st : Stc (S.take S0.length) := ⟨sd, k, rest, ns, by rw [List.getElem?_take_of_lt l1]; exact h1, by rw [List.getElem?_take_of_lt (by omega)]; exact h2, h3⟩
  have cl : Clo (S.take S0.length) := clo_of fun i c e => by
    have hi : i < S0.length := by have := (List.getElem?_eq_some_iff.mp e).1; rwa [hl] at this
    rw [hl]
    rw [List.getElem?_take_of_lt hi] at e
    by_cases hi1 : i = 1
    · subst hi1
      rw [h1] at e
      cases e
      show D.loL _ _ = true
      simp [D.loL, D.lo]
      omega
    · by_cases him : i ∈ ms
      · exact hm i c him e
      · rw [a.at_ i hi hi1 him] at e
        exact c0.at e
  refine ⟨cl, hl, fun i h1 h2 => ?_, a.st0, st, cl⟩
  by_cases hi : i < S0.length
  · rw [List.getElem?_take_of_lt hi]
    exact a.at_ i hi h1 h2
  · rw [List.getElem?_eq_none (by omega), List.getElem?_eq_none (by omega)]
end
section
variable {ms : List Nat} {n N : Nat} {b : SX} {ds : List D} {S : Sto} {P : D → Sto → Prop} {Pc : Cell → Sto → Prop}
/-- a def that draws: its result is data that stood before (P speaks of the cells ms alone) -/
theorem def_drG (h : ds.length = n) (h0 : Dx ms S S) (hP : ∀ d S', P d S' → P d (S'.take S.length))
    (hb : Ws (RtP fun d S' => P d S' ∧ D.lo S.length d = true ∧ Dx ms S S' ∧ ∀ r c, r ∈ ms → S'[r]? = some c → Cell.lo S.length c = true) (b (ds.map some ++ List.replicate (N - ds.length) none) S)) :
    Wp nX (fun d S' => P d S' ∧ Dr ms S S') (defSem n N b ds S) := by
  rw [defSem_eq h]
  have key : ∀ d S', (P d S' ∧ D.lo S.length d = true ∧ Dx ms S S' ∧ ∀ r c, r ∈ ms → S'[r]? = some c → Cell.lo S.length c = true) → Wp nX (fun d S' => P d S' ∧ Dr ms S S') (region S.length (.ok d S')) := fun d S' ⟨hp, hl, hx, hm⟩ => by
    obtain ⟨e1, e2⟩ := hx.cut h0.clo hm
    unfold region
    dsimp only
    rw [if_pos ⟨hl, e1⟩]
    exact ⟨hP d S' hp, e2⟩
  cases hr : b (ds.map some ++ List.replicate (N - ds.length) none) S with
  | rt d' S' => rw [hr] at hb; exact key d' S' hb
  | nx env S' => rw [hr] at hb; exact key _ S' hb
  | bk _ _ => rw [hr] at hb; exact hb.elim
  | ct _ _ => rw [hr] at hb; exact hb.elim
  | ex _ _ _ => rw [hr] at hb; exact hb.elim
  | bad => rw [hr] at hb; exact hb.elim
theorem def_dr {P : D → Prop} (h : ds.length = n) (h0 : Dx [] S S) (hb : Ws (RtP fun d S' => P d ∧ D.lo S.length d = true ∧ Dx [] S S') (b (ds.map some ++ List.replicate (N - ds.length) none) S)) :
    Wp nX (fun d S' => P d ∧ Dr [] S S') (defSem n N b ds S) := by
  refine def_drG (ms := []) (P := fun d _ => P d) h h0 (fun _ _ q => q) ?_
  cases hr : b (ds.map some ++ List.replicate (N - ds.length) none) S with
  | rt d' S' => rw [hr] at hb; exact ⟨hb.1, hb.2.1, hb.2.2, fun _ _ q => by simp at q⟩
  | nx env S' => rw [hr] at hb; exact ⟨hb.1, hb.2.1, hb.2.2, fun _ _ q => by simp at q⟩
  | bk _ _ => rw [hr] at hb; exact hb.elim
  | ct _ _ => rw [hr] at hb; exact hb.elim
  | ex _ _ _ => rw [hr] at hb; exact hb.elim
  | bad => rw [hr] at hb; exact hb.elim
/-- .. a new list (dict, instance) alone -/
theorem def_drL {Pc : Cell → Prop} (h : ds.length = n) (h0 : Dx [] S S) (hb : Ws (RtP fun d S' => ∃ k c, d = .cel k ∧ S.length ≤ k ∧ S'[k]? = some c ∧ Pc c ∧ Cell.lo S.length c = true ∧ Dx [] S S') (b (ds.map some ++ List.replicate (N - ds.length) none) S)) :
    Wp nX (fun d S' => ∃ c S1, d = .cel S.length ∧ S' = S1 ++ [c] ∧ Pc c ∧ Cell.lo S.length c = true ∧ Dr [] S S1) (defSem n N b ds S) := by
  rw [defSem_eq h]
  cases hr : b (ds.map some ++ List.replicate (N - ds.length) none) S with
  | rt d' S' =>
    rw [hr] at hb
    obtain ⟨k, c, rfl, h1, h2, hp, hl, hx⟩ := hb
    obtain ⟨e1, e2⟩ := hx.cut h0.clo fun _ _ q => by simp at q
    rw [bodyR_rt]
    unfold region
    dsimp only
    rw [if_neg fun z => by
      have := z.1
      unfold D.lo at this
      have := of_decide_eq_true this
      omega]
    rw [h2]
    dsimp only
    rw [if_pos ⟨h1, hl, e1, hx.len⟩]
    exact ⟨c, _, rfl, rfl, hp, hl, e2⟩
  | nx env S' =>
    rw [hr] at hb
    obtain ⟨k, c, e, _⟩ := hb
    cases e
  | bk _ _ => rw [hr] at hb; exact hb.elim
  | ct _ _ => rw [hr] at hb; exact hb.elim
  | ex _ _ _ => rw [hr] at hb; exact hb.elim
  | bad => rw [hr] at hb; exact hb.elim
end
/-- the list (dict) that a def has made -/
theorem Dr.new {S S1 : Sto} {c : Cell} (a : Dr [] S S1) (hc : Cell.lo S.length c = true) : Dx [] S (S1 ++ [c]) ∧ (S1 ++ [c])[S.length]? = some c := by
  refine ⟨a.dx.push (Cell.lo_mono (by rw [a.len]; omega) hc), ?_⟩
  rw [← a.len]
  exact new_at
/-- a draw -/
theorem pick_dr {S : Sto} {L : Int} (h : Dx [] S S) (h0 : 0 < L) (h1 : L < 2 ^ 300) : Wp nX (fun d S' => ∃ v : Nat, d = .a (.int v) ∧ (v : Int) < L ∧ Dr [] S S') (defSem 2 5 bPick [stD, .a (.int L)] S) := by
  obtain ⟨d, S', e, v, rfl, h2, h3, h4, h5, h6⟩ := (pick_specG h.stc h0 h1).get
  rw [e]
  obtain ⟨m, rfl⟩ := Int.eq_ofNat_of_zero_le h2
  have at' : ∀ i, i ≠ 1 → i ∉ ([] : List Nat) → S'[i]? = S[i]? := fun i hi _ => by
    by_cases hl : i < S.length
    · exact h6.at_ i hl hi
    · rw [List.getElem?_eq_none (by omega), List.getElem?_eq_none (by omega)]
  refine ⟨m, rfl, h3, h5, at', h.stc, h4, clo_of fun i c e => ?_⟩
  rw [h5]
  by_cases hi : i = 1
  · subst hi
    obtain ⟨sd, k, rest, ns, g1, g2, g3⟩ := h4
    rw [g1] at e
    cases e
    have := h.stc.lt
    show D.loL _ _ = true
    simp [D.loL, D.lo]
    omega
  · rw [at' i hi (by simp)] at e
    exact h.clo.at e
theorem start_spec2 (ns : List Int) (h : ns.length ≤ 63) : ∃ seed : Int, defSem 1 3 bStart [.ils (ilist ns)] [] = .ok (.cel 1) [.lst (ilist ns), .lst [.a (.int seed), .cel 0, .a (.int 0), .a (.int 0)]] := by
  have m1 : ∀ (i : Int) (S : Sto), dMod (.a (.int i)) (.a (.int 2147483647)) S = some (.a (.int (i % 2147483647)), S) := fun i S => dMod_pos (by decide)
  have m2 : ∀ (i : Int) (S : Sto), dMul (.a (.int i)) (.a (.int 48271)) S = some (.a (.int (i * 48271)), S) := fun i S => dMul_int S (.inr ⟨by decide, by decide⟩)
  obtain ⟨r, hr, hf⟩ : ∃ r, bStart [some (.ils (ilist ns)), none, none] [] = r ∧ RtP (fun d S' => ∃ s seed, d = .cel s ∧ S' = [.lst (ilist ns), .lst [.a (.int seed), .cel 0, .a (.int 0), .a (.int 0)]] ∧ s = 1) r := by
    refine ⟨_, rfl, ?_⟩
    have loop : ∀ body : SX, (∀ (seed : Int) (y : Option D) (j : Nat), j < ns.length → ∃ seed', body ([some (.ils (ilist ns)), some (.a (.int seed)), y].set 2 (some (.a (.int (j : Int))))) [] = .nx [some (.ils (ilist ns)), some (.a (.int seed')), some (.a (.int (j : Int)))] []) →
        ∀ seed : Int, ∃ seed2 y, forGo none (rangeL 0 ns.length) (gN 2) body (rangeL 0 ns.length) [some (.ils (ilist ns)), some (.a (.int seed)), none] [] = SR.nx [some (.ils (ilist ns)), some (.a (.int seed2)), y] [] := fun body hb seed => by
      refine forGo_inv (body := body) (all := rangeL 0 ns.length) (i := 2) (Q := fun r => ∃ seed y, r = SR.nx [some (.ils (ilist ns)), some (.a (.int seed)), y] []) (fun j env S => ∃ seed y, env = [some (.ils (ilist ns)), some (.a (.int seed)), y] ∧ S = []) (rangeL 0 ns.length) 0 _ _ ⟨seed, none, rfl, rfl⟩ ?_ ?_
      · rintro j d env S hd ⟨seed, y, rfl, rfl⟩
        obtain ⟨hj, rfl⟩ := rangeL_get hd
        obtain ⟨seed', hs⟩ := hb seed y j hj
        rw [Int.zero_add]
        exact .inl ⟨_, _, .inl hs, seed', _, rfl, rfl⟩
      · rintro env S ⟨seed, y, rfl, rfl⟩
        exact ⟨seed, y, rfl⟩
    have hr := iR1R_nat (n := ns.length) ([] : Sto) (by omega)
    simp only [bStart, sSeq_eq, sSet_eq, eC_eq, setR_ok, sq_nx, sFor_eq, iR1_eq, eCallB_eq, aCons_eq, eVar_eq, List.set_cons_succ, List.set_cons_zero, List.getElem?_cons_zero, varR_some, aNil_eq, cons1_ok, cons2_ok, cbR_ok, dLen_ils, ilist_len, ofO_some, hr, forR_ok]
    generalize hB : (sSeq (sSet 1 (eBin dMod (eBin dAdd (eBin dAdd (eBin dAdd (eBin dMul (eVar 1) (eC (.a (.int (48271))))) (eBin dMod (eCallB dInt (aCons (eBin dIx (eVar 0) (eVar 2)) aNil)) (eC (.a (.int (2147483647)))))) (eVar 2)) (eC (.a (.int (1))))) (eC (.a (.int (2147483647)))))) sNil) = B
    obtain ⟨seed, y, hl⟩ := loop B (fun seed y j hj => ⟨(seed * 48271 + (ns.getD j 0) % 2147483647 + j + 1) % 2147483647, by
      subst hB
      simp [ilist_get (atI_lt hj), m1, m2]⟩) 7
    rw [hl]
    have hal : aListOf (eVar 0) [some (.ils (ilist ns)), some (.a (.int seed)), y] [] = .ok (ilist ns) [] := rfl
    simp [hal]
  have hg := RtP.body hf
  obtain ⟨d, S', e, hp⟩ := OkP.get hg
  obtain ⟨s, seed, h1, h2, h3⟩ := hp
  subst h1 h2 h3
  have e := (congrArg bodyR hr).trans e
  rw [defSem_eq (n := 1) (ds := [_]) rfl]
  have er : region 0 (.ok (.cel 1) [.lst (ilist ns), .lst [.a (.int seed), .cel 0, .a (.int 0), .a (.int 0)]]) = .ok (.cel 1) [.lst (ilist ns), .lst [.a (.int seed), .cel 0, .a (.int 0), .a (.int 0)]] := by
    unfold region
    simp [D.lo, Cell.lo, D.loL]
  exact ⟨seed, (congrArg (region 0) e).trans er⟩

/-- the start -/
theorem start_dr (ns : List Int) (h : ns.length ≤ 63) : ∃ S', defSem 1 3 bStart [.ils (ilist ns)] [] = .ok stD S' ∧ Dx [] S' S' ∧ S'.length = 2 := by
  obtain ⟨seed, e⟩ := start_spec2 ns h
  refine ⟨_, e, Dx.refl ⟨seed, 0, 0, ns, rfl, rfl, by decide, by decide, by decide⟩ (clo_of fun i c e => ?_), rfl⟩
  match i, e with
  | 0, e =>
    cases e
    exact loL_ilist _ ns
  | 1, e =>
    cases e
    rfl
end G
set_option maxRecDepth 100000
set_option exponentiation.threshold 600
/-! The plain layer H, part 10: texts, dicts, known tests, places of literal lists. -/
namespace G
open PySem PySem.Spec PyProof.Rows L2

/-! ### texts -/
theorem ofString_inj {a b : String} : Str.ofString a = Str.ofString b ↔ a = b := by
  constructor
  · intro h
    rw [Str.ofString_eq_toList, Str.ofString_eq_toList] at h
    injection h with h
    have h2 := congrArg Array.toList h
    have h3 : a.toList.map Char.toNat = b.toList.map Char.toNat := by simpa using h2
    have : a.toList = b.toList := by
      refine List.map_inj_right (f := Char.toNat) (fun x y e => ?_) |>.mp h3
      exact Char.ext (UInt32.toNat_inj.mp e)
    exact String.toList_inj.mp this
  · intro h
    rw [h]
@[simp] theorem ofString_eq (a b : String) : (Str.ofString a = Str.ofString b) = (a = b) := propext ofString_inj
theorem ofString_beq (a b : String) : (Str.ofString a == Str.ofString b) = decide (a = b) := by
  by_cases h : a = b
  · subst h; simp
  · rw [decide_eq_false h]
    exact beq_eq_false_iff_ne.mpr fun e => h (ofString_inj.mp e)
@[simp] theorem dEq_st (i j : Str) (S : Sto) : dEq (.a (.str i)) (.a (.str j)) S = some (.a (.bl (decide (i = j))), S) := (rfl)
@[simp] theorem dNe_st (i j : Str) (S : Sto) : dNe (.a (.str i)) (.a (.str j)) S = some (.a (.bl (!decide (i = j))), S) := (rfl)
/-! ### kinds -/
theorem kbC : kitB "str" "int" = some false := by decide +kernel
theorem kbD : kitB "str" "bool" = some false := by decide +kernel
theorem kbE : kitB "tuple" "str" = some false := by decide +kernel
theorem kbF : kitB "tuple" "int" = some false := by decide +kernel
theorem kbG : kitB "tuple" "bool" = some false := by decide +kernel
theorem kbH : kitB "NoneType" "str" = some false := by decide +kernel
theorem kbI : kitB "NoneType" "int" = some false := by decide +kernel
theorem kbJ : kitB "NoneType" "bool" = some false := by decide +kernel
theorem kbK : kitB "bool" "int" = some true := by decide +kernel
section
variable (i : Int) (b : Bool) (x : Str) (ds : List D) (S : Sto)
@[simp] theorem is_int_int : dIsi [.a (.int i), .a (.ty "int")] S = some (.a (.bl true), S) := by rw [isi_int, kb4]; rfl
@[simp] theorem is_int_str : dIsi [.a (.int i), .a (.ty "str")] S = some (.a (.bl false), S) := by rw [isi_int, kb2]; rfl
@[simp] theorem is_int_tuple : dIsi [.a (.int i), .a (.ty "tuple")] S = some (.a (.bl false), S) := by rw [isi_int, kb1]; rfl
@[simp] theorem is_int_bool : dIsi [.a (.int i), .a (.ty "bool")] S = some (.a (.bl false), S) := by rw [isi_int, kb3]; rfl
@[simp] theorem is_bl_int : dIsi [.a (.bl b), .a (.ty "int")] S = some (.a (.bl true), S) := by rw [isi_bl, kbK]; rfl
@[simp] theorem is_bl_str : dIsi [.a (.bl b), .a (.ty "str")] S = some (.a (.bl false), S) := by rw [isi_bl, kb6]; rfl
@[simp] theorem is_bl_tuple : dIsi [.a (.bl b), .a (.ty "tuple")] S = some (.a (.bl false), S) := by rw [isi_bl, kb5]; rfl
@[simp] theorem is_bl_bool : dIsi [.a (.bl b), .a (.ty "bool")] S = some (.a (.bl true), S) := by rw [isi_bl, kb7]; rfl
@[simp] theorem is_str_int : dIsi [.a (.str x), .a (.ty "int")] S = some (.a (.bl false), S) := by rw [isi_str, kbC]; rfl
@[simp] theorem is_str_str : dIsi [.a (.str x), .a (.ty "str")] S = some (.a (.bl true), S) := by rw [isi_str, kb9]; rfl
@[simp] theorem is_str_tuple : dIsi [.a (.str x), .a (.ty "tuple")] S = some (.a (.bl false), S) := by rw [isi_str, kb8]; rfl
@[simp] theorem is_str_bool : dIsi [.a (.str x), .a (.ty "bool")] S = some (.a (.bl false), S) := by rw [isi_str, kbD]; rfl
@[simp] theorem is_tup_int : dIsi [.tup ds, .a (.ty "int")] S = some (.a (.bl false), S) := by rw [isi_tup, kbF]; rfl
@[simp] theorem is_tup_str : dIsi [.tup ds, .a (.ty "str")] S = some (.a (.bl false), S) := by rw [isi_tup, kbE]; rfl
@[simp] theorem is_tup_tuple : dIsi [.tup ds, .a (.ty "tuple")] S = some (.a (.bl true), S) := by rw [isi_tup, kbA]; rfl
@[simp] theorem is_tup_bool : dIsi [.tup ds, .a (.ty "bool")] S = some (.a (.bl false), S) := by rw [isi_tup, kbG]; rfl
@[simp] theorem is_non_int : dIsi [.a .non, .a (.ty "int")] S = some (.a (.bl false), S) := by rw [isi_non, kbI]; rfl
@[simp] theorem is_non_str : dIsi [.a .non, .a (.ty "str")] S = some (.a (.bl false), S) := by rw [isi_non, kbH]; rfl
@[simp] theorem is_non_tuple : dIsi [.a .non, .a (.ty "tuple")] S = some (.a (.bl false), S) := by rw [isi_non, kbB]; rfl
@[simp] theorem is_non_bool : dIsi [.a .non, .a (.ty "bool")] S = some (.a (.bl false), S) := by rw [isi_non, kbJ]; rfl
@[simp] theorem nonIs_int : dIs (.a (.int i)) (.a .non) S = some (.a (.bl false), S) := (rfl)
@[simp] theorem nonIs_bl : dIs (.a (.bl b)) (.a .non) S = some (.a (.bl false), S) := (rfl)
@[simp] theorem nonIs_str : dIs (.a (.str x)) (.a .non) S = some (.a (.bl false), S) := (rfl)
@[simp] theorem nonIs_tup : dIs (.tup ds) (.a .non) S = some (.a (.bl false), S) := (rfl)
@[simp] theorem nonIs_non : dIs (.a .non) (.a .non) S = some (.a (.bl true), S) := (rfl)
@[simp] theorem nonIsNot_int : dIsNot (.a (.int i)) (.a .non) S = some (.a (.bl true), S) := (rfl)
@[simp] theorem nonIsNot_str : dIsNot (.a (.str x)) (.a .non) S = some (.a (.bl true), S) := (rfl)
@[simp] theorem nonIsNot_tup : dIsNot (.tup ds) (.a .non) S = some (.a (.bl true), S) := (rfl)
@[simp] theorem nonIsNot_non : dIsNot (.a .non) (.a .non) S = some (.a (.bl false), S) := (rfl)
@[simp] theorem dInt_bl : dInt [.a (.bl b)] S = some (.a (.int (bif b then 1 else 0)), S) := (rfl)
end
/-! ### places -/
section
variable {α : Type}
@[simp] theorem atI_0 (x : α) (r : List α) : atI (x :: r) 0 = some x := by simp [atI, ixN]
@[simp] theorem atI_1 (x y : α) (r : List α) : atI (x :: y :: r) 1 = some y := atI_nat (xs := x :: y :: r) (k := 1) (by simp)
@[simp] theorem atI_2 (x y z : α) (r : List α) : atI (x :: y :: z :: r) 2 = some z := atI_nat (xs := x :: y :: z :: r) (k := 2) (by simp)
@[simp] theorem atI_3 (x y z u : α) (r : List α) : atI (x :: y :: z :: u :: r) 3 = some u := atI_nat (xs := x :: y :: z :: u :: r) (k := 3) (by simp)
theorem atI_last (xs : List α) (x : α) : atI (xs ++ [x]) (-1) = some x := by
  unfold atI ixN
  rw [if_neg (by omega), if_pos (by rw [List.length_append, List.length_singleton]; omega), Option.bind_some]
  have : (-1 + (((xs ++ [x]).length : Nat) : Int)).toNat = xs.length := by simp; omega
  rw [this]
  simp
@[simp] theorem atI_l1 (x : α) : atI [x] (-1) = some x := atI_last [] x
@[simp] theorem atI_l2 (x y : α) : atI [x, y] (-1) = some y := atI_last [x] y
@[simp] theorem atI_l3 (x y z : α) : atI [x, y, z] (-1) = some z := atI_last [x, y] z
@[simp] theorem atI_l4 (x y z u : α) : atI [x, y, z, u] (-1) = some u := atI_last [x, y, z] u
end
/-! ### places of the store -/
@[simp] theorem get_new {S : Sto} {c : Cell} {l : List Cell} : (S ++ (c :: l))[S.length]? = some c := by simp
theorem optR_some' {d : D} {o : Option D} {S : Sto} (h : o = some d) : optR o S = .ok d S := by rw [h]; rfl
/-! ### all, any of known truths -/
theorem asBls_map (f : D → Bool) : ∀ l : List D, asBls (l.map fun d => .a (.bl (f d))) = some (l.map f)
  | [] => rfl
  | d :: r => by
    rw [List.map_cons, List.map_cons]
    unfold asBls
    rw [asBls_map f r]
    rfl
@[simp] theorem tAll_nil (S : Sto) : tAll [] S = some (.a (.bl true), S) := (rfl)
@[simp] theorem tAll_cons (b : Bool) (r : List D) (S : Sto) : tAll (.a (.bl b) :: r) S = (asBls r).map fun bs => (.a (.bl (b && bs.all id)), S) := by
  unfold tAll
  conv => lhs; unfold asBls
  cases asBls r <;> simp
@[simp] theorem asBls_nil : asBls [] = some [] := (rfl)
@[simp] theorem asBls_cons (b : Bool) (r : List D) : asBls (.a (.bl b) :: r) = (asBls r).map (b :: ·) := (rfl)
theorem tAll_of' (f : D → Bool) (S : Sto) (l : List D) : tAll (l.map fun d => .a (.bl (f d))) S = some (.a (.bl (l.all f)), S) := by
  unfold tAll
  rw [asBls_map f]
  simp [List.all_map]
theorem tAny_of' (f : D → Bool) (S : Sto) (l : List D) : tAny (l.map fun d => .a (.bl (f d))) S = some (.a (.bl (l.any f)), S) := by
  unfold tAny
  rw [asBls_map f]
  simp [List.any_map]
/-! ### dicts -/
def inCR (r : R D) (neg : Bool → Bool) (tbl : List (Str × V)) : R D := r.bind fun d S1 => match d with
  | .a (.str z) => .ok (.a (.bl (neg (tbl.lookup z).isSome))) S1
  | _ => .bad
@[simp] theorem inCR_str (z : Str) (S : Sto) (neg : Bool → Bool) (tbl : List (Str × V)) : inCR (.ok (.a (.str z)) S) neg tbl = .ok (.a (.bl (neg (tbl.lookup z).isSome))) S := (rfl)
@[simp] theorem eInC_eq (neg : Bool → Bool) (tbl : List (Str × V)) (fa : EX) (env : Slots) (S : Sto) : eInC neg tbl fa env S = inCR (fa env S) neg tbl := (rfl)
@[simp] theorem tInC_eq (neg : Bool → Bool) (tbl : List (Str × V)) (fa : EX) (env : Slots) (S : Sto) : tInC neg tbl fa env S = bOf (inCR (fa env S) neg tbl) := (rfl)
@[simp] theorem lookup_str (z a : String) (v : V) (r : List (Str × V)) : List.lookup (Str.ofString z) ((Str.ofString a, v) :: r) = if z = a then some v else List.lookup (Str.ofString z) r := by
  rw [List.lookup_cons, ofString_beq]
  by_cases h : z = a
  · rw [decide_eq_true h, if_pos h]
  · rw [decide_eq_false h, if_neg h]
def ixCR (r : R D) (tbl : List (Str × V)) : R D := r.bind fun e S2 => match e with
  | .a (.str z) => match tbl.lookup z with
    | some v => .ok (.a v) S2
    | none => .bad
  | _ => .bad
@[simp] theorem eIxC_eq (tbl : List (Str × V)) (fb : EX) (env : Slots) (S : Sto) : eIxC tbl fb env S = ixCR (fb env S) tbl := (rfl)
@[simp] theorem ixCR_str (z : Str) (S : Sto) (tbl : List (Str × V)) : ixCR (.ok (.a (.str z)) S) tbl = optR ((tbl.lookup z).map D.a) S := by
  unfold ixCR
  rw [R.bind_ok]
  dsimp only
  cases tbl.lookup z <;> rfl
theorem star_at {fa fk fv : EX} {env : Slots} {S : Sto} {n : Nat} {kvs : List (Key × D)} {k v : D} {key : Key} (ha : fa env S = .ok (.cel n) S) (h : S[n]? = some (.dic kvs)) (hz : kvs.length + 1 ≤ sizeLine) (hk : fk env S = .ok k S) (hv : fv env S = .ok v S) (hy : keyOf k = some key) :
    eStar fa fk fv env S = .ok (.cel S.length) (S ++ [.dic (setK (foldK [] kvs) key v)]) := by
  unfold eStar
  rw [ha, R.bind_ok]
  dsimp only
  rw [h]
  dsimp only
  rw [if_pos hz, hk, R.bind_ok, hv, R.bind_ok, hy]
section
variable {κ : Type} [DecidableEq κ]
theorem getK_nil (k : κ) : getK ([] : List (κ × D)) k = none := rfl
theorem getK_cons (p : κ × D) (r : List (κ × D)) (k : κ) : getK (p :: r) k = if p.1 = k then some p.2 else getK r k := by
  unfold getK
  by_cases h : p.1 = k
  · rw [List.find?_cons_of_pos (by exact decide_eq_true h), if_pos h]; rfl
  · rw [List.find?_cons_of_neg (by simpa using h), if_neg h]
theorem getK_app (a b : List (κ × D)) (k : κ) : getK (a ++ b) k = (getK a k).or (getK b k) := by
  unfold getK
  rw [List.find?_append]
  cases List.find? (fun kv => decide (kv.1 = k)) a <;> rfl
theorem getK_none (kvs : List (κ × D)) (k : κ) : getK kvs k = none ↔ (kvs.any fun kv => decide (kv.1 = k)) = false := by
  unfold getK
  rw [Option.map_eq_none_iff, List.find?_eq_none, List.any_eq_false]
theorem getK_map (kvs : List (κ × D)) (k j : κ) (d : D) : getK (kvs.map fun kv => if kv.1 = k then (kv.1, d) else kv) j = (getK kvs j).map fun x => if j = k then d else x := by
  induction kvs with
  | nil => rfl
  | cons p r ih =>
    rw [List.map_cons, getK_cons, getK_cons, ih]
    by_cases h : p.1 = k
    · rw [if_pos h]
      by_cases g : p.1 = j
      · rw [if_pos g, if_pos g, Option.map_some, if_pos (g.symm.trans h)]
      · rw [if_neg g, if_neg g]
    · rw [if_neg h]
      by_cases g : p.1 = j
      · rw [if_pos g, if_pos g, Option.map_some, if_neg (fun e => h (g.trans e))]
      · rw [if_neg g, if_neg g]
@[simp] theorem getK_set (kvs : List (κ × D)) (k j : κ) (d : D) : getK (setK kvs k d) j = if j = k then some d else getK kvs j := by
  unfold setK
  split
  · rename_i h
    rw [getK_map]
    by_cases g : j = k
    · subst g
      rw [if_pos rfl]
      cases q : getK kvs j with
      | none => rw [getK_none, h] at q; cases q
      | some x => rw [Option.map_some, if_pos rfl]
    · rw [if_neg g]
      cases getK kvs j with
      | none => rfl
      | some x => rw [Option.map_some, if_neg g]
  · rename_i h
    rw [getK_app, getK_cons, getK_nil]
    by_cases g : j = k
    · subst g
      rw [if_pos rfl, (getK_none kvs j).mpr (by rw [Bool.eq_false_iff]; exact h), if_pos rfl]
      rfl
    · rw [if_neg g]
      dsimp only
      rw [if_neg (fun e => g e.symm)]
      cases getK kvs j <;> rfl
theorem setK_len (kvs : List (κ × D)) (k : κ) (d : D) : (setK kvs k d).length ≤ kvs.length + 1 := by
  unfold setK
  split
  · rw [List.length_map]; omega
  · rw [List.length_append]; exact Nat.le_refl _
theorem setK_ne (kvs : List (κ × D)) (k : κ) (d : D) : setK kvs k d ≠ [] := by
  unfold setK
  split
  · rename_i h
    intro e
    rw [List.map_eq_nil_iff] at e
    rw [e] at h
    cases h
  · simp
theorem mem_setK {kvs : List (κ × D)} {k : κ} {d : D} {p : κ × D} (h : p ∈ setK kvs k d) : p ∈ kvs ∨ p = (k, d) := by
  unfold setK at h
  split at h
  · obtain ⟨q, hq, rfl⟩ := List.mem_map.mp h
    by_cases e : q.1 = k
    · rw [if_pos e]
      exact .inr (by rw [e])
    · rw [if_neg e]
      exact .inl hq
  · rcases List.mem_append.mp h with h | h
    · exact .inl h
    · exact .inr (by simpa using h)
end
theorem foldK_get : ∀ (ps kvs : List (Key × D)) (k : Key), (ps.map (·.1)).Nodup → getK (foldK kvs ps) k = (getK ps k).or (getK kvs k)
  | [], kvs, k, _ => by
    rw [getK_nil]
    rfl
  | p :: r, kvs, k, h => by
    have h' := List.nodup_cons.mp h
    show getK (foldK (setK kvs p.1 p.2) r) k = _
    rw [foldK_get r _ k h'.2, getK_set, getK_cons]
    by_cases e : p.1 = k
    · subst e
      rw [if_pos rfl, if_pos rfl]
      have : getK r p.1 = none := by
        rw [getK_none, List.any_eq_false]
        intro kv hk e
        exact h'.1 (List.mem_map.mpr ⟨kv, hk, of_decide_eq_true e⟩)
      rw [this]
      rfl
    · rw [if_neg e, if_neg (fun z => e z.symm)]
theorem setK_keys {κ : Type} [DecidableEq κ] {kvs : List (κ × D)} (k : κ) (d : D) (h : (kvs.map (·.1)).Nodup) : ((setK kvs k d).map (·.1)).Nodup := by
  unfold setK
  split
  · rw [List.map_map]
    have : ((fun x : κ × D => x.1) ∘ fun kv => if kv.1 = k then (kv.1, d) else kv) = fun kv => kv.1 := by
      funext kv
      by_cases e : kv.1 = k
      · simp [e]
      · simp [e]
    rw [this]
    exact h
  · rename_i hn
    rw [List.map_append, List.nodup_append]
    refine ⟨h, by simp, fun a ha b hb e => ?_⟩
    have hb' : b = k := by simpa using hb
    subst e hb'
    obtain ⟨kv, hk, rfl⟩ := List.mem_map.mp ha
    exact hn (List.any_eq_true.mpr ⟨kv, hk, decide_eq_true rfl⟩)
theorem foldK_len : ∀ (ps kvs : List (Key × D)), (foldK kvs ps).length ≤ kvs.length + ps.length
  | [], kvs => Nat.le_refl _
  | p :: r, kvs => by
    have h1 := foldK_len r (setK kvs p.1 p.2)
    have h2 := setK_len kvs p.1 p.2
    show (foldK (setK kvs p.1 p.2) r).length ≤ _
    rw [List.length_cons]
    omega
theorem foldK_keys : ∀ (ps kvs : List (Key × D)), (kvs.map (·.1)).Nodup → ((foldK kvs ps).map (·.1)).Nodup
  | [], kvs, h => h
  | p :: r, kvs, h => foldK_keys r _ (setK_keys p.1 p.2 h)
theorem mem_foldK : ∀ {ps kvs : List (Key × D)} {p : Key × D}, p ∈ foldK kvs ps → p ∈ kvs ∨ p ∈ ps
  | [], _, _, h => .inl h
  | q :: r, kvs, p, h => by
    rcases mem_foldK (ps := r) h with h | h
    · rcases mem_setK h with h | h
      · exact .inl h
      · exact .inr (List.mem_cons.mpr (.inl h))
    · exact .inr (List.mem_cons_of_mem _ h)
theorem dIx_dic {n : Nat} {S : Sto} {kvs : List (Key × D)} {k : D} {y : Key} {v : D} (h : S[n]? = some (.dic kvs)) (hk : keyOf k = some y) (hv : getK kvs y = some v) : dIx (.cel n) k S = some (v, S) := by
  unfold dIx
  dsimp only
  rw [h]
  dsimp only
  rw [hk, Option.bind_some, hv]
  rfl
theorem dIx_fdc {n : Nat} {S : Sto} {kvs : List (Key × D)} {k : D} {y : Key} {v : D} (h : S[n]? = some (.fdc kvs)) (hk : keyOf k = some y) (hv : getK kvs y = some v) : dIx (.cel n) k S = some (v, S) := by
  unfold dIx
  dsimp only
  rw [h]
  dsimp only
  rw [hk, Option.bind_some, hv]
  rfl
theorem dPut_dic {n : Nat} {S : Sto} {kvs : List (Key × D)} {k v : D} {y : Key} (h : S[n]? = some (.dic kvs)) (hk : keyOf k = some y) (hz : kvs.length < sizeLine) : dPut (.cel n) k v S = some (S.set n (.dic (setK kvs y v))) := by
  unfold dPut
  dsimp only
  rw [h]
  dsimp only
  rw [hk]
  dsimp only
  rw [if_pos hz]
theorem dLen_dic {n : Nat} {kvs : List (Key × D)} {S : Sto} (h : S[n]? = some (.dic kvs)) : dLen [.cel n] S = some (.a (.int kvs.length), S) := by
  unfold dLen itemsOf
  dsimp only
  rw [h]
@[simp] theorem keyOf_str (x : Str) : keyOf (.a (.str x)) = some (.inr x) := (rfl)
@[simp] theorem keyOf_int (x : Int) : keyOf (.a (.int x)) = some (.inl x) := (rfl)
theorem dAppend_lst {n : Nat} {ds : List D} {d : D} {S : Sto} (h : S[n]? = some (.lst ds)) (hz : ds.length + 1 ≤ sizeLine) : dAppend (.cel n) [d] S = some (.a .non, S.set n (.lst (ds ++ [d]))) := by
  unfold dAppend
  dsimp only
  rw [h]
  dsimp only
  rw [if_pos (by omega)]
theorem dIn_lst {n : Nat} {ds : List D} {x : D} {b : Bool} {S : Sto} (h : S[n]? = some (.lst ds)) (hb : seqIn x ds = some b) : dIn x (.cel n) S = some (.a (.bl b), S) := by
  unfold dIn dInB
  dsimp only
  rw [h]
  dsimp only
  rw [hb]
  rfl
theorem dNotIn_lst {n : Nat} {ds : List D} {x : D} {b : Bool} {S : Sto} (h : S[n]? = some (.lst ds)) (hb : seqIn x ds = some b) : dNotIn x (.cel n) S = some (.a (.bl (!b)), S) := by
  unfold dNotIn dInB
  dsimp only
  rw [h]
  dsimp only
  rw [hb]
  rfl
theorem atoms_strs : ∀ xs : List Str, atoms (xs.map fun x => D.a (.str x)) = some (xs.map V.str)
  | [] => rfl
  | x :: r => by
    rw [List.map_cons, List.map_cons]
    unfold atoms
    rw [atoms_strs r]
    rfl
theorem inV_strs (w : Str) (xs : List Str) : inV (.str w) (xs.map V.str) = decide (w ∈ xs) := by
  unfold inV
  rw [List.any_map, Bool.eq_iff_iff, List.any_eq_true, decide_eq_true_iff]
  constructor
  · rintro ⟨x, hx, e⟩
    have : x = w := by simpa [eqV] using e
    rw [← this]
    exact hx
  · intro h
    exact ⟨w, h, by simp [eqV]⟩
/-- a text among texts -/
theorem seqIn_strs (w : Str) (xs : List Str) : seqIn (.a (.str w)) (xs.map fun x => D.a (.str x)) = some (decide (w ∈ xs)) := by
  unfold seqIn
  dsimp only
  rw [atoms_strs, Option.bind_some, if_pos ⟨rfl, by rw [List.all_map, List.all_eq_true]; exact fun _ _ => rfl⟩, inV_strs]
/-! ### slices -/
theorem cutL_all {α : Type} (xs : List α) : cutL xs none none = xs := by
  unfold cutL
  simp [HT.sIx_none]
theorem cutL_neg1 {α : Type} (xs : List α) (x : α) : cutL (xs ++ [x]) none (some (-1)) = xs := by
  unfold cutL
  rw [HT.sIx_none]
  have : HT.sIx (xs ++ [x]).length (xs ++ [x]).length (some (-1)) = xs.length := by
    simp [HT.sIx]
    omega
  rw [this]
  simp
end G
set_option maxRecDepth 100000
set_option exponentiation.threshold 600
/-! The plain layer H, part 11: walks over lists that stand; deep equality; levels. -/
namespace G
open PySem PySem.Spec PyProof.Rows L2

section
variable {K : SR → Prop} {g : Gd}
theorem forH_nil {all : List D} {t : TgX} {body : SX} {env : Slots} {S : Sto} (h : held g all S) : forGo g all t body [] env S = .nx env S := by
  unfold forGo
  rw [if_pos h]
theorem forH_cons {all : List D} {i : Nat} {body : SX} {d : D} {r : List D} {env : Slots} {S : Sto} (h : held g all S) : forGo g all (gN i) body (d :: r) env S = forB (body (env.set i (some d)) S) (forGo g all (gN i) body r) := by
  conv => lhs; unfold forGo
  rw [if_pos h]
  simp only [gN_eq]
  cases body (env.set i (some d)) S <;> rfl
theorem forH_wpG {all : List D} {i : Nat} {body : SX} (Inv : Nat → Slots → Sto → Prop) (hh : ∀ j env S, Inv j env S → held g all S) : ∀ (r : List D) (n : Nat) (env : Slots) (S : Sto), Inv n env S →
    (∀ j d env S, r[j]? = some d → Inv (n + j) env S → Ws (lpK (Inv (n + j + 1)) K) (body (env.set i (some d)) S)) →
    (∀ env S, Inv (n + r.length) env S → K (.nx env S)) → Ws K (forGo g all (gN i) body r env S)
  | [], n, env, S, h0, _, he => by
    rw [forH_nil (hh _ _ _ h0)]
    exact he env S h0
  | d :: r, n, env, S, h0, hs, he => by
    rw [forH_cons (hh _ _ _ h0)]
    have h1 := hs 0 d env S (by simp) h0
    have rest : ∀ env' S', Inv (n + 0 + 1) env' S' → Ws K (forGo g all (gN i) body r env' S') := fun env' S' h => by
      refine forH_wpG Inv hh r (n + 1) env' S' h (fun j d' env S hd hi => ?_) fun env S hi => he env S ?_
      · have := hs (j + 1) d' env S (by simpa using hd) (by rw [← Nat.add_assoc]; rwa [show n + j + 1 = n + 1 + j by omega])
        rwa [show n + (j + 1) + 1 = n + 1 + j + 1 by omega] at this
      · rw [List.length_cons]
        rwa [show n + (r.length + 1) = n + 1 + r.length by omega]
    cases hb : body (env.set i (some d)) S with
    | nx e s => rw [hb] at h1; exact rest _ _ h1
    | ct e s => rw [hb] at h1; exact rest _ _ h1
    | bk e s => rw [hb] at h1; exact h1
    | rt v s => rw [hb] at h1; exact h1
    | ex x e s => rw [hb] at h1; exact h1
    | bad => rw [hb] at h1; exact h1.elim
/-- a for over a list (or a locked dict) that stands -/
theorem forH_wp {all : List D} {i : Nat} {body : SX} {r : List D} {env : Slots} {S : Sto} (Inv : Nat → Slots → Sto → Prop) (hh : ∀ j env S, Inv j env S → held g all S) (h0 : Inv 0 env S)
    (hs : ∀ j d env S, r[j]? = some d → Inv j env S → Ws (lpK (Inv (j + 1)) K) (body (env.set i (some d)) S))
    (he : ∀ env S, Inv r.length env S → K (.nx env S)) : Ws K (forGo g all (gN i) body r env S) :=
  forH_wpG Inv hh r 0 env S h0 (fun j d env S hd hi => by rw [Nat.zero_add] at hi ⊢; exact hs j d env S hd hi) fun env S h => he env S (by rwa [Nat.zero_add] at h)
end
section
variable {X : Exn → Sto → Prop} {QL : List D → Sto → Prop} {g : Gd}
/-- nothing written, with a test -/
theorem lcH_filter {all : List D} {i : Nat} {elt : EX} {ifs : BX} {env : Slots} {S : Sto} (f : D → D) (p : D → Bool) (hh : held g all S) : ∀ r : List D, (∀ d ∈ r, ifs (env.set i (some d)) S = .ok (p d) S) → (∀ d ∈ r, p d = true → elt (env.set i (some d)) S = .ok (f d) S) → lcGo g all (gN i) ifs elt env r S = .ok ((r.filter p).map f) S
  | [], _, _ => by
    unfold lcGo
    rw [if_pos hh]
    rfl
  | d :: r, hp, h => by
    have ih := lcH_filter (all := all) f p hh r (fun d hd => hp d (List.mem_cons_of_mem _ hd)) fun d hd => h d (List.mem_cons_of_mem _ hd)
    unfold lcGo
    rw [if_pos hh]
    simp only [gN_eq]
    rw [hp d (List.mem_cons_self ..), noX_ok, R.bind_ok]
    cases e : p d with
    | true => rw [cond_true, h d (List.mem_cons_self ..) e, noX_ok, R.bind_ok, ih, R.bind_ok, List.filter_cons_of_pos e]; rfl
    | false => rw [cond_false, ih, List.filter_cons_of_neg (by rw [e]; exact Bool.false_ne_true)]
theorem lcH_map {all : List D} {i : Nat} {elt : EX} {env : Slots} {S : Sto} (f : D → D) (hh : held g all S) (r : List D) (h : ∀ d ∈ r, elt (env.set i (some d)) S = .ok (f d) S) : lcGo g all (gN i) tTrue elt env r S = .ok (r.map f) S := by
  have := lcH_filter (g := g) (all := all) (i := i) (elt := elt) (ifs := tTrue) (env := env) (S := S) f (fun _ => true) hh r (fun _ _ => rfl) fun d hd _ => h d hd
  rw [this, List.filter_eq_self.mpr fun _ _ => rfl]
theorem lcH_wpG {all : List D} {i : Nat} {elt : EX} {env : Slots} (Inv : List D → Sto → Prop) (hh : ∀ ys S, Inv ys S → held g all S) : ∀ (r xs : List D) (S : Sto) {QL : List D → Sto → Prop}, Inv xs S →
    (∀ j d ys S, r[j]? = some d → ys.length = xs.length + j → Inv ys S → Wp nX (fun x S' => Inv (ys ++ [x]) S') (elt (env.set i (some d)) S)) →
    (∀ ys S', Inv (xs ++ ys) S' → ys.length = r.length → QL ys S') → Wp X QL (lcGo g all (gN i) tTrue elt env r S)
  | [], xs, S, QL, h0, _, hq => by
    unfold lcGo
    rw [if_pos (hh _ _ h0)]
    exact hq [] S (by simpa using h0) rfl
  | d :: r, xs, S, QL, h0, hs, hq => by
    unfold lcGo
    rw [if_pos (hh _ _ h0)]
    simp only [gN_eq, tTrue_eq, noX_ok, R.bind_ok, cond_true]
    rw [Wp_bind, Wp_noX]
    refine Wp.use (hs 0 d xs S (by simp) (by simp) h0) fun x S1 h1 => ?_
    rw [Wp_bind]
    refine lcH_wpG Inv hh r (xs ++ [x]) S1 h1 (fun j d' ys S hd hl hi => hs (j + 1) d' ys S (by simpa using hd) (by rw [hl, List.length_append, List.length_singleton]; omega) hi) fun ys S' hi hl => ?_
    exact hq (x :: ys) S' (by simpa using hi) (by rw [List.length_cons, List.length_cons, hl])
/-- [elt for i in xs], xs a list that stands -/
theorem lcH_wp {all : List D} {i : Nat} {elt : EX} {env : Slots} {r : List D} {S : Sto} (Inv : List D → Sto → Prop) (hh : ∀ ys S, Inv ys S → held g all S) (h0 : Inv [] S)
    (hs : ∀ d ys S, r[ys.length]? = some d → Inv ys S → Wp nX (fun x S' => Inv (ys ++ [x]) S') (elt (env.set i (some d)) S))
    (hq : ∀ ys S', Inv ys S' → ys.length = r.length → QL ys S') : Wp X QL (lcGo g all (gN i) tTrue elt env r S) :=
  lcH_wpG Inv hh r [] S h0 (fun j d ys S hd hl hi => hs d ys S (by rw [hl, List.length_nil, Nat.zero_add]; exact hd) hi) fun ys S' hi hl => hq ys S' (by simpa using hi) hl
end
theorem walk_lst {S : Sto} {n : Nat} {ds : List D} (h : S[n]? = some (.lst ds)) : walkOf S (.cel n) = some (ds, some (n, .lst ds)) := by
  unfold walkOf
  dsimp only
  rw [h]
@[simp] theorem walk_tupS (S : Sto) (ds : List D) : walkOf S (.tup ds) = some (ds, none) := (rfl)
theorem held_lst {S : Sto} {n : Nat} {ds all : List D} (h : S[n]? = some (.lst ds)) : held (some (n, .lst ds)) all S := (held_some n _ all S).mpr h
theorem seqR_lst {S : Sto} {n : Nat} {ds : List D} (h : S[n]? = some (.lst ds)) : seqR (.ok (.cel n) S) = .ok (ds, some (n, .lst ds)) S := by
  unfold seqR
  rw [R.bind_ok, walk_lst h]
/-! a dict locked -/
theorem aLock_at {i : Nat} {fl : AX} {env : Slots} {S S1 : Sto} {n : Nat} {kvs : List (Key × D)} {ds : List D} (he : env[i]? = some (some (.cel n))) (h : S[n]? = some (.dic kvs)) (hf : fl env (S.set n (.fdc kvs)) = .ok ds S1) (h1 : S1[n]? = some (.fdc kvs)) :
    aLock i fl env S = .ok ds (S1.set n (.dic kvs)) := by
  unfold aLock
  rw [he]
  dsimp only
  rw [h]
  dsimp only
  rw [hf, noX_ok, R.bind_ok, if_pos h1]
/-- .. nothing written -/
theorem aLock_same {i : Nat} {fl : AX} {env : Slots} {S : Sto} {n : Nat} {kvs : List (Key × D)} {ds : List D} (he : env[i]? = some (some (.cel n))) (h : S[n]? = some (.dic kvs)) (hf : fl env (S.set n (.fdc kvs)) = .ok ds (S.set n (.fdc kvs))) :
    aLock i fl env S = .ok ds S := by
  have hn := get_lt h
  rw [aLock_at he h hf (List.getElem?_set_self hn), List.set_set]
  congr 1
  refine List.ext_getElem? fun j => ?_
  by_cases hj : j = n
  · subst hj
    rw [List.getElem?_set_self hn, h]
  · rw [List.getElem?_set_ne (Ne.symm hj)]
def keyR (r : R D) : R (List D × Gd) := r.bind fun d S1 => match d with
  | .cel n => match S1[n]? with
    | some (.fdc kvs) => .ok (keysD kvs, some (n, .fdc kvs)) S1
    | _ => .bad
  | _ => .bad
@[simp] theorem iKey_eq (f : EX) (env : Slots) (S : Sto) : iKey f env S = keyR (f env S) := (rfl)
theorem keyR_at {n : Nat} {S : Sto} {kvs : List (Key × D)} (h : S[n]? = some (.fdc kvs)) : keyR (.ok (.cel n) S) = .ok (keysD kvs, some (n, .fdc kvs)) S := by
  unfold keyR
  rw [R.bind_ok]
  dsimp only
  rw [h]
def keysOfR (r : R D) : R (List D) := r.bind fun d S1 => match d with
  | .cel n => match S1[n]? with
    | some (.dic kvs) => .ok (keysD kvs) S1
    | _ => .bad
  | _ => .bad
@[simp] theorem aKeysOf_eq (f : EX) (env : Slots) (S : Sto) : aKeysOf f env S = keysOfR (f env S) := (rfl)
theorem keysOfR_at {n : Nat} {S : Sto} {kvs : List (Key × D)} (h : S[n]? = some (.dic kvs)) : keysOfR (.ok (.cel n) S) = .ok (keysD kvs) S := by
  unfold keysOfR
  rw [R.bind_ok]
  dsimp only
  rw [h]
def listOfR (r : R D) : R (List D) := r.bind fun d S1 => match itemsOf S1 d with
  | some ds => .ok ds S1
  | none => .bad
@[simp] theorem aListOf_eq (f : EX) (env : Slots) (S : Sto) : aListOf f env S = listOfR (f env S) := (rfl)
@[simp] theorem listOfR_tup (ds : List D) (S : Sto) : listOfR (.ok (.tup ds) S) = .ok ds S := (rfl)
@[simp] theorem listOfR_ils (ds : List D) (S : Sto) : listOfR (.ok (.ils ds) S) = .ok ds S := (rfl)
theorem listOfR_lst {n : Nat} {ds : List D} {S : Sto} (h : S[n]? = some (.lst ds)) : listOfR (.ok (.cel n) S) = .ok ds S := by
  unfold listOfR itemsOf
  rw [R.bind_ok]
  dsimp only
  rw [h]
@[simp] theorem Wp_listOfR (r : R D) (X : Exn → Sto → Prop) (Q : List D → Sto → Prop) : Wp X Q (listOfR r) ↔ Wp X (fun d S => ∃ ds, itemsOf S d = some ds ∧ Q ds S) r := by
  cases r with
  | ok d S =>
    show Wp X Q (match itemsOf S d with | some ds => .ok ds S | none => .bad) ↔ _
    cases h : itemsOf S d <;> simp [h]
  | _ => exact Iff.rfl
@[simp] theorem items_tup (S : Sto) (ds : List D) : itemsOf S (.tup ds) = some ds := (rfl)
@[simp] theorem dTuple_tup (S : Sto) (ds : List D) : dTuple [.tup ds] S = some (.tup ds, S) := (rfl)
/-! ### deep equality of plain data (no truths) -/
/-- ints, texts, None, tuples of such, n deep -/
def dat : Nat → D → Prop
  | _, .a (.int _) => True
  | _, .a (.str x) => PySem.PyData.strOk x = true
  | _, .a .non => True
  | n + 1, .tup ds => ∀ d ∈ ds, dat n d
  | _, _ => False
theorem dat_mono : ∀ {n m : Nat} {d : D}, n ≤ m → dat n d → dat m d
  | n, m, .a v, _, h => by
    cases v <;> first | (cases m <;> cases n <;> exact h) | (cases n <;> exact h.elim)
  | 0, m, .tup ds, _, h => h.elim
  | n + 1, 0, .tup ds, hl, _ => absurd hl (by omega)
  | n + 1, m + 1, .tup ds, hl, h => fun d hd => dat_mono (by omega) (h d hd)
  | n, m, .ils ds, _, h => by cases n <;> exact h.elim
  | n, m, .cel k, _, h => by cases n <;> exact h.elim
end G
set_option maxRecDepth 100000
set_option exponentiation.threshold 600
/-! The plain layer H, part 12: deep equality of plain data. -/
namespace G
open PySem PySem.Spec PyProof.Rows L2
theorem pdL_cons {d : D} {ds : List D} {x : PyData} {xs : List PyData} (h : pd d = some x) (h2 : pdL ds = some xs) : pdL (d :: ds) = some (x :: xs) := by
  unfold pdL
  rw [h, h2]
theorem dat_pd : ∀ {n : Nat} {d : D}, dat n d → ∃ x, pd d = some x ∧ PyData.canLay0 x = true ∧ x.depth ≤ n
  | n, .a v, h => by
    cases v with
    | int i => exact ⟨_, rfl, rfl, Nat.zero_le _⟩
    | str s => exact ⟨_, rfl, by cases n <;> exact h, Nat.zero_le _⟩
    | non => exact ⟨_, rfl, rfl, Nat.zero_le _⟩
    | _ => cases n <;> exact h.elim
  | 0, .tup ds, h => h.elim
  | n + 1, .tup ds, h => by
    have key : ∀ ds : List D, (∀ d ∈ ds, dat n d) → ∃ xs, pdL ds = some xs ∧ PyData.canLayAll0 xs = true ∧ PyData.depthAll xs ≤ n := fun ds => by
      induction ds with
      | nil => exact fun _ => ⟨[], rfl, rfl, Nat.zero_le _⟩
      | cons d r ih =>
        intro h
        obtain ⟨x, h1, h2, h3⟩ := dat_pd (h d (List.mem_cons_self ..))
        obtain ⟨xs, g1, g2, g3⟩ := ih fun d hd => h d (List.mem_cons_of_mem _ hd)
        refine ⟨x :: xs, pdL_cons h1 g1, ?_, ?_⟩
        · show (PyData.canLay0 x && PyData.canLayAll0 xs) = true
          rw [h2, g2]
          rfl
        · show max (PyData.depth x) (PyData.depthAll xs) ≤ n
          omega
    obtain ⟨xs, h1, h2, h3⟩ := key ds h
    refine ⟨.tuple xs, ?_, h2, ?_⟩
    · unfold pd
      rw [h1]
      rfl
    · show PyData.depthAll xs + 1 ≤ n + 1
      omega
  | n, .ils ds, h => by cases n <;> exact h.elim
  | n, .cel k, h => by cases n <;> exact h.elim
theorem pdL_inv {d : D} {ds : List D} {zs : List PyData} (h : pdL (d :: ds) = some zs) : ∃ x xs, pd d = some x ∧ pdL ds = some xs ∧ zs = x :: xs := by
  unfold pdL at h
  cases h1 : pd d with
  | none => rw [h1] at h; cases h
  | some x =>
    cases h2 : pdL ds with
    | none => rw [h1, h2] at h; cases h
    | some xs =>
      rw [h1, h2] at h
      cases h
      exact ⟨x, xs, rfl, rfl, rfl⟩
theorem dat_eqv : ∀ {n : Nat} {d e : D} {x y : PyData}, dat n d → dat n e → pd d = some x → pd e = some y → (PyData.eqv x y = true ↔ d = e)
  | n, .a v, .a w, x, y, h1, h2, e1, e2 => by
    cases v with
    | int i =>
      cases w with
      | int j =>
        cases e1; cases e2
        show (i == j) = true ↔ _
        simp
      | str j => cases e1; cases e2; exact ⟨fun h => (Bool.false_ne_true h).elim, fun h => (by cases h)⟩
      | non => cases e1; cases e2; exact ⟨fun h => (Bool.false_ne_true h).elim, fun h => (by cases h)⟩
      | _ => cases n <;> exact h2.elim
    | str i =>
      cases w with
      | str j =>
        cases e1; cases e2
        show (i == j) = true ↔ _
        simp
      | int j => cases e1; cases e2; exact ⟨fun h => (Bool.false_ne_true h).elim, fun h => (by cases h)⟩
      | non => cases e1; cases e2; exact ⟨fun h => (Bool.false_ne_true h).elim, fun h => (by cases h)⟩
      | _ => cases n <;> exact h2.elim
    | non =>
      cases w with
      | non => cases e1; cases e2; exact ⟨fun _ => rfl, fun _ => rfl⟩
      | int j => cases e1; cases e2; exact ⟨fun h => (Bool.false_ne_true h).elim, fun h => (by cases h)⟩
      | str j => cases e1; cases e2; exact ⟨fun h => (Bool.false_ne_true h).elim, fun h => (by cases h)⟩
      | _ => cases n <;> exact h2.elim
    | _ => cases n <;> exact h1.elim
  | n, .a v, .tup es, x, y, h1, h2, e1, e2 => by
    obtain ⟨ys, h3, rfl⟩ : ∃ ys, pdL es = some ys ∧ y = .tuple ys := by
      unfold pd at e2
      cases h : pdL es with
      | none => rw [h] at e2; cases e2
      | some ys => rw [h] at e2; cases e2; exact ⟨ys, rfl, rfl⟩
    cases v with
    | int i => cases e1; exact ⟨fun h => (Bool.false_ne_true h).elim, fun h => by cases h⟩
    | str i => cases e1; exact ⟨fun h => (Bool.false_ne_true h).elim, fun h => by cases h⟩
    | non => cases e1; exact ⟨fun h => (Bool.false_ne_true h).elim, fun h => by cases h⟩
    | _ => cases n <;> exact h1.elim
  | n, .tup es, .a v, x, y, h1, h2, e1, e2 => by
    obtain ⟨ys, h3, rfl⟩ : ∃ ys, pdL es = some ys ∧ x = .tuple ys := by
      unfold pd at e1
      cases h : pdL es with
      | none => rw [h] at e1; cases e1
      | some ys => rw [h] at e1; cases e1; exact ⟨ys, rfl, rfl⟩
    cases v with
    | int i => cases e2; exact ⟨fun h => (Bool.false_ne_true h).elim, fun h => by cases h⟩
    | str i => cases e2; exact ⟨fun h => (Bool.false_ne_true h).elim, fun h => by cases h⟩
    | non => cases e2; exact ⟨fun h => (Bool.false_ne_true h).elim, fun h => by cases h⟩
    | _ => cases n <;> exact h2.elim
  | 0, .tup ds, .tup es, _, _, h, _, _, _ => h.elim
  | n + 1, .tup ds, .tup es, x, y, h1, h2, e1, e2 => by
    have key : ∀ (ds es : List D) (xs ys : List PyData), (∀ d ∈ ds, dat n d) → (∀ d ∈ es, dat n d) → pdL ds = some xs → pdL es = some ys → (PyData.eqvAll xs ys = true ↔ ds = es) := fun ds => by
      induction ds with
      | nil =>
        intro es xs ys _ _ h1 h2
        cases h1
        cases es with
        | nil => cases h2; exact ⟨fun _ => rfl, fun _ => rfl⟩
        | cons e r =>
          obtain ⟨y, ys', _, _, rfl⟩ := pdL_inv h2
          exact ⟨fun h => (Bool.false_ne_true h).elim, fun h => by cases h⟩
      | cons d r ih =>
        intro es xs ys g1 g2 h1 h2
        obtain ⟨x, xs', q1, q2, rfl⟩ := pdL_inv h1
        cases es with
        | nil => cases h2; exact ⟨fun h => (Bool.false_ne_true h).elim, fun h => by cases h⟩
        | cons e t =>
          obtain ⟨y, ys', q3, q4, rfl⟩ := pdL_inv h2
          show (PyData.eqv x y && PyData.eqvAll xs' ys') = true ↔ _
          rw [Bool.and_eq_true, dat_eqv (g1 d (List.mem_cons_self ..)) (g2 e (List.mem_cons_self ..)) q1 q3,
            ih t xs' ys' (fun d hd => g1 d (List.mem_cons_of_mem _ hd)) (fun d hd => g2 d (List.mem_cons_of_mem _ hd)) q2 q4]
          exact ⟨fun ⟨a, b⟩ => by rw [a, b], fun h => by cases h; exact ⟨rfl, rfl⟩⟩
    obtain ⟨xs, q1, rfl⟩ : ∃ ys, pdL ds = some ys ∧ x = .tuple ys := by
      unfold pd at e1
      cases h : pdL ds with
      | none => rw [h] at e1; cases e1
      | some ys => rw [h] at e1; cases e1; exact ⟨ys, rfl, rfl⟩
    obtain ⟨ys, q2, rfl⟩ : ∃ ys, pdL es = some ys ∧ y = .tuple ys := by
      unfold pd at e2
      cases h : pdL es with
      | none => rw [h] at e2; cases e2
      | some ys => rw [h] at e2; cases e2; exact ⟨ys, rfl, rfl⟩
    show PyData.eqvAll xs ys = true ↔ _
    rw [key ds es xs ys h1 h2 q1 q2]
    exact ⟨fun h => by rw [h], fun h => by cases h; rfl⟩
  | n, .ils ds, _, _, _, h, _, _, _ => by cases n <;> exact h.elim
  | n, .cel k, _, _, _, h, _, _, _ => by cases n <;> exact h.elim
  | n, .a _, .ils ds, _, _, _, h, _, _ => by cases n <;> exact h.elim
  | n, .a _, .cel k, _, _, _, h, _, _ => by cases n <;> exact h.elim
  | n, .tup _, .ils ds, _, _, _, h, _, _ => by cases n <;> exact h.elim
  | n, .tup _, .cel k, _, _, _, h, _, _ => by cases n <;> exact h.elim
open Classical in
/-- == of plain data -/
theorem eqD_dat {n : Nat} {d e : D} {S : Sto} (h1 : dat n d) (h2 : dat n e) (hn : n ≤ 64) : eqD S d e = some (decide (d = e)) := by
  obtain ⟨x, p1, c1, d1⟩ := dat_pd h1
  obtain ⟨y, p2, c2, d2⟩ := dat_pd h2
  have ev := dat_eqv h1 h2 p1 p2
  have main : (match pdS S d, pdS S e with
    | some d, some e => if SeqAt.shaped d = true ∧ SeqAt.shaped e = true then some (PyData.eqv d e) else none
    | _, _ => none) = some (decide (d = e)) := by
    have s1 : pdS S d = some x := by
      cases d with
      | cel k => cases n <;> exact h1.elim
      | _ => exact p1
    have s2 : pdS S e = some y := by
      cases e with
      | cel k => cases n <;> exact h2.elim
      | _ => exact p2
    rw [s1, s2]
    dsimp only
    rw [if_pos ⟨Bool.and_eq_true_iff.mpr ⟨c1, decide_eq_true (by omega)⟩, Bool.and_eq_true_iff.mpr ⟨c2, decide_eq_true (by omega)⟩⟩]
    congr 1
    rw [Bool.eq_iff_iff, ev, decide_eq_true_iff]
  unfold eqD
  split
  · rename_i i j
    congr 1
    rw [Bool.eq_iff_iff, decide_eq_true_iff, decide_eq_true_iff]
    simp
  · rename_i i j
    congr 1
    rw [Bool.eq_iff_iff, decide_eq_true_iff, decide_eq_true_iff]
    simp
  · rename_i i j
    cases n <;> exact h1.elim
  · exact main
open Classical in
theorem dEq_dat {n : Nat} {d e : D} {S : Sto} (h1 : dat n d) (h2 : dat n e) (hn : n ≤ 64) : dEq d e S = some (.a (.bl (decide (d = e))), S) := by
  unfold dEq
  rw [eqD_dat h1 h2 hn]
  rfl
open Classical in
theorem dNe_dat {n : Nat} {d e : D} {S : Sto} (h1 : dat n d) (h2 : dat n e) (hn : n ≤ 64) : dNe d e S = some (.a (.bl (!decide (d = e))), S) := by
  unfold dNe
  rw [eqD_dat h1 h2 hn]
  rfl
theorem dat_noC : ∀ {n : Nat} {d : D}, dat n d → noC d
  | _, .a v, _ => noC_atom v
  | 0, .tup ds, h => h.elim
  | n + 1, .tup ds, h => noC_tup fun d hd => dat_noC (h d hd)
  | n, .ils ds, h => by cases n <;> exact h.elim
  | n, .cel k, h => by cases n <;> exact h.elim
theorem lv2 {j : Nat} (h : 2 ≤ j) : ∃ k, j = k + 2 := ⟨j - 2, by omega⟩
end G
set_option maxRecDepth 100000
set_option exponentiation.threshold 600
/-! The plain layer H, part 13: in, for lists just made; new cells. -/
namespace G
open PySem PySem.Spec PyProof.Rows L2
@[simp] theorem seqIn_nil (w : V) : seqIn (.a w) [] = if flatV w = true then some false else none := by
  unfold seqIn
  dsimp only
  unfold atoms
  cases h : flatV w <;> simp [h, inV]
theorem flat_str (w : Str) : flatV (.str w) = true := rfl
@[simp] theorem seqIn_str (w a : Str) (r : List D) : seqIn (.a (.str w)) (.a (.str a) :: r) = (seqIn (.a (.str w)) r).map fun b => decide (w = a) || b := by
  unfold seqIn
  dsimp only
  conv => lhs; unfold atoms
  cases h : atoms r with
  | none => rfl
  | some vs =>
    simp only [Option.map_some, Option.bind_some, List.all_cons, flat_str, Bool.true_and, true_and]
    by_cases hv : vs.all flatV = true
    · rw [if_pos hv, if_pos hv, Option.map_some]
      congr 1
      show (eqV (.str a) (.str w) || inV (.str w) vs) = _
      congr 1
      show (a == w) = _
      rw [Bool.eq_iff_iff, beq_iff_eq, decide_eq_true_iff]
      exact eq_comm
    · rw [if_neg hv, if_neg hv]
      rfl
theorem seqIn_str0 (w : Str) : seqIn (.a (.str w)) [] = some false := by simp [flat_str]
@[simp] theorem flatV_str (w : Str) : flatV (.str w) = true := rfl
@[simp] theorem dIn_new (w : V) (S : Sto) (ds : List D) : dIn (.a w) (.cel S.length) (S ++ [.lst ds]) = (seqIn (.a w) ds).map fun b => (.a (.bl b), S ++ [.lst ds]) := by
  unfold dIn dInB
  dsimp only
  rw [get_new]
@[simp] theorem dIn_tup (w : V) (S : Sto) (ds : List D) : dIn (.a w) (.tup ds) S = (seqIn (.a w) ds).map fun b => (.a (.bl b), S) := (rfl)
@[simp] theorem dNotIn_tup (w : V) (S : Sto) (ds : List D) : dNotIn (.a w) (.tup ds) S = (seqIn (.a w) ds).map fun b => (.a (.bl (!b)), S) := by
  show ((seqIn (.a w) ds).map fun b => (D.a (.bl (!b)), S)) = _
  rfl
@[simp] theorem dTuple_new (S : Sto) (ds : List D) : dTuple [.cel S.length] (S ++ [.lst ds]) = some (.tup ds, S ++ [.lst ds]) := dTuple_lst get_new
@[simp] theorem dIx_new (S : Sto) (ds : List D) (k : Int) : dIx (.cel S.length) (.a (.int k)) (S ++ [.lst ds]) = (atI ds k).map fun d => (d, S ++ [.lst ds]) := dIx_lst get_new
@[simp] theorem dLen_new (S : Sto) (ds : List D) : dLen [.cel S.length] (S ++ [.lst ds]) = some (.a (.int ds.length), S ++ [.lst ds]) := dLen_lst get_new
/-- Fix, in steps -/
theorem Fix.app {S S' : Sto} (f : Fix S S') (l : List Cell) : Fix S (S' ++ l) := f.trans Fix.push
theorem Fix.setn {S S' : Sto} (f : Fix S S') {n : Nat} {c : Cell} (h : S.length ≤ n) : Fix S (S'.set n c) := ⟨by rw [List.length_set]; exact f.len, fun i hi => by rw [List.getElem?_set_ne (by omega)]; exact f.at_ i hi⟩
theorem dIn_fdic {n : Nat} {S : Sto} {kvs : List (Key × D)} {k : D} {y : Key} (h : S[n]? = some (.dic kvs)) (hk : keyOf k = some y) : dIn k (.cel n) S = some (.a (.bl (getK kvs y).isSome), S) := dIn_dic h hk
/-- a list just made is added to -/
theorem append_new {S : Sto} {ds : List D} {d : D} (h : ds.length + 1 ≤ sizeLine) : dAppend (.cel S.length) [d] (S ++ [.lst ds]) = some (.a .non, S ++ [.lst (ds ++ [d])]) := by
  rw [dAppend_lst get_new h]
  simp
theorem isTy_new (S : Sto) (ds : List D) : isTy "list" (.cel S.length) (S ++ [.lst ds]) = true := isTy_lst get_new
theorem lo_of_noC {n : Nat} {d : D} (h : noC d) : D.lo n d = true := h n
end G
set_option maxRecDepth 100000
set_option exponentiation.threshold 600
/-! The plain layer H, part 14: comprehensions whose results are told one by one. -/
namespace G
open PySem PySem.Spec PyProof.Rows L2
theorem lcH_list {g : Gd} {all : List D} {i : Nat} {elt : EX} {env : Slots} {S : Sto} (hh : held g all S) : ∀ (r rs : List D), r.length = rs.length → (∀ (j : Nat) (d x : D), r[j]? = some d → rs[j]? = some x → elt (env.set i (some d)) S = .ok x S) → lcGo g all (gN i) tTrue elt env r S = .ok rs S
  | [], [], _, _ => by
    unfold lcGo
    rw [if_pos hh]
  | d :: r, x :: rs, hl, h => by
    have ih := lcH_list (all := all) (i := i) (elt := elt) (env := env) hh r rs (by simpa using hl) fun j d' x' h1 h2 => h (j + 1) d' x' (by simpa using h1) (by simpa using h2)
    unfold lcGo
    rw [if_pos hh]
    simp only [gN_eq, tTrue_eq, noX_ok, R.bind_ok, cond_true]
    rw [h 0 d x rfl rfl, noX_ok, R.bind_ok, ih, R.bind_ok]
theorem held_none' (all : List D) (S : Sto) : held none all S := (held_none _ _).mpr trivial
/-- truths as data -/
def bls (bs : List Bool) : List D := bs.map fun b => .a (.bl b)
theorem asBls_bls : ∀ bs, asBls (bls bs) = some bs
  | [] => rfl
  | b :: r => by
    show asBls (.a (.bl b) :: bls r) = _
    unfold asBls
    rw [asBls_bls r]
    rfl
@[simp] theorem tAll_bls (bs : List Bool) (S : Sto) : tAll (bls bs) S = some (.a (.bl (bs.all id)), S) := by
  unfold tAll
  rw [asBls_bls]
  rfl
@[simp] theorem tAny_bls (bs : List Bool) (S : Sto) : tAny (bls bs) S = some (.a (.bl (bs.any id)), S) := by
  unfold tAny
  rw [asBls_bls]
  rfl
theorem rangeL_at {lo : Int} {n i : Nat} {d : D} (h : (rangeL lo n)[i]? = some d) : d = .a (.int (lo + (i : Nat))) := (rangeL_get h).2
theorem iR2b_nat {i j : Nat} (S : Sto) (h : i ≤ 100000) (h2 : j ≤ 100000) : iR2b (.ok (.a (.int (j : Nat))) S) (.a (.int (i : Nat))) = .ok (rangeL (i : Nat) (j - i), none) S := by
  rw [iR2b_ok _ (by omega)]
  rw [show ((j : Int) - (i : Int)).toNat = j - i by omega]
theorem lcR_at {ds : List D} {t : TgX} {ifs : BX} {elt : EX} {env : Slots} {S : Sto} {g : Gd} {r : R (List D)} (h : ds.length ≤ 100000) (h2 : lcGo g ds t ifs elt env ds S = r) : lcR (.ok (ds, g) S) t ifs elt env lcGo = r := by
  rw [lcR_ok (small_line h), h2]
end G
set_option maxRecDepth 100000
set_option exponentiation.threshold 600
/-! The plain layer H, part 15: defs that make something that is told by what holds of it. -/
namespace G
open PySem PySem.Spec PyProof.Rows L2
section
variable {n N : Nat} {b : SX} {ds : List D} {S : Sto}
theorem def_detLx {Pc : Cell → Prop} (h : ds.length = n) (hc : Clo S) (hlo : ∀ c, Pc c → Cell.lo S.length c = true)
    (hb : Ws (RtP fun d' S' => ∃ k c, d' = .cel k ∧ S.length ≤ k ∧ S'[k]? = some c ∧ Pc c ∧ Fix S S') (b (ds.map some ++ List.replicate (N - ds.length) none) S)) : ∃ c, Pc c ∧ defSem n N b ds S = .ok (.cel S.length) (S ++ [c]) := by
  cases hr : b (ds.map some ++ List.replicate (N - ds.length) none) S with
  | rt d' S' =>
    rw [hr] at hb
    obtain ⟨k, c, rfl, h1, h2, h3, f⟩ := hb
    exact ⟨c, h3, def_detL h hc (hlo c h3) (by rw [hr]; exact ⟨k, rfl, h1, h2, f⟩)⟩
  | nx env S' =>
    rw [hr] at hb
    obtain ⟨k, c, e, _⟩ := hb
    cases e
  | bk _ _ => rw [hr] at hb; exact hb.elim
  | ct _ _ => rw [hr] at hb; exact hb.elim
  | ex _ _ _ => rw [hr] at hb; exact hb.elim
  | bad => rw [hr] at hb; exact hb.elim
theorem def_detx {P : D → Prop} (h : ds.length = n) (hc : Clo S) (hlo : ∀ d, P d → D.lo S.length d = true)
    (hb : Ws (RtP fun d' S' => P d' ∧ Fix S S') (b (ds.map some ++ List.replicate (N - ds.length) none) S)) : ∃ d, P d ∧ defSem n N b ds S = .ok d S := by
  cases hr : b (ds.map some ++ List.replicate (N - ds.length) none) S with
  | rt d' S' =>
    rw [hr] at hb
    exact ⟨d', hb.1, def_det h hc (hlo _ hb.1) (by rw [hr]; exact ⟨rfl, hb.2⟩)⟩
  | nx env S' =>
    rw [hr] at hb
    exact ⟨_, hb.1, def_det h hc (hlo _ hb.1) (by rw [hr]; exact ⟨rfl, hb.2⟩)⟩
  | bk _ _ => rw [hr] at hb; exact hb.elim
  | ct _ _ => rw [hr] at hb; exact hb.elim
  | ex _ _ _ => rw [hr] at hb; exact hb.elim
  | bad => rw [hr] at hb; exact hb.elim
/-! with the end's wish as a word of its own -/
theorem def_detLk {Pc : Cell → Prop} (h : ds.length = n) (hc : Clo S) (hlo : ∀ c, Pc c → Cell.lo S.length c = true)
    (hb : ∀ K : SR → Prop, (∀ k c S', S.length ≤ k → S'[k]? = some c → Pc c → Fix S S' → K (.rt (.cel k) S')) → Ws K (b (ds.map some ++ List.replicate (N - ds.length) none) S)) : ∃ c, Pc c ∧ defSem n N b ds S = .ok (.cel S.length) (S ++ [c]) :=
  def_detLx h hc hlo (hb _ fun k c S' h1 h2 h3 f => ⟨k, c, rfl, h1, h2, h3, f⟩)
theorem def_detk {P : D → Prop} (h : ds.length = n) (hc : Clo S) (hlo : ∀ d, P d → D.lo S.length d = true)
    (hb : ∀ K : SR → Prop, (∀ d S', P d → Fix S S' → K (.rt d S')) → Ws K (b (ds.map some ++ List.replicate (N - ds.length) none) S)) : ∃ d, P d ∧ defSem n N b ds S = .ok d S :=
  def_detx h hc hlo (hb _ fun d S' h1 f => ⟨h1, f⟩)
theorem def_drk {P : D → Prop} (h : ds.length = n) (h0 : Dx [] S S) (hlo : ∀ d, P d → D.lo S.length d = true)
    (hb : ∀ K : SR → Prop, (∀ d S', P d → Dx [] S S' → K (.rt d S')) → Ws K (b (ds.map some ++ List.replicate (N - ds.length) none) S)) :
    Wp nX (fun d S' => P d ∧ Dr [] S S') (defSem n N b ds S) :=
  def_dr h h0 (hb _ fun d S' h1 f => ⟨h1, hlo d h1, f⟩)
theorem def_drLk {Pc : Cell → Prop} (h : ds.length = n) (h0 : Dx [] S S) (hlo : ∀ c, Pc c → Cell.lo S.length c = true)
    (hb : ∀ K : SR → Prop, (∀ k c S', S.length ≤ k → S'[k]? = some c → Pc c → Dx [] S S' → K (.rt (.cel k) S')) → Ws K (b (ds.map some ++ List.replicate (N - ds.length) none) S)) :
    Wp nX (fun d S' => ∃ c S1, d = .cel S.length ∧ S' = S1 ++ [c] ∧ Pc c ∧ Cell.lo S.length c = true ∧ Dr [] S S1) (defSem n N b ds S) :=
  def_drL h h0 (hb _ fun k c S' h1 h2 h3 f => ⟨k, c, rfl, h1, h2, h3, hlo c h3, f⟩)
end
theorem walk_new {S : Sto} {ds : List D} : walkOf (S ++ [.lst ds]) (.cel S.length) = some (ds, some (S.length, .lst ds)) := walk_lst get_new
theorem Ws_eq {K : SR → Prop} {r r' : SR} (h : r = r') (hk : Ws K r') : Ws K r := by rw [h]; exact hk
end G
set_option maxRecDepth 100000
set_option exponentiation.threshold 600
/-! The plain layer H, part 16: a block statement by statement, what holds being told. -/
namespace G
open PySem PySem.Spec PyProof.Rows L2
section
variable {K : SR → Prop} {f : EX} {g a b : SX} {c : BX} {env : Slots} {S : Sto} {n : Nat} {r : R D} {rb : R Bool} {P : D → Sto → Prop} {PB : Bool → Sto → Prop}
theorem w_set (e : f env S = r) (h : Wp nX P r) (k : ∀ d S', P d S' → Ws K (g (env.set n (some d)) S')) : Ws K (sSeq (sSet n f) g env S) := by
  rw [sSeq_eq, Ws_sq, sSet_eq, Ws_setR, e]
  exact h.use fun d S' hp => k d S' hp
theorem w_sete {d : D} {S' : Sto} (e : f env S = .ok d S') (k : Ws K (g (env.set n (some d)) S')) : Ws K (sSeq (sSet n f) g env S) := by
  rw [sSeq_eq, sSet_eq, e, setR_ok, sq_nx]
  exact k
theorem w_ret (e : f env S = r) (h : Wp nX P r) (k : ∀ d S', P d S' → K (.rt d S')) : Ws K (sSeq (sRet f) g env S) := by
  rw [sSeq_eq, Ws_sq, sRet_eq, Ws_retR, e]
  exact h.use fun d S' hp => k d S' hp
theorem w_rete {d : D} {S' : Sto} (e : f env S = .ok d S') (k : K (.rt d S')) : Ws K (sSeq (sRet f) g env S) := by
  rw [sSeq_eq, sRet_eq, e, retR_ok, sq_rt]
  exact k
theorem w_do (e : f env S = r) (h : Wp nX P r) (k : ∀ d S', P d S' → Ws K (g env S')) : Ws K (sSeq (sDo f) g env S) := by
  rw [sSeq_eq, Ws_sq, sDo_eq, Ws_doR, e]
  exact h.use fun d S' hp => k d S' hp
theorem w_doe {d : D} {S' : Sto} (e : f env S = .ok d S') (k : Ws K (g env S')) : Ws K (sSeq (sDo f) g env S) := by
  rw [sSeq_eq, sDo_eq, e, doR_ok, sq_nx]
  exact k
theorem w_seq (k : Ws K (sSeq a (sSeq b g) env S)) : Ws K (sSeq (sSeq a b) g env S) := by
  rw [sSeq_eq, sSeq_eq, sq_assoc]
  exact k
theorem w_nil (k : Ws K (g env S)) : Ws K (sSeq sNil g env S) := k
theorem w_if (h : Wp nX PB (c env S)) (k1 : ∀ S', PB true S' → Ws K (sSeq a g env S')) (k2 : ∀ S', PB false S' → Ws K (sSeq b g env S')) : Ws K (sSeq (sIf c a b) g env S) := by
  obtain ⟨x, S', e, hp⟩ := h.get
  rw [sSeq_eq, sIf_eq, e]
  cases x with
  | true => rw [ifR_t]; exact k1 S' hp
  | false => rw [ifR_f]; exact k2 S' hp
theorem w_ife {x : Bool} {S' : Sto} (e : c env S = .ok x S') (k1 : x = true → Ws K (sSeq a g env S')) (k2 : x = false → Ws K (sSeq b g env S')) : Ws K (sSeq (sIf c a b) g env S) := by
  rw [sSeq_eq, sIf_eq, e]
  cases x with
  | true => rw [ifR_t]; exact k1 rfl
  | false => rw [ifR_f]; exact k2 rfl
theorem w_ift {S' : Sto} (e : c env S = .ok true S') (k1 : Ws K (sSeq a g env S')) : Ws K (sSeq (sIf c a b) g env S) := w_ife e (fun _ => k1) fun h => by cases h
theorem w_iff {S' : Sto} (e : c env S = .ok false S') (k1 : Ws K (sSeq b g env S')) : Ws K (sSeq (sIf c a b) g env S) := w_ife e (fun h => by cases h) fun _ => k1
theorem w_put {fv fo fi : EX} {v o i : D} {S1 S2 S3 S4 : Sto} (hv : fv env S = .ok v S1) (ho : fo env S1 = .ok o S2) (hi : fi env S2 = .ok i S3) (hp : dPut o i v S3 = some S4) (k : Ws K (g env S4)) : Ws K (sSeq (sPut fv fo fi) g env S) := by
  rw [sSeq_eq, sPut_eq, hv, put1_ok, ho, put2_ok, hi, put3_ok, hp, nxS_some, sq_nx]
  exact k
theorem w_asg {t : TgX} {d : D} {S1 S' : Sto} {env' : Slots} (h : f env S = .ok d S1) (ht : t d env S1 = some (env', S')) (k : Ws K (g env' S')) : Ws K (sSeq (sAsg f t) g env S) := by
  rw [sSeq_eq, sAsg_eq, h, asgR_ok, ht, nxO_some, sq_nx]
  exact k
/-- a for: the loop's own promise, then the rest -/
theorem w_for {it : IX} {t : TgX} {ds : List D} {gg : Gd} {S1 : Sto} (h : it env S = .ok (ds, gg) S1) (hl : Ws (sqK K g) (forGo gg ds t b ds env S1)) : Ws K (sSeq (sFor it t b) g env S) := by
  rw [sSeq_eq, Ws_sq, sFor_eq, h, forR_ok]
  exact hl
theorem w_forx {it : IX} {t : TgX} {PW : List D × Gd → Sto → Prop} (h : Wp nX PW (it env S)) (hl : ∀ w S1, PW w S1 → Ws (sqK K g) (forGo w.2 w.1 t b w.1 env S1)) : Ws K (sSeq (sFor it t b) g env S) := by
  obtain ⟨w, S1, e, hp⟩ := h.get
  obtain ⟨ds, gg⟩ := w
  exact w_for e (hl _ _ hp)
theorem w_while {cc : BX} {body : SX} (h : Ws (sqK K g) (sWhile cc body env S)) : Ws K (sSeq (sWhile cc body) g env S) := by
  rw [sSeq_eq, Ws_sq]
  exact h
theorem sSeq_assoc : sSeq (sSeq a b) g = sSeq a (sSeq b g) := funext fun env => funext fun S => by rw [sSeq_eq, sSeq_eq, sSeq_eq, sq_assoc]
theorem sSeq_nilL : sSeq sNil g = g := rfl
theorem Wp.mono {α : Type} {X X' : Exn → Sto → Prop} {Q Q' : α → Sto → Prop} {r : R α} (h : Wp X' Q' r) (hq : ∀ x S, Q' x S → Q x S) (hx : ∀ e S, X' e S → X e S := by exact fun _ _ h => h) : Wp X Q r := h.use hq hx
end
end G
set_option maxRecDepth 100000
set_option exponentiation.threshold 600
/-! The plain layer H, part 17: letters, texts put together. -/
namespace G
open PySem PySem.Spec PyProof.Rows L2
theorem app_cps {x y : Str} {c : Nat} (h : c ∈ (x ++ y).cps.toList) : c ∈ x.cps.toList ∨ c ∈ y.cps.toList := by
  have : (x ++ y).cps = x.cps ++ y.cps := rfl
  rw [this, Array.toList_append] at h
  exact List.mem_append.mp h
theorem join_cps : ∀ (ys : List Str) (c : Nat), c ∈ (Str.join (Str.ofString "") ys).cps.toList → ∃ y ∈ ys, c ∈ y.cps.toList
  | [], c, h => by
    have : (Str.join (Str.ofString "") []).cps.toList = [] := rfl
    rw [this] at h
    cases h
  | [x], c, h => ⟨x, List.mem_singleton.mpr rfl, h⟩
  | x :: y :: r, c, h => by
    have e : Str.join (Str.ofString "") (x :: y :: r) = x ++ Str.ofString "" ++ Str.join (Str.ofString "") (y :: r) := rfl
    rw [e] at h
    rcases app_cps h with h | h
    · rcases app_cps h with h | h
      · exact ⟨x, List.mem_cons_self .., h⟩
      · have : (Str.ofString "").cps.toList = [] := by decide +kernel
        rw [this] at h
        cases h
    · obtain ⟨z, hz, hc⟩ := join_cps (y :: r) c h
      exact ⟨z, List.mem_cons_of_mem _ hz, hc⟩
theorem tjoin_cps (ys : List Str) (c : Nat) (h : c ∈ (Txt.join (Str.ofString "") ys).cps.toList) : ∃ y ∈ ys, c ∈ y.cps.toList := by
  have e : Txt.join (Str.ofString "") ys = Str.join (Str.ofString "") ys := StrLaws.glued_eq_join _ _
  rw [e] at h
  exact join_cps ys c h
theorem asStrs_map : ∀ ys : List Str, asStrs (ys.map fun y => D.a (.str y)) = some ys
  | [] => rfl
  | y :: r => by
    rw [List.map_cons]
    unfold asStrs
    rw [asStrs_map r]
    rfl
theorem dJoin_lst {n : Nat} {ys : List Str} {S : Sto} (h : S[n]? = some (.lst (ys.map fun y => .a (.str y)))) (hl : (ys.map (·.length)).sum ≤ 100000) : dJoin (.a (.str (Str.ofString ""))) [.cel n] S = some (.a (.str (Txt.join (Str.ofString "") ys)), S) := by
  unfold dJoin itemsOf
  dsimp only
  rw [h]
  dsimp only
  rw [asStrs_map]
  dsimp only
  have z : (Str.ofString "").length = 0 := by decide +kernel
  rw [if_pos (by rw [z, Nat.mul_zero]; omega)]
/-- the small letters -/
abbrev abcS : Str := Str.ofString "abcdefghijklmnopqrstuvwxyz"
theorem abc_ok : abcS.cps.toList.length = 26 ∧ abcS.length = 26 ∧ ∀ c ∈ abcS.cps.toList, 97 ≤ c ∧ c ≤ 122 := by decide +kernel
theorem abc_at {v : Nat} (hv : v < 26) (S : Sto) : ∃ w : Str, dIx (.a (.str abcS)) (.a (.int (v : Int))) S = some (.a (.str w), S) ∧ w.length = 1 ∧ ∀ c ∈ w.cps.toList, 97 ≤ c ∧ c ≤ 122 := by
  obtain ⟨h1, h2, h3⟩ := abc_ok
  have hl : v < abcS.cps.toList.length := by rw [h1]; exact hv
  refine ⟨⟨#[abcS.cps.toList[v]]⟩, ?_, rfl, fun c hc => ?_⟩
  · show (if abcS.length ≤ sizeLine then _ else none) = _
    rw [if_pos (small_line (by rw [h2]; decide)), atI_nat hl]
    rfl
  · have : c = abcS.cps.toList[v] := by simpa using hc
    rw [this]
    exact h3 _ (List.getElem_mem hl)
theorem dAdd_str {x y : Str} {S : Sto} (h : x.length + y.length ≤ 100000) : dAdd (.a (.str x)) (.a (.str y)) S = some (.a (.str (x ++ y)), S) := if_pos (small_line h)
theorem dNotIn_strs {n : Nat} {xs : List Str} {w : Str} {S : Sto} (h : S[n]? = some (.lst (xs.map fun x => .a (.str x)))) : dNotIn (.a (.str w)) (.cel n) S = some (.a (.bl (!decide (w ∈ xs))), S) := dNotIn_lst h (seqIn_strs w xs)
theorem dIn_strs {n : Nat} {xs : List Str} {w : Str} {S : Sto} (h : S[n]? = some (.lst (xs.map fun x => .a (.str x)))) : dIn (.a (.str w)) (.cel n) S = some (.a (.bl (decide (w ∈ xs))), S) := dIn_lst h (seqIn_strs w xs)
theorem def_drGk {ms : List Nat} {n N : Nat} {b : SX} {ds : List D} {S : Sto} {P : D → Sto → Prop} (h : ds.length = n) (h0 : Dx ms S S) (hP : ∀ d S', P d S' → P d (S'.take S.length)) (hlo : ∀ d S', P d S' → D.lo S.length d = true) (hmlo : ∀ d S', P d S' → ∀ r c, r ∈ ms → S'[r]? = some c → Cell.lo S.length c = true)
    (hb : ∀ K : SR → Prop, (∀ d S', P d S' → Dx ms S S' → K (.rt d S')) → Ws K (b (ds.map some ++ List.replicate (N - ds.length) none) S)) :
    Wp nX (fun d S' => P d S' ∧ Dr ms S S') (defSem n N b ds S) :=
  def_drG h h0 hP (hb _ fun d S' h1 f => ⟨h1, hlo d S' h1, f, hmlo d S' h1⟩)
@[simp] theorem isTy_str (z : Str) (S : Sto) : isTy "str" (.a (.str z)) S = true := (beq_self_eq_true "str")
end G
set_option maxRecDepth 100000
set_option exponentiation.threshold 600
/-! k06: expressions and sentences as trees. -/
namespace K06
open PySem PySem.Spec PyProof.Rows L2 G
abbrev I (i : Int) : D := .a (.int i)
abbrev Sx (x : Str) : D := .a (.str x)
abbrev L (s : String) : D := .a (.str (Str.ofString s))
/-- small letters -/
def Wd (w : Str) : Prop := ∀ c ∈ w.cps.toList, 97 ≤ c ∧ c ≤ 122
inductive Ex where
  | num (n : Nat)
  | var (w : Str)
  | op (h : String) (nm : Option Str) (es : List Ex) (tl : List D)
mutual
def enc : Ex → D
  | .num n => I n
  | .var w => Sx w
  | .op h nm es tl => .tup (L h :: (nm.toList.map (fun w => Sx w) ++ (encL es ++ tl)))
def encL : List Ex → List D
  | [] => []
  | e :: r => enc e :: encL r
end
theorem enc_num (n : Nat) : enc (.num n) = I n := (rfl)
theorem enc_var (w : Str) : enc (.var w) = Sx w := (rfl)
theorem enc_op (h : String) (nm : Option Str) (es : List Ex) (tl : List D) : enc (.op h nm es tl) = .tup (L h :: (nm.toList.map (fun w => Sx w) ++ (encL es ++ tl))) := (rfl)
mutual
def ht : Ex → Nat
  | .num _ => 0
  | .var _ => 0
  | .op _ _ es _ => htL es + 1
def htL : List Ex → Nat
  | [] => 0
  | e :: r => max (ht e) (htL r)
end
/-! how many leaves -/
mutual
def nl : Ex → Nat
  | .num _ => 1
  | .var _ => 1
  | .op _ _ es _ => nlL es + 7
def nlL : List Ex → Nat
  | [] => 0
  | e :: r => nl e + nlL r
end
mutual
def fill (f : Str → Str) : Ex → Ex
  | .num n => .num n
  | .var w => .var (f w)
  | .op h nm es tl => .op h (if h = "look" then nm.map f else nm) (fillL f es) tl
def fillL (f : Str → Str) : List Ex → List Ex
  | [] => []
  | e :: r => fill f e :: fillL f r
end
theorem encL_eq : ∀ es, encL es = es.map enc
  | [] => rfl
  | e :: r => by unfold encL; rw [encL_eq r]; rfl
theorem fillL_eq (f : Str → Str) : ∀ es, fillL f es = es.map (fill f)
  | [] => rfl
  | e :: r => by unfold fillL; rw [fillL_eq f r]; rfl
theorem encL_len (es : List Ex) : (encL es).length = es.length := by rw [encL_eq, List.length_map]
theorem htL_le : ∀ {es : List Ex} {e : Ex}, e ∈ es → ht e ≤ htL es
  | x :: r, e, h => by
    unfold htL
    rcases List.mem_cons.mp h with rfl | h
    · omega
    · have := htL_le h
      omega
theorem nlL_le : ∀ {es : List Ex} {e : Ex}, e ∈ es → nl e ≤ nlL es
  | x :: r, e, h => by
    unfold nlL
    rcases List.mem_cons.mp h with rfl | h
    · omega
    · have := nlL_le h
      omega
def opsL : List String := ["plus", "minus", "times", "div", "rem", "least", "greatest", "same", "below"]
/-- head, name, number of items, tail -/
inductive Shp : String → Option Str → Nat → List D → Prop
  | bin (h : String) : h ∈ opsL → Shp h none 2 []
  | pick : Shp "pick" none 3 []
  | table (ns : List Nat) (n : Nat) : ns.length ≤ 3 → Shp "table" none 1 [.tup (ns.map fun k => I (k : Nat)), I (n : Nat)]
  | call (f : Str) (n : Nat) : 1 ≤ n → n ≤ 3 → Shp "call" (some f) n []
  | look (f : Str) (n : Nat) : 1 ≤ n → n ≤ 3 → Shp "look" (some f) n []
/-- words behind P -/
inductive WE (P : Str → Prop) : Ex → Prop
  | num (n : Nat) : WE P (.num n)
  | var (w : Str) : P w → WE P (.var w)
  | op (h : String) (nm : Option Str) (es : List Ex) (tl : List D) : Shp h nm es.length tl → (∀ w ∈ nm, P w) → (∀ e ∈ es, WE P e) → WE P (.op h nm es tl)
theorem opsL_ne {h : String} (hm : h ∈ opsL) : h ≠ "call" ∧ h ≠ "look" ∧ h ≠ "table" ∧ h ≠ "pick" := by
  unfold opsL at hm
  simp only [List.mem_cons, List.not_mem_nil, or_false] at hm
  rcases hm with rfl | rfl | rfl | rfl | rfl | rfl | rfl | rfl | rfl <;> decide
/-- how many signs stand ahead of the items -/
def st0 (nm : Option Str) : Nat := 1 + nm.toList.length
theorem Shp.bnd {h : String} {nm : Option Str} {n : Nat} {tl : List D} (s : Shp h nm n tl) : 1 ≤ n ∧ n ≤ 3 ∧ nm.toList.length ≤ 1 ∧ tl.length ≤ 2 := by
  cases s <;> simp <;> omega
theorem Shp.form {h : String} {nm : Option Str} {n : Nat} {tl : List D} (s : Shp h nm n tl) : nm.toList.length = (if h = "call" ∨ h = "look" then 1 else 0) ∧ tl.length = (if h = "table" then 2 else 0) := by
  cases s with
  | bin h hm =>
    obtain ⟨h1, h2, h3, h4⟩ := opsL_ne hm
    rw [if_neg (by simp [h1, h2]), if_neg h3]
    exact ⟨rfl, rfl⟩
  | _ => simp
/-- the same head: the same cut -/
theorem Shp.cut {h : String} {nm nm' : Option Str} {n n' : Nat} {tl tl' : List D} (s : Shp h nm n tl) (s' : Shp h nm' n' tl') : nm.toList.length = nm'.toList.length ∧ tl.length = tl'.length :=
  ⟨s.form.1.trans s'.form.1.symm, s.form.2.trans s'.form.2.symm⟩
theorem strOk_wd {w : Str} (h : Wd w) : PySem.PyData.strOk w = true := by
  unfold PySem.PyData.strOk
  rw [← Array.all_toList, List.all_eq_true]
  intro c hc
  have := h c hc
  exact decide_eq_true (by omega)
theorem strOk_L (s : String) : PySem.PyData.strOk (Str.ofString s) = true := by
  unfold PySem.PyData.strOk
  rw [Str.ofString_eq_toList, ← Array.all_toList, List.all_eq_true]
  intro c hc
  have hc : c ∈ s.toList.map Char.toNat := by simpa using hc
  obtain ⟨x, _, rfl⟩ := List.mem_map.mp hc
  have := x.valid
  refine decide_eq_true ?_
  have h2 : x.toNat = x.val.toNat := rfl
  rcases this with h | h
  · have := h; omega
  · have := h.2; omega
/-- what is good for ==: words that are texts -/
abbrev Ok (w : Str) : Prop := PySem.PyData.strOk w = true
theorem Shp.dat {h : String} {nm : Option Str} {n k : Nat} {tl : List D} (s : Shp h nm n tl) : ∀ d ∈ tl, dat (k + 1) d := by
  cases s with
  | table ns n =>
    intro d hd
    rcases List.mem_cons.mp hd with rfl | hd
    · intro d hd
      obtain ⟨x, _, rfl⟩ := List.mem_map.mp hd
      cases k <;> exact trivial
    · obtain rfl := List.mem_singleton.mp hd
      exact trivial
  | _ => intro d hd; cases hd
theorem we_dat {P : Str → Prop} (hP : ∀ w, P w → Ok w) {e : Ex} (h : WE P e) : dat (ht e + 1) (enc e) := by
  induction h with
  | num n => exact trivial
  | var w hw => exact hP w hw
  | op h nm es tl s hn _ ih =>
    unfold enc ht
    intro d hd
    rcases List.mem_cons.mp hd with rfl | hd
    · exact strOk_L h
    rcases List.mem_append.mp hd with hd | hd
    · obtain ⟨w, hw, rfl⟩ := List.mem_map.mp hd
      exact hP w (hn w (by simpa using hw))
    rcases List.mem_append.mp hd with hd | hd
    · rw [encL_eq] at hd
      obtain ⟨e, he, rfl⟩ := List.mem_map.mp hd
      exact dat_mono (by have := htL_le he; omega) (ih e he)
    · exact s.dat d hd
theorem we_mono {P Q : Str → Prop} (hPQ : ∀ w, P w → Q w) {e : Ex} (h : WE P e) : WE Q e := by
  induction h with
  | num n => exact .num n
  | var w hw => exact .var w (hPQ w hw)
  | op h nm es tl s hn _ ih => exact .op h nm es tl s (fun w hw => hPQ w (hn w hw)) ih
theorem we_noC {P : Str → Prop} (hP : ∀ w, P w → Ok w) {e : Ex} (h : WE P e) : noC (enc e) := dat_noC (we_dat hP h)
theorem Shp.fill {h : String} {nm : Option Str} {n : Nat} {tl : List D} (f : Str → Str) (s : Shp h nm n tl) : Shp h (if h = "look" then nm.map f else nm) n tl := by
  cases s with
  | bin h hm => rw [if_neg (opsL_ne hm).2.1]; exact .bin h hm
  | pick => exact .pick
  | table ns n hl => exact .table ns n hl
  | call g n h1 h2 => exact .call g n h1 h2
  | look g n h1 h2 => exact .look (f g) n h1 h2
theorem we_fill {P Q : Str → Prop} {f : Str → Str} (hf : ∀ w, P w → Q (f w)) (hPQ : ∀ w, P w → Q w) {e : Ex} (h : WE P e) : WE Q (K06.fill f e) := by
  induction h with
  | num n => exact .num n
  | var w hw => exact .var _ (hf w hw)
  | op h nm es tl s hn _ ih =>
    unfold K06.fill
    refine .op h _ _ tl ?_ ?_ ?_
    · rw [fillL_eq, List.length_map]
      exact s.fill f
    · intro w hw
      split at hw
      · cases nm with
        | none => cases hw
        | some g =>
          have : w = f g := by simpa using hw.symm
          rw [this]
          exact hf g (hn g rfl)
      · exact hPQ w (hn w hw)
    · intro e he
      rw [fillL_eq] at he
      obtain ⟨x, hx, rfl⟩ := List.mem_map.mp he
      exact ih x hx
theorem ht_fill (f : Str → Str) : ∀ e : Ex, ht (fill f e) = ht e
  | .num _ => rfl
  | .var _ => rfl
  | .op h nm es tl => by
    have key : ∀ es' : List Ex, (∀ e ∈ es', ht (fill f e) = ht e) → htL (fillL f es') = htL es' := fun es' => by
      induction es' with
      | nil => exact fun _ => rfl
      | cons e r ih =>
        intro h
        unfold fillL htL
        rw [h e (List.mem_cons_self ..), ih fun x hx => h x (List.mem_cons_of_mem _ hx)]
    unfold fill ht
    rw [key es fun e he => ht_fill f e]
  termination_by e => sizeOf e
  decreasing_by
    have := List.sizeOf_lt_of_mem he
    simp
    omega
theorem nl_fill (f : Str → Str) : ∀ e : Ex, nl (fill f e) = nl e
  | .num _ => rfl
  | .var _ => rfl
  | .op h nm es tl => by
    have key : ∀ es' : List Ex, (∀ e ∈ es', nl (fill f e) = nl e) → nlL (fillL f es') = nlL es' := fun es' => by
      induction es' with
      | nil => exact fun _ => rfl
      | cons e r ih =>
        intro h
        unfold fillL nlL
        rw [h e (List.mem_cons_self ..), ih fun x hx => h x (List.mem_cons_of_mem _ hx)]
    unfold fill nl
    rw [key es fun e he => nl_fill f e]
  termination_by e => sizeOf e
  decreasing_by
    have := List.sizeOf_lt_of_mem he
    simp
    omega
/-! sentences -/
inductive Se where
  | is (a b : Ex)
  | two (h : String) (s t : Se)
  | b3 (h : String) (w : Str) (s : Se)
  | b4 (h : String) (w : Str) (n : Nat) (s : Se)
def encS : Se → D
  | .is a b => .tup [L "is", enc a, enc b]
  | .two h s t => .tup [L h, encS s, encS t]
  | .b3 h w s => .tup [L h, Sx w, encS s]
  | .b4 h w n s => .tup [L h, Sx w, I n, encS s]
inductive WS (P : Str → Prop) : Se → Prop
  | is (a b : Ex) : WE P a → WE P b → WS P (.is a b)
  | two (h : String) (s t : Se) : (h = "and" ∨ h = "if") → WS P s → WS P t → WS P (.two h s t)
  | b3 (h : String) (w : Str) (s : Se) : (h = "all" ∨ h = "some" ∨ h = "allrow" ∨ h = "somerow") → P w → WS P s → WS P (.b3 h w s)
  | b4 (h : String) (w : Str) (n : Nat) (s : Se) : (h = "allbelow" ∨ h = "somebelow") → P w → WS P s → WS P (.b4 h w n s)
def htS : Se → Nat
  | .is a b => max (ht a) (ht b) + 1
  | .two _ s t => max (htS s) (htS t) + 1
  | .b3 _ _ s => htS s + 1
  | .b4 _ _ _ s => htS s + 1
def nlS : Se → Nat
  | .is a b => nl a + nl b + 1
  | .two _ s t => nlS s + nlS t + 1
  | .b3 _ _ s => nlS s + 2
  | .b4 _ _ _ s => nlS s + 3
theorem ws_dat {P : Str → Prop} (hP : ∀ w, P w → Ok w) {s : Se} (h : WS P s) : dat (htS s + 1) (encS s) := by
  induction h with
  | is a b ha hb =>
    unfold encS htS
    intro d hd
    simp only [List.mem_cons, List.not_mem_nil, or_false] at hd
    rcases hd with rfl | rfl | rfl
    · exact strOk_L _
    · exact dat_mono (by omega) (we_dat hP ha)
    · exact dat_mono (by omega) (we_dat hP hb)
  | two h s t _ _ _ ih1 ih2 =>
    unfold encS htS
    intro d hd
    simp only [List.mem_cons, List.not_mem_nil, or_false] at hd
    rcases hd with rfl | rfl | rfl
    · exact strOk_L _
    · exact dat_mono (by omega) ih1
    · exact dat_mono (by omega) ih2
  | b3 h w s _ hw _ ih =>
    unfold encS htS
    intro d hd
    simp only [List.mem_cons, List.not_mem_nil, or_false] at hd
    rcases hd with rfl | rfl | rfl
    · exact strOk_L _
    · exact hP w hw
    · exact dat_mono (by omega) ih
  | b4 h w n s _ hw _ ih =>
    unfold encS htS
    intro d hd
    simp only [List.mem_cons, List.not_mem_nil, or_false] at hd
    rcases hd with rfl | rfl | rfl | rfl
    · exact strOk_L _
    · exact hP w hw
    · exact trivial
    · exact dat_mono (by omega) ih
theorem ws_mono {P Q : Str → Prop} (hPQ : ∀ w, P w → Q w) {s : Se} (h : WS P s) : WS Q s := by
  induction h with
  | is a b ha hb => exact .is a b (we_mono hPQ ha) (we_mono hPQ hb)
  | two h s t hh _ _ ih1 ih2 => exact .two h s t hh ih1 ih2
  | b3 h w s hh hw _ ih => exact .b3 h w s hh (hPQ w hw) ih
  | b4 h w n s hh hw _ ih => exact .b4 h w n s hh (hPQ w hw) ih
theorem ws_noC {P : Str → Prop} (hP : ∀ w, P w → Ok w) {s : Se} (h : WS P s) : noC (encS s) := dat_noC (ws_dat hP h)
/-- the word of a binding part at a depth -/
def Bn (d : Nat) : Str := Str.ofString "B" ++ Str.ofString (toString (d : Int))
def upd1 (f : Str → Str) (w x : Str) : Str → Str := fun y => if y = w then x else f y
def plain (f : Str → Str) (d : Nat) : Se → Se
  | .is a b => .is (fill f a) (fill f b)
  | .two h s t => .two h (plain f d s) (plain f d t)
  | .b3 h w s => .b3 h (Bn d) (plain (upd1 f w (Bn d)) (d + 1) s)
  | .b4 h w n s => .b4 h (Bn d) n (plain (upd1 f w (Bn d)) (d + 1) s)
theorem Bn_ok : ∀ d < 64, Ok (Bn d) := by decide +kernel
theorem Bn_inj : ∀ d < 64, ∀ e < 64, Bn d = Bn e → d = e := by decide +kernel
theorem Bn_head (d : Nat) : ∃ r, (Bn d).cps.toList = 66 :: r := by
  have : (Str.ofString "B").cps.toList = [66] := by decide +kernel
  refine ⟨(Str.ofString (toString (d : Int))).cps.toList, ?_⟩
  show ((Str.ofString "B").cps ++ (Str.ofString (toString (d : Int))).cps).toList = _
  rw [Array.toList_append, this]
  rfl
theorem Bn_wd (d : Nat) : ¬ Wd (Bn d) := fun h => by
  obtain ⟨r, hr⟩ := Bn_head d
  have := h 66 (by rw [hr]; exact List.mem_cons_self ..)
  omega
end K06
set_option maxRecDepth 100000
set_option exponentiation.threshold 600
/-! k06: what the program's functions compute. -/
namespace K06
open PySem PySem.Spec PyProof.Rows L2 G
/-- a dict of depths, as a change of words -/
structure OneE (kvs : List (Key × D)) (f : Str → Str) : Prop where
  at_ : ∀ w, (getK kvs (.inr w) = none ∧ f w = w) ∨ ∃ d : Nat, d < 64 ∧ getK kvs (.inr w) = some (I (d : Int)) ∧ f w = Bn d
  nd : (kvs.map (·.1)).Nodup
  len : kvs.length ≤ 100
theorem sp_same_words {j : Nat} (hj : 2 ≤ j) {S : Sto} {n1 n2 : Nat} {k1 k2 : List (Key × D)} {f1 f2 : Str → Str} {u v : Str} (h1 : S[n1]? = some (.dic k1)) (h2 : S[n2]? = some (.dic k2)) (o1 : OneE k1 f1) (o2 : OneE k2 f2) (hu : Wd u) (hv : Wd v) :
    (sem j).same_words [Sx u, Sx v, .cel n1, .cel n2] S = .ok (.a (.bl (decide (f1 u = f2 v)))) S := by
  obtain ⟨k, rfl⟩ := lv2 hj
  rw [e_same_words]
  refine def_pure (n := 4) (ds := [_, _, _, _]) rfl ?_
  have i1 : dIn (Sx u) (.cel n1) S = some (.a (.bl (getK k1 (.inr u)).isSome), S) := dIn_dic h1 rfl
  have i2 : dIn (Sx v) (.cel n2) S = some (.a (.bl (getK k2 (.inr v)).isSome), S) := dIn_dic h2 rfl
  rcases o1.at_ u with ⟨a1, a2⟩ | ⟨d, hd, a1, a2⟩
  · rcases o2.at_ v with ⟨b1, b2⟩ | ⟨e, he, b1, b2⟩
    · simp [b_same_words, i1, i2, a1, a2, b1, b2]
    · have : ¬ u = Bn e := fun z => Bn_wd e (z ▸ hu)
      simp [b_same_words, i1, i2, a1, a2, b1, b2, this]
  · have g1 : dIx (.cel n1) (Sx u) S = some (I d, S) := dIx_dic h1 rfl a1
    rcases o2.at_ v with ⟨b1, b2⟩ | ⟨e, he, b1, b2⟩
    · have : ¬ Bn d = v := fun z => Bn_wd d (z ▸ hv)
      simp [b_same_words, i1, i2, a1, a2, b1, b2, this]
    · have g2 : dIx (.cel n2) (Sx v) S = some (I e, S) := dIx_dic h2 rfl b1
      have : (Bn d = Bn e) ↔ d = e := ⟨Bn_inj d hd e he, fun z => by rw [z]⟩
      have h3 : decide ((d : Int) = (e : Int)) = decide (d = e) := by
        rw [Bool.eq_iff_iff, decide_eq_true_iff, decide_eq_true_iff]
        omega
      simp [b_same_words, i1, i2, a1, a2, b1, b2, g1, g2, this, h3]
theorem sp_items_start {j : Nat} (hj : 2 ≤ j) {S : Sto} {h : String} {nm : Option Str} {es : List Ex} {tl : List D} (s : Shp h nm es.length tl) : (sem j).items_start [enc (.op h nm es tl)] S = .ok (I ((1 + nm.toList.length : Nat) : Int)) S := by
  obtain ⟨k, rfl⟩ := lv2 hj
  rw [e_items_start]
  refine def_pure (n := 1) (ds := [_]) rfl ?_
  have := s.form.1
  unfold enc
  by_cases h1 : h = "call"
  · simp [b_items_start, h1, this]
  · by_cases h2 : h = "look"
    · simp [b_items_start, h2, this]
    · simp [b_items_start, h1, h2, this]
theorem sp_inner_end {j : Nat} (hj : 2 ≤ j) {S : Sto} {h : String} {nm : Option Str} {es : List Ex} {tl : List D} (s : Shp h nm es.length tl) : (sem j).inner_end [enc (.op h nm es tl)] S = .ok (I ((1 + nm.toList.length + es.length : Nat) : Int)) S := by
  obtain ⟨k, rfl⟩ := lv2 hj
  rw [e_inner_end]
  refine def_pure (n := 1) (ds := [_]) rfl ?_
  obtain ⟨f1, f2⟩ := s.form
  unfold enc
  by_cases h1 : h = "table"
  · have h3 : es.length = 1 := by
      revert h1
      generalize es.length = m at s
      cases s with
      | bin h hm => exact fun z => absurd z (opsL_ne hm).2.2.1
      | table => exact fun _ => rfl
      | _ => exact fun z => absurd z (by decide)
    have h4 : nm.toList.length = 0 := by rw [f1, h1]; decide
    simp [b_inner_end, h1, h3, h4]
  · have h3 : tl.length = 0 := by rw [f2, if_neg h1]
    simp [b_inner_end, h1, encL_len, h3]
    omega
end K06
set_option maxRecDepth 100000
set_option exponentiation.threshold 600
/-! k06: alike_expressions. -/
namespace K06
open PySem PySem.Spec PyProof.Rows L2 G
theorem op_at {h : String} {ns : List D} {es : List Ex} {tl : List D} {i : Nat} {e : Ex} (he : es[i]? = some e) : atI (L h :: (ns ++ (encL es ++ tl))) ((1 + ns.length + i : Nat) : Int) = some (enc e) := by
  have hi := (List.getElem?_eq_some_iff.mp he).1
  have h2 : (L h :: (ns ++ (encL es ++ tl)))[1 + ns.length + i]? = some (enc e) := by
    rw [show 1 + ns.length + i = (ns.length + i) + 1 by omega, List.getElem?_cons_succ, List.getElem?_append_right (by omega), show ns.length + i - ns.length = i by omega, List.getElem?_append_left (by rw [encL_len]; exact hi), encL_eq, List.getElem?_map, he]
    rfl
  have hl := (List.getElem?_eq_some_iff.mp h2).1
  rw [atI_nat hl]
  exact (List.getElem?_eq_getElem hl).symm.trans h2
theorem enc_op_eq {h h' : String} {X X' Y Y' Z Z' : List D} (hl : h = h' → X.length = X'.length ∧ Z.length = Z'.length) : (D.tup (L h :: (X ++ (Y ++ Z))) = D.tup (L h' :: (X' ++ (Y' ++ Z')))) ↔ h = h' ∧ X = X' ∧ Y = Y' ∧ Z = Z' := by
  constructor
  · intro e
    injection e with e
    injection e with e1 e2
    injection e1 with e1
    injection e1 with e1
    have e1 := ofString_inj.mp e1
    obtain ⟨l1, l2⟩ := hl e1
    obtain ⟨a, b⟩ := List.append_inj e2 l1
    obtain ⟨c, d⟩ := List.append_inj' b l2
    exact ⟨e1, a, c, d⟩
  · rintro ⟨rfl, rfl, rfl, rfl⟩
    rfl
theorem dat_tup63 {ds : List D} (h : ∀ d ∈ ds, dat 3 d) : dat 64 (.tup ds) := fun d hd => dat_mono (n := 3) (m := 63) (by decide) (h d hd)
open Classical in
theorem items_all (f1 f2 : Str → Str) : ∀ (es es' : List Ex), es.length = es'.length → ((List.zipWith (fun a b => decide (enc (fill f1 a) = enc (fill f2 b))) es es').all id = decide (encL (fillL f1 es) = encL (fillL f2 es')))
  | [], [], _ => by simp [fillL, encL]
  | a :: r, b :: t, hl => by
    unfold fillL encL
    rw [List.zipWith_cons_cons, List.all_cons, items_all f1 f2 r t (by simpa using hl), Bool.eq_iff_iff]
    simp
open Classical in
theorem sp_alike_e {S : Sto} {n1 n2 : Nat} {k1 k2 : List (Key × D)} {f1 f2 : Str → Str} (h1_ : S[n1]? = some (.dic k1)) (h2_ : S[n2]? = some (.dic k2)) (o1 : OneE k1 f1) (o2 : OneE k2 f2) {a : Ex} (ha : WE Wd a) :
    ∀ {b : Ex} (hb : WE Wd b) {j : Nat} (hj : ht a + 4 ≤ j) (hda : ht a ≤ 40) (hdb : ht b ≤ 40), (sem j).alike_expressions [enc a, enc b, .cel n1, .cel n2] S = .ok (.a (.bl (decide (enc (fill f1 a) = enc (fill f2 b))))) S := by
  induction ha with
  | num n =>
    intro b hb j hj hda hdb
    obtain ⟨k, rfl⟩ := lv2 (by omega : 2 ≤ j)
    rw [e_alike_expressions]
    refine def_pure (n := 4) (ds := [_, _, _, _]) rfl ?_
    have e : dEq (I (n : Int)) (enc b) S = some (.a (.bl (decide (I (n : Int) = enc (fill f2 b)))), S) := by
      rw [dEq_dat (n := 64) (d := I (n : Int)) trivial (dat_mono (by omega) (we_dat (fun _ => strOk_wd) hb)) (Nat.le_refl _)]
      congr 3
      cases hb with
      | num m => rfl
      | var v hv => simp [enc, fill]
      | op h' nm' es' tl' s' hn' hw' => simp [enc, fill]
    show bodyR _ = .ok (.a (.bl (decide (I (n : Int) = enc (fill f2 b))))) S
    simp [b_alike_expressions, enc, e]
  | var u hu =>
    intro b hb j hj hda hdb
    obtain ⟨k, rfl⟩ := lv2 (by omega : 2 ≤ j)
    rw [e_alike_expressions]
    refine def_pure (n := 4) (ds := [_, _, _, _]) rfl ?_
    cases hb with
    | num m => simp [b_alike_expressions, enc, fill]
    | var v hv =>
      have sw := sp_same_words (j := k + 1) (S := S) (by unfold ht at hj; omega) h1_ h2_ o1 o2 hu hv
      simp [b_alike_expressions, enc, fill, sw]
    | op h' nm' es' tl' s' hn' hw' => simp [b_alike_expressions, enc, fill]
  | op h nm es tl s hn hw ih =>
    intro b hb j hj hda hdb
    have ha : WE Wd (.op h nm es tl) := .op h nm es tl s hn hw
    obtain ⟨k, rfl⟩ := lv2 (by omega : 2 ≤ j)
    rw [e_alike_expressions]
    refine def_pure (n := 4) (ds := [_, _, _, _]) rfl ?_
    have hse : ht (.op h nm es tl) = htL es + 1 := rfl
    have da : dat 64 (enc (.op h nm es tl)) := dat_mono (by omega) (we_dat (fun _ => strOk_wd) ha)
    have db : dat 64 (enc b) := dat_mono (by omega) (we_dat (fun _ => strOk_wd) hb)
    cases hb with
    | num m =>
      have e := dEq_dat (S := S) da db (Nat.le_refl _)
      unfold enc at e
      simp [b_alike_expressions, enc, fill, e]
    | var v hv =>
      have e := dEq_dat (S := S) da db (Nat.le_refl _)
      unfold enc at e
      simp [b_alike_expressions, enc, fill, e]
    | op h' nm' es' tl' s' hn' hw' =>
      by_cases hh : h = h'
      · subst hh
        obtain ⟨c1, c2⟩ := s.cut s'
        have cc : (enc (fill f1 (.op h nm es tl)) = enc (fill f2 (.op h nm' es' tl'))) ↔ h = h ∧ (if h = "look" then nm.map f1 else nm).toList.map (fun w => Sx w) = (if h = "look" then nm'.map f2 else nm').toList.map (fun w => Sx w) ∧ encL (fillL f1 es) = encL (fillL f2 es') ∧ tl = tl' := by
          unfold fill enc
          refine enc_op_eq fun _ => ⟨?_, c2⟩
          rw [List.length_map, List.length_map]
          split <;> simp [Option.length_toList] <;> simpa [Option.length_toList] using c1
        have st := sp_items_start (j := k + 1) (S := S) (by omega) s
        have en := sp_inner_end (j := k + 1) (S := S) (by omega) s
        obtain ⟨q1, q2, q3, q4⟩ := s.bnd
        obtain ⟨q1', q2', q3', q4'⟩ := s'.bnd
        by_cases hl : es.length = es'.length
        · -- the items
          have loop : lcGo none (rangeL ((1 + nm.toList.length : Nat) : Int) es.length) (gN 6) tTrue (eCall (sem (k + 1)).alike_expressions [] (aCons (eBin dIx (eVar 0) (eVar 6)) (aCons (eBin dIx (eVar 1) (eVar 6)) (aCons (eVar 2) (aCons (eVar 3) aNil)))))
              [some (enc (.op h nm es tl)), some (enc (.op h nm' es' tl')), some (.cel n1), some (.cel n2), some (I ((1 + nm.toList.length : Nat) : Int)), some (I ((1 + nm.toList.length + es.length : Nat) : Int)), none] (rangeL ((1 + nm.toList.length : Nat) : Int) es.length) S = .ok (bls (List.zipWith (fun a b => decide (enc (fill f1 a) = enc (fill f2 b))) es es')) S := by
            refine lcH_list (held_none' _ _) _ _ (by unfold bls; rw [rangeL_len, List.length_map, List.length_zipWith, ← hl, Nat.min_self]) fun i d x hd hx => ?_
            obtain rfl := rangeL_at hd
            have hi : i < es.length := by have := (List.getElem?_eq_some_iff.mp hd).1; rwa [rangeL_len] at this
            have hi' : i < es'.length := by omega
            have e1 : es[i]? = some es[i] := List.getElem?_eq_getElem hi
            have e2 : es'[i]? = some es'[i] := List.getElem?_eq_getElem hi'
            have g1 := op_at (h := h) (ns := nm.toList.map fun w => Sx w) (tl := tl) e1
            have g2 := op_at (h := h) (ns := nm'.toList.map fun w => Sx w) (tl := tl') e2
            rw [List.length_map] at g1 g2
            rw [← c1] at g2
            have m1 := htL_le (List.getElem_mem hi)
            have m2 := htL_le (List.getElem_mem hi')
            have hse' : ht (.op h nm' es' tl') = htL es' + 1 := rfl
            have r := ih es[i] (List.getElem_mem hi) (hw' es'[i] (List.getElem_mem hi')) (j := k + 1) (by omega) (by omega) (by omega)
            unfold bls at hx
            rw [List.getElem?_map, List.getElem?_zipWith, e1, e2] at hx
            cases hx
            have ci : (((1 + nm.toList.length : Nat) : Int) + (i : Int)) = ((1 + nm.toList.length + i : Nat) : Int) := by omega
            rw [ci]
            simp only [List.set_cons_succ, List.set_cons_zero]
            generalize ((1 + nm.toList.length + i : Nat) : Int) = z at g1 g2 ⊢
            rw [enc_op, enc_op]
            simp [g1, g2, r]
          have all := items_all f1 f2 es es' hl
          have hr := iR2b_nat (i := 1 + nm.toList.length) (j := 1 + nm.toList.length + es.length) S (by omega) (by omega)
          rw [show 1 + nm.toList.length + es.length - (1 + nm.toList.length) = es.length by omega] at hr
          have hlc := lcR_at (by rw [rangeL_len]; omega) loop
          have tc : cutL (L h :: (nm.toList.map (fun w => Sx w) ++ (encL es ++ tl))) (some ((1 + nm.toList.length + es.length : Nat) : Int)) none = tl := by
            rw [cutL_drop (by simp [encL_len]; omega), show 1 + nm.toList.length + es.length = (nm.toList.length + es.length) + 1 by omega, List.drop_succ_cons, ← List.append_assoc, List.drop_left' (by simp [encL_len])]
          have tc' : cutL (L h :: (nm'.toList.map (fun w => Sx w) ++ (encL es' ++ tl'))) (some ((1 + nm.toList.length + es.length : Nat) : Int)) none = tl' := by
            rw [c1, hl, cutL_drop (by simp [encL_len]; omega), show 1 + nm'.toList.length + es'.length = (nm'.toList.length + es'.length) + 1 by omega, List.drop_succ_cons, ← List.append_assoc, List.drop_left' (by simp [encL_len])]
          have dt : dNe (.tup tl) (.tup tl') S = some (.a (.bl (!decide (tl = tl'))), S) := by
            rw [dNe_dat (n := 64) (d := .tup tl) (e := .tup tl') (dat_tup63 fun d hd => s.dat (k := 2) d hd) (dat_tup63 fun d hd => s'.dat (k := 2) d hd) (Nat.le_refl _)]
            rw [show decide (D.tup tl = D.tup tl') = decide (tl = tl') by rw [Bool.eq_iff_iff]; simp]
          have l12 : (((L h :: (nm.toList.map (fun w => Sx w) ++ (encL es ++ tl))).length : Nat) : Int) = ((L h :: (nm'.toList.map (fun w => Sx w) ++ (encL es' ++ tl'))).length : Nat) := by
            simp [encL_len]; omega
          have p0 : atI (L h :: (nm.toList.map (fun w => Sx w) ++ (encL es ++ tl))) 0 = some (L h) := atI_0 _ _
          have p0' : atI (L h :: (nm'.toList.map (fun w => Sx w) ++ (encL es' ++ tl'))) 0 = some (L h) := atI_0 _ _
          have p1 : ∀ w, nm = some w → atI (L h :: (nm.toList.map (fun w => Sx w) ++ (encL es ++ tl))) 1 = some (Sx w) := fun w hw => by rw [hw]; exact atI_1 _ _ _
          have p1' : ∀ w, nm' = some w → atI (L h :: (nm'.toList.map (fun w => Sx w) ++ (encL es' ++ tl'))) 1 = some (Sx w) := fun w hw => by rw [hw]; exact atI_1 _ _ _
          generalize ((1 + nm.toList.length : Nat) : Int) = z1 at st hr hlc
          generalize ((1 + nm.toList.length + es.length : Nat) : Int) = z2 at en hr hlc tc tc'
          rw [enc_op] at st en
          rw [enc_op, enc_op] at hlc
          rw [enc_op h nm es tl, enc_op h nm' es' tl']
          clear loop
          generalize (L h :: (nm.toList.map (fun w => Sx w) ++ (encL es ++ tl))) = T1 at st en hlc tc l12 p0 p1 ⊢
          generalize (L h :: (nm'.toList.map (fun w => Sx w) ++ (encL es' ++ tl'))) = T2 at hlc tc' l12 p0' p1' ⊢
          by_cases hk : h = "look"
          · subst hk
            rw [if_pos rfl, if_pos rfl] at cc
            have h1 := s.form.1
            have h2 := s'.form.1
            rw [if_pos (by simp)] at h1 h2
            obtain ⟨u, rfl⟩ : ∃ u, nm = some u := by
              cases nm with
              | none => cases h1
              | some u => exact ⟨u, rfl⟩
            obtain ⟨v, rfl⟩ : ∃ v, nm' = some v := by
              cases nm' with
              | none => cases h2
              | some u => exact ⟨u, rfl⟩
            have sw := sp_same_words (j := k + 1) (S := S) (by omega) h1_ h2_ o1 o2 (hn u rfl) (hn' v rfl)
            have q1 := p1 u rfl
            have q2 := p1' v rfl
            rw [show decide (enc (fill f1 (Ex.op "look" (some u) es tl)) = enc (fill f2 (Ex.op "look" (some v) es' tl'))) = (decide (f1 u = f2 v) && (decide (tl = tl') && decide (encL (fillL f1 es) = encL (fillL f2 es')))) by
                rw [Bool.eq_iff_iff, decide_eq_true_iff, cc]
                simp [and_comm]]
            by_cases hsw : f1 u = f2 v
            · by_cases htl : tl = tl'
              · subst htl
                simp [b_alike_expressions, st, en, hr, hlc, tc, tc', dt, l12, p0, p0', q1, q2, sw, wipeS, all, hsw]
              · simp [b_alike_expressions, st, en, hr, hlc, tc, tc', dt, l12, p0, p0', q1, q2, sw, wipeS, all, htl, hsw]
            · simp [b_alike_expressions, st, en, hr, hlc, tc, tc', dt, l12, p0, p0', q1, q2, sw, wipeS, all, hsw]
          · rw [if_neg hk, if_neg hk] at cc
            by_cases hk2 : h = "call"
            · subst hk2
              have h1 := s.form.1
              have h2 := s'.form.1
              rw [if_pos (by simp)] at h1 h2
              obtain ⟨u, rfl⟩ : ∃ u, nm = some u := by
                cases nm with
                | none => cases h1
                | some u => exact ⟨u, rfl⟩
              obtain ⟨v, rfl⟩ : ∃ v, nm' = some v := by
                cases nm' with
                | none => cases h2
                | some u => exact ⟨u, rfl⟩
              have q1 := p1 u rfl
              have q2 := p1' v rfl
              rw [show decide (enc (fill f1 (Ex.op "call" (some u) es tl)) = enc (fill f2 (Ex.op "call" (some v) es' tl'))) = (decide (u = v) && (decide (tl = tl') && decide (encL (fillL f1 es) = encL (fillL f2 es')))) by
                rw [Bool.eq_iff_iff, decide_eq_true_iff, cc]
                simp [and_comm]]
              by_cases hsw : u = v
              · by_cases htl : tl = tl'
                · subst htl
                  simp [b_alike_expressions, st, en, hr, hlc, tc, tc', dt, l12, p0, p0', q1, q2, wipeS, all, hsw]
                · simp [b_alike_expressions, st, en, hr, hlc, tc, tc', dt, l12, p0, p0', q1, q2, wipeS, all, htl, hsw]
              · simp [b_alike_expressions, st, en, hr, hlc, tc, tc', dt, l12, p0, p0', q1, q2, wipeS, all, hsw]
            · have hnm : nm = none ∧ nm' = none := by
                have h1 := s.form.1
                have h2 := s'.form.1
                rw [if_neg (by simp [hk, hk2])] at h1 h2
                exact ⟨by simpa using h1, by simpa using h2⟩
              obtain ⟨rfl, rfl⟩ := hnm
              rw [show decide (enc (fill f1 (Ex.op h none es tl)) = enc (fill f2 (Ex.op h none es' tl'))) = (decide (tl = tl') && decide (encL (fillL f1 es) = encL (fillL f2 es'))) by
                rw [Bool.eq_iff_iff, decide_eq_true_iff, cc]
                simp [and_comm]]
              by_cases htl : tl = tl'
              · subst htl
                simp [b_alike_expressions, hk, hk2, st, en, hr, hlc, tc, tc', dt, l12, p0, p0', wipeS, all]
              · simp [b_alike_expressions, hk, hk2, st, en, hr, hlc, tc, tc', dt, l12, p0, p0', wipeS, all, htl]
        · have cc2 : ¬ (enc (fill f1 (.op h nm es tl)) = enc (fill f2 (.op h nm' es' tl'))) := fun z => by
            have := congrArg List.length (cc.mp z).2.2.1
            rw [encL_len, encL_len, fillL_eq, fillL_eq, List.length_map, List.length_map] at this
            exact hl this
          rw [decide_eq_false cc2]
          have ne : ¬ ((nm.toList.length : Int) + ((es.length : Int) + (tl.length : Int)) + 1 = (nm'.toList.length : Int) + ((es'.length : Int) + (tl'.length : Int)) + 1) := by omega
          simp [b_alike_expressions, enc, encL_len, ne]
      · have cc : ¬ (enc (fill f1 (.op h nm es tl)) = enc (fill f2 (.op h' nm' es' tl'))) := fun z => by
          unfold fill enc at z
          injection z with z
          injection z with z _
          injection z with z
          injection z with z
          exact hh (ofString_inj.mp z)
        rw [decide_eq_false cc]
        simp [b_alike_expressions, enc, hh]
end K06
set_option maxRecDepth 100000
set_option exponentiation.threshold 600
/-! k06: alike_parts, are_alike. -/
namespace K06
open PySem PySem.Spec PyProof.Rows L2 G
theorem OneE.nil : OneE [] id := ⟨fun w => .inl ⟨rfl, rfl⟩, List.nodup_nil, Nat.zero_le _⟩
theorem OneE.put {kvs : List (Key × D)} {f : Str → Str} (o : OneE kvs f) (w : Str) {d : Nat} (hd : d < 64) (hl : kvs.length < 100) : OneE (setK (foldK [] kvs) (.inr w) (I (d : Int))) (upd1 f w (Bn d)) := by
  refine ⟨fun x => ?_, setK_keys _ _ (foldK_keys _ _ List.nodup_nil), ?_⟩
  · rw [getK_set, foldK_get _ _ _ o.nd]
    unfold upd1
    by_cases h : x = w
    · subst h
      rw [if_pos rfl, if_pos rfl]
      exact .inr ⟨d, hd, rfl, rfl⟩
    · rw [if_neg (fun e => h (Sum.inr.inj e)), if_neg h]
      rcases o.at_ x with ⟨a, b⟩ | ⟨e, he, a, b⟩
      · exact .inl ⟨by rw [a]; rfl, b⟩
      · exact .inr ⟨e, he, by rw [a]; rfl, b⟩
  · have h1 := setK_len (foldK [] kvs) (.inr w) (I (d : Int))
    have h2 := foldK_len kvs []
    rw [List.length_nil] at h2
    omega
def hdS : Se → String
  | .is _ _ => "is"
  | .two h _ _ => h
  | .b3 h _ _ => h
  | .b4 h _ _ _ => h
def rest : Se → List D
  | .is a b => [enc a, enc b]
  | .two _ s t => [encS s, encS t]
  | .b3 _ w s => [Sx w, encS s]
  | .b4 _ w n s => [Sx w, I n, encS s]
theorem encS_eq (s : Se) : encS s = .tup (L (hdS s) :: rest s) := by cases s <;> rfl
theorem hd_plain (f : Str → Str) (d : Nat) (s : Se) : hdS (plain f d s) = hdS s := by cases s <;> rfl
theorem encS_inj {s t : Se} (h : encS s = encS t) : hdS s = hdS t ∧ rest s = rest t := by
  rw [encS_eq, encS_eq] at h
  injection h with h
  injection h with h1 h2
  injection h1 with h1
  injection h1 with h1
  exact ⟨ofString_inj.mp h1, h2⟩
theorem encS_iff {s t : Se} : encS s = encS t ↔ hdS s = hdS t ∧ rest s = rest t := ⟨encS_inj, fun h => by rw [encS_eq, encS_eq, h.1, h.2]⟩
theorem lo_dicI {kvs : List (Key × D)} {w : Str} {d : Nat} (o : ∀ kv ∈ kvs, noC kv.2) : ∀ kv ∈ setK (foldK [] kvs) (.inr w) (I (d : Int)), noC kv.2 := fun kv h => by
  rcases mem_setK h with h | h
  · rcases mem_foldK h with h | h
    · cases h
    · exact o kv h
  · rw [h]
    exact noC_atom _
open Classical in
theorem sp_alike_p {s : Se} (hs : WS Wd s) : ∀ {t : Se} (ht : WS Wd t) {j : Nat} (hj : htS s + 6 ≤ j) (h1 : htS s ≤ 40) (h2 : htS t ≤ 40) {S : Sto} {n1 n2 d : Nat} {k1 k2 : List (Key × D)} {f1 f2 : Str → Str} (c : Clo S) (g1 : S[n1]? = some (.dic k1)) (g2 : S[n2]? = some (.dic k2))
    (o1 : OneE k1 f1) (o2 : OneE k2 f2) (v1 : ∀ kv ∈ k1, noC kv.2) (v2 : ∀ kv ∈ k2, noC kv.2) (hd : d + htS s < 60) (l1 : k1.length + htS s < 90) (l2 : k2.length + htS s < 90),
    (sem j).alike_parts [encS s, encS t, .cel n1, .cel n2, I (d : Int)] S = .ok (.a (.bl (decide (encS (plain f1 d s) = encS (plain f2 d t))))) S := by
  induction hs with
  | is a b ha hb =>
    intro t ht j hj h1 h2 S n1 n2 d k1 k2 f1 f2 c g1 g2 o1 o2 v1 v2 hd l1 l2
    obtain ⟨k, rfl⟩ := lv2 (by omega : 2 ≤ j)
    rw [e_alike_parts]
    refine def_pure (n := 5) (ds := [_, _, _, _, _]) rfl ?_
    have e1 : htS (.is a b) = max (K06.ht a) (K06.ht b) + 1 := rfl
    cases ht with
    | is a' b' ha' hb' =>
      have e2 : htS (.is a' b') = max (K06.ht a') (K06.ht b') + 1 := rfl
      have r1 := sp_alike_e g1 g2 o1 o2 ha ha' (j := k + 1) (by omega) (by omega) (by omega)
      have r2 := sp_alike_e g1 g2 o1 o2 hb hb' (j := k + 1) (by omega) (by omega) (by omega)
      have hlc : lcGo none [I 1, I 2] (gN 7) tTrue (eCall (sem (k + 1)).alike_expressions [] (aCons (eBin dIx (eVar 0) (eVar 7)) (aCons (eBin dIx (eVar 1) (eVar 7)) (aCons (eVar 2) (aCons (eVar 3) aNil))))) [some (encS (.is a b)), some (encS (.is a' b')), some (.cel n1), some (.cel n2), some (I (d : Int)), some (L "is"), none, none] [I 1, I 2] S =
          .ok (bls [decide (enc (fill f1 a) = enc (fill f2 a')), decide (enc (fill f1 b) = enc (fill f2 b'))]) S := by
        refine lcH_list (held_none' _ _) _ _ rfl fun i x y hx hy => ?_
        match i, hx, hy with
        | 0, hx, hy =>
          cases hx; cases hy
          simp [encS, r1]
        | 1, hx, hy =>
          cases hx; cases hy
          simp [encS, r2]
      have hl := lcR_at (by decide) hlc
      rw [show decide (encS (plain f1 d (.is a b)) = encS (plain f2 d (.is a' b'))) = (decide (enc (fill f1 a) = enc (fill f2 a')) && decide (enc (fill f1 b) = enc (fill f2 b'))) by
        rw [Bool.eq_iff_iff]
        simp [plain, encS]]
      simp [encS] at hl
      simp [b_alike_parts, encS, wipeS, hl]
    | two h' s' t' hh _ _ => rcases hh with rfl | rfl <;> simp [b_alike_parts, encS, plain]
    | b3 h' w s' hh _ _ => rcases hh with rfl | rfl | rfl | rfl <;> simp [b_alike_parts, encS, plain]
    | b4 h' w n s' hh _ _ => rcases hh with rfl | rfl <;> simp [b_alike_parts, encS, plain]
  | two h s t hh hs ht ih1 ih2 =>
    intro t' ht' j hj h1 h2 S n1 n2 d k1 k2 f1 f2 c g1 g2 o1 o2 v1 v2 hd l1 l2
    obtain ⟨k, rfl⟩ := lv2 (by omega : 2 ≤ j)
    rw [e_alike_parts]
    refine def_pure (n := 5) (ds := [_, _, _, _, _]) rfl ?_
    have e1 : htS (.two h s t) = max (htS s) (htS t) + 1 := rfl
    cases ht' with
    | two h' s' t'' hh' hs' ht'' =>
      have e2 : htS (.two h' s' t'') = max (htS s') (htS t'') + 1 := rfl
      by_cases he : h = h'
      · subst he
        have r1 := ih1 hs' (j := k + 1) (by omega) (by omega) (by omega) c g1 g2 o1 o2 v1 v2 (d := d) (by omega) (by omega) (by omega)
        have r2 := ih2 ht'' (j := k + 1) (by omega) (by omega) (by omega) c g1 g2 o1 o2 v1 v2 (d := d) (by omega) (by omega) (by omega)
        have hlc : lcGo none [I 1, I 2] (gN 7) tTrue (eCall (sem (k + 1)).alike_parts [] (aCons (eBin dIx (eVar 0) (eVar 7)) (aCons (eBin dIx (eVar 1) (eVar 7)) (aCons (eVar 2) (aCons (eVar 3) (aCons (eVar 4) aNil)))))) [some (encS (.two h s t)), some (encS (.two h s' t'')), some (.cel n1), some (.cel n2), some (I (d : Int)), some (L h), none, none] [I 1, I 2] S =
            .ok (bls [decide (encS (plain f1 d s) = encS (plain f2 d s')), decide (encS (plain f1 d t) = encS (plain f2 d t''))]) S := by
          refine lcH_list (held_none' _ _) _ _ rfl fun i x y hx hy => ?_
          match i, hx, hy with
          | 0, hx, hy =>
            cases hx; cases hy
            rw [show encS (.two h s t) = .tup [L h, encS s, encS t] from rfl, show encS (.two h s' t'') = .tup [L h, encS s', encS t''] from rfl]
            simp [r1]
          | 1, hx, hy =>
            cases hx; cases hy
            rw [show encS (.two h s t) = .tup [L h, encS s, encS t] from rfl, show encS (.two h s' t'') = .tup [L h, encS s', encS t''] from rfl]
            simp [r2]
        have hl := lcR_at (by decide) hlc
        rw [show decide (encS (plain f1 d (.two h s t)) = encS (plain f2 d (.two h s' t''))) = (decide (encS (plain f1 d s) = encS (plain f2 d s')) && decide (encS (plain f1 d t) = encS (plain f2 d t''))) by
          rw [Bool.eq_iff_iff]
          simp [plain, encS_iff, hdS, rest]]
        rw [show encS (.two h s t) = .tup [L h, encS s, encS t] from rfl, show encS (.two h s' t'') = .tup [L h, encS s', encS t''] from rfl] at hl ⊢
        rcases hh with rfl | rfl <;> simp [b_alike_parts, wipeS, hl]
      · have hne : ¬ encS (plain f1 d (.two h s t)) = encS (plain f2 d (.two h' s' t'')) := fun z => he (encS_inj z).1
        rw [decide_eq_false hne]
        rw [show encS (.two h s t) = .tup [L h, encS s, encS t] from rfl, show encS (.two h' s' t'') = .tup [L h', encS s', encS t''] from rfl]
        simp [b_alike_parts, he]
    | is a' b' ha' hb' =>
      have hne : ¬ encS (plain f1 d (.two h s t)) = encS (plain f2 d (.is a' b')) := fun z => by
        have this : h = "is" := (encS_inj z).1
        rcases hh with rfl | rfl <;> exact absurd this (by decide)
      rw [decide_eq_false hne]
      rw [show encS (.two h s t) = .tup [L h, encS s, encS t] from rfl, show encS (.is a' b') = .tup [L "is", enc a', enc b'] from rfl]
      rcases hh with rfl | rfl <;> simp [b_alike_parts]
    | b3 h' w s' hh' _ _ =>
      have hn : h ≠ h' := by rcases hh with rfl | rfl <;> rcases hh' with rfl | rfl | rfl | rfl <;> decide
      have hne : ¬ encS (plain f1 d (.two h s t)) = encS (plain f2 d (.b3 h' w s')) := fun z => hn (encS_inj z).1
      rw [decide_eq_false hne]
      rw [show encS (.two h s t) = .tup [L h, encS s, encS t] from rfl, show encS (.b3 h' w s') = .tup [L h', Sx w, encS s'] from rfl]
      simp [b_alike_parts, hn]
    | b4 h' w n s' hh' _ _ =>
      have hn : h ≠ h' := by rcases hh with rfl | rfl <;> rcases hh' with rfl | rfl <;> decide
      have hne : ¬ encS (plain f1 d (.two h s t)) = encS (plain f2 d (.b4 h' w n s')) := fun z => hn (encS_inj z).1
      rw [decide_eq_false hne]
      rw [show encS (.two h s t) = .tup [L h, encS s, encS t] from rfl, show encS (.b4 h' w n s') = .tup [L h', Sx w, I n, encS s'] from rfl]
      simp [b_alike_parts, hn]
  | b3 h w s hh hw hs ih =>
    intro t' ht' j hj h1 h2 S n1 n2 d k1 k2 f1 f2 c g1 g2 o1 o2 v1 v2 hd l1 l2
    obtain ⟨k, rfl⟩ := lv2 (by omega : 2 ≤ j)
    rw [e_alike_parts]
    have e1 : htS (.b3 h w s) = htS s + 1 := rfl
    cases ht' with
    | b3 h' w' s' hh' hw' hs' =>
      have e2 : htS (.b3 h' w' s') = htS s' + 1 := rfl
      by_cases he : h = h'
      · subst he
        obtain ⟨K1, hK1⟩ : ∃ K, K = setK (foldK [] k1) (.inr w) (I (d : Int)) := ⟨_, rfl⟩
        obtain ⟨K2, hK2⟩ : ∃ K, K = setK (foldK [] k2) (.inr w') (I (d : Int)) := ⟨_, rfl⟩
        have p1 := o1.put w (d := d) (by omega) (by omega)
        have p2 := o2.put w' (d := d) (by omega) (by omega)
        have z1 := lo_dicI (w := w) (d := d) v1
        have z2 := lo_dicI (w := w') (d := d) v2
        have y1 := setK_len (foldK [] k1) (.inr w) (I (d : Int))
        have y2 := setK_len (foldK [] k2) (.inr w') (I (d : Int))
        have x1 := foldK_len k1 []
        have x2 := foldK_len k2 []
        rw [List.length_nil] at x1 x2
        rw [← hK1] at p1 z1 y1
        rw [← hK2] at p2 z2 y2
        have q1 : (S ++ [Cell.dic K1, .dic K2])[S.length]? = some (.dic K1) := by simp
        have q2 : (S ++ [Cell.dic K1, .dic K2])[S.length + 1]? = some (.dic K2) := by simp
        have c2 : Clo (S ++ [Cell.dic K1, .dic K2]) := by
          have := (c.push (c := .dic K1) (lo_dic z1)).push (c := .dic K2) (lo_dic z2)
          simpa using this
        have r := ih hs' (j := k + 1) (by omega) (by omega) (by omega) c2 q1 q2 p1 p2 z1 z2 (d := d + 1) (by omega) (by omega) (by omega)
        rw [show (((d + 1 : Nat)) : Int) = (d : Int) + 1 by omega] at r
        have st1 : eStar (eVar 2) (eBin dIx (eVar 0) (eC (.a (.int (1))))) (eVar 4) [some (.tup [L h, Sx w, encS s]), some (.tup [L h, Sx w', encS s']), some (.cel n1), some (.cel n2), some (I (d : Int)), some (L h), none, none] S = .ok (.cel S.length) (S ++ [.dic K1]) := by
          rw [hK1]
          exact star_at (k := Sx w) (n := n1) (by simp) g1 (small_line (by omega)) (by simp) (by simp) rfl
        have st2 : eStar (eVar 3) (eBin dIx (eVar 1) (eC (.a (.int (1))))) (eVar 4) [some (.tup [L h, Sx w, encS s]), some (.tup [L h, Sx w', encS s']), some (.cel n1), some (.cel n2), some (I (d : Int)), some (L h), some (.cel S.length), none] (S ++ [.dic K1]) = .ok (.cel (S.length + 1)) (S ++ [.dic K1, .dic K2]) := by
          rw [hK2]
          have := star_at (fa := eVar 3) (fk := eBin dIx (eVar 1) (eC (.a (.int (1))))) (fv := eVar 4) (env := [some (.tup [L h, Sx w, encS s]), some (.tup [L h, Sx w', encS s']), some (.cel n1), some (.cel n2), some (I (d : Int)), some (L h), some (.cel S.length), none]) (k := Sx w') (n := n2) (S := S ++ [.dic K1]) (v := I (d : Int)) (key := .inr w') (by simp) (get_app g2) (small_line (by omega)) (by simp) (by simp) rfl
          simpa using this
        have sl1 : cutL [L h, Sx w, encS s] (some 2) (some (-1)) = [] := rfl
        have sl2 : cutL [L h, Sx w', encS s'] (some 2) (some (-1)) = [] := rfl
        have dn : dNe (.tup []) (.tup []) S = some (.a (.bl false), S) := rfl
        rw [show decide (encS (plain f1 d (.b3 h w s)) = encS (plain f2 d (.b3 h w' s'))) = decide (encS (plain (upd1 f1 w (Bn d)) (d + 1) s) = encS (plain (upd1 f2 w' (Bn d)) (d + 1) s')) by
          rw [Bool.eq_iff_iff]
          simp [plain, encS_iff, hdS, rest]]
        rw [show encS (.b3 h w s) = .tup [L h, Sx w, encS s] from rfl, show encS (.b3 h w' s') = .tup [L h, Sx w', encS s'] from rfl]
        refine def_det (n := 5) (ds := [_, _, _, _, _]) rfl c rfl ?_
        generalize decide (encS (plain (upd1 f1 w (Bn d)) (d + 1) s) = encS (plain (upd1 f2 w' (Bn d)) (d + 1) s')) = res at r ⊢
        rcases hh with rfl | rfl | rfl | rfl <;> simp [b_alike_parts, sl1, sl2, dn, st1, st2, r, Fix.push]
      · have hne : ¬ encS (plain f1 d (.b3 h w s)) = encS (plain f2 d (.b3 h' w' s')) := fun z => he (encS_inj z).1
        rw [decide_eq_false hne]
        rw [show encS (.b3 h w s) = .tup [L h, Sx w, encS s] from rfl, show encS (.b3 h' w' s') = .tup [L h', Sx w', encS s'] from rfl]
        refine def_pure (n := 5) (ds := [_, _, _, _, _]) rfl ?_
        simp [b_alike_parts, he]
    | is a' b' ha' hb' =>
      have hne : ¬ encS (plain f1 d (.b3 h w s)) = encS (plain f2 d (.is a' b')) := fun z => by
        have this : h = "is" := (encS_inj z).1
        rcases hh with rfl | rfl | rfl | rfl <;> exact absurd this (by decide)
      rw [decide_eq_false hne]
      rw [show encS (.b3 h w s) = .tup [L h, Sx w, encS s] from rfl, show encS (.is a' b') = .tup [L "is", enc a', enc b'] from rfl]
      refine def_pure (n := 5) (ds := [_, _, _, _, _]) rfl ?_
      rcases hh with rfl | rfl | rfl | rfl <;> simp [b_alike_parts]
    | two h' s' t'' hh' _ _ =>
      have hn : h ≠ h' := by rcases hh with rfl | rfl | rfl | rfl <;> rcases hh' with rfl | rfl <;> decide
      have hne : ¬ encS (plain f1 d (.b3 h w s)) = encS (plain f2 d (.two h' s' t'')) := fun z => hn (encS_inj z).1
      rw [decide_eq_false hne]
      rw [show encS (.b3 h w s) = .tup [L h, Sx w, encS s] from rfl, show encS (.two h' s' t'') = .tup [L h', encS s', encS t''] from rfl]
      refine def_pure (n := 5) (ds := [_, _, _, _, _]) rfl ?_
      simp [b_alike_parts, hn]
    | b4 h' w' m s' hh' _ _ =>
      have hn : h ≠ h' := by rcases hh with rfl | rfl | rfl | rfl <;> rcases hh' with rfl | rfl <;> decide
      have hne : ¬ encS (plain f1 d (.b3 h w s)) = encS (plain f2 d (.b4 h' w' m s')) := fun z => hn (encS_inj z).1
      rw [decide_eq_false hne]
      rw [show encS (.b3 h w s) = .tup [L h, Sx w, encS s] from rfl, show encS (.b4 h' w' m s') = .tup [L h', Sx w', I m, encS s'] from rfl]
      refine def_pure (n := 5) (ds := [_, _, _, _, _]) rfl ?_
      simp [b_alike_parts, hn]
  | b4 h w n s hh hw hs ih =>
    intro t' ht' j hj h1 h2 S n1 n2 d k1 k2 f1 f2 c g1 g2 o1 o2 v1 v2 hd l1 l2
    obtain ⟨k, rfl⟩ := lv2 (by omega : 2 ≤ j)
    rw [e_alike_parts]
    have e1 : htS (.b4 h w n s) = htS s + 1 := rfl
    cases ht' with
    | b4 h' w' m s' hh' hw' hs' =>
      have e2 : htS (.b4 h' w' m s') = htS s' + 1 := rfl
      by_cases he : h = h'
      · subst he
        obtain ⟨K1, hK1⟩ : ∃ K, K = setK (foldK [] k1) (.inr w) (I (d : Int)) := ⟨_, rfl⟩
        obtain ⟨K2, hK2⟩ : ∃ K, K = setK (foldK [] k2) (.inr w') (I (d : Int)) := ⟨_, rfl⟩
        have p1 := o1.put w (d := d) (by omega) (by omega)
        have p2 := o2.put w' (d := d) (by omega) (by omega)
        have z1 := lo_dicI (w := w) (d := d) v1
        have z2 := lo_dicI (w := w') (d := d) v2
        have y1 := setK_len (foldK [] k1) (.inr w) (I (d : Int))
        have y2 := setK_len (foldK [] k2) (.inr w') (I (d : Int))
        have x1 := foldK_len k1 []
        have x2 := foldK_len k2 []
        rw [List.length_nil] at x1 x2
        rw [← hK1] at p1 z1 y1
        rw [← hK2] at p2 z2 y2
        have q1 : (S ++ [Cell.dic K1, .dic K2])[S.length]? = some (.dic K1) := by simp
        have q2 : (S ++ [Cell.dic K1, .dic K2])[S.length + 1]? = some (.dic K2) := by simp
        have c2 : Clo (S ++ [Cell.dic K1, .dic K2]) := by
          have := (c.push (c := .dic K1) (lo_dic z1)).push (c := .dic K2) (lo_dic z2)
          simpa using this
        have r := ih hs' (j := k + 1) (by omega) (by omega) (by omega) c2 q1 q2 p1 p2 z1 z2 (d := d + 1) (by omega) (by omega) (by omega)
        rw [show (((d + 1 : Nat)) : Int) = (d : Int) + 1 by omega] at r
        have st1 : eStar (eVar 2) (eBin dIx (eVar 0) (eC (.a (.int (1))))) (eVar 4) [some (.tup [L h, Sx w, I n, encS s]), some (.tup [L h, Sx w', I m, encS s']), some (.cel n1), some (.cel n2), some (I (d : Int)), some (L h), none, none] S = .ok (.cel S.length) (S ++ [.dic K1]) := by
          rw [hK1]
          exact star_at (k := Sx w) (n := n1) (by simp) g1 (small_line (by omega)) (by simp) (by simp) rfl
        have st2 : eStar (eVar 3) (eBin dIx (eVar 1) (eC (.a (.int (1))))) (eVar 4) [some (.tup [L h, Sx w, I n, encS s]), some (.tup [L h, Sx w', I m, encS s']), some (.cel n1), some (.cel n2), some (I (d : Int)), some (L h), some (.cel S.length), none] (S ++ [.dic K1]) = .ok (.cel (S.length + 1)) (S ++ [.dic K1, .dic K2]) := by
          rw [hK2]
          have := star_at (fa := eVar 3) (fk := eBin dIx (eVar 1) (eC (.a (.int (1))))) (fv := eVar 4) (env := [some (.tup [L h, Sx w, I n, encS s]), some (.tup [L h, Sx w', I m, encS s']), some (.cel n1), some (.cel n2), some (I (d : Int)), some (L h), some (.cel S.length), none]) (k := Sx w') (n := n2) (S := S ++ [.dic K1]) (v := I (d : Int)) (key := .inr w') (by simp) (get_app g2) (small_line (by omega)) (by simp) (by simp) rfl
          simpa using this
        have sl1 : cutL [L h, Sx w, I n, encS s] (some 2) (some (-1)) = [I n] := rfl
        have sl2 : cutL [L h, Sx w', I m, encS s'] (some 2) (some (-1)) = [I m] := rfl
        have dn : dNe (.tup [I (n : Int)]) (.tup [I (m : Int)]) S = some (.a (.bl (!decide (n = m))), S) := by
          rw [dNe_dat (n := 1) (d := .tup [I (n : Int)]) (e := .tup [I (m : Int)]) (fun d hd => by rw [List.mem_singleton.mp hd]; exact trivial) (fun d hd => by rw [List.mem_singleton.mp hd]; exact trivial) (by decide)]
          rw [show decide (D.tup [I (n : Int)] = D.tup [I (m : Int)]) = decide (n = m) by rw [Bool.eq_iff_iff]; simp; omega]
        rw [show decide (encS (plain f1 d (.b4 h w n s)) = encS (plain f2 d (.b4 h w' m s'))) = (decide (n = m) && decide (encS (plain (upd1 f1 w (Bn d)) (d + 1) s) = encS (plain (upd1 f2 w' (Bn d)) (d + 1) s'))) by
          rw [Bool.eq_iff_iff]
          simp [plain, encS_iff, hdS, rest]
          omega]
        rw [show encS (.b4 h w n s) = .tup [L h, Sx w, I n, encS s] from rfl, show encS (.b4 h w' m s') = .tup [L h, Sx w', I m, encS s'] from rfl]
        refine def_det (n := 5) (ds := [_, _, _, _, _]) rfl c rfl ?_
        generalize decide (encS (plain (upd1 f1 w (Bn d)) (d + 1) s) = encS (plain (upd1 f2 w' (Bn d)) (d + 1) s')) = res at r ⊢
        by_cases hnm : n = m
        · subst hnm
          rcases hh with rfl | rfl <;> simp [b_alike_parts, sl1, sl2, dn, st1, st2, r, Fix.push]
        · rcases hh with rfl | rfl <;> simp [b_alike_parts, sl1, sl2, dn, hnm, Fix.refl]
      · have hne : ¬ encS (plain f1 d (.b4 h w n s)) = encS (plain f2 d (.b4 h' w' m s')) := fun z => he (encS_inj z).1
        rw [decide_eq_false hne]
        rw [show encS (.b4 h w n s) = .tup [L h, Sx w, I n, encS s] from rfl, show encS (.b4 h' w' m s') = .tup [L h', Sx w', I m, encS s'] from rfl]
        refine def_pure (n := 5) (ds := [_, _, _, _, _]) rfl ?_
        simp [b_alike_parts, he]
    | is a' b' ha' hb' =>
      have hne : ¬ encS (plain f1 d (.b4 h w n s)) = encS (plain f2 d (.is a' b')) := fun z => by
        have this : h = "is" := (encS_inj z).1
        rcases hh with rfl | rfl <;> exact absurd this (by decide)
      rw [decide_eq_false hne]
      rw [show encS (.b4 h w n s) = .tup [L h, Sx w, I n, encS s] from rfl, show encS (.is a' b') = .tup [L "is", enc a', enc b'] from rfl]
      refine def_pure (n := 5) (ds := [_, _, _, _, _]) rfl ?_
      rcases hh with rfl | rfl <;> simp [b_alike_parts]
    | two h' s' t'' hh' _ _ =>
      have hn : h ≠ h' := by rcases hh with rfl | rfl <;> rcases hh' with rfl | rfl <;> decide
      have hne : ¬ encS (plain f1 d (.b4 h w n s)) = encS (plain f2 d (.two h' s' t'')) := fun z => hn (encS_inj z).1
      rw [decide_eq_false hne]
      rw [show encS (.b4 h w n s) = .tup [L h, Sx w, I n, encS s] from rfl, show encS (.two h' s' t'') = .tup [L h', encS s', encS t''] from rfl]
      refine def_pure (n := 5) (ds := [_, _, _, _, _]) rfl ?_
      simp [b_alike_parts, hn]
    | b3 h' w' s' hh' _ _ =>
      have hn : h ≠ h' := by rcases hh with rfl | rfl <;> rcases hh' with rfl | rfl | rfl | rfl <;> decide
      have hne : ¬ encS (plain f1 d (.b4 h w n s)) = encS (plain f2 d (.b3 h' w' s')) := fun z => hn (encS_inj z).1
      rw [decide_eq_false hne]
      rw [show encS (.b4 h w n s) = .tup [L h, Sx w, I n, encS s] from rfl, show encS (.b3 h' w' s') = .tup [L h', Sx w', encS s'] from rfl]
      refine def_pure (n := 5) (ds := [_, _, _, _, _]) rfl ?_
      simp [b_alike_parts, hn]
theorem enc_injW {P Q : Str → Prop} {a : Ex} (ha : WE P a) : ∀ {b : Ex}, WE Q b → enc a = enc b → a = b := by
  induction ha with
  | num n =>
    intro b hb e
    cases hb with
    | num m =>
      rw [enc_num, enc_num] at e
      injection e with e
      injection e with e
      rw [show n = m by omega]
    | var w _ => exact absurd e (by rw [enc_num, enc_var]; intro z; injection z with z; cases z)
    | op h nm es tl _ _ _ => exact absurd e (by rw [enc_num, enc_op]; intro z; cases z)
  | var w _ =>
    intro b hb e
    cases hb with
    | num m => exact absurd e (by rw [enc_num, enc_var]; intro z; injection z with z; cases z)
    | var v _ =>
      rw [enc_var, enc_var] at e
      injection e with e
      injection e with e
      rw [e]
    | op h nm es tl _ _ _ => exact absurd e (by rw [enc_var, enc_op]; intro z; cases z)
  | op h nm es tl s hn hw ih =>
    intro b hb e
    cases hb with
    | num m => exact absurd e (by rw [enc_num, enc_op]; intro z; cases z)
    | var v _ => exact absurd e (by rw [enc_var, enc_op]; intro z; cases z)
    | op h' nm' es' tl' s' hn' hw' =>
      rw [enc_op, enc_op] at e
      obtain ⟨rfl, e2, e3, rfl⟩ := (enc_op_eq fun (z : h = h') => by
        subst z
        obtain ⟨c1, c2⟩ := s.cut s'
        rw [List.length_map, List.length_map]
        exact ⟨c1, c2⟩).mp e
      have hnm : nm = nm' := by
        cases nm with
        | none =>
          cases nm' with
          | none => rfl
          | some v => cases e2
        | some u =>
          cases nm' with
          | none => cases e2
          | some v =>
            injection e2 with e2
            injection e2 with e2
            injection e2 with e2
            rw [e2]
      have key : ∀ (es es' : List Ex), (∀ e ∈ es, ∀ {b : Ex}, WE Q b → enc e = enc b → e = b) → (∀ e ∈ es', WE Q e) → encL es = encL es' → es = es' := fun es => by
        induction es with
        | nil =>
          intro es' _ _ e
          cases es' with
          | nil => rfl
          | cons x r => cases e
        | cons x r ihr =>
          intro es' h1 h2 e
          cases es' with
          | nil => cases e
          | cons y t =>
            injection e with ea eb
            rw [h1 x (List.mem_cons_self ..) (h2 y (List.mem_cons_self ..)) ea, ihr t (fun e he => h1 e (List.mem_cons_of_mem _ he)) (fun e he => h2 e (List.mem_cons_of_mem _ he)) eb]
      rw [hnm, key es es' ih hw' e3]
theorem encS_injW {P Q : Str → Prop} {s : Se} (hs : WS P s) : ∀ {t : Se}, WS Q t → encS s = encS t → s = t := by
  induction hs with
  | is a b ha hb =>
    intro t ht e
    obtain ⟨e1, e2⟩ := encS_inj e
    cases ht with
    | is a' b' ha' hb' =>
      injection e2 with e2 e3
      injection e3 with e3
      rw [enc_injW ha ha' e2, enc_injW hb hb' e3]
    | two h' s' t' hh _ _ => rcases hh with rfl | rfl <;> simp [hdS] at e1
    | b3 h' w' s' hh _ _ => rcases hh with rfl | rfl | rfl | rfl <;> simp [hdS] at e1
    | b4 h' w' m s' hh _ _ => rcases hh with rfl | rfl <;> simp [hdS] at e1
  | two h s t hh _ _ ih1 ih2 =>
    intro t' ht e
    obtain ⟨e1, e2⟩ := encS_inj e
    cases ht with
    | is a' b' ha' hb' => rcases hh with rfl | rfl <;> simp [hdS] at e1
    | two h' s' t' hh' hs' ht' =>
      injection e2 with e2 e3
      injection e3 with e3
      have e1 : h = h' := e1
      rw [e1, ih1 hs' e2, ih2 ht' e3]
    | b3 h' w' s' hh' _ _ =>
      rcases hh with rfl | rfl <;> rcases hh' with rfl | rfl | rfl | rfl <;> simp [hdS] at e1
    | b4 h' w' m s' hh' _ _ => rcases hh with rfl | rfl <;> rcases hh' with rfl | rfl <;> simp [hdS] at e1
  | b3 h w s hh _ _ ih =>
    intro t' ht e
    obtain ⟨e1, e2⟩ := encS_inj e
    cases ht with
    | is a' b' ha' hb' => rcases hh with rfl | rfl | rfl | rfl <;> simp [hdS] at e1
    | two h' s' t' hh' _ _ => rcases hh with rfl | rfl | rfl | rfl <;> rcases hh' with rfl | rfl <;> simp [hdS] at e1
    | b3 h' w' s' hh' _ hs' =>
      injection e2 with e2 e3
      injection e2 with e2
      injection e2 with e2
      injection e3 with e3
      have e1 : h = h' := e1
      rw [e1, e2, ih hs' e3]
    | b4 h' w' m s' hh' _ _ => rcases hh with rfl | rfl | rfl | rfl <;> rcases hh' with rfl | rfl <;> simp [hdS] at e1
  | b4 h w n s hh _ _ ih =>
    intro t' ht e
    obtain ⟨e1, e2⟩ := encS_inj e
    cases ht with
    | is a' b' ha' hb' => rcases hh with rfl | rfl <;> simp [hdS] at e1
    | two h' s' t' hh' _ _ => rcases hh with rfl | rfl <;> rcases hh' with rfl | rfl <;> simp [hdS] at e1
    | b3 h' w' s' hh' _ _ => rcases hh with rfl | rfl <;> rcases hh' with rfl | rfl | rfl | rfl <;> simp [hdS] at e1
    | b4 h' w' m s' hh' _ hs' =>
      injection e2 with e2 e3
      injection e2 with e2
      injection e2 with e2
      injection e3 with e3 e4
      injection e3 with e3
      injection e3 with e3
      injection e4 with e4
      have e1 : h = h' := e1
      rw [e1, e2, show n = m by omega, ih hs' e4]
open Classical in
theorem sp_alike {s t : Se} (hs : WS Wd s) (ht : WS Wd t) {j : Nat} (hj : htS s + 8 ≤ j) (h1 : htS s ≤ 40) (h2 : htS t ≤ 40) {S : Sto} (c : Clo S) :
    (sem j).are_alike [encS s, encS t] S = .ok (.a (.bl (decide (encS (plain id 0 s) = encS (plain id 0 t))))) S := by
  obtain ⟨k, rfl⟩ := lv2 (by omega : 2 ≤ j)
  rw [e_are_alike]
  have d1 := dEq_dat (n := 64) (S := S) (dat_mono (by omega) (ws_dat (fun _ => strOk_wd) hs)) (dat_mono (by omega) (ws_dat (fun _ => strOk_wd) ht)) (Nat.le_refl _)
  have c2 : Clo (S ++ [Cell.dic [], .dic []]) := by
    have := (c.push (c := .dic []) rfl).push (c := .dic []) rfl
    simpa using this
  have r := sp_alike_p hs ht (j := k + 1) (by omega) h1 h2 c2 (n1 := S.length) (n2 := S.length + 1) (k1 := []) (k2 := []) (by simp) (by simp) OneE.nil OneE.nil (fun _ h => nomatch h) (fun _ h => nomatch h) (d := 0) (by omega) (by simp; omega) (by simp; omega)
  refine def_det (n := 2) (ds := [_, _]) rfl c rfl ?_
  by_cases he : encS s = encS t
  · have : encS (plain id 0 s) = encS (plain id 0 t) := by rw [encS_injW hs ht he]
    rw [decide_eq_true he] at d1
    simp [b_are_alike, d1, Fix.refl, this]
  · simp at r
    simp [b_are_alike, d1, he, r, Fix.push]
end K06
set_option maxRecDepth 100000
set_option exponentiation.threshold 600
/-! k06: the law's own functions that draw nothing. -/
namespace K06
open PySem PySem.Spec PyProof.Rows L2 G
variable {P : Str → Prop}
theorem encL_noC (hP : ∀ w, P w → Ok w) {es : List Ex} (h : ∀ e ∈ es, WE P e) : ∀ d ∈ encL es, noC d := fun d hd => by
  rw [encL_eq] at hd
  obtain ⟨e, he, rfl⟩ := List.mem_map.mp hd
  exact we_noC hP (h e he)
/-- the form by the head -/
theorem Shp.cases {h : String} {nm : Option Str} {n : Nat} {tl : List D} (s : Shp h nm n tl) : (h = "table" ∧ nm = none ∧ n = 1 ∧ ∃ a b, tl = [a, b]) ∨ ((h = "call" ∨ h = "look") ∧ (∃ w, nm = some w) ∧ tl = []) ∨ (h ≠ "table" ∧ h ≠ "call" ∧ h ≠ "look" ∧ nm = none ∧ tl = []) := by
  cases s with
  | bin h hm =>
    obtain ⟨h1, h2, h3, h4⟩ := opsL_ne hm
    exact .inr (.inr ⟨h3, h1, h2, rfl, rfl⟩)
  | pick => exact .inr (.inr ⟨by decide, by decide, by decide, rfl, rfl⟩)
  | table ns n hl => exact .inl ⟨rfl, rfl, rfl, _, _, rfl⟩
  | call f n => exact .inr (.inl ⟨.inl rfl, ⟨f, rfl⟩, rfl⟩)
  | look f n => exact .inr (.inl ⟨.inr rfl, ⟨f, rfl⟩, rfl⟩)
theorem sp_items (hP : ∀ w, P w → Ok w) {h : String} {nm : Option Str} {es : List Ex} {tl : List D} (he : WE P (.op h nm es tl)) {j : Nat} (hj : 2 ≤ j) {S : Sto} (c : Clo S) :
    (sem j)._law_items [enc (.op h nm es tl)] S = .ok (.cel S.length) (S ++ [.lst (encL es)]) := by
  obtain ⟨k, rfl⟩ := lv2 hj
  cases he with
  | op _ _ _ _ s hn hw =>
    rw [e__law_items, enc_op]
    refine def_detL (n := 1) (ds := [_]) rfl c (lo_lst (encL_noC hP hw)) ?_
    rcases s.cases with ⟨rfl, rfl, hl, a, b, rfl⟩ | ⟨hh, ⟨w, rfl⟩, rfl⟩ | ⟨h1, h2, h3, rfl, rfl⟩
    · obtain ⟨e, rfl⟩ : ∃ e, es = [e] := by
        match es, hl with
        | [e], _ => exact ⟨e, rfl⟩
      have : cutL [L "table", enc e, a, b] (some 1) (some 2) = [enc e] := rfl
      simp [b__law_items, encL, this, Fix.push]
    · have : cutL (L h :: Sx w :: encL es) (some 2) none = encL es := cutL_drop (k := 2) (by simp)
      rcases hh with rfl | rfl <;> simp [b__law_items, this, Fix.push]
    · have : cutL (L h :: encL es) (some 1) none = encL es := cutL_drop (k := 1) (by simp)
      simp [b__law_items, h1, h2, h3, this, Fix.push]
theorem nlL_take : ∀ (es : List Ex) (j : Nat) (e : Ex), es[j]? = some e → nlL (es.take (j + 1)) = nlL (es.take j) + nl e
  | x :: r, 0, e, h => by
    cases h
    simp [nlL]
  | x :: r, j + 1, e, h => by
    rw [List.take_succ_cons, List.take_succ_cons]
    unfold nlL
    rw [nlL_take r j e (by simpa using h)]
    omega
theorem nlL_take_le (es : List Ex) (j : Nat) : nlL (es.take j) ≤ nlL es := by
  induction es generalizing j with
  | nil => simp [nlL]
  | cons x r ih =>
    cases j with
    | zero => simp [nlL]
    | succ j =>
      rw [List.take_succ_cons]
      unfold nlL
      have := ih j
      omega
/-- found = found + F(item), over the items -/
theorem collect {F : List D → Sto → R D} {PD : D → Prop} {es : List Ex} {S0 S : Sto} {n0 m : Nat} {x y : Option D} {ws0 : List D} {b : Nat} (c : Clo S)
    (hF : ∀ e ∈ es, ∀ S, Clo S → ∃ ws, (∀ d ∈ ws, PD d) ∧ ws.length ≤ nl e ∧ F [enc e] S = .ok (.cel S.length) (S ++ [.lst ws])) (hPD : ∀ d, PD d → noC d)
    (hi : S[n0]? = some (.lst (encL es))) (hm : S[m]? = some (.lst ws0)) (hw0 : ∀ d ∈ ws0, PD d) (hl0 : ws0.length ≤ b) (f : Fix S0 S) (hm0 : S0.length ≤ m) (hsz : b + nlL es ≤ 100000) {K : SR → Prop}
    (hK : ∀ m' y' S' ws, S'[m']? = some (.lst ws) → S0.length ≤ m' → (∀ d ∈ ws, PD d) → ws.length ≤ b + nlL es → Fix S0 S' → K (.nx [x, some (.cel m'), y'] S')) :
    Ws K (forGo (some (n0, .lst (encL es))) (encL es) (gN 2) (sSeq (sSet 1 (eBin dAdd (eVar 1) (eCall F [] (aCons (eVar 2) aNil)))) sNil) (encL es) [x, some (.cel m), y] S) := by
  refine forH_wp (fun j env S' => ∃ m' y' ws, env = [x, some (.cel m'), y'] ∧ S'[m']? = some (.lst ws) ∧ S0.length ≤ m' ∧ (∀ d ∈ ws, PD d) ∧ ws.length ≤ b + nlL (es.take j) ∧ Fix S0 S' ∧ Clo S' ∧ S'[n0]? = some (.lst (encL es))) ?_ ⟨m, y, ws0, rfl, hm, hm0, hw0, by simpa [nlL] using hl0, f, c, hi⟩ ?_ ?_
  · rintro j env S' ⟨m', y', ws, rfl, h1, h2, h3, h4, h5, h6, h7⟩
    exact held_lst h7
  · rintro j d env S' hd ⟨m', y', ws, rfl, h1, h2, h3, h4, h5, h6, h7⟩
    rw [encL_eq, List.getElem?_map] at hd
    cases he : es[j]? with
    | none => rw [he] at hd; cases hd
    | some e =>
      rw [he] at hd
      cases hd
      obtain ⟨us, g1, g2, g3⟩ := hF e (List.mem_of_getElem? he) S' h6
      have hb : nlL (es.take (j + 1)) = nlL (es.take j) + nl e := nlL_take es j e he
      have hb2 := nlL_take_le es (j + 1)
      have ad : dAdd (.cel m') (.cel S'.length) (S' ++ [.lst us]) = some (.cel (S'.length + 1), S' ++ [.lst us, .lst (ws ++ us)]) := by
        have := dAdd_lst (S := S' ++ [.lst us]) (get_app h1) get_new (small_line (by omega))
        simpa using this
      have cc : Clo (S' ++ [Cell.lst us, .lst (ws ++ us)]) := by
        have := (h6.push (c := .lst us) (lo_lst fun d hd => hPD d (g1 d hd))).push (c := .lst (ws ++ us)) (lo_lst fun d hd => (List.mem_append.mp hd).elim (fun q => hPD d (h3 d q)) fun q => hPD d (g1 d q))
        simpa using this
      have hbody : (sSeq (sSet 1 (eBin dAdd (eVar 1) (eCall F [] (aCons (eVar 2) aNil)))) sNil) ([x, some (.cel m'), y'].set 2 (some (enc e))) S' = .nx [x, some (.cel (S'.length + 1)), some (enc e)] (S' ++ [.lst us, .lst (ws ++ us)]) := by
        simp [g3, ad]
      rw [hbody]
      refine ⟨_, _, ws ++ us, rfl, by simp, by have := h5.len; omega, fun d hd => (List.mem_append.mp hd).elim (h3 d) (g1 d), by rw [List.length_append]; omega, h5.app _, cc, get_app h7⟩
  · rintro env S' ⟨m', y', ws, rfl, h1, h2, h3, h4, h5, h6, h7⟩
    rw [encL_len, List.take_length] at h4
    exact hK m' y' S' ws h1 h2 h3 h4 h5
end K06
set_option maxRecDepth 100000
set_option exponentiation.threshold 600
/-! k06: words, free words. -/
namespace K06
open PySem PySem.Spec PyProof.Rows L2 G
variable {P : Str → Prop}
/-- a word as data -/
def PW (P : Str → Prop) (d : D) : Prop := ∃ w, d = Sx w ∧ P w
theorem PW.noC {d : D} (h : PW P d) : noC d := by obtain ⟨w, rfl, _⟩ := h; exact noC_atom _
theorem sp_words (hP : ∀ w, P w → Ok w) {e : Ex} (he : WE P e) : ∀ {j : Nat}, ht e + 4 ≤ j → nl e ≤ 90000 → ∀ S, Clo S → ∃ ws, (∀ d ∈ ws, PW P d) ∧ ws.length ≤ nl e ∧ (sem j)._law_words [enc e] S = .ok (.cel S.length) (S ++ [.lst ws]) := by
  induction he with
  | num n =>
    intro j hj hn S c
    obtain ⟨k, rfl⟩ := lv2 (by omega : 2 ≤ j)
    refine ⟨[], fun _ h => (by cases h), Nat.zero_le _, ?_⟩
    rw [e__law_words, enc_num]
    refine def_detL (n := 1) (ds := [_]) rfl c rfl ?_
    simp [b__law_words, Fix.push]
  | var w hw =>
    intro j hj hn S c
    obtain ⟨k, rfl⟩ := lv2 (by omega : 2 ≤ j)
    refine ⟨[Sx w], fun d h => ⟨w, List.mem_singleton.mp h, hw⟩, Nat.le_refl _, ?_⟩
    rw [e__law_words, enc_var]
    refine def_detL (n := 1) (ds := [_]) rfl c rfl ?_
    simp [b__law_words, Fix.push]
  | op h nm es tl s hn hw ih =>
    intro j hj hsz S c
    have he : WE P (.op h nm es tl) := .op h nm es tl s hn hw
    have e1 : ht (.op h nm es tl) = htL es + 1 := rfl
    have e2 : nl (.op h nm es tl) = nlL es + 7 := rfl
    obtain ⟨k, rfl⟩ := lv2 (by omega : 2 ≤ j)
    rw [e__law_words]
    have main : ∃ cc, (∃ ws, cc = Cell.lst ws ∧ (∀ d ∈ ws, PW P d) ∧ ws.length ≤ 1 + nlL es) ∧ defSem 1 3 (b__law_words (sem (k + 1)) (sem k)) [enc (.op h nm es tl)] S = .ok (.cel S.length) (S ++ [cc]) := by
      refine def_detLk (n := 1) (ds := [_]) rfl c (fun cc ⟨ws, e, h1, _⟩ => by rw [e]; exact lo_lst fun d hd => (h1 d hd).noC) fun K hK => ?_
      have hF : ∀ e ∈ es, ∀ S, Clo S → ∃ ws, (∀ d ∈ ws, PW P d) ∧ ws.length ≤ nl e ∧ (sem (k + 1))._law_words [enc e] S = .ok (.cel S.length) (S ++ [.lst ws]) := fun e hm S c => by
        have m1 := htL_le hm
        have m2 := nlL_le hm
        exact ih e hm (by omega) (by omega) S c
      -- what follows the name
      have tail : ∀ (ws0 : List D), (∀ d ∈ ws0, PW P d) → ws0.length ≤ 1 → Ws K
          ((sSeq (sFor (iSeq (eCall (sem (k + 1))._law_items [] (aCons (eVar 0) aNil))) (gN 2) (sSeq (sSet 1 (eBin dAdd (eVar 1) (eCall (sem (k + 1))._law_words [] (aCons (eVar 2) aNil)))) sNil)) (sSeq (sRet (eVar 1)) sNil)) [some (enc (.op h nm es tl)), some (.cel S.length), none] (S ++ [.lst ws0])) := fun ws0 h0 h1 => by
        have ci : Clo (S ++ [Cell.lst ws0]) := c.push (lo_lst fun d hd => (h0 d hd).noC)
        have it := sp_items hP he (j := k + 1) (by omega) ci
        have ci2 : Clo (S ++ [Cell.lst ws0, .lst (encL es)]) := by
          have := ci.push (c := .lst (encL es)) (lo_lst (encL_noC hP hw))
          simpa using this
        have l0 : (S ++ [Cell.lst ws0]).length = S.length + 1 := by simp
        rw [l0, List.append_assoc] at it
        simp only [List.cons_append, List.nil_append] at it
        have g1 : (S ++ [Cell.lst ws0, .lst (encL es)])[S.length + 1]? = some (.lst (encL es)) := by simp
        have lp := collect (F := (sem (k + 1))._law_words) (PD := PW P) (x := some (enc (.op h nm es tl))) (y := none) (S0 := S) (b := 1) ci2 hF (fun d q => q.noC) g1 (m := S.length) (ws0 := ws0) (by simp) h0 h1 Fix.push (Nat.le_refl _) (by omega)
          (K := sqK K (sSeq (sRet (eVar 1)) sNil)) fun m' y' S' ws q1 q2 q3 q4 q5 => by
            simp only [sqK_nx, sSeq_eq, sRet_eq, eVar_eq, List.getElem?_cons_succ, List.getElem?_cons_zero, varR_some, retR_ok, sq_rt, Ws_rt]
            exact hK m' _ _ q2 q1 ⟨ws, rfl, q3, q4⟩ q5
        simp [it, seqR_lst g1]
        exact lp
      generalize hB : (sSeq (sFor (iSeq (eCall (sem (k + 1))._law_items [] (aCons (eVar 0) aNil))) (gN 2) (sSeq (sSet 1 (eBin dAdd (eVar 1) (eCall (sem (k + 1))._law_words [] (aCons (eVar 2) aNil)))) sNil)) (sSeq (sRet (eVar 1)) sNil)) = B at tail
      unfold b__law_words
      rw [hB]
      rcases s.cases with ⟨rfl, rfl, hl, a, b, rfl⟩ | ⟨hh, ⟨w, rfl⟩, rfl⟩ | ⟨h1, h2, h3, rfl, rfl⟩
      · have t := tail [] (fun _ h => (by cases h)) (Nat.zero_le _)
        rw [enc_op] at t ⊢
        simp
        exact t
      · rcases hh with rfl | rfl
        · have t := tail [] (fun _ h => (by cases h)) (Nat.zero_le _)
          rw [enc_op] at t ⊢
          simp at t ⊢
          exact t
        · have t := tail [Sx w] (fun d h => ⟨w, List.mem_singleton.mp h, hn w rfl⟩) (Nat.le_refl _)
          rw [enc_op] at t ⊢
          have ap := append_new (S := S) (ds := []) (d := Sx w) (by decide)
          simp [isTy_new, ap] at t ⊢
          exact t
      · have t := tail [] (fun _ h => (by cases h)) (Nat.zero_le _)
        rw [enc_op] at t ⊢
        simp [h3] at t ⊢
        exact t
    obtain ⟨cc, ⟨ws, rfl, h1, h2⟩, h3⟩ := main
    exact ⟨ws, h1, by omega, h3⟩
end K06
set_option maxRecDepth 100000
set_option exponentiation.threshold 600
/-! k06: free words; filled, plain. -/
namespace K06
open PySem PySem.Spec PyProof.Rows L2 G
variable {P : Str → Prop}
theorem sp_free (hP : ∀ w, P w → Ok w) {s : Se} (hs : WS P s) : ∀ {j : Nat}, htS s + 6 ≤ j → nlS s ≤ 90000 → ∀ S, Clo S → ∃ ws, (∀ d ∈ ws, PW P d) ∧ ws.length ≤ nlS s ∧ (sem j)._law_free [encS s] S = .ok (.cel S.length) (S ++ [.lst ws]) := by
  induction hs with
  | is a b ha hb =>
    intro j hj hn S c
    obtain ⟨k, rfl⟩ := lv2 (by omega : 2 ≤ j)
    have e1 : htS (.is a b) = max (K06.ht a) (K06.ht b) + 1 := rfl
    have e2 : nlS (.is a b) = nl a + nl b + 1 := rfl
    obtain ⟨us, u1, u2, u3⟩ := sp_words hP ha (j := k + 1) (by omega) (by omega) S c
    have c1 : Clo (S ++ [Cell.lst us]) := c.push (lo_lst fun d hd => (u1 d hd).noC)
    obtain ⟨vs, v1, v2, v3⟩ := sp_words hP hb (j := k + 1) (by omega) (by omega) _ c1
    have l0 : (S ++ [Cell.lst us]).length = S.length + 1 := by simp
    rw [l0, List.append_assoc] at v3
    simp only [List.cons_append, List.nil_append] at v3
    have hall : ∀ d ∈ us ++ vs, PW P d := fun d hd => (List.mem_append.mp hd).elim (u1 d) (v1 d)
    refine ⟨us ++ vs, hall, by rw [List.length_append]; omega, ?_⟩
    rw [e__law_free]
    refine def_detL (n := 1) (ds := [_]) rfl c (lo_lst fun d hd => (hall d hd).noC) ?_
    have ad : dAdd (.cel S.length) (.cel (S.length + 1)) (S ++ [.lst us, .lst vs]) = some (.cel (S.length + 2), S ++ [.lst us, .lst vs, .lst (us ++ vs)]) := by
      have := dAdd_lst (S := S ++ [.lst us, .lst vs]) (i := S.length) (j := S.length + 1) (xs := us) (ys := vs) (by simp) (by simp) (small_line (by omega))
      simpa using this
    rw [show encS (.is a b) = .tup [L "is", enc a, enc b] from rfl]
    simp [b__law_free, u3, v3, ad, Fix.push]
  | two h s t hh hs ht ih1 ih2 =>
    intro j hj hn S c
    obtain ⟨k, rfl⟩ := lv2 (by omega : 2 ≤ j)
    have e1 : htS (.two h s t) = max (htS s) (htS t) + 1 := rfl
    have e2 : nlS (.two h s t) = nlS s + nlS t + 1 := rfl
    rw [e__law_free]
    have cL : Clo (S ++ [Cell.lst [L "and", L "if"]]) := c.push rfl
    obtain ⟨us, u1, u2, u3⟩ := ih1 (j := k + 1) (by omega) (by omega) _ cL
    have c1 : Clo (S ++ [Cell.lst [L "and", L "if"]] ++ [Cell.lst us]) := cL.push (lo_lst fun d hd => (u1 d hd).noC)
    obtain ⟨vs, v1, v2, v3⟩ := ih2 (j := k + 1) (by omega) (by omega) _ c1
    simp only [List.length_append, List.length_singleton, List.length_cons, List.length_nil, List.append_assoc, List.cons_append, List.nil_append, Nat.zero_add, Nat.reduceAdd] at u3 v3
    have hall : ∀ d ∈ us ++ vs, PW P d := fun d hd => (List.mem_append.mp hd).elim (u1 d) (v1 d)
    refine ⟨us ++ vs, hall, by rw [List.length_append]; omega, ?_⟩
    refine def_detL (n := 1) (ds := [_]) rfl c (lo_lst fun d hd => (hall d hd).noC) ?_
    have ad : dAdd (.cel (S.length + 1)) (.cel (S.length + 2)) (S ++ [.lst [L "and", L "if"], .lst us, .lst vs]) = some (.cel (S.length + 3), S ++ [.lst [L "and", L "if"], .lst us, .lst vs, .lst (us ++ vs)]) := by
      have := dAdd_lst (S := S ++ [.lst [L "and", L "if"], .lst us, .lst vs]) (i := S.length + 1) (j := S.length + 2) (xs := us) (ys := vs) (by simp) (by simp) (small_line (by omega))
      simpa using this
    rw [show encS (.two h s t) = .tup [L h, encS s, encS t] from rfl]
    rcases hh with rfl | rfl <;> simp [b__law_free, u3, v3, ad, Fix.push]
  | b3 h w s hh hw hs ih =>
    intro j hj hn S c
    obtain ⟨k, rfl⟩ := lv2 (by omega : 2 ≤ j)
    have e1 : htS (.b3 h w s) = htS s + 1 := rfl
    have e2 : nlS (.b3 h w s) = nlS s + 2 := rfl
    rw [e__law_free]
    have cL : Clo (S ++ [Cell.lst [L "and", L "if"]]) := c.push rfl
    obtain ⟨us, u1, u2, u3⟩ := ih (j := k + 1) (by omega) (by omega) _ cL
    simp only [List.length_append, List.length_singleton, List.length_cons, List.length_nil, List.append_assoc, List.cons_append, List.nil_append, Nat.zero_add, Nat.reduceAdd] at u3
    let p : D → Bool := fun d => match d with
      | .a (.str x) => !decide (x = w)
      | _ => false
    have hall : ∀ d ∈ us.filter p, PW P d := fun d hd => u1 d (List.mem_filter.mp hd).1
    refine ⟨us.filter p, hall, by have := List.length_filter_le p us; omega, ?_⟩
    refine def_detL (n := 1) (ds := [_]) rfl c (lo_lst fun d hd => (hall d hd).noC) ?_
    have g1 : (S ++ [Cell.lst [L "and", L "if"], .lst us])[S.length + 1]? = some (.lst us) := by simp
    have lc : lcGo (some (S.length + 1, .lst us)) us (gN 1) (tBin dNe (eVar 1) (eBin dIx (eVar 0) (eC (.a (.int (1)))))) (eVar 1) [some (.tup [L h, Sx w, encS s]), none] us (S ++ [Cell.lst [L "and", L "if"], .lst us]) = .ok ((us.filter p).map id) (S ++ [Cell.lst [L "and", L "if"], .lst us]) := by
      refine lcH_filter id p (held_lst g1) us (fun d hd => ?_) fun d hd _ => by simp
      obtain ⟨x, rfl, _⟩ := u1 d hd
      simp [p]
    rw [List.map_id] at lc
    have lr := lcR_at (by omega) lc
    rw [show encS (.b3 h w s) = .tup [L h, Sx w, encS s] from rfl]
    rcases hh with rfl | rfl | rfl | rfl <;> simp [b__law_free, u3, seqR_lst g1, wipeS, lr, Fix.push]
  | b4 h w n s hh hw hs ih =>
    intro j hj hn S c
    obtain ⟨k, rfl⟩ := lv2 (by omega : 2 ≤ j)
    have e1 : htS (.b4 h w n s) = htS s + 1 := rfl
    have e2 : nlS (.b4 h w n s) = nlS s + 3 := rfl
    rw [e__law_free]
    have cL : Clo (S ++ [Cell.lst [L "and", L "if"]]) := c.push rfl
    obtain ⟨us, u1, u2, u3⟩ := ih (j := k + 1) (by omega) (by omega) _ cL
    simp only [List.length_append, List.length_singleton, List.length_cons, List.length_nil, List.append_assoc, List.cons_append, List.nil_append, Nat.zero_add, Nat.reduceAdd] at u3
    let p : D → Bool := fun d => match d with
      | .a (.str x) => !decide (x = w)
      | _ => false
    have hall : ∀ d ∈ us.filter p, PW P d := fun d hd => u1 d (List.mem_filter.mp hd).1
    refine ⟨us.filter p, hall, by have := List.length_filter_le p us; omega, ?_⟩
    refine def_detL (n := 1) (ds := [_]) rfl c (lo_lst fun d hd => (hall d hd).noC) ?_
    have g1 : (S ++ [Cell.lst [L "and", L "if"], .lst us])[S.length + 1]? = some (.lst us) := by simp
    have lc : lcGo (some (S.length + 1, .lst us)) us (gN 1) (tBin dNe (eVar 1) (eBin dIx (eVar 0) (eC (.a (.int (1)))))) (eVar 1) [some (.tup [L h, Sx w, I n, encS s]), none] us (S ++ [Cell.lst [L "and", L "if"], .lst us]) = .ok ((us.filter p).map id) (S ++ [Cell.lst [L "and", L "if"], .lst us]) := by
      refine lcH_filter id p (held_lst g1) us (fun d hd => ?_) fun d hd _ => by simp
      obtain ⟨x, rfl, _⟩ := u1 d hd
      simp [p]
    rw [List.map_id] at lc
    have lr := lcR_at (by omega) lc
    rw [show encS (.b4 h w n s) = .tup [L h, Sx w, I n, encS s] from rfl]
    rcases hh with rfl | rfl <;> simp [b__law_free, u3, seqR_lst g1, wipeS, lr, Fix.push]
/-- a dict as a change of words -/
structure EnvE (kvs : List (Key × D)) (f : Str → Str) : Prop where
  at_ : ∀ w, (getK kvs (.inr w)).getD (Sx w) = Sx (f w)
  len : kvs.length ≤ 1000
  noC : ∀ kv ∈ kvs, G.noC kv.2
theorem EnvE.nil : EnvE [] id := ⟨fun _ => rfl, Nat.zero_le _, fun _ h => (by cases h)⟩
theorem EnvE.put {kvs : List (Key × D)} {f : Str → Str} (o : EnvE kvs f) (w x : Str) (hl : kvs.length < 1000) : EnvE (setK kvs (.inr w) (Sx x)) (upd1 f w x) := by
  refine ⟨fun y => ?_, by have := setK_len kvs (.inr w) (Sx x); omega, fun kv h => ?_⟩
  · rw [getK_set]
    unfold upd1
    by_cases h : y = w
    · subst h
      rw [if_pos rfl, if_pos rfl]
      rfl
    · rw [if_neg (fun e => h (Sum.inr.inj e)), if_neg h]
      exact o.at_ y
  · rcases mem_setK h with h | h
    · exact o.noC kv h
    · rw [h]
      exact noC_atom _
theorem sp_with {j : Nat} (hj : 2 ≤ j) {S : Sto} (c : Clo S) {n : Nat} {kvs : List (Key × D)} {w : Str} {v : D} (h : S[n]? = some (.dic kvs)) (hl : kvs.length < 90000) (hlo : Cell.lo S.length (.dic (setK kvs (.inr w) v)) = true) :
    (sem j)._law_with [.cel n, Sx w, v] S = .ok (.cel S.length) (S ++ [.dic (setK kvs (.inr w) v)]) := by
  obtain ⟨k, rfl⟩ := lv2 hj
  rw [e__law_with]
  refine def_detL (n := 3) (ds := [_, _, _]) rfl c hlo ?_
  have g1 : (S ++ [Cell.dic kvs])[S.length]? = some (.dic kvs) := new_at
  have p := dPut_dic (v := v) g1 (keyOf_str w) (Nat.lt_of_lt_of_le hl (small_line (by omega)))
  simp [b__law_with, isTy_dic h, dCopy_at h, p]
  exact Fix.push
theorem sp_rebuilt (hP : ∀ w, P w → Ok w) {h : String} {nm : Option Str} {es : List Ex} {tl : List D} (he : WE P (.op h nm es tl)) {j : Nat} (hj : 2 ≤ j) {S : Sto} (c : Clo S) {n : Nat} {ds : List D} (hd : S[n]? = some (.lst ds)) (hl : ds.length = es.length) (hn : ∀ d ∈ ds, noC d) :
    (sem j)._law_rebuilt [enc (.op h nm es tl), .cel n] S = .ok (.tup (L h :: (nm.toList.map (fun w => Sx w) ++ (ds ++ tl)))) S := by
  obtain ⟨k, rfl⟩ := lv2 hj
  have hnc := we_noC hP he
  cases he with
  | op _ _ _ _ s hn' hw =>
    rw [e__law_rebuilt, enc_op]
    obtain ⟨q1, q2, q3, q4⟩ := s.bnd
    have hlo : D.lo S.length (.tup (L h :: (nm.toList.map (fun w => Sx w) ++ (ds ++ tl)))) = true := by
      refine noC_tup (fun d hd => ?_) S.length
      rcases List.mem_cons.mp hd with rfl | hd
      · exact noC_atom _
      rcases List.mem_append.mp hd with hd | hd
      · obtain ⟨w, _, rfl⟩ := List.mem_map.mp hd
        exact noC_atom _
      rcases List.mem_append.mp hd with hd | hd
      · exact hn d hd
      · exact dat_noC (s.dat (k := 2) d hd)
    refine def_det (n := 2) (ds := [_, _]) rfl c hlo ?_
    rcases s.cases with ⟨rfl, rfl, hl1, a, b, rfl⟩ | ⟨hh, ⟨w, rfl⟩, rfl⟩ | ⟨h1, h2, h3, rfl, rfl⟩
    · obtain ⟨e, rfl⟩ : ∃ e, es = [e] := by
        match es, hl1 with
        | [e], _ => exact ⟨e, rfl⟩
      obtain ⟨d, rfl⟩ : ∃ d, ds = [d] := by
        match ds, hl with
        | [d], _ => exact ⟨d, rfl⟩
      simp [b__law_rebuilt, encL, dIx_lst hd, Fix.refl]
    · have ad := fun (x : Str) (S : Sto) => dAdd_tup (xs := [Sx x, Sx w]) (ys := ds) (S := S) (small_line (by simp; omega))
      have gd : ∀ l : List Cell, dTuple [.cel n] (S ++ l) = some (.tup ds, S ++ l) := fun l => dTuple_lst (get_app hd)
      rcases hh with rfl | rfl <;> simp [b__law_rebuilt, gd, ad, Fix.push]
    · have ad := fun (x : Str) (S : Sto) => dAdd_tup (xs := [Sx x]) (ys := ds) (S := S) (small_line (by simp; omega))
      have gd : ∀ l : List Cell, dTuple [.cel n] (S ++ l) = some (.tup ds, S ++ l) := fun l => dTuple_lst (get_app hd)
      simp [b__law_rebuilt, h1, h2, h3, gd, ad, Fix.push]
theorem we_nc {e : Ex} (h : WE P e) : noC (enc e) := by
  induction h with
  | num n => exact noC_atom _
  | var w _ => exact noC_atom _
  | op h nm es tl s hn _ ih =>
    rw [enc_op]
    refine noC_tup fun d hd => ?_
    rcases List.mem_cons.mp hd with rfl | hd
    · exact noC_atom _
    rcases List.mem_append.mp hd with hd | hd
    · obtain ⟨w, _, rfl⟩ := List.mem_map.mp hd
      exact noC_atom _
    rcases List.mem_append.mp hd with hd | hd
    · rw [encL_eq] at hd
      obtain ⟨e, he, rfl⟩ := List.mem_map.mp hd
      exact ih e he
    · exact dat_noC (s.dat (k := 2) d hd)
theorem sp_filled (hP : ∀ w, P w → Ok w) {e : Ex} (he : WE P e) : ∀ {j : Nat}, ht e + 4 ≤ j → ∀ {S : Sto}, Clo S → ∀ {n : Nat} {kvs : List (Key × D)} {f : Str → Str}, S[n]? = some (.dic kvs) → EnvE kvs f →
    (sem j)._law_filled [enc e, .cel n] S = .ok (enc (fill f e)) S := by
  induction he with
  | num m =>
    intro j hj S c n kvs f g o
    obtain ⟨k, rfl⟩ := lv2 (by omega : 2 ≤ j)
    rw [e__law_filled]
    refine def_det (n := 2) (ds := [_, _]) rfl c rfl ?_
    simp [b__law_filled, enc, fill, Fix.refl]
  | var w hw =>
    intro j hj S c n kvs f g o
    obtain ⟨k, rfl⟩ := lv2 (by omega : 2 ≤ j)
    rw [e__law_filled]
    refine def_det (n := 2) (ds := [_, _]) rfl c rfl ?_
    have ge : eGet2 (eVar 1) (eVar 0) (eVar 0) [some (Sx w), some (.cel n), none, none] S = .ok (Sx (f w)) S := by
      rw [get2_at (fo := eVar 1) (fk := eVar 0) (fx := eVar 0) (k := Sx w) (x := Sx w) (by rfl) g (by rfl) (by rfl) rfl, o.at_]
    simp [b__law_filled, enc, fill, ge, Fix.refl]
  | op h nm es tl s hn hw ih =>
    intro j hj S c n kvs f g o
    have he : WE P (.op h nm es tl) := .op h nm es tl s hn hw
    have e1 : ht (.op h nm es tl) = htL es + 1 := rfl
    obtain ⟨k, rfl⟩ := lv2 (by omega : 2 ≤ j)
    obtain ⟨q1, q2, q3, q4⟩ := s.bnd
    rw [e__law_filled]
    have hfn : ∀ d ∈ encL (fillL f es), noC d := fun d hd => by
      rw [encL_eq, fillL_eq, List.map_map] at hd
      obtain ⟨e, he, rfl⟩ := List.mem_map.mp hd
      exact we_nc (we_fill (Q := fun _ => True) (f := f) (fun _ _ => trivial) (fun _ _ => trivial) (hw e he))
    have hlo : noC (enc (fill f (.op h nm es tl))) := we_nc (we_fill (Q := fun _ => True) (f := f) (fun _ _ => trivial) (fun _ _ => trivial) he)
    refine def_det (n := 2) (ds := [_, _]) rfl c (hlo _) ?_
    have it := sp_items hP he (j := k + 1) (by omega) c
    have c1 : Clo (S ++ [Cell.lst (encL es)]) := c.push (lo_lst (encL_noC hP hw))
    have g1 : (S ++ [Cell.lst (encL es)])[S.length]? = some (.lst (encL es)) := new_at
    have lc : lcGo (some (S.length, .lst (encL es))) (encL es) (gN 3) tTrue (eCall (sem (k + 1))._law_filled [] (aCons (eVar 3) (aCons (eVar 1) aNil))) [some (enc (.op h nm es tl)), some (.cel n), none, none] (encL es) (S ++ [Cell.lst (encL es)]) = .ok (encL (fillL f es)) (S ++ [Cell.lst (encL es)]) := by
      refine lcH_list (held_lst g1) _ _ (by rw [encL_len, encL_len, fillL_eq, List.length_map]) fun i d x hd hx => ?_
      rw [encL_eq, List.getElem?_map] at hd
      rw [encL_eq, fillL_eq, List.getElem?_map, List.getElem?_map] at hx
      cases hes : es[i]? with
      | none => rw [hes] at hd; cases hd
      | some e =>
        rw [hes] at hd hx
        cases hd; cases hx
        have hm := List.mem_of_getElem? hes
        have r := ih e hm (j := k + 1) (by have := htL_le hm; omega) c1 (get_app g) o
        simp [r]
    have lr := lcR_at (by rw [encL_len]; omega) lc
    have c2 : Clo (S ++ [Cell.lst (encL es), .lst (encL (fillL f es))]) := by
      have := c1.push (c := .lst (encL (fillL f es))) (lo_lst hfn)
      simpa using this
    have rb := sp_rebuilt hP he (j := k + 1) (by omega) c2 (n := S.length + 1) (ds := encL (fillL f es)) (by simp) (by rw [encL_len, fillL_eq, List.length_map]) hfn
    rw [enc_op] at it lr rb ⊢
    by_cases hk : h = "look"
    · subst hk
      obtain ⟨w, rfl, rfl⟩ : ∃ w, nm = some w ∧ tl = [] := by
        rcases s.cases with ⟨h, _⟩ | ⟨_, ⟨w, h1⟩, h2⟩ | ⟨_, _, h, _⟩
        · exact absurd h (by decide)
        · exact ⟨w, h1, h2⟩
        · exact absurd rfl h
      have ge : eGet2 (eVar 1) (eBin dIx (eVar 0) (eC (.a (.int (1))))) (eBin dIx (eVar 0) (eC (.a (.int (1))))) [some (.tup (L "look" :: Sx w :: encL es)), some (.cel n), some (.tup (L "look" :: Sx w :: encL (fillL f es))), none] (S ++ [.lst (encL es), .lst (encL (fillL f es))]) = .ok (Sx (f w)) (S ++ [.lst (encL es), .lst (encL (fillL f es))]) := by
        rw [get2_at (k := Sx w) (x := Sx w) (n := n) (kvs := kvs) (y := .inr w) (by rfl) (get_app g) (by simp) (by simp) rfl, o.at_]
      have ct : cutL (L "look" :: Sx w :: encL (fillL f es)) (some 2) none = encL (fillL f es) := cutL_drop (k := 2) (by simp)
      have ad := fun (S : Sto) => dAdd_tup (xs := [L "look", Sx (f w)]) (ys := encL (fillL f es)) (S := S) (small_line (by rw [encL_len, fillL_eq, List.length_map]; simp; omega))
      simp at it lr rb
      simp [b__law_filled, it, seqR_lst g1, wipeS, lr, rb, fill, enc_op, ge, ct, ad, Fix.push]
    · simp [b__law_filled, it, seqR_lst g1, wipeS, lr, rb, hk, fill, enc_op, Fix.push]
end K06
set_option maxRecDepth 100000
set_option exponentiation.threshold 600
/-! k06: plain; places in a tree. -/
namespace K06
open PySem PySem.Spec PyProof.Rows L2 G
variable {P : Str → Prop}
theorem Bn_len : ∀ d : Nat, d < 64 → (Str.ofString "B").length + (Str.ofString (toString (d : Int))).length ≤ 1000 := by decide +kernel
theorem Bn_make {d : Nat} (hd : d < 64) (S : Sto) : dAdd (L "B") (.a (.str (Str.ofString (toString (d : Int))))) S = some (Sx (Bn d), S) := by
  show (if _ then _ else _) = _
  rw [if_pos (small_line (by have := Bn_len d hd; omega))]
  rfl
theorem dStr_nat {d : Nat} (hd : d < 64) (S : Sto) : dStr [I (d : Int)] S = some (.a (.str (Str.ofString (toString (d : Int)))), S) := by
  unfold dStr
  dsimp only
  rw [if_pos]
  have h1 : (d : Int).natAbs = d := Int.natAbs_natCast d
  rw [h1]
  have := Nat.log2_le_self d
  omega
theorem ws_nc {s : Se} (h : WS P s) : noC (encS s) := by
  induction h with
  | is a b ha hb =>
      refine noC_tup fun d hd => ?_
      simp only [List.mem_cons, List.not_mem_nil, or_false] at hd
      rcases hd with rfl | rfl | rfl
      · exact noC_atom _
      · exact we_nc ha
      · exact we_nc hb
  | two h s t _ _ _ ih1 ih2 =>
      refine noC_tup fun d hd => ?_
      simp only [List.mem_cons, List.not_mem_nil, or_false] at hd
      rcases hd with rfl | rfl | rfl
      · exact noC_atom _
      · exact ih1
      · exact ih2
  | b3 h w s _ _ _ ih =>
      refine noC_tup fun d hd => ?_
      simp only [List.mem_cons, List.not_mem_nil, or_false] at hd
      rcases hd with rfl | rfl | rfl
      · exact noC_atom _
      · exact noC_atom _
      · exact ih
  | b4 h w n s _ _ _ ih =>
      refine noC_tup fun d hd => ?_
      simp only [List.mem_cons, List.not_mem_nil, or_false] at hd
      rcases hd with rfl | rfl | rfl | rfl
      · exact noC_atom _
      · exact noC_atom _
      · exact noC_atom _
      · exact ih
theorem ws_plain {s : Se} (h : WS P s) : ∀ (f : Str → Str) (d : Nat), WS (fun _ => True) (plain f d s) := by
  induction h with
  | is a b ha hb => exact fun f d => .is _ _ (we_fill (fun _ _ => trivial) (fun _ _ => trivial) ha) (we_fill (fun _ _ => trivial) (fun _ _ => trivial) hb)
  | two h s t hh _ _ ih1 ih2 => exact fun f d => .two _ _ _ hh (ih1 f d) (ih2 f d)
  | b3 h w s hh _ _ ih => exact fun f d => .b3 _ _ _ hh trivial (ih _ _)
  | b4 h w n s hh _ _ ih => exact fun f d => .b4 _ _ _ _ hh trivial (ih _ _)
theorem sp_plain (hP : ∀ w, P w → Ok w) {s : Se} (hs : WS P s) : ∀ {j : Nat}, htS s + 6 ≤ j → ∀ {S : Sto}, Clo S → ∀ {n d : Nat} {kvs : List (Key × D)} {f : Str → Str}, S[n]? = some (.dic kvs) → EnvE kvs f → d + htS s < 60 → kvs.length + htS s < 900 →
    (sem j)._law_plain [encS s, .cel n, I (d : Int)] S = .ok (encS (plain f d s)) S := by
  induction hs with
  | is a b ha hb =>
    intro j hj S c n d kvs f g o hd hl
    obtain ⟨k, rfl⟩ := lv2 (by omega : 2 ≤ j)
    have e1 : htS (.is a b) = max (K06.ht a) (K06.ht b) + 1 := rfl
    rw [e__law_plain]
    have r1 := sp_filled hP ha (j := k + 1) (by omega) c g o
    have r2 := sp_filled hP hb (j := k + 1) (by omega) c g o
    refine def_pure (n := 3) (ds := [_, _, _]) rfl ?_
    simp [b__law_plain, encS, plain, r1, r2]
  | two h s t hh hs ht ih1 ih2 =>
    intro j hj S c n d kvs f g o hd hl
    obtain ⟨k, rfl⟩ := lv2 (by omega : 2 ≤ j)
    have e1 : htS (.two h s t) = max (htS s) (htS t) + 1 := rfl
    have hnc := ws_nc (ws_plain (.two h s t hh hs ht) f d)
    rw [e__law_plain]
    have cL : Clo (S ++ [Cell.lst [L "and", L "if"]]) := c.push rfl
    have r1 := ih1 (j := k + 1) (by omega) cL (d := d) (get_app g) o (by omega) (by omega)
    have r2 := ih2 (j := k + 1) (by omega) cL (d := d) (get_app g) o (by omega) (by omega)
    refine def_det (n := 3) (ds := [_, _, _]) rfl c (hnc _) ?_
    rw [show encS (.two h s t) = .tup [L h, encS s, encS t] from rfl, show encS (plain f d (.two h s t)) = .tup [L h, encS (plain f d s), encS (plain f d t)] from rfl]
    rcases hh with rfl | rfl <;> simp [b__law_plain, r1, r2, Fix.push]
  | b3 h w s hh hw hs ih =>
    intro j hj S c n d kvs f g o hd hl
    obtain ⟨k, rfl⟩ := lv2 (by omega : 2 ≤ j)
    have e1 : htS (.b3 h w s) = htS s + 1 := rfl
    have hnc := ws_nc (ws_plain (.b3 h w s hh hw hs) f d)
    rw [e__law_plain]
    have cL : Clo (S ++ [Cell.lst [L "and", L "if"]]) := c.push rfl
    have o2 := o.put w (Bn d) (by omega)
    have wi := sp_with (j := k + 1) (by omega) cL (n := n) (w := w) (v := Sx (Bn d)) (get_app g) (by omega) (lo_dic o2.noC)
    have hdl := setK_len kvs (.inr w) (Sx (Bn d))
    generalize setK kvs (.inr w) (Sx (Bn d)) = K1 at o2 wi hdl
    have c2 : Clo (S ++ [Cell.lst [L "and", L "if"], .dic K1]) := by
      have := cL.push (c := .dic K1) (lo_dic o2.noC)
      simpa using this
    have r := ih (j := k + 1) (by omega) c2 (n := S.length + 1) (d := d + 1) (by simp) o2 (by omega) (by omega)
    rw [show (((d + 1 : Nat)) : Int) = (d : Int) + 1 by omega] at r
    simp at wi
    refine def_det (n := 3) (ds := [_, _, _]) rfl c (hnc _) ?_
    have sl : cutL [L h, Sx w, encS s] (some 2) (some (-1)) = [] := rfl
    have a1 := fun (S : Sto) => dAdd_tup (xs := [L h, Sx (Bn d)]) (ys := []) (S := S) (small_line (by simp))
    have a2 := fun (S : Sto) => dAdd_tup (xs := [L h, Sx (Bn d)]) (ys := [encS (plain (upd1 f w (Bn d)) (d + 1) s)]) (S := S) (small_line (by simp))
    simp only [List.append_nil, List.cons_append, List.nil_append] at a1 a2
    rw [show encS (.b3 h w s) = .tup [L h, Sx w, encS s] from rfl, show encS (plain f d (.b3 h w s)) = .tup [L h, Sx (Bn d), encS (plain (upd1 f w (Bn d)) (d + 1) s)] from rfl]
    obtain ⟨sd, b1, b2⟩ : ∃ sd : Str, (∀ S, dStr [I (d : Int)] S = some (Sx sd, S)) ∧ ∀ S, dAdd (L "B") (Sx sd) S = some (Sx (Bn d), S) := ⟨_, dStr_nat (d := d) (by omega), Bn_make (d := d) (by omega)⟩
    rcases hh with rfl | rfl | rfl | rfl <;> simp [b__law_plain, b1, b2, sl, a1, wi, r, a2, Fix.push]
  | b4 h w m s hh hw hs ih =>
    intro j hj S c n d kvs f g o hd hl
    obtain ⟨k, rfl⟩ := lv2 (by omega : 2 ≤ j)
    have e1 : htS (.b4 h w m s) = htS s + 1 := rfl
    have hnc := ws_nc (ws_plain (.b4 h w m s hh hw hs) f d)
    rw [e__law_plain]
    have cL : Clo (S ++ [Cell.lst [L "and", L "if"]]) := c.push rfl
    have o2 := o.put w (Bn d) (by omega)
    have wi := sp_with (j := k + 1) (by omega) cL (n := n) (w := w) (v := Sx (Bn d)) (get_app g) (by omega) (lo_dic o2.noC)
    have hdl := setK_len kvs (.inr w) (Sx (Bn d))
    generalize setK kvs (.inr w) (Sx (Bn d)) = K1 at o2 wi hdl
    have c2 : Clo (S ++ [Cell.lst [L "and", L "if"], .dic K1]) := by
      have := cL.push (c := .dic K1) (lo_dic o2.noC)
      simpa using this
    have r := ih (j := k + 1) (by omega) c2 (n := S.length + 1) (d := d + 1) (by simp) o2 (by omega) (by omega)
    rw [show (((d + 1 : Nat)) : Int) = (d : Int) + 1 by omega] at r
    simp at wi
    refine def_det (n := 3) (ds := [_, _, _]) rfl c (hnc _) ?_
    have sl : cutL [L h, Sx w, I (m : Int), encS s] (some 2) (some (-1)) = [I (m : Int)] := rfl
    have a1 := fun (S : Sto) => dAdd_tup (xs := [L h, Sx (Bn d)]) (ys := [I (m : Int)]) (S := S) (small_line (by simp))
    have a2 := fun (S : Sto) => dAdd_tup (xs := [L h, Sx (Bn d), I (m : Int)]) (ys := [encS (plain (upd1 f w (Bn d)) (d + 1) s)]) (S := S) (small_line (by simp))
    simp only [List.append_nil, List.cons_append, List.nil_append] at a1 a2
    rw [show encS (.b4 h w m s) = .tup [L h, Sx w, I m, encS s] from rfl, show encS (plain f d (.b4 h w m s)) = .tup [L h, Sx (Bn d), I m, encS (plain (upd1 f w (Bn d)) (d + 1) s)] from rfl]
    obtain ⟨sd, b1, b2⟩ : ∃ sd : Str, (∀ S, dStr [I (d : Int)] S = some (Sx sd, S)) ∧ ∀ S, dAdd (L "B") (Sx sd) S = some (Sx (Bn d), S) := ⟨_, dStr_nat (d := d) (by omega), Bn_make (d := d) (by omega)⟩
    rcases hh with rfl | rfl <;> simp [b__law_plain, b1, b2, sl, a1, wi, r, a2, Fix.push]
/-! places -/
/-- a leaf at a place -/
inductive LP : D → List Nat → D → Prop
  | here (v : V) : LP (.a v) [] (.a v)
  | step {ds : List D} {k : Nat} {d : D} {q : List Nat} {leaf : D} : ds[k]? = some d → LP d q leaf → LP (.tup ds) (k :: q) leaf
def putD : D → List Nat → D → D
  | _, [], x => x
  | .tup ds, k :: q, x => .tup (ds.set k (putD (ds[k]?.getD x) q x))
  | d, _ :: _, _ => d
/-- tuples are not long -/
inductive Shrt : D → Prop
  | a (v : V) : Shrt (.a v)
  | tup (ds : List D) : ds.length ≤ 1000 → (∀ d ∈ ds, Shrt d) → Shrt (.tup ds)
abbrev pth (q : List Nat) : D := .tup (q.map fun k : Nat => I (k : Int))
theorem sp_put {d leaf x : D} {q : List Nat} (h : LP d q leaf) (hs : Shrt d) : ∀ {j : Nat}, q.length + 2 ≤ j → q.length ≤ 1000 → ∀ S, (sem j)._law_put [d, pth q, x] S = .ok (putD d q x) S := by
  induction h with
  | here v =>
    intro j hj hq S
    obtain ⟨k, rfl⟩ := lv2 (by omega : 2 ≤ j)
    rw [e__law_put]
    refine def_pure (n := 3) (ds := [_, _, _]) rfl ?_
    simp [b__law_put, putD]
  | @step ds i d q leaf hd _ ih =>
    intro j hj hq S
    obtain ⟨k, rfl⟩ := lv2 (by omega : 2 ≤ j)
    rw [List.length_cons] at hj hq
    cases hs with
    | tup _ hl hds =>
      have hi := (List.getElem?_eq_some_iff.mp hd).1
      have r := ih (hds d (List.mem_of_getElem? hd)) (j := k + 1) (by omega) (by omega) S
      rw [e__law_put]
      refine def_pure (n := 3) (ds := [_, _, _]) rfl ?_
      have c0 : cutL (I (i : Int) :: q.map fun k : Nat => I (k : Int)) (some 1) none = q.map fun k : Nat => I (k : Int) := cutL_drop (k := 1) (by simp)
      have c1 : cutL ds none (some (i : Int)) = ds.take i := cutL_take (by omega)
      have c2 : cutL ds (some ((i : Int) + 1)) none = ds.drop (i + 1) := cutL_drop (k := i + 1) (by omega)
      have a0 : atI ds (i : Int) = some d := by
        rw [atI_nat hi]
        exact (List.getElem?_eq_getElem hi).symm.trans hd
      have d1 := dAdd_tup (xs := ds.take i) (ys := [putD d q x]) (S := S) (small_line (by simp; omega))
      have d2 := dAdd_tup (xs := ds.take i ++ [putD d q x]) (ys := ds.drop (i + 1)) (S := S) (small_line (by simp; omega))
      have e : putD (.tup ds) (i :: q) x = .tup (ds.take i ++ [putD d q x] ++ ds.drop (i + 1)) := by
        show D.tup (ds.set i (putD (ds[i]?.getD x) q x)) = _
        rw [hd, Option.getD_some, List.set_eq_take_append_cons_drop, if_pos hi]
        simp
      have ne : ¬ ((q.length : Int) + 1 = 0) := by omega
      rw [e]
      simp only [pth, List.map_cons] at r ⊢
      simp only [List.append_assoc, List.cons_append, List.nil_append] at d1 d2
      simp [b__law_put, ne, c0, c1, c2, a0, r, d1, d2]
mutual
def nlD : D → Nat
  | .tup ds => nlDL ds
  | .a _ => 1
  | .ils _ => 1
  | .cel _ => 1
def nlDL : List D → Nat
  | [] => 0
  | d :: r => nlD d + nlDL r
end
theorem nlDL_take : ∀ (es : List D) (j : Nat) (e : D), es[j]? = some e → nlDL (es.take (j + 1)) = nlDL (es.take j) + nlD e
  | x :: r, 0, e, h => by
    cases h
    simp [nlDL]
  | x :: r, j + 1, e, h => by
    rw [List.take_succ_cons, List.take_succ_cons]
    unfold nlDL
    rw [nlDL_take r j e (by simpa using h)]
    omega
theorem nlDL_take_le (es : List D) (j : Nat) : nlDL (es.take j) ≤ nlDL es := by
  induction es generalizing j with
  | nil => simp [nlDL]
  | cons x r ih =>
    cases j with
    | zero => simp [nlDL]
    | succ j =>
      rw [List.take_succ_cons]
      unfold nlDL
      have := ih j
      omega
theorem noC_pth (q : List Nat) : noC (pth q) := noC_tup fun d hd => by
  obtain ⟨x, _, rfl⟩ := List.mem_map.mp hd
  exact noC_atom _
/-- the place of a leaf behind a path -/
def PL (d : D) (p : List Nat) (x : D) : Prop := ∃ q leaf, x = pth (p ++ q) ∧ LP d q leaf
theorem sp_leaves : ∀ {n : Nat} {d : D}, dat n d → Shrt d → ∀ {j : Nat}, n + 2 ≤ j → ∀ (p : List Nat), p.length + n ≤ 1000 → nlD d ≤ 90000 → ∀ S, Clo S →
    ∃ ws, (∀ x ∈ ws, PL d p x) ∧ ws.length = nlD d ∧ (sem j)._law_leaves [d, pth p] S = .ok (.cel S.length) (S ++ [.lst ws])
  | n, .a v, hd, hs, j, hj, p, hp, hn, S, c => by
    obtain ⟨k, rfl⟩ := lv2 (by omega : 2 ≤ j)
    refine ⟨[pth p], fun x hx => ⟨[], .a v, by rw [List.mem_singleton.mp hx, List.append_nil], .here v⟩, rfl, ?_⟩
    rw [e__law_leaves]
    refine def_detL (n := 2) (ds := [_, _]) rfl c (lo_lst fun d hd => by rw [List.mem_singleton.mp hd]; exact noC_pth p) ?_
    cases v with
    | int i => simp [b__law_leaves, Fix.push]
    | str i => simp [b__law_leaves, Fix.push]
    | non => simp [b__law_leaves, Fix.push]
    | _ => cases n <;> exact hd.elim
  | 0, .tup ds, hd, _, _, _, _, _, _, _, _ => hd.elim
  | n + 1, .tup ds, hd, hs, j, hj, p, hp, hn, S, c => by
    obtain ⟨k, rfl⟩ := lv2 (by omega : 2 ≤ j)
    cases hs with
    | tup _ hl hds =>
      have e2 : nlD (.tup ds) = nlDL ds := by unfold nlD; rfl
      rw [e__law_leaves]
      have main : ∃ cc, (∃ ws, cc = Cell.lst ws ∧ (∀ x ∈ ws, PL (.tup ds) p x) ∧ ws.length = nlDL ds) ∧ defSem 2 4 (b__law_leaves (sem (k + 1)) (sem k)) [.tup ds, pth p] S = .ok (.cel S.length) (S ++ [cc]) := by
        refine def_detLk (n := 2) (ds := [_, _]) rfl c (fun cc ⟨ws, e, h1, _⟩ => by rw [e]; exact lo_lst fun d hd => (by obtain ⟨q, l, rfl, _⟩ := h1 d hd; exact noC_pth _)) fun K hK => ?_
        have hr := iR1R_nat (n := ds.length) (S ++ [Cell.lst []]) (by omega)
        have lp : Ws (sqK K (sSeq (sRet (eVar 2)) sNil)) (forGo none (rangeL 0 ds.length) (gN 3) (sSeq (sSet 2 (eBin dAdd (eVar 2) (eCall (sem (k + 1))._law_leaves [] (aCons (eBin dIx (eVar 0) (eVar 3)) (aCons (eBin dAdd (eVar 1) (eTup (aCons (eVar 3) aNil))) aNil))))) sNil) (rangeL 0 ds.length) [some (.tup ds), some (pth p), some (.cel S.length), none] (S ++ [Cell.lst []])) := by
          refine forGo_wp (fun j env S' => ∃ m' y' ws, env = [some (.tup ds), some (pth p), some (.cel m'), y'] ∧ S'[m']? = some (.lst ws) ∧ S.length ≤ m' ∧ (∀ x ∈ ws, PL (.tup ds) p x) ∧ ws.length = nlDL (ds.take j) ∧ Fix S S' ∧ Clo S') ⟨S.length, none, [], rfl, new_at, Nat.le_refl _, fun _ h => (by cases h), by simp [nlDL], Fix.push, c.push rfl⟩ ?_ ?_
          · rintro i d env S' hd' ⟨m', y', ws, rfl, h1, h2, h3, h4, h5, h6⟩
            obtain ⟨hi, rfl⟩ := rangeL_get hd'
            rw [Int.zero_add]
            have hdi : ds[i]? = some ds[i] := List.getElem?_eq_getElem hi
            have hb := nlDL_take ds i _ hdi
            have hb2 := nlDL_take_le ds (i + 1)
            obtain ⟨us, u1, u2, u3⟩ := sp_leaves (hd _ (List.getElem_mem hi)) (hds _ (List.getElem_mem hi)) (j := k + 1) (by omega) (p ++ [i]) (by simp; omega) (by omega) S' h6
            have ap := dAdd_tup (xs := p.map fun k : Nat => I (k : Int)) (ys := [I (i : Int)]) (S := S') (small_line (by simp; omega))
            rw [show (p.map fun k : Nat => I (k : Int)) ++ [I (i : Int)] = (p ++ [i]).map fun k : Nat => I (k : Int) by simp] at ap
            have u1' : ∀ x ∈ us, PL (.tup ds) p x := fun x hx => by
              obtain ⟨q, leaf, rfl, hq⟩ := u1 x hx
              exact ⟨i :: q, leaf, by simp, .step hdi hq⟩
            have ad : dAdd (.cel m') (.cel S'.length) (S' ++ [.lst us]) = some (.cel (S'.length + 1), S' ++ [.lst us, .lst (ws ++ us)]) := by
              have := dAdd_lst (S := S' ++ [.lst us]) (get_app h1) get_new (small_line (by omega))
              simpa using this
            have nc : ∀ x, PL (.tup ds) p x → noC x := fun x ⟨q, l, e, _⟩ => by rw [e]; exact noC_pth _
            have cc : Clo (S' ++ [Cell.lst us, .lst (ws ++ us)]) := by
              have := (h6.push (c := .lst us) (lo_lst fun d hd => nc d (u1' d hd))).push (c := .lst (ws ++ us)) (lo_lst fun d hd => (List.mem_append.mp hd).elim (fun q => nc d (h3 d q)) fun q => nc d (u1' d q))
              simpa using this
            have hbody : (sSeq (sSet 2 (eBin dAdd (eVar 2) (eCall (sem (k + 1))._law_leaves [] (aCons (eBin dIx (eVar 0) (eVar 3)) (aCons (eBin dAdd (eVar 1) (eTup (aCons (eVar 3) aNil))) aNil))))) sNil) ([some (.tup ds), some (pth p), some (.cel m'), y'].set 3 (some (I (i : Int)))) S' = .nx [some (.tup ds), some (pth p), some (.cel (S'.length + 1)), some (I (i : Int))] (S' ++ [.lst us, .lst (ws ++ us)]) := by
              have ai := atI_nat (xs := ds) hi
              simp only [pth, List.map_append, List.map_cons, List.map_nil] at u3 ap
              simp [ai, ap, u3, ad]
            rw [hbody]
            exact ⟨_, _, ws ++ us, rfl, by simp, by have := h5.len; omega, fun d hd => (List.mem_append.mp hd).elim (h3 d) (u1' d), by rw [List.length_append]; omega, h5.app _, cc⟩
          · rintro env S' ⟨m', y', ws, rfl, h1, h2, h3, h4, h5, h6⟩
            rw [rangeL_len, List.take_length] at h4
            simp only [sqK_nx, sSeq_eq, sRet_eq, eVar_eq, List.getElem?_cons_succ, List.getElem?_cons_zero, varR_some, retR_ok, sq_rt, Ws_rt]
            exact hK m' _ _ h2 h1 ⟨ws, rfl, h3, h4⟩ h5
        simp [b__law_leaves, hr]
        exact lp
      obtain ⟨cc, ⟨ws, rfl, h1, h2⟩, h3⟩ := main
      exact ⟨ws, h1, by rw [e2]; exact h2, h3⟩
  | n, .ils ds, hd, _, _, _, _, _, _, _, _ => by cases n <;> exact hd.elim
  | n, .cel ds, hd, _, _, _, _, _, _, _, _ => by cases n <;> exact hd.elim
end K06
set_option maxRecDepth 100000
set_option exponentiation.threshold 600
/-! k06: uses, fits. -/
namespace K06
open PySem PySem.Spec PyProof.Rows L2 G
variable {P : Str → Prop}
/-- a use: a word and a number -/
def PU (d : D) : Prop := ∃ (w : Str) (z : Int), d = .tup [Sx w, I z]
theorem PU.noC {d : D} (h : PU d) : noC d := by
  obtain ⟨w, z, rfl⟩ := h
  refine noC_tup fun d hd => ?_
  simp only [List.mem_cons, List.not_mem_nil, or_false] at hd
  rcases hd with rfl | rfl <;> exact noC_atom _
theorem sp_uses_in (hP : ∀ w, P w → Ok w) {e : Ex} (he : WE P e) : ∀ {j : Nat}, ht e + 4 ≤ j → nl e ≤ 90000 → ∀ S, Clo S → ∃ ws, (∀ d ∈ ws, PU d) ∧ ws.length ≤ nl e ∧ (sem j)._law_uses_in [enc e] S = .ok (.cel S.length) (S ++ [.lst ws]) := by
  induction he with
  | num n =>
    intro j hj hn S c
    obtain ⟨k, rfl⟩ := lv2 (by omega : 2 ≤ j)
    refine ⟨[], fun _ h => (by cases h), Nat.zero_le _, ?_⟩
    rw [e__law_uses_in, enc_num]
    refine def_detL (n := 1) (ds := [_]) rfl c rfl ?_
    simp [b__law_uses_in, Fix.push]
  | var w hw =>
    intro j hj hn S c
    obtain ⟨k, rfl⟩ := lv2 (by omega : 2 ≤ j)
    refine ⟨[.tup [Sx w, I 0]], fun d h => ⟨w, 0, List.mem_singleton.mp h⟩, Nat.le_refl _, ?_⟩
    rw [e__law_uses_in, enc_var]
    refine def_detL (n := 1) (ds := [_]) rfl c rfl ?_
    simp [b__law_uses_in, Fix.push]
  | op h nm es tl s hn hw ih =>
    intro j hj hsz S c
    have he : WE P (.op h nm es tl) := .op h nm es tl s hn hw
    have e1 : ht (.op h nm es tl) = htL es + 1 := rfl
    have e2 : nl (.op h nm es tl) = nlL es + 7 := rfl
    obtain ⟨k, rfl⟩ := lv2 (by omega : 2 ≤ j)
    rw [e__law_uses_in]
    have main : ∃ cc, (∃ ws, cc = Cell.lst ws ∧ (∀ d ∈ ws, PU d) ∧ ws.length ≤ 1 + nlL es) ∧ defSem 1 3 (b__law_uses_in (sem (k + 1)) (sem k)) [enc (.op h nm es tl)] S = .ok (.cel S.length) (S ++ [cc]) := by
      refine def_detLk (n := 1) (ds := [_]) rfl c (fun cc ⟨ws, e, h1, _⟩ => by rw [e]; exact lo_lst fun d hd => (h1 d hd).noC) fun K hK => ?_
      have hF : ∀ e ∈ es, ∀ S, Clo S → ∃ ws, (∀ d ∈ ws, PU d) ∧ ws.length ≤ nl e ∧ (sem (k + 1))._law_uses_in [enc e] S = .ok (.cel S.length) (S ++ [.lst ws]) := fun e hm S c => by
        have m1 := htL_le hm
        have m2 := nlL_le hm
        exact ih e hm (by omega) (by omega) S c
      -- what follows the name
      have tail : ∀ (ws0 : List D), (∀ d ∈ ws0, PU d) → ws0.length ≤ 1 → Ws K
          ((sSeq (sFor (iSeq (eCall (sem (k + 1))._law_items [] (aCons (eVar 0) aNil))) (gN 2) (sSeq (sSet 1 (eBin dAdd (eVar 1) (eCall (sem (k + 1))._law_uses_in [] (aCons (eVar 2) aNil)))) sNil)) (sSeq (sRet (eVar 1)) sNil)) [some (enc (.op h nm es tl)), some (.cel S.length), none] (S ++ [.lst ws0])) := fun ws0 h0 h1 => by
        have ci : Clo (S ++ [Cell.lst ws0]) := c.push (lo_lst fun d hd => (h0 d hd).noC)
        have it := sp_items hP he (j := k + 1) (by omega) ci
        have ci2 : Clo (S ++ [Cell.lst ws0, .lst (encL es)]) := by
          have := ci.push (c := .lst (encL es)) (lo_lst (encL_noC hP hw))
          simpa using this
        have l0 : (S ++ [Cell.lst ws0]).length = S.length + 1 := by simp
        rw [l0, List.append_assoc] at it
        simp only [List.cons_append, List.nil_append] at it
        have g1 : (S ++ [Cell.lst ws0, .lst (encL es)])[S.length + 1]? = some (.lst (encL es)) := by simp
        have lp := collect (F := (sem (k + 1))._law_uses_in) (PD := PU) (x := some (enc (.op h nm es tl))) (y := none) (S0 := S) (b := 1) ci2 hF (fun d q => q.noC) g1 (m := S.length) (ws0 := ws0) (by simp) h0 h1 Fix.push (Nat.le_refl _) (by omega)
          (K := sqK K (sSeq (sRet (eVar 1)) sNil)) fun m' y' S' ws q1 q2 q3 q4 q5 => by
            simp only [sqK_nx, sSeq_eq, sRet_eq, eVar_eq, List.getElem?_cons_succ, List.getElem?_cons_zero, varR_some, retR_ok, sq_rt, Ws_rt]
            exact hK m' _ _ q2 q1 ⟨ws, rfl, q3, q4⟩ q5
        simp [it, seqR_lst g1]
        exact lp
      generalize hB : (sSeq (sFor (iSeq (eCall (sem (k + 1))._law_items [] (aCons (eVar 0) aNil))) (gN 2) (sSeq (sSet 1 (eBin dAdd (eVar 1) (eCall (sem (k + 1))._law_uses_in [] (aCons (eVar 2) aNil)))) sNil)) (sSeq (sRet (eVar 1)) sNil)) = B at tail
      unfold b__law_uses_in
      rw [hB]
      rcases s.cases with ⟨rfl, rfl, hl, a, b, rfl⟩ | ⟨hh, ⟨w, rfl⟩, rfl⟩ | ⟨h1, h2, h3, rfl, rfl⟩
      · have t := tail [] (fun _ h => (by cases h)) (Nat.zero_le _)
        rw [enc_op] at t ⊢
        simp
        exact t
      · rcases hh with rfl | rfl
        · have t := tail [] (fun _ h => (by cases h)) (Nat.zero_le _)
          rw [enc_op] at t ⊢
          simp at t ⊢
          exact t
        · have t := tail [.tup [Sx w, I ((es.length : Int) + 1 + 1 - 2)]] (fun d h => ⟨w, _, List.mem_singleton.mp h⟩) (Nat.le_refl _)
          rw [enc_op] at t ⊢
          have ap := append_new (S := S) (ds := []) (d := .tup [Sx w, I ((es.length : Int) + 1 + 1 - 2)]) (by decide)
          simp [isTy_new, ap, encL_len] at t ⊢
          exact t
      · have t := tail [] (fun _ h => (by cases h)) (Nat.zero_le _)
        rw [enc_op] at t ⊢
        simp [h3] at t ⊢
        exact t
    obtain ⟨cc, ⟨ws, rfl, h1, h2⟩, h3⟩ := main
    exact ⟨ws, h1, by omega, h3⟩

/-- what a use adds -/
theorem use_step {k : Nat} {w u : Str} {z : Int} {h : String} {T : List D} {S : Sto} {m : Nat} {ws : List D} {y : Option D} (a0 : atI T 0 = some (L h)) (a1 : atI T 1 = some (Sx w)) (hm : S[m]? = some (.lst ws)) (hl : ws.length ≤ 95000) :
    ∃ S' ws', (sSeq (sIf (tBin dNe (eBin dIx (eVar 2) (eC (.a (.int (0))))) (eBin dIx (eVar 0) (eC (.a (.int (1))))))
 (sSeq (sDo (eMeth "list" dAppend (eVar 1) (aCons (eVar 2) aNil)))
 sNil)
 (sSeq (sIf (tBin dNe (eBin dIx (eVar 2) (eC (.a (.int (1))))) (eCallB dInt (aCons (eBin dIn (eBin dIx (eVar 0) (eC (.a (.int (0))))) (eOfL (aCons (eC (.a (.str "allrow"))) (aCons (eC (.a (.str "somerow"))) aNil)))) aNil)))
 (sSeq (sDo (eMeth "list" dAppend (eVar 1) (aCons (eTup (aCons (eC (.a (.str ""))) (aCons (eC (.a (.int (0)))) aNil))) aNil)))
 sNil)
 sNil)
 sNil))
 sNil) [some (.tup T), some (.cel m), some (.tup [Sx u, I z])] S = .nx [some (.tup T), some (.cel m), some (.tup [Sx u, I z])] S' ∧ S'[m]? = some (.lst ws') ∧ ws'.length ≤ ws.length + 1 ∧ (∀ d ∈ ws', d ∈ ws ∨ PU d) ∧ S.length ≤ S'.length ∧ (∀ i, i < S.length → i ≠ m → S'[i]? = S[i]?) ∧ (Clo S → (∀ d ∈ ws, PU d) → Clo S') := by
  have hml := get_lt hm
  have nc : ∀ d, PU d → noC d := fun d h => h.noC
  have ap1 : ∀ (l : List Cell) (d : D), dAppend (.cel m) [d] (S ++ l) = some (.a .non, (S ++ l).set m (.lst (ws ++ [d]))) := fun l d => dAppend_lst (get_app hm) (small_line (by omega))
  have ap0 : ∀ d : D, dAppend (.cel m) [d] S = some (.a .non, S.set m (.lst (ws ++ [d]))) := fun d => dAppend_lst hm (small_line (by omega))
  have ty0 := isTy_lst hm
  have ty1 : ∀ l : List Cell, isTy "list" (.cel m) (S ++ l) = true := fun l => isTy_lst (get_app hm)
  by_cases huw : u = w
  · subst huw
    have hin : ∃ b : Bool, dIn (L h) (.cel S.length) (S ++ [Cell.lst [L "allrow", L "somerow"]]) = some (.a (.bl b), S ++ [Cell.lst [L "allrow", L "somerow"]]) := ⟨decide (h = "allrow") || decide (h = "somerow"), by simp⟩
    obtain ⟨b, hin⟩ := hin
    by_cases hz : z = (bif b then 1 else 0)
    · refine ⟨S ++ [Cell.lst [L "allrow", L "somerow"]], ws, ?_, get_app hm, by omega, fun d hd => .inl hd, by simp, fun i hi _ => List.getElem?_append_left hi, fun c _ => c.push rfl⟩
      have hz' : decide (z = (bif b then 1 else 0)) = true := decide_eq_true hz
      simp [a0, a1, hin, hz]
    · refine ⟨(S ++ [Cell.lst [L "allrow", L "somerow"]]).set m (Cell.lst (ws ++ [D.tup [L "", I 0]])), ws ++ [D.tup [L "", I 0]], ?_, List.getElem?_set_self (by simp; omega), by simp, fun d hd => (List.mem_append.mp hd).elim .inl fun q => .inr ⟨_, _, List.mem_singleton.mp q⟩, by simp, fun i hi hn => by rw [List.getElem?_set_ne (Ne.symm hn)]; exact List.getElem?_append_left hi, fun c hw => (c.push rfl).set (lo_lst fun d hd => (List.mem_append.mp hd).elim (fun q => nc d (hw d q)) fun q => nc d ⟨_, _, List.mem_singleton.mp q⟩)⟩
      simp [a0, a1, hin, hz, ty1, ap1]
  · refine ⟨S.set m (Cell.lst (ws ++ [D.tup [Sx u, I z]])), ws ++ [D.tup [Sx u, I z]], ?_, List.getElem?_set_self hml, by simp, fun d hd => (List.mem_append.mp hd).elim .inl fun q => .inr ⟨_, _, List.mem_singleton.mp q⟩, by simp, fun i hi hn => by rw [List.getElem?_set_ne (Ne.symm hn)], fun c hw => c.set (lo_lst fun d hd => (List.mem_append.mp hd).elim (fun q => nc d (hw d q)) fun q => nc d ⟨_, _, List.mem_singleton.mp q⟩)⟩
    simp [a0, a1, huw, ty0, ap0]
theorem sp_uses (hP : ∀ w, P w → Ok w) {s : Se} (hs : WS P s) : ∀ {j : Nat}, htS s + 6 ≤ j → nlS s ≤ 90000 → ∀ S, Clo S → ∃ ws, (∀ d ∈ ws, PU d) ∧ ws.length ≤ nlS s ∧ (sem j)._law_uses [encS s] S = .ok (.cel S.length) (S ++ [.lst ws]) := by
  -- a binding part
  have bind : ∀ (h : String) (w : Str) (T : List D) (u : D) (nlu : Nat) (k : Nat) (b : Bool), (h ≠ "is" ∧ h ≠ "and" ∧ h ≠ "if") → atI T 0 = some (L h) → atI T 1 = some (Sx w) → atI T (-1) = some u → T.length ≤ 10 →
      (∀ S, Clo S → ∃ us, (∀ d ∈ us, PU d) ∧ us.length ≤ nlu ∧ (sem (k + 1))._law_uses [u] S = .ok (.cel S.length) (S ++ [.lst us])) → nlu ≤ 90000 →
      (∀ S, G.tAnd (tBin dEq (eCallB dLen (aCons (eVar 0) aNil)) (eC (.a (.int (4))))) (G.tNot (tCh dLe dLe (eC (.a (.int (1)))) (eBin dIx (eVar 0) (eC (.a (.int (2))))) (eC (.a (.int (12)))))) [some (.tup T), some (.cel (S.length + 1)), none] (S ++ [Cell.lst [L "and", L "if"], .lst []]) = .ok b (S ++ [Cell.lst [L "and", L "if"], .lst []])) →
      ∀ S, Clo S → ∃ ws, (∀ d ∈ ws, PU d) ∧ ws.length ≤ nlu + 1 ∧ (sem (k + 2))._law_uses [.tup T] S = .ok (.cel S.length) (S ++ [.lst ws]) := by
    intro h w T u nlu k b hh a0 a1 al hT hu hnl hb S c
    rw [e__law_uses]
    have main : ∃ cc, (∃ ws, cc = Cell.lst ws ∧ (∀ d ∈ ws, PU d) ∧ ws.length ≤ nlu + 1) ∧ defSem 1 3 (b__law_uses (sem (k + 1)) (sem k)) [.tup T] S = .ok (.cel S.length) (S ++ [cc]) := by
      refine def_detLk (n := 1) (ds := [_]) rfl c (fun cc ⟨ws, e, h1, _⟩ => by rw [e]; exact lo_lst fun d hd => (h1 d hd).noC) fun K hK => ?_
      have tail : ∀ ws0 : List D, (∀ d ∈ ws0, PU d) → ws0.length ≤ 1 → Ws K ((sSeq (sFor (iSeq (eCall (sem (k + 1))._law_uses [] (aCons (eBin dIx (eVar 0) (eUn dNeg (eC (.a (.int (1)))))) aNil))) (gN 2)
 (sSeq (sIf (tBin dNe (eBin dIx (eVar 2) (eC (.a (.int (0))))) (eBin dIx (eVar 0) (eC (.a (.int (1))))))
 (sSeq (sDo (eMeth "list" dAppend (eVar 1) (aCons (eVar 2) aNil)))
 sNil)
 (sSeq (sIf (tBin dNe (eBin dIx (eVar 2) (eC (.a (.int (1))))) (eCallB dInt (aCons (eBin dIn (eBin dIx (eVar 0) (eC (.a (.int (0))))) (eOfL (aCons (eC (.a (.str "allrow"))) (aCons (eC (.a (.str "somerow"))) aNil)))) aNil)))
 (sSeq (sDo (eMeth "list" dAppend (eVar 1) (aCons (eTup (aCons (eC (.a (.str ""))) (aCons (eC (.a (.int (0)))) aNil))) aNil)))
 sNil)
 sNil)
 sNil))
 sNil))
 (sSeq (sRet (eVar 1))
 sNil)) [some (.tup T), some (.cel (S.length + 1)), none] (S ++ [Cell.lst [L "and", L "if"], .lst ws0])) := fun ws0 h0 h1 => by
        have c1 : Clo (S ++ [Cell.lst [L "and", L "if"], .lst ws0]) := by
          have := (c.push (c := .lst [L "and", L "if"]) rfl).push (c := .lst ws0) (lo_lst fun d hd => (h0 d hd).noC)
          simpa using this
        obtain ⟨us, u1, u2, u3⟩ := hu _ c1
        simp at u3
        have g1 : (S ++ [Cell.lst [L "and", L "if"], .lst ws0, .lst us])[S.length + 2]? = some (.lst us) := by simp
        have c2 : Clo (S ++ [Cell.lst [L "and", L "if"], .lst ws0, .lst us]) := by
          have := c1.push (c := .lst us) (lo_lst fun d hd => (u1 d hd).noC)
          simpa using this
        generalize hB : (sSeq (sIf (tBin dNe (eBin dIx (eVar 2) (eC (.a (.int (0))))) (eBin dIx (eVar 0) (eC (.a (.int (1))))))
 (sSeq (sDo (eMeth "list" dAppend (eVar 1) (aCons (eVar 2) aNil)))
 sNil)
 (sSeq (sIf (tBin dNe (eBin dIx (eVar 2) (eC (.a (.int (1))))) (eCallB dInt (aCons (eBin dIn (eBin dIx (eVar 0) (eC (.a (.int (0))))) (eOfL (aCons (eC (.a (.str "allrow"))) (aCons (eC (.a (.str "somerow"))) aNil)))) aNil)))
 (sSeq (sDo (eMeth "list" dAppend (eVar 1) (aCons (eTup (aCons (eC (.a (.str ""))) (aCons (eC (.a (.int (0)))) aNil))) aNil)))
 sNil)
 sNil)
 sNil))
 sNil) = B
        have lp : Ws (sqK K (sSeq (sRet (eVar 1)) sNil)) (forGo (some (S.length + 2, .lst us)) us (gN 2) B us [some (.tup T), some (.cel (S.length + 1)), none] (S ++ [Cell.lst [L "and", L "if"], .lst ws0, .lst us])) := by
          refine forH_wp (fun j env S' => ∃ y ws, env = [some (.tup T), some (.cel (S.length + 1)), y] ∧ S'[S.length + 1]? = some (.lst ws) ∧ (∀ d ∈ ws, PU d) ∧ ws.length ≤ 1 + j ∧ Fix S S' ∧ Clo S' ∧ S'[S.length + 2]? = some (.lst us)) ?_ ⟨none, ws0, rfl, by simp, h0, h1, Fix.push, c2, g1⟩ ?_ ?_
          · rintro j env S' ⟨y, ws, rfl, q1, q2, q3, q4, q5, q6⟩
            exact held_lst q6
          · rintro j d env S' hd ⟨y, ws, rfl, q1, q2, q3, q4, q5, q6⟩
            have hj := (List.getElem?_eq_some_iff.mp hd).1
            obtain ⟨uw, z, rfl⟩ := u1 d (List.mem_of_getElem? hd)
            obtain ⟨S2, ws', e, r1, r2, r3, r4, r5, r6⟩ := use_step (k := k) (u := uw) (z := z) (y := y) a0 a1 q1 (by omega)
            subst hB
            refine Ws_eq e ?_
            exact ⟨_, ws', rfl, r1, fun d hd => (r3 d hd).elim (q2 d) id, by omega, ⟨Nat.le_trans q4.len r4, fun i hi => (r5 i (Nat.lt_of_lt_of_le hi q4.len) (by omega)).trans (q4.at_ i hi)⟩, r6 q5 q2, (r5 _ (get_lt q6) (by omega)).trans q6⟩
          · rintro env S' ⟨y, ws, rfl, q1, q2, q3, q4, q5, q6⟩
            simp only [sqK_nx, sSeq_eq, sRet_eq, eVar_eq, List.getElem?_cons_succ, List.getElem?_cons_zero, varR_some, retR_ok, sq_rt, Ws_rt]
            exact hK _ _ _ (by omega) q1 ⟨ws, rfl, q2, by omega⟩ q4
        simp [al, u3, seqR_lst g1]
        exact lp
      have hb := hb S
      obtain ⟨hh1, hh2, hh3⟩ := hh
      unfold b__law_uses
      generalize hB2 : (sSeq (sFor (iSeq (eCall (sem (k + 1))._law_uses [] (aCons (eBin dIx (eVar 0) (eUn dNeg (eC (.a (.int (1)))))) aNil))) (gN 2)
 (sSeq (sIf (tBin dNe (eBin dIx (eVar 2) (eC (.a (.int (0))))) (eBin dIx (eVar 0) (eC (.a (.int (1))))))
 (sSeq (sDo (eMeth "list" dAppend (eVar 1) (aCons (eVar 2) aNil)))
 sNil)
 (sSeq (sIf (tBin dNe (eBin dIx (eVar 2) (eC (.a (.int (1))))) (eCallB dInt (aCons (eBin dIn (eBin dIx (eVar 0) (eC (.a (.int (0))))) (eOfL (aCons (eC (.a (.str "allrow"))) (aCons (eC (.a (.str "somerow"))) aNil)))) aNil)))
 (sSeq (sDo (eMeth "list" dAppend (eVar 1) (aCons (eTup (aCons (eC (.a (.str ""))) (aCons (eC (.a (.int (0)))) aNil))) aNil)))
 sNil)
 sNil)
 sNil))
 sNil))
 (sSeq (sRet (eVar 1))
 sNil)) = B2 at tail
      generalize hT1 : G.tAnd (tBin dEq (eCallB dLen (aCons (eVar 0) aNil)) (eC (.a (.int (4))))) (G.tNot (tCh dLe dLe (eC (.a (.int (1)))) (eBin dIx (eVar 0) (eC (.a (.int (2))))) (eC (.a (.int (12)))))) = T1 at hb
      cases b with
      | false =>
        have t := tail [] (fun _ h => (by cases h)) (Nat.zero_le _)
        simp [a0, hh1, hh2, hh3, hb]
        exact t
      | true =>
        have t := tail [.tup [L "", I 0]] (fun d h => ⟨_, _, List.mem_singleton.mp h⟩) (Nat.le_refl _)
        have ap : dAppend (.cel (S.length + 1)) [.tup [L "", I 0]] (S ++ [Cell.lst [L "and", L "if"], .lst []]) = some (.a .non, S ++ [Cell.lst [L "and", L "if"], .lst [.tup [L "", I 0]]]) := by
          rw [dAppend_lst (ds := []) (by simp) (by decide)]
          simp
        have ty : isTy "list" (.cel (S.length + 1)) (S ++ [Cell.lst [L "and", L "if"], .lst []]) = true := isTy_lst (ds := []) (by simp)
        simp [a0, hh1, hh2, hh3, hb, ap, ty]
        exact t
    obtain ⟨cc, ⟨ws, rfl, h1, h2⟩, h3⟩ := main
    exact ⟨ws, h1, h2, h3⟩
  induction hs with
  | is a b ha hb =>
    intro j hj hn S c
    obtain ⟨k, rfl⟩ := lv2 (by omega : 2 ≤ j)
    have e1 : htS (.is a b) = max (K06.ht a) (K06.ht b) + 1 := rfl
    have e2 : nlS (.is a b) = nl a + nl b + 1 := rfl
    obtain ⟨us, u1, u2, u3⟩ := sp_uses_in hP ha (j := k + 1) (by omega) (by omega) S c
    have c1 : Clo (S ++ [Cell.lst us]) := c.push (lo_lst fun d hd => (u1 d hd).noC)
    obtain ⟨vs, v1, v2, v3⟩ := sp_uses_in hP hb (j := k + 1) (by omega) (by omega) _ c1
    simp at v3
    have hall : ∀ d ∈ us ++ vs, PU d := fun d hd => (List.mem_append.mp hd).elim (u1 d) (v1 d)
    refine ⟨us ++ vs, hall, by rw [List.length_append]; omega, ?_⟩
    rw [e__law_uses]
    refine def_detL (n := 1) (ds := [_]) rfl c (lo_lst fun d hd => (hall d hd).noC) ?_
    have ad : dAdd (.cel S.length) (.cel (S.length + 1)) (S ++ [.lst us, .lst vs]) = some (.cel (S.length + 2), S ++ [.lst us, .lst vs, .lst (us ++ vs)]) := by
      have := dAdd_lst (S := S ++ [.lst us, .lst vs]) (i := S.length) (j := S.length + 1) (xs := us) (ys := vs) (by simp) (by simp) (small_line (by omega))
      simpa using this
    rw [show encS (.is a b) = .tup [L "is", enc a, enc b] from rfl]
    simp [b__law_uses, u3, v3, ad, Fix.push]
  | two h s t hh hs ht ih1 ih2 =>
    intro j hj hn S c
    obtain ⟨k, rfl⟩ := lv2 (by omega : 2 ≤ j)
    have e1 : htS (.two h s t) = max (htS s) (htS t) + 1 := rfl
    have e2 : nlS (.two h s t) = nlS s + nlS t + 1 := rfl
    rw [e__law_uses]
    have cL : Clo (S ++ [Cell.lst [L "and", L "if"]]) := c.push rfl
    obtain ⟨us, u1, u2, u3⟩ := ih1 (j := k + 1) (by omega) (by omega) _ cL
    have c1 : Clo (S ++ [Cell.lst [L "and", L "if"]] ++ [Cell.lst us]) := cL.push (lo_lst fun d hd => (u1 d hd).noC)
    obtain ⟨vs, v1, v2, v3⟩ := ih2 (j := k + 1) (by omega) (by omega) _ c1
    simp at u3 v3
    have hall : ∀ d ∈ us ++ vs, PU d := fun d hd => (List.mem_append.mp hd).elim (u1 d) (v1 d)
    refine ⟨us ++ vs, hall, by rw [List.length_append]; omega, ?_⟩
    refine def_detL (n := 1) (ds := [_]) rfl c (lo_lst fun d hd => (hall d hd).noC) ?_
    have ad : dAdd (.cel (S.length + 1)) (.cel (S.length + 2)) (S ++ [.lst [L "and", L "if"], .lst us, .lst vs]) = some (.cel (S.length + 3), S ++ [.lst [L "and", L "if"], .lst us, .lst vs, .lst (us ++ vs)]) := by
      have := dAdd_lst (S := S ++ [.lst [L "and", L "if"], .lst us, .lst vs]) (i := S.length + 1) (j := S.length + 2) (xs := us) (ys := vs) (by simp) (by simp) (small_line (by omega))
      simpa using this
    rw [show encS (.two h s t) = .tup [L h, encS s, encS t] from rfl]
    rcases hh with rfl | rfl <;> simp [b__law_uses, u3, v3, ad, Fix.push]
  | b3 h w s hh hw hs ih =>
    intro j hj hn S c
    obtain ⟨k, rfl⟩ := lv2 (by omega : 2 ≤ j)
    have e1 : htS (.b3 h w s) = htS s + 1 := rfl
    have e2 : nlS (.b3 h w s) = nlS s + 2 := rfl
    obtain ⟨ws, w1, w2, w3⟩ := bind h w [L h, Sx w, encS s] (encS s) (nlS s) k false (by rcases hh with rfl | rfl | rfl | rfl <;> decide) (by simp) (by simp) (by simp) (by simp) (ih (by omega) (by omega)) (by omega) (fun S => by simp) S c
    exact ⟨ws, w1, by omega, w3⟩
  | b4 h w n s hh hw hs ih =>
    intro j hj hn S c
    obtain ⟨k, rfl⟩ := lv2 (by omega : 2 ≤ j)
    have e1 : htS (.b4 h w n s) = htS s + 1 := rfl
    have e2 : nlS (.b4 h w n s) = nlS s + 3 := rfl
    obtain ⟨ws, w1, w2, w3⟩ := bind h w [L h, Sx w, I n, encS s] (encS s) (nlS s) k (!(decide (1 ≤ (n : Int)) && decide ((n : Int) ≤ 12))) (by rcases hh with rfl | rfl <;> decide) (by simp) (by simp) (by simp) (by simp) (ih (by omega) (by omega)) (by omega) (fun S => by
      by_cases h1 : 1 ≤ (n : Int)
      · simp [h1]
      · simp [h1]) S c
    exact ⟨ws, w1, by omega, w3⟩
theorem sp_fits (hP : ∀ w, P w → Ok w) {s : Se} (hs : WS P s) {j : Nat} (hj : htS s + 8 ≤ j) (hn : nlS s ≤ 90000) {S : Sto} (c : Clo S) : ∃ b : Bool, (sem j)._law_fits [encS s] S = .ok (.a (.bl b)) S := by
  obtain ⟨k, rfl⟩ := lv2 (by omega : 2 ≤ j)
  rw [e__law_fits]
  have main : ∃ d, (∃ b : Bool, d = .a (.bl b)) ∧ defSem 1 3 (b__law_fits (sem (k + 1)) (sem k)) [encS s] S = .ok d S := by
    refine def_detk (n := 1) (ds := [_]) rfl c (fun d ⟨b, e⟩ => by rw [e]; rfl) fun K hK => ?_
    have c1 : Clo (S ++ [Cell.dic []]) := c.push rfl
    obtain ⟨us, u1, u2, u3⟩ := sp_uses hP hs (j := k + 1) (by omega) hn _ c1
    simp at u3
    have g1 : (S ++ [Cell.dic [], .lst us])[S.length + 1]? = some (.lst us) := by simp
    generalize hB : (sSeq (sIf (tOr (tBin dEq (eBin dIx (eVar 2) (eC (.a (.int (0))))) (eC (.a (.str "")))) (tBin dNe (eGet2 (eVar 1) (eBin dIx (eVar 2) (eC (.a (.int (0))))) (eBin dIx (eVar 2) (eC (.a (.int (1)))))) (eBin dIx (eVar 2) (eC (.a (.int (1)))))))
 (sSeq (sRet (eC (.a (.bl false))))
 sNil)
 sNil)
 (sSeq (sPut (eBin dIx (eVar 2) (eC (.a (.int (1))))) (eVar 1) (eBin dIx (eVar 2) (eC (.a (.int (0))))))
 sNil)) = B
    have lp : Ws (sqK K (sSeq (sRet (eC (.a (.bl true)))) sNil)) (forGo (some (S.length + 1, .lst us)) us (gN 2) B us [some (encS s), some (.cel S.length), none] (S ++ [Cell.dic [], .lst us])) := by
      refine forH_wp (fun j env S' => ∃ y kvs, env = [some (encS s), some (.cel S.length), y] ∧ S'[S.length]? = some (.dic kvs) ∧ (∀ kv ∈ kvs, ∃ z, kv.2 = I z) ∧ kvs.length ≤ j ∧ Fix S S' ∧ S'[S.length + 1]? = some (.lst us)) ?_ ⟨none, [], rfl, by simp, fun _ h => (by cases h), Nat.zero_le _, Fix.push, g1⟩ ?_ ?_
      · rintro j env S' ⟨y, kvs, rfl, q1, q2, q3, q4, q5⟩
        exact held_lst q5
      · rintro j d env S' hd ⟨y, kvs, rfl, q1, q2, q3, q4, q5⟩
        have hj := (List.getElem?_eq_some_iff.mp hd).1
        obtain ⟨uw, z, rfl⟩ := u1 d (List.mem_of_getElem? hd)
        obtain ⟨z', hz'⟩ : ∃ z', (getK kvs (.inr uw)).getD (I z) = I z' := by
          cases hg : getK kvs (.inr uw) with
          | none => exact ⟨z, rfl⟩
          | some v =>
            have : ∃ kv ∈ kvs, kv.2 = v := by
              unfold getK at hg
              cases hf : List.find? (fun kv => decide (kv.1 = Sum.inr uw)) kvs with
              | none => rw [hf] at hg; cases hg
              | some kv => rw [hf] at hg; cases hg; exact ⟨kv, List.mem_of_find?_eq_some hf, rfl⟩
            obtain ⟨kv, hk, rfl⟩ := this
            exact q2 kv hk
        have ge : eGet2 (eVar 1) (eBin dIx (eVar 2) (eC (.a (.int (0))))) (eBin dIx (eVar 2) (eC (.a (.int (1))))) [some (encS s), some (.cel S.length), some (.tup [Sx uw, I z])] S' = .ok (I z') S' := by
          rw [get2_at (k := Sx uw) (x := I z) (n := S.length) (kvs := kvs) (y := .inr uw) (by rfl) q1 (by simp) (by simp) rfl, hz']
        have pu := dPut_dic (k := Sx uw) (v := I z) (y := .inr uw) q1 rfl (Nat.lt_of_le_of_lt q3 (Nat.lt_of_lt_of_le (show j < 100000 by omega) (small_line (Nat.le_refl _))))
        subst hB
        by_cases h1 : uw = Str.ofString ""
        · subst h1
          simp [ge]
          exact hK _ _ ⟨_, rfl⟩ q4
        · by_cases h2 : z' = z
          · refine Ws_eq (r' := .nx [some (encS s), some (.cel S.length), some (.tup [Sx uw, I z])] (S'.set S.length (.dic (setK kvs (.inr uw) (I z))))) (by simp [ge, h1, h2, pu]) ?_
            refine ⟨_, _, rfl, List.getElem?_set_self (get_lt q1), fun kv h => ?_, by have := setK_len kvs (.inr uw) (I z); omega, q4.setn (Nat.le_refl _), by rw [List.getElem?_set_ne (by omega)]; exact q5⟩
            rcases mem_setK h with h | h
            · exact q2 kv h
            · exact ⟨z, by rw [h]⟩
          · simp [ge, h1, h2]
            exact hK _ _ ⟨_, rfl⟩ q4
      · rintro env S' ⟨y, kvs, rfl, q1, q2, q3, q4, q5⟩
        simp
        exact hK _ _ ⟨_, rfl⟩ q4
    unfold b__law_fits
    rw [hB]
    simp [u3, seqR_lst g1]
    exact lp
  obtain ⟨d, ⟨b, rfl⟩, h⟩ := main
  exact ⟨b, h⟩
end K06
set_option maxRecDepth 100000
set_option exponentiation.threshold 600
/-! k06: draws: numbers, words. -/
namespace K06
open PySem PySem.Spec PyProof.Rows L2 G
theorem sp_pick {j : Nat} (hj : 2 ≤ j) {S : Sto} {L : Int} (h : Dx [] S S) (h0 : 0 < L) (h1 : L < 2 ^ 300) : Wp nX (fun d S' => ∃ v : Nat, d = I v ∧ (v : Int) < L ∧ Dr [] S S') ((sem j)._law_pick [stD, I L] S) := by
  obtain ⟨k, rfl⟩ := lv2 hj
  rw [e__law_pick]
  exact pick_dr h h0 h1
theorem sp_number {j : Nat} (hj : 4 ≤ j) {S : Sto} (h : Dx [] S S) : Wp nX (fun d S' => (∃ n : Nat, d = I n) ∧ Dr [] S S') ((sem j)._law_number [stD] S) := by
  obtain ⟨k, rfl⟩ := lv2 (by omega : 2 ≤ j)
  rw [e__law_number]
  refine def_drk (P := fun d => ∃ n : Nat, d = I n) (n := 1) (ds := [_]) rfl h (fun d ⟨n, e⟩ => by rw [e]; rfl) fun K hK => ?_
  unfold b__law_number
  refine w_set (by simp) (sp_pick (j := k + 1) (by omega) h (L := 12) (by decide) (by decide)) ?_
  rintro _ S1 ⟨v, rfl, hv, h1⟩
  simp only [List.map_cons, List.map_nil, List.length_cons, List.length_nil, Nat.reduceAdd, Nat.reduceSub, List.replicate, List.cons_append, List.nil_append, List.set_cons_succ, List.set_cons_zero]
  refine w_ife (x := decide ((v : Int) < 9)) (S' := S1) (by simp) (fun _ => ?_) fun _ => ?_
  · refine w_seq (w_ret (by simp) (sp_pick (j := k + 1) (by omega) h1.here (L := 5) (by decide) (by decide)) ?_)
    rintro _ S2 ⟨u, rfl, hu, h2⟩
    exact hK _ _ ⟨u, rfl⟩ (h1.trans h2).dx
  refine w_nil (w_ife (x := decide ((v : Int) < 11)) (S' := S1) (by simp) (fun _ => ?_) fun _ => ?_)
  · refine w_seq (w_ret (by simp) (sp_pick (j := k + 1) (by omega) h1.here (L := 40) (by decide) (by decide)) ?_)
    rintro _ S2 ⟨u, rfl, hu, h2⟩
    exact hK _ _ ⟨u, rfl⟩ (h1.trans h2).dx
  refine w_nil (w_ret (P := fun d S' => (∃ n : Nat, d = I n) ∧ Dr [] S1 S') rfl ?_ fun d S2 ⟨a, b⟩ => hK _ _ a (h1.trans b).dx)
  simp
  refine (sp_pick (j := k + 1) (by omega) h1.here (L := 2) (by decide) (by decide)).use ?_
  rintro _ S2 ⟨u, rfl, hu, h2⟩
  have : u = 0 ∨ u = 1 := by omega
  have fin : ∀ L : Int, 0 < L → L ≤ 1000000000 → Wp nX (fun e S_1 => (∃ n : Nat, I (999999999 - (match e with | .a (.int z) => z | _ => 0)) = I n) ∧ (∃ z, e = I z) ∧ Dr [] S1 S_1) ((sem (k + 1))._law_pick [stD, I L] S2) := fun L h0 h3 => by
    refine (sp_pick (j := k + 1) (by omega) h2.here (L := L) h0 (by omega)).use ?_
    rintro _ S3 ⟨x, rfl, hx, h4⟩
    exact ⟨⟨(999999999 - (x : Int)).toNat, by congr 2; show (999999999 : Int) - x = _; omega⟩, ⟨x, rfl⟩, h2.trans h4⟩
  rcases this with rfl | rfl
  · simp
    refine (fin 2 (by decide) (by decide)).use ?_
    rintro _ S3 ⟨a, ⟨z, rfl⟩, b⟩
    simp at a ⊢
    exact ⟨a, b⟩
  · simp
    refine (fin 1000000000 (by decide) (by decide)).use ?_
    rintro _ S3 ⟨a, ⟨z, rfl⟩, b⟩
    simp at a ⊢
    exact ⟨a, b⟩
end K06
set_option maxRecDepth 100000
set_option exponentiation.threshold 600
/-! k06: new words. -/
namespace K06
open PySem PySem.Spec PyProof.Rows L2 G
abbrev sts (xs : List Str) : List D := xs.map fun x => D.a (.str x)
theorem letter_w {k : Nat} (hk : 2 ≤ k) {env : Slots} {i : Nat} {L : Int} {S : Sto} (h : Dx [] S S) (e0 : env[0]? = some (some stD)) (ei : env[i]? = some (some (.a (.str abcS)))) (h0 : 0 < L) (h1 : L ≤ 26) :
    Wp nX (fun d S' => (∃ w : Str, d = Sx w ∧ Wd w ∧ w.length = 1) ∧ Dr [] S S') (eBin dIx (eVar i) (eCall (sem k)._law_pick [] (aCons (eVar 0) (aCons (eC (.a (.int L))) aNil))) env S) := by
  simp [e0, ei]
  refine (sp_pick hk h h0 (by omega)).use ?_
  rintro _ S1 ⟨v, rfl, hv, h1⟩
  obtain ⟨w, e, hl, hw⟩ := abc_at (v := v) (by omega) S1
  simp [e]
  exact ⟨⟨hw, hl⟩, h1⟩
abbrev headsL : List D := [L "plus", L "is", L "call", L "look", L "table", L "book", L "all", L "some", L "law", L "use"]
theorem heads_wd : ∀ d ∈ headsL, ∃ w, d = Sx w ∧ Wd w := by
  have key : ∀ s ∈ ["plus", "is", "call", "look", "table", "book", "all", "some", "law", "use"], Wd (Str.ofString s) := by unfold Wd; decide +kernel
  intro d hd
  simp only [headsL, List.mem_cons, List.not_mem_nil, or_false] at hd
  rcases hd with rfl | rfl | rfl | rfl | rfl | rfl | rfl | rfl | rfl | rfl <;> exact ⟨_, rfl, key _ (by simp)⟩
theorem sp_new {j : Nat} (hj : 4 ≤ j) {S : Sto} (h : Dx [] S S) {n : Nat} {xs : List Str} (hn : S[n]? = some (.lst (sts xs))) (hn1 : n ≠ 1) :
    Wp nX (fun d S' => (∃ w, d = Sx w ∧ Wd w) ∧ Dr [] S S') ((sem j)._law_new [stD, .cel n] S) := by
  obtain ⟨k, rfl⟩ := lv2 (by omega : 2 ≤ j)
  rw [e__law_new]
  refine def_drk (P := fun d => ∃ w, d = Sx w ∧ Wd w) (n := 2) (ds := [_, _]) rfl h (fun d ⟨w, e, _⟩ => by rw [e]; rfl) fun K hK => ?_
  simp only [List.map_cons, List.map_nil, List.length_cons, List.length_nil, Nat.reduceAdd, Nat.reduceSub, List.replicate, List.cons_append, List.nil_append]
  unfold b__law_new
  generalize hB : (sSeq (sIf (tBin dNotIn (eVar 5) (eVar 1))
 (sSeq sBreak
 sNil)
 sNil)
 (sSeq (sSet 5 (eBin dAdd (eBin dIx (eVar 2) (eBin dDiv (eVar 6) (eC (.a (.int (26)))))) (eBin dIx (eVar 2) (eBin dMod (eCallB dInt (aCons (eVar 6) aNil)) (eC (.a (.int (26))))))))
 sNil)) = B
  -- the loop
  have loop : ∀ (way : D) (w : Str) (S' : Sto), Wd w → Dx [] S S' → Ws K ((sSeq (sFor (iR1 (eC (.a (.int (100))))) (gN 6) B) (sSeq (sRet (eVar 5)) sNil)) [some stD, some (.cel n), some (.a (.str abcS)), some (.cel S.length), some way, some (Sx w), none] S') := fun way w S' hw hx => by
    refine w_for (ds := rangeL 0 100) (gg := none) (S1 := S') (by
      have hr : iR1R (.ok (I 100) S') = .ok (rangeL 0 100, none) S' := iR1R_nat (n := 100) S' (by decide)
      simp [hr]) ?_
    refine forGo_wp (fun j env S2 => ∃ w y, env = [some stD, some (.cel n), some (.a (.str abcS)), some (.cel S.length), some way, some (Sx w), y] ∧ Wd w ∧ S2 = S') ⟨w, none, rfl, hw, rfl⟩ ?_ ?_
    · rintro i d env S2 hd ⟨u, y, rfl, hu, rfl⟩
      obtain ⟨hi, rfl⟩ := rangeL_get hd
      have ni := dNotIn_strs (w := u) (hx.get hn hn1 (by simp))
      rw [Int.zero_add]
      subst hB
      by_cases hm : u ∈ xs
      · obtain ⟨w1, a1, l1, q1⟩ := abc_at (v := i / 26) (by omega) S2
        obtain ⟨w2, a2, l2, q2⟩ := abc_at (v := i % 26) (by omega) S2
        have ad := dAdd_str (x := w1) (y := w2) (S := S2) (by omega)
        have dv : dDiv (I (i : Int)) (I 26) S2 = some (I ((i / 26 : Nat) : Int), S2) := by
          rw [dDiv_pos (by decide) (by decide), Int.natCast_ediv]
          rfl
        have md : dMod (I (i : Int)) (I 26) S2 = some (I ((i % 26 : Nat) : Int), S2) := by
          rw [dMod_pos (by decide), Int.natCast_emod]
          rfl
        generalize ((i / 26 : Nat) : Int) = z1 at a1 dv
        generalize ((i % 26 : Nat) : Int) = z2 at a2 md
        refine Ws_eq (r' := .nx [some stD, some (.cel n), some (.a (.str abcS)), some (.cel S.length), some way, some (Sx (w1 ++ w2)), some (I (i : Int))] S2) (by simp [ni, hm, dv, md, a1, a2, ad]) ?_
        exact ⟨_, _, rfl, fun c hc => (app_cps hc).elim (q1 c) (q2 c), rfl⟩
      · simp [ni, hm]
        exact hK _ _ ⟨u, rfl, hu⟩ hx
    · rintro env S2 ⟨u, y, rfl, hu, rfl⟩
      simp
      exact hK _ _ ⟨u, rfl, hu⟩ hx
  generalize hC : (sSeq (sFor (iR1 (eC (.a (.int (100))))) (gN 6) B) (sSeq (sRet (eVar 5)) sNil)) = C at loop
  -- one of the heads
  have mid : ∀ (way : Nat) (w : Str) (S' : Sto), Wd w → Dx [] S S' → S'[S.length]? = some (.lst headsL) → Ws K ((sSeq (sIf (tBin dEq (eVar 4) (eC (.a (.int (3)))))
 (sSeq (sSet 5 (eBin dIx (eVar 3) (eCall (sem (k + 1))._law_pick [] (aCons (eVar 0) (aCons (eC (.a (.int (10)))) aNil)))))
 sNil)
 sNil) C) [some stD, some (.cel n), some (.a (.str abcS)), some (.cel S.length), some (I (way : Int)), some (Sx w), none] S') := fun way w S' hw hx hs => by
    refine w_ife (x := decide ((way : Int) = 3)) (S' := S') (by simp) (fun _ => ?_) fun _ => w_nil (loop _ w S' hw hx)
    refine w_seq (w_set (P := fun d S2 => (∃ w, d = Sx w ∧ Wd w) ∧ Dr [] S' S2) rfl ?_ ?_)
    · simp
      refine (sp_pick (j := k + 1) (by omega) hx.here (L := 10) (by decide) (by decide)).use ?_
      rintro _ S1 ⟨v, rfl, hv, h1⟩
      obtain ⟨x, hm, ha⟩ := atI_mem (xs := headsL) (v := v) (by simp; omega)
      have hs1 := h1.get hs (by have := hx.st0.lt; omega) (by simp)
      simp [dIx_lst hs1, ha]
      exact ⟨heads_wd x hm, h1⟩
    · rintro _ S1 ⟨⟨w', rfl, hw'⟩, h1⟩
      exact w_nil (loop _ w' S1 hw' (hx.step h1))
  refine w_sete (d := .a (.str abcS)) (S' := S) rfl ?_
  refine w_sete (d := .cel S.length) (S' := S ++ [.lst headsL]) (by simp) ?_
  have h1 : Dx [] S (S ++ [Cell.lst headsL]) := h.push rfl
  refine w_set (by simp) (sp_pick (j := k + 1) (by omega) h1.here (L := 4) (by decide) (by decide)) ?_
  rintro _ S1 ⟨way, rfl, hv, d1⟩
  have h2 := h1.step d1
  have s1 : S1[S.length]? = some (.lst headsL) := d1.get new_at (by have := h.st0.lt; omega) (by simp)
  simp only [List.set_cons_succ, List.set_cons_zero]
  refine w_set rfl (letter_w (k := k + 1) (by omega) h2.here (L := 5) (by simp) (by simp) (by decide) (by decide)) ?_
  rintro _ S2 ⟨⟨w, rfl, hw, _⟩, d2⟩
  have h3 := h2.step d2
  have s2 := d2.get s1 (by have := h.st0.lt; omega) (by simp)
  simp only [List.set_cons_succ, List.set_cons_zero]
  refine w_ife (x := decide ((way : Int) = 2)) (S' := S2) (by simp) (fun _ => ?_) fun _ => w_nil (mid way w S2 hw h3 s2)
  refine w_seq (w_set (P := fun d S3 => (∃ w, d = Sx w ∧ Wd w) ∧ Dx [] S S3 ∧ S3[S.length]? = some (.lst headsL)) rfl ?_ ?_)
  · simp [wipeS]
    refine (sp_pick (j := k + 1) (by omega) h3.here (L := 12) (by decide) (by decide)).use ?_
    rintro _ S3 ⟨v, rfl, hv, d3⟩
    have h4 := h3.step d3
    have s3 := d3.get s2 (by have := h.st0.lt; omega) (by simp)
    simp
    refine ⟨by omega, by rw [rangeL_len]; exact small_line (by omega), ?_⟩
    refine lcGo_wp (fun ys S4 => ∃ us : List Str, ys = sts us ∧ (∀ u ∈ us, Wd u ∧ u.length = 1) ∧ Dx [] S S4 ∧ S4[S.length]? = some (.lst headsL)) ⟨[], rfl, fun _ h => (by cases h), h4, s3⟩ ?_ ?_
    · rintro d ys S4 hd ⟨us, rfl, hus, hx, hs⟩
      refine (letter_w (k := k + 1) (by omega) hx.here (L := 26) (by simp) (by simp) (by decide) (by decide)).use ?_
      rintro _ S5 ⟨⟨u, rfl, hu, hl⟩, d5⟩
      refine ⟨us ++ [u], by simp, fun x hx => ?_, hx.step d5, d5.get hs (by have := h.st0.lt; omega) (by simp)⟩
      rcases List.mem_append.mp hx with hx | hx
      · exact hus x hx
      · rw [List.mem_singleton.mp hx]; exact ⟨hu, hl⟩
    · rintro ys S4 ⟨us, rfl, hus, hx, hs⟩ hl
      rw [rangeL_len, List.length_map] at hl
      have hsum : (us.map (·.length)).sum ≤ 100000 := by
        have : us.map (·.length) = List.replicate us.length 1 := by
          rw [List.eq_replicate_iff]
          refine ⟨by simp, fun b hb => ?_⟩
          obtain ⟨x, hx, rfl⟩ := List.mem_map.mp hb
          exact (hus x hx).2
        rw [this]
        simp
        omega
      have jn := dJoin_lst (n := S4.length) (ys := us) (S := S4 ++ [.lst (sts us)]) new_at hsum
      simp [isTy, jn]
      refine ⟨fun c hc => ?_, hx.push (lo_strs _ _), get_app hs⟩
      obtain ⟨y, hy, hc⟩ := tjoin_cps us c hc
      exact (hus y hy).1 c hc
  · rintro _ S3 ⟨⟨w', rfl, hw'⟩, h4, s3⟩
    exact w_nil (mid way w' S3 hw' h4 s3)
theorem strs_app (xs ys : List Str) : sts xs ++ sts ys = sts (xs ++ ys) := List.map_append.symm
/-- the first five words -/
theorem sp_names {j : Nat} (hj : 6 ≤ j) {S : Sto} (h : Dx [] S S) {n many : Nat} (hn : S[n]? = some (.lst [])) (hn1 : n ≠ 1) (hm : many ≤ 1000) :
    Wp nX (fun d S' => ∃ c S1, d = .cel S.length ∧ S' = S1 ++ [c] ∧ (∃ ws : List Str, c = .lst (sts ws) ∧ ws.length = many ∧ ∀ w ∈ ws, Wd w) ∧ Cell.lo S.length c = true ∧ Dr [] S S1) ((sem j)._law_names [stD, .cel n, I (many : Int)] S) := by
  obtain ⟨k, rfl⟩ := lv2 (by omega : 2 ≤ j)
  rw [e__law_names]
  have hlo : ∀ c : Cell, (∃ ws : List Str, c = .lst (sts ws) ∧ ws.length = many ∧ ∀ w ∈ ws, Wd w) → Cell.lo S.length c = true := fun c ⟨ws, e, _⟩ => by rw [e]; exact lo_strs _ _
  generalize hz : (many : Int) = z
  refine def_drLk (ds := [stD, .cel n, I z]) rfl h hlo fun K hK => ?_
  simp only [List.map_cons, List.map_nil, List.length_cons, List.length_nil, Nat.reduceAdd, Nat.reduceSub, List.replicate, List.cons_append, List.nil_append]
  unfold b__law_names
  have hS := h.st0.lt
  have e3 : eOfL aNil [some stD, some (.cel n), some (I z), none, none] S = .ok (.cel S.length) (S ++ [.lst []]) := rfl
  refine w_sete e3 ?_
  simp only [List.set_cons_succ, List.set_cons_zero]
  refine w_for (ds := rangeL 0 many) (gg := none) (S1 := S ++ [.lst []]) (by
    have hr := iR1R_nat (n := many) (S ++ [Cell.lst []]) (by omega)
    rw [hz] at hr
    simp [hr]) ?_
  refine forGo_wp (fun i env S2 => ∃ y ws, env = [some stD, some (.cel n), some (I z), some (.cel S.length), y] ∧ S2[S.length]? = some (.lst (sts ws)) ∧ ws.length = i ∧ (∀ w ∈ ws, Wd w) ∧ Dx [] S S2 ∧ i ≤ many) ⟨none, [], rfl, new_at, rfl, fun _ h => (by cases h), h.push rfl, Nat.zero_le _⟩ ?_ ?_
  · rintro i d env S2 hd ⟨y, ws, rfl, g, hl, hw, hx, him⟩
    obtain ⟨hi, rfl⟩ := rangeL_get hd
    rw [Int.zero_add]
    have g0 := hx.get hn hn1 (by simp)
    have ad : dAdd (.cel n) (.cel S.length) S2 = some (.cel S2.length, S2 ++ [.lst (sts ws)]) := by
      have := dAdd_lst (S := S2) g0 g (small_line (by simp; omega))
      simpa using this
    have hx2 : Dx [] S (S2 ++ [Cell.lst (sts ws)]) := hx.push (lo_strs _ _)
    refine w_do (P := fun _ S3 => ∃ w, Wd w ∧ S3[S.length]? = some (.lst (sts (ws ++ [w]))) ∧ Dx [] S S3) rfl ?_ ?_
    · simp [isTy_lst g, ad]
      refine (sp_new (j := k + 1) (by omega) hx2.here (n := S2.length) (xs := ws) new_at (by have := hx.len; omega)).use ?_
      rintro _ S3 ⟨⟨w, rfl, hw'⟩, d3⟩
      have g3 := d3.get (get_app g (l := [.lst (sts ws)])) (by omega) (by simp)
      have ap := dAppend_lst (d := Sx w) g3 (small_line (by simp; omega))
      simp [ap]
      have hx3 := hx2.step d3
      refine ⟨w, hw', by rw [List.getElem?_set_self (get_lt g3)], hx3.set (Nat.le_refl _) ?_⟩
      have := lo_strs S3.length (ws ++ [w])
      simpa using this
    · rintro d S3 ⟨w, hw', g3, hx3⟩
      refine ⟨_, ws ++ [w], rfl, g3, by simp [hl], fun x hx => ?_, hx3, by omega⟩
      rcases List.mem_append.mp hx with hx | hx
      · exact hw x hx
      · rw [List.mem_singleton.mp hx]; exact hw'
  · rintro env S2 ⟨y, ws, rfl, g, hl, hw, hx, him⟩
    rw [rangeL_len] at hl
    simp
    exact hK _ _ _ (Nat.le_refl _) g ⟨ws, rfl, hl, hw⟩ hx
end K06
set_option maxRecDepth 100000
set_option exponentiation.threshold 600
/-! k06: expressions are drawn. -/
namespace K06
open PySem PySem.Spec PyProof.Rows L2 G
abbrev fval : D := .tup [.tup [L "a"], L "a"]
abbrev rws (rs : List (Str × Nat)) : List D := rs.map fun r => D.tup [Sx r.1, I (r.2 : Int)]
/-- the lists and the functions of a drawn expression -/
structure GenE (S : Sto) (nN nR nF : Nat) : Prop where
  nums : ∃ ns : List Str, S[nN]? = some (.lst (sts ns)) ∧ (∀ w ∈ ns, Wd w) ∧ ns.length ≤ 1000
  rows : ∃ rs : List (Str × Nat), S[nR]? = some (.lst (rws rs)) ∧ (∀ r ∈ rs, Wd r.1 ∧ 1 ≤ r.2 ∧ r.2 ≤ 3) ∧ rs.length ≤ 1000
  fns : ∃ (kvs : List (Key × D)) (ks : List Str), S[nF]? = some (.dic kvs) ∧ keyStrs kvs = some ks ∧ (∀ w ∈ ks, Wd w) ∧ (∀ kv ∈ kvs, kv.2 = fval) ∧ kvs.length ≤ 10
  nN1 : nN ≠ 1
  nR1 : nR ≠ 1
theorem GenE.step {S S' : Sto} {nN nR nF : Nat} (g : GenE S nN nR nF) (h : Dx [] S S') : GenE S' nN nR nF := by
  obtain ⟨⟨ns, a1, a2⟩, ⟨rs, b1, b2⟩, ⟨kvs, ks, c1, c2⟩, d1, d2⟩ := g
  exact ⟨⟨ns, h.get a1 d1 (by simp), a2⟩, ⟨rs, h.get b1 d2 (by simp), b2⟩, ⟨kvs, ks, h.dic c1, c2⟩, d1, d2⟩
def nb : Nat → Nat
  | 0 => 1
  | l + 1 => 3 * nb l + 7
theorem nb_pos : ∀ l, 1 ≤ nb l
  | 0 => Nat.le_refl _
  | l + 1 => by
    unfold nb
    omega
/-- an expression of a level -/
def PE_ (l : Nat) (d : D) : Prop := ∃ e, d = enc e ∧ WE Wd e ∧ ht e ≤ l ∧ nl e ≤ nb l
theorem PE_.noC {l : Nat} {d : D} (h : PE_ l d) : G.noC d := by
  obtain ⟨e, rfl, h, _⟩ := h
  exact we_nc h
theorem nb_mono : ∀ {l m : Nat}, l ≤ m → nb l ≤ nb m
  | l, 0, h => by rw [show l = 0 by omega]; exact Nat.le_refl _
  | l, m + 1, h => by
    by_cases e : l = m + 1
    · rw [e]; exact Nat.le_refl _
    · have := nb_mono (l := l) (m := m) (by omega)
      show nb l ≤ 3 * nb m + 7
      omega
theorem PE_.mono {l m : Nat} {d : D} (h : PE_ l d) (hl : l ≤ m) : PE_ m d := by
  obtain ⟨e, h1, h2, h3, h4⟩ := h
  exact ⟨e, h1, h2, by omega, Nat.le_trans h4 (nb_mono hl)⟩
/-- an atom -/
theorem atom_w {k : Nat} (hk : 4 ≤ k) {nN nR nF : Nat} {rest : List (Option D)} {S : Sto} (h : Dx [] S S) (g : GenE S nN nR nF) {K : SR → Prop} {C : SX} (hK : ∀ d S', PE_ 0 d → Dr [] S S' → K (.rt d S')) :
    Ws K ((sSeq (sIf (tAnd (tBin dGt (eCallB dLen (aCons (eVar 1) aNil)) (eC (.a (.int (0))))) (tBin dGt (eCall (sem k)._law_pick [] (aCons (eVar 0) (aCons (eC (.a (.int (3)))) aNil))) (eC (.a (.int (0))))))
 (sSeq (sRet (eBin dIx (eVar 1) (eCall (sem k)._law_pick [] (aCons (eVar 0) (aCons (eCallB dLen (aCons (eVar 1) aNil)) aNil)))))
 sNil)
 sNil)
 (sSeq (sRet (eCall (sem k)._law_number [] (aCons (eVar 0) aNil)))
 C)) (some stD :: some (.cel nN) :: rest) S) := by
  obtain ⟨ns, hN, hw, hl⟩ := g.nums
  have num : ∀ S', Dr [] S S' → Ws K ((sSeq (sRet (eCall (sem k)._law_number [] (aCons (eVar 0) aNil))) C) (some stD :: some (.cel nN) :: rest) S') := fun S' d => by
    refine w_ret (by simp) (sp_number hk d.here) ?_
    rintro _ S2 ⟨⟨n, rfl⟩, d2⟩
    exact hK _ _ ⟨.num n, rfl, .num n, Nat.le_refl _, Nat.le_refl _⟩ (d.trans d2)
  refine w_if (PB := fun b S' => Dr [] S S' ∧ (b = true → 0 < ns.length)) ?_ (fun S1 ⟨d1, hb⟩ => ?_) fun S1 ⟨d1, _⟩ => w_nil (num S1 d1)
  · simp [dLen_lst hN]
    refine ⟨fun hp => ?_, fun hp => Dr.refl h.stc h.clo⟩
    refine (sp_pick (by omega) h (L := 3) (by decide) (by decide)).use ?_
    rintro _ S1 ⟨v, rfl, hv, d1⟩
    simp
    exact ⟨d1, fun _ => by omega⟩
  · have hp := hb rfl
    have hN1 := d1.get hN g.nN1 (by simp)
    refine w_seq (w_ret (P := fun d S2 => PE_ 0 d ∧ Dr [] S1 S2) rfl ?_ fun d S2 ⟨a, b⟩ => hK _ _ a (d1.trans b))
    simp [dLen_lst hN1]
    refine (sp_pick (by omega) d1.here (L := (ns.length : Int)) (by omega) (by omega)).use ?_
    rintro _ S2 ⟨v, rfl, hv, d2⟩
    obtain ⟨x, hx, ha⟩ := atI_mem (xs := sts ns) (v := v) (by simp; omega)
    obtain ⟨w, hm, rfl⟩ := List.mem_map.mp hx
    have hN2 := d2.get hN1 g.nN1 (by simp)
    simp [dIx_lst hN2, ha]
    exact ⟨⟨.var w, rfl, .var w (hw w hm), Nat.le_refl _, Nat.le_refl _⟩, d2⟩
theorem sp_expr0 {j : Nat} (hj : 6 ≤ j) {nN nR nF : Nat} {S : Sto} (h : Dx [] S S) (g : GenE S nN nR nF) :
    Wp nX (fun d S' => PE_ 0 d ∧ Dr [] S S') ((sem j)._law_expression [stD, .cel nN, .cel nR, .cel nF, I 0] S) := by
  obtain ⟨k, rfl⟩ := lv2 (by omega : 2 ≤ j)
  rw [e__law_expression]
  refine def_drk (P := PE_ 0) (n := 5) (ds := [_, _, _, _, _]) rfl h (fun d hd => hd.noC _) fun K hK => ?_
  simp only [List.map_cons, List.map_nil, List.length_cons, List.length_nil, Nat.reduceAdd, Nat.reduceSub, List.replicate, List.cons_append, List.nil_append]
  unfold b__law_expression
  refine w_set (by simp) (sp_pick (j := k + 1) (by omega) h (L := 14) (by decide) (by decide)) ?_
  rintro _ S1 ⟨v, rfl, hv, d1⟩
  simp only [List.set_cons_succ, List.set_cons_zero]
  refine w_ift (S' := S1) (by simp) ?_
  simp only [sSeq_assoc, sSeq_nilL]
  exact atom_w (k := k + 1) (by omega) d1.here0 (g.step d1.dx) fun d S' hd dd => hK _ _ hd (d1.trans dd).dx
abbrev opsD : List D := [L "plus", L "minus", L "times", L "div", L "rem", L "least", L "greatest", L "same", L "below"]
theorem ops_of : ∀ d ∈ opsD, ∃ h, d = L h ∧ h ∈ opsL := by
  intro d hd
  simp only [opsD, List.mem_cons, List.not_mem_nil, or_false] at hd
  rcases hd with rfl | rfl | rfl | rfl | rfl | rfl | rfl | rfl | rfl <;> exact ⟨_, rfl, by decide⟩
/-- [_law_expression(.., 0) for k in range(n)], a new list -/
theorem more_w {k : Nat} (hk : 6 ≤ k) {nN nR nF : Nat} {S : Sto} {n : Nat} (hn : n ≤ 2) (h : Dx [] S S) (g : GenE S nN nR nF) {env : Slots} (e0 : env[0]? = some (some stD)) (e1 : env[1]? = some (some (.cel nN))) (e2 : env[2]? = some (some (.cel nR))) (e3 : env[3]? = some (some (.cel nF))) :
    Wp nX (fun ds S' => (∃ es : List Ex, ds = encL es ∧ es.length = n ∧ ∀ e ∈ es, WE Wd e ∧ ht e ≤ 0 ∧ nl e ≤ 1) ∧ Dr [] S S') (lcGo none (rangeL 0 n) (gN 13) tTrue (eCall (sem k)._law_expression [] (aCons (eVar 0) (aCons (eVar 1) (aCons (eVar 2) (aCons (eVar 3) (aCons (eC (.a (.int (0)))) aNil)))))) env (rangeL 0 n) S) := by
  refine lcGo_wp (fun ys S' => (∃ es : List Ex, ys = encL es ∧ ∀ e ∈ es, WE Wd e ∧ ht e ≤ 0 ∧ nl e ≤ 1) ∧ Dr [] S S') ⟨⟨[], rfl, fun _ h => (by cases h)⟩, .refl h.stc h.clo⟩ ?_ ?_
  · rintro d ys S' hd ⟨⟨es, rfl, hes⟩, dd⟩
    have f0 : (env.set 13 (some d))[0]? = some (some stD) := by rw [List.getElem?_set_ne (by decide)]; exact e0
    have f1 : (env.set 13 (some d))[1]? = some (some (.cel nN)) := by rw [List.getElem?_set_ne (by decide)]; exact e1
    have f2 : (env.set 13 (some d))[2]? = some (some (.cel nR)) := by rw [List.getElem?_set_ne (by decide)]; exact e2
    have f3 : (env.set 13 (some d))[3]? = some (some (.cel nF)) := by rw [List.getElem?_set_ne (by decide)]; exact e3
    generalize env.set 13 (some d) = env' at f0 f1 f2 f3
    simp only [eCall_eq, aCons_eq, eVar_eq, f0, f1, f2, f3, varR_some, cons1_ok, eC_eq, aNil_eq, cons2_ok, callR_ok, List.append_nil]
    refine (sp_expr0 hk dd.here0 (g.step dd.dx)).use ?_
    rintro _ S2 ⟨⟨e, rfl, h1, h2, h3⟩, d2⟩
    refine ⟨⟨es ++ [e], by simp [encL_eq], fun x hx => ?_⟩, dd.trans d2⟩
    rcases List.mem_append.mp hx with hx | hx
    · exact hes x hx
    · rw [List.mem_singleton.mp hx]; exact ⟨h1, h2, h3⟩
  · rintro ys S' ⟨⟨es, rfl, hes⟩, dd⟩ hl
    rw [rangeL_len, encL_len] at hl
    exact ⟨⟨es, rfl, hl, hes⟩, dd⟩
theorem htL_0 : ∀ {es : List Ex}, (∀ e ∈ es, ht e ≤ 0) → htL es ≤ 0
  | [], _ => Nat.le_refl _
  | e :: r, h => by
    unfold htL
    have h1 := h e (List.mem_cons_self ..)
    have h2 := htL_0 (es := r) fun x hx => h x (List.mem_cons_of_mem _ hx)
    omega
theorem nlL_1 : ∀ {es : List Ex}, (∀ e ∈ es, nl e ≤ 1) → nlL es ≤ es.length
  | [], _ => Nat.le_refl _
  | e :: r, h => by
    unfold nlL
    have h1 := h e (List.mem_cons_self ..)
    have h2 := nlL_1 (es := r) fun x hx => h x (List.mem_cons_of_mem _ hx)
    rw [List.length_cons]
    omega
theorem getK_mem {κ : Type} [DecidableEq κ] {kvs : List (κ × D)} {k : κ} {v : D} (h : getK kvs k = some v) : ∃ kv ∈ kvs, kv.2 = v ∧ kv.1 = k := by
  unfold getK at h
  cases hf : List.find? (fun kv => decide (kv.1 = k)) kvs with
  | none => rw [hf] at h; cases h
  | some kv =>
    rw [hf] at h
    cases h
    exact ⟨kv, List.mem_of_find?_eq_some hf, rfl, by simpa using List.find?_some hf⟩
theorem keyStrs_get : ∀ {kvs : List (Key × D)} {ks : List Str} {w : Str}, keyStrs kvs = some ks → w ∈ ks → ∃ v, getK kvs (.inr w) = some v
  | [], ks, w, h, hw => by
    cases h
    cases hw
  | (.inr x, d) :: r, ks, w, h, hw => by
    unfold keyStrs at h
    cases hr : keyStrs r with
    | none => rw [hr] at h; cases h
    | some us =>
      rw [hr] at h
      cases h
      rw [getK_cons]
      by_cases e : x = w
      · subst e
        exact ⟨d, if_pos rfl⟩
      · rw [if_neg (fun z => e (Sum.inr.inj z))]
        rcases List.mem_cons.mp hw with h | h
        · exact absurd h.symm e
        · exact keyStrs_get hr h
  | (.inl x, d) :: r, ks, w, h, hw => by cases h
theorem keyStrs_len : ∀ {kvs : List (Key × D)} {ks : List Str}, keyStrs kvs = some ks → ks.length = kvs.length
  | [], ks, h => by cases h; rfl
  | (.inr x, d) :: r, ks, h => by
    unfold keyStrs at h
    cases hr : keyStrs r with
    | none => rw [hr] at h; cases h
    | some us =>
      rw [hr] at h
      cases h
      rw [List.length_cons, List.length_cons, keyStrs_len hr]
  | (.inl x, d) :: r, ks, h => by cases h
theorem sp_expr : ∀ (l : Nat) {j : Nat}, l + 7 ≤ j → ∀ {nN nR nF : Nat} {S : Sto}, Dx [] S S → GenE S nN nR nF →
    Wp nX (fun d S' => PE_ l d ∧ Dr [] S S') ((sem j)._law_expression [stD, .cel nN, .cel nR, .cel nF, I (l : Int)] S)
  | 0, j, hj, nN, nR, nF, S, h, g => sp_expr0 (by omega) h g
  | l + 1, j, hj, nN, nR, nF, S, h, g => by
    obtain ⟨k, rfl⟩ := lv2 (by omega : 2 ≤ j)
    have ih : ∀ {S : Sto}, Dx [] S S → GenE S nN nR nF → Wp nX (fun d S' => PE_ l d ∧ Dr [] S S') ((sem (k + 1))._law_expression [stD, .cel nN, .cel nR, .cel nF, I (l : Int)] S) := fun h g => sp_expr l (by omega) h g
    have hb := nb_pos l
    rw [e__law_expression]
    generalize hz : ((l + 1 : Nat) : Int) = z
    have hz1 : z - 1 = (l : Int) := by omega
    have hz0 : ¬ z = 0 := by omega
    refine def_drk (P := PE_ (l + 1)) (n := 5) (ds := [_, _, _, _, _]) rfl h (fun d hd => hd.noC _) fun K hK => ?_
    simp only [List.map_cons, List.map_nil, List.length_cons, List.length_nil, Nat.reduceAdd, Nat.reduceSub, List.replicate, List.cons_append, List.nil_append]
    unfold b__law_expression
    refine w_set (by simp) (sp_pick (j := k + 1) (by omega) h (L := 14) (by decide) (by decide)) ?_
    rintro _ S1 ⟨v, rfl, hv, d1⟩
    have g1 := g.step d1.dx
    generalize hvz : (v : Int) = vz
    simp only [List.set_cons_succ, List.set_cons_zero]
    refine w_ife (x := decide (vz < 3)) (S' := S1) (by simp [hz0]) (fun _ => ?_) fun h3 => w_nil ?_
    · simp only [sSeq_assoc, sSeq_nilL]
      exact atom_w (k := k + 1) (by omega) d1.here0 g1 fun d S' hd dd => hK _ _ (hd.mono (by omega)) (d1.trans dd).dx
    -- two parts
    refine w_ife (x := decide (vz < 10)) (S' := S1) (by simp) (fun _ => ?_) fun h10 => w_nil ?_
    · simp only [sSeq_assoc, sSeq_nilL]
      refine w_sete (d := .cel S1.length) (S' := S1 ++ [.lst opsD]) (by simp) ?_
      have x1 : Dx [] S (S1 ++ [Cell.lst opsD]) := d1.dx.push rfl
      have hl1 := d1.stc.lt
      have q1 : (S1 ++ [Cell.lst opsD])[S1.length]? = some (.lst opsD) := new_at
      simp only [List.set_cons_succ, List.set_cons_zero]
      refine w_set (P := fun d S2 => (∃ h, d = L h ∧ h ∈ opsL) ∧ Dx [] S S2) rfl ?_ ?_
      · simp
        refine (sp_pick (j := k + 1) (by omega) x1.here (L := 9) (by decide) (by decide)).use ?_
        rintro _ S2 ⟨u, rfl, hu, d2⟩
        obtain ⟨x, hx, ha⟩ := atI_mem (xs := opsD) (v := u) (by simp; omega)
        have q2 := d2.get q1 (by omega) (by simp)
        simp [dIx_lst q2, ha]
        exact ⟨ops_of x hx, x1.step d2⟩
      rintro _ S2 ⟨⟨h9, rfl, hm⟩, x2⟩
      simp only [List.set_cons_succ, List.set_cons_zero]
      refine w_set (by simp [hz1]) (ih x2.here (g.step x2)) ?_
      rintro _ S3 ⟨⟨a, rfl, ha, hta, hna⟩, d3⟩
      have x3 := x2.step d3
      simp only [List.set_cons_succ, List.set_cons_zero]
      refine w_ret (P := fun d S' => PE_ (l + 1) d ∧ Dx [] S S') rfl ?_ fun d S' ⟨a, b⟩ => hK _ _ a b
      simp [hz1]
      refine (ih x3.here (g.step x3)).use ?_
      rintro _ S4 ⟨⟨b, rfl, hb', htb, hnb⟩, d4⟩
      refine ⟨⟨.op h9 none [a, b] [], by simp [enc_op, encL], .op _ _ _ _ (.bin h9 hm) (fun _ h => (by cases h)) ?_, ?_, ?_⟩, x3.step d4⟩
      · intro e he
        simp only [List.mem_cons, List.not_mem_nil, or_false] at he
        rcases he with rfl | rfl
        · exact ha
        · exact hb'
      · simp [ht, htL]; omega
      · simp [nl, nlL, nb]; omega
    -- the first part of the others
    refine w_set (by simp [hz1]) (ih d1.here (g1)) ?_
    rintro _ S3 ⟨⟨a, rfl, ha, hta, hna⟩, d3⟩
    have x3 : Dx [] S S3 := (d1.trans d3).dx
    have g3 := g.step x3
    simp only [List.set_cons_succ, List.set_cons_zero]
    refine w_ife (x := decide (vz = 10)) (S' := S3) (by simp) (fun _ => ?_) fun hx10 => w_nil ?_
    · simp only [sSeq_assoc, sSeq_nilL]
      refine w_set (by simp [hz1]) (ih x3.here g3) ?_
      rintro _ S4 ⟨⟨b, rfl, hb', htb, hnb⟩, d4⟩
      have x4 := x3.step d4
      simp only [List.set_cons_succ, List.set_cons_zero]
      refine w_ret (P := fun d S' => PE_ (l + 1) d ∧ Dx [] S S') rfl ?_ fun d S' ⟨a, b⟩ => hK _ _ a b
      simp [hz1]
      refine (ih x4.here (g.step x4)).use ?_
      rintro _ S5 ⟨⟨c, rfl, hc', htc, hnc⟩, d5⟩
      refine ⟨⟨.op "pick" none [a, b, c] [], by simp [enc_op, encL], .op _ _ _ _ .pick (fun _ h => (by cases h)) ?_, ?_, ?_⟩, x4.step d5⟩
      · intro e he
        simp only [List.mem_cons, List.not_mem_nil, or_false] at he
        rcases he with rfl | rfl | rfl
        · exact ha
        · exact hb'
        · exact hc'
      · simp [ht, htL]; omega
      · simp [nl, nlL, nb]; omega
    refine w_ife (x := decide (vz = 11)) (S' := S3) (by simp) (fun _ => ?_) fun hx11 => w_nil ?_
    · simp only [sSeq_assoc, sSeq_nilL]
      refine w_ret (P := fun d S' => PE_ (l + 1) d ∧ Dx [] S S') rfl ?_ fun d S' ⟨a, b⟩ => hK _ _ a b
      simp [wipeS]
      refine (sp_pick (j := k + 1) (by omega) x3.here (L := 4) (by decide) (by decide)).use ?_
      rintro _ S4 ⟨u, rfl, hu, d4⟩
      have x4 := x3.step d4
      simp
      refine ⟨by omega, by rw [rangeL_len]; exact small_line (by omega), ?_⟩
      refine lcGo_wp (fun ys S5 => (∃ ns : List Nat, ys = ns.map fun k : Nat => I (k : Int)) ∧ Dx [] S S5) ⟨⟨[], rfl⟩, x4⟩ ?_ ?_
      · rintro d ys S5 hd ⟨⟨ns, rfl⟩, x5⟩
        simp
        refine (sp_number (j := k + 1) (by omega) x5.here).use ?_
        rintro _ S6 ⟨⟨n, rfl⟩, d6⟩
        exact ⟨⟨ns ++ [n], by simp⟩, x5.step d6⟩
      · rintro ys S5 ⟨⟨ns, rfl⟩, x5⟩ hl
        rw [rangeL_len, List.length_map] at hl
        refine (sp_number (j := k + 1) (by omega) x5.here).use ?_
        rintro _ S6 ⟨⟨n, rfl⟩, d6⟩
        refine ⟨⟨.op "table" none [a] [.tup (ns.map fun k : Nat => I (k : Int)), I n], by simp [enc_op, encL], .op _ _ _ _ (.table ns n (by omega)) (fun _ h => (by cases h)) ?_, ?_, ?_⟩, x5.step d6⟩
        · intro e he
          rw [List.mem_singleton.mp he]
          exact ha
        · simp [ht, htL]; omega
        · simp [nl, nlL, nb]; omega
    -- a call
    obtain ⟨kvs, ks, f1, f2, f3, f4, f5⟩ := g3.fns
    have fl := keyStrs_len f2
    refine w_ife (x := decide (vz = 12) && decide (0 < (kvs.length : Int))) (S' := S3) (by
      by_cases hv : vz = 12
      · simp [hv, dLen_dic f1]
      · simp [hv]) (fun hx12 => ?_) fun hx12 => w_nil ?_
    · simp only [sSeq_assoc, sSeq_nilL]
      have hpos : 0 < kvs.length := by
        simp at hx12
        omega
      have srt : dSorted [.cel nF] S3 = some (.cel S3.length, S3 ++ [.lst (sts (sortS ks))]) := by
        unfold dSorted
        dsimp only
        rw [f1]
        dsimp only
        rw [if_pos (by omega), f2]
        rfl
      have x4 : Dx [] S (S3 ++ [Cell.lst (sts (sortS ks))]) := x3.push (lo_strs _ _)
      have q4 : (S3 ++ [Cell.lst (sts (sortS ks))])[S3.length]? = some (.lst (sts (sortS ks))) := new_at
      have hl3 := x3.stc.lt
      refine w_set (P := fun d S5 => (∃ w, d = Sx w ∧ w ∈ ks) ∧ Dx [] S S5) rfl ?_ ?_
      · simp [srt, dLen_dic (get_app f1)]
        refine (sp_pick (j := k + 1) (by omega) x4.here (L := (kvs.length : Int)) (by omega) (by omega)).use ?_
        rintro _ S5 ⟨u, rfl, hu, d5⟩
        have hsl := (sortS_perm ks).length_eq
        obtain ⟨x, hx, ha'⟩ := atI_mem (xs := sts (sortS ks)) (v := u) (by simp; omega)
        obtain ⟨w, hm, rfl⟩ := List.mem_map.mp hx
        have q5 := d5.get q4 (by omega) (by simp)
        simp [dIx_lst q5, ha']
        exact ⟨(sortS_perm ks).mem_iff.mp hm, x4.step d5⟩
      rintro _ S5 ⟨⟨w, rfl, hw⟩, x5⟩
      obtain ⟨kvs', ks', f1', f2', f3', f4', f5'⟩ := (g.step x5).fns
      have e5 : S5[nF]? = some (.dic kvs) := by
        obtain ⟨kvs0, ks0, f0, _⟩ := g.fns
        have h1 := x3.dic f0
        rw [f1] at h1
        cases h1
        exact x5.dic f0
      rw [e5] at f1'
      cases f1'
      obtain ⟨v0, gv⟩ := keyStrs_get f2 hw
      obtain ⟨kv, hk1, hk2, _⟩ := getK_mem gv
      have hfv : v0 = fval := by rw [← hk2]; exact f4 kv hk1
      subst hfv
      have ix := dIx_dic (k := Sx w) e5 rfl gv
      simp only [List.set_cons_succ, List.set_cons_zero]
      have hr0 : iR1R (.ok (I 0) S5) = .ok (rangeL 0 0, none) S5 := iR1R_nat (n := 0) S5 (by decide)
      have lc0 : lcGo none [] (gN 13) tTrue (eCall (sem (k + 1))._law_expression [] (aCons (eVar 0) (aCons (eVar 1) (aCons (eVar 2) (aCons (eVar 3) (aCons (eC (.a (.int (0)))) aNil)))))) [some stD, some (.cel nN), some (.cel nR), some (.cel nF), some (I z), some (I vz), none, none, some (enc a), none, some (Sx w), none, none, none] [] S5 = .ok [] S5 := by
        unfold lcGo
        rw [if_pos (held_none' _ _)]
      have lr0 := lcR_at (by decide) lc0
      refine w_sete (d := .cel S5.length) (S' := S5 ++ [.lst []]) (by simp [ix, wipeS, hr0, rangeL, lr0]) ?_
      simp only [List.set_cons_succ, List.set_cons_zero]
      have ad := fun (S : Sto) => dAdd_tup (xs := [L "call", Sx w, enc a]) (ys := []) (S := S) (small_line (by simp))
      simp only [List.append_nil] at ad
      refine w_rete (d := .tup [L "call", Sx w, enc a]) (S' := S5 ++ [.lst []]) (by simp [ad]) (hK _ _ ⟨.op "call" (some w) [a] [], by simp [enc_op, encL], .op _ _ _ _ (.call w _ (by simp) (by simp)) (fun w' hw' => by cases hw'; exact f3 w hw) ?_, ?_, ?_⟩ (x5.push rfl))
      · intro e he
        rw [List.mem_singleton.mp he]
        exact ha
      · show max (ht a) 0 + 1 ≤ l + 1
        omega
      · show nl a + 0 + 7 ≤ 3 * nb l + 7
        omega
    obtain ⟨rs, r1, r2, r3⟩ := g3.rows
    refine w_ife (x := decide ((rs.length : Int) = 0)) (S' := S3) (by simp [dLen_lst r1]) (fun _ => ?_) fun hpos => w_nil ?_
    · simp only [sSeq_assoc, sSeq_nilL]
      exact w_rete (d := enc a) (S' := S3) (by simp) (hK _ _ (PE_.mono ⟨a, rfl, ha, hta, hna⟩ (by omega)) x3)
    have hrl : 0 < rs.length := by
      have := of_decide_eq_false hpos
      omega
    refine w_set (P := fun d S4 => (∃ r ∈ rs, d = .tup [Sx r.1, I (r.2 : Int)]) ∧ Dr [] S3 S4) rfl ?_ ?_
    · simp [dLen_lst r1]
      refine (sp_pick (j := k + 1) (by omega) x3.here (L := (rs.length : Int)) (by omega) (by omega)).use ?_
      rintro _ S4 ⟨u, rfl, hu, d4⟩
      obtain ⟨x, hx, ha'⟩ := atI_mem (xs := rws rs) (v := u) (by simp; omega)
      obtain ⟨r, hm, rfl⟩ := List.mem_map.mp hx
      have q4 := d4.get r1 g.nR1 (by simp)
      simp [dIx_lst q4, ha']
      exact ⟨⟨r.1, r.2, hm, rfl, rfl⟩, d4⟩
    rintro _ S4 ⟨⟨r, hm, rfl⟩, d4⟩
    obtain ⟨hrw, hr1, hr3⟩ := r2 r hm
    have x4 := x3.step d4
    simp only [List.set_cons_succ, List.set_cons_zero]
    obtain ⟨m, hm1⟩ : ∃ m, r.2 = m + 1 := ⟨r.2 - 1, by omega⟩
    have hr2 : (r.2 : Int) - 1 = (m : Int) := by omega
    have hrng := iR1R_nat (n := m) S4 (by omega)
    refine w_set (P := fun d S5 => (∃ n es, d = .cel n ∧ S5[n]? = some (.lst (encL es)) ∧ es.length = m ∧ ∀ e ∈ es, WE Wd e ∧ ht e ≤ 0 ∧ nl e ≤ 1) ∧ Dx [] S S5) rfl ?_ ?_
    · have mw := more_w (k := k + 1) (n := m) (by omega) (by omega) x4.here0 (g.step x4) (env := [some stD, some (.cel nN), some (.cel nR), some (.cel nF), some (I z), some (I vz), none, none, some (enc a), none, none, none, some (.tup [Sx r.1, I (r.2 : Int)]), none]) rfl rfl rfl rfl
      generalize (r.2 : Int) = rz at hr2 mw ⊢
      simp [wipeS, hr2, hrng]
      refine ⟨by rw [rangeL_len]; exact small_line (by omega), ?_⟩
      refine mw.use ?_
      rintro _ S5 ⟨⟨es, rfl, hl, hes⟩, d5⟩
      refine ⟨⟨es, rfl, hl, fun e he => ⟨(hes e he).1, by have := (hes e he).2.1; omega, (hes e he).2.2⟩⟩, (x4.step d5).push (lo_lst (encL_noC (fun _ => strOk_wd) fun e he => (hes e he).1))⟩
    rintro _ S5 ⟨⟨n, es, rfl, q5, hl5, hes⟩, x5⟩
    simp only [List.set_cons_succ, List.set_cons_zero]
    have ad := fun (S : Sto) => dAdd_tup (xs := [L "look", Sx r.1, enc a]) (ys := encL es) (S := S) (small_line (by rw [encL_len]; simp; omega))
    refine w_rete (d := .tup ([L "look", Sx r.1, enc a] ++ encL es)) (S' := S5) (by simp [dTuple_lst q5, ad]) (hK _ _ ⟨.op "look" (some r.1) (a :: es) [], by simp [enc_op, encL], .op _ _ _ _ (.look r.1 _ (by simp) (by simp; omega)) (fun w hw => by cases hw; exact hrw) ?_, ?_, ?_⟩ x5)
    · intro e he
      rcases List.mem_cons.mp he with rfl | he
      · exact ha
      · exact (hes e he).1
    · have := htL_0 fun e he => (hes e he).2.1
      simp [ht, htL]; omega
    · have := nlL_1 fun e he => (hes e he).2.2
      simp [nl, nlL, nb]; omega
end K06
set_option maxRecDepth 100000
set_option exponentiation.threshold 600
/-! k06: sentences are drawn. -/
namespace K06
open PySem PySem.Spec PyProof.Rows L2 G
/-- the names: words and kinds -/
structure NamE (kvs : List (Key × D)) : Prop where
  keys : ∃ ks : List Str, keyStrs kvs = some ks ∧ ∀ w ∈ ks, Wd w
  vals : ∀ kv ∈ kvs, ∃ v : Nat, kv.2 = I (v : Int) ∧ v ≤ 3
  pos : 0 < kvs.length
  len : kvs.length ≤ 900
theorem keyStrs_keysD : ∀ {kvs : List (Key × D)} {ks : List Str}, keyStrs kvs = some ks → keysD kvs = sts ks
  | [], ks, h => by cases h; rfl
  | (.inr x, d) :: r, ks, h => by
    unfold keyStrs at h
    cases hr : keyStrs r with
    | none => rw [hr] at h; cases h
    | some us =>
      rw [hr] at h
      cases h
      show D.a (kV (.inr x)) :: keysD r = _
      rw [keyStrs_keysD hr]
      rfl
  | (.inl x, d) :: r, ks, h => by cases h
theorem keyStrs_set : ∀ {kvs : List (Key × D)} {ks : List Str} {P : Str → Prop} {w : Str} {d : D}, keyStrs kvs = some ks → (∀ w ∈ ks, P w) → P w → ∃ ks', keyStrs (setK kvs (.inr w) d) = some ks' ∧ ∀ w ∈ ks', P w := by
  intro kvs ks P w d h hp hw
  have app : ∀ (kvs : List (Key × D)) (ks : List Str), keyStrs kvs = some ks → keyStrs (kvs ++ [(.inr w, d)]) = some (ks ++ [w]) := fun kvs => by
    induction kvs with
    | nil => intro ks h; cases h; rfl
    | cons p r ih =>
      intro ks h
      obtain ⟨x, v⟩ := p
      cases x with
      | inl x => cases h
      | inr x =>
        unfold keyStrs at h
        cases hr : keyStrs r with
        | none => rw [hr] at h; cases h
        | some us =>
          rw [hr] at h
          cases h
          show (keyStrs (r ++ _)).map _ = _
          rw [ih us hr]
          rfl
  have mp : ∀ (kvs : List (Key × D)) (ks : List Str), keyStrs kvs = some ks → keyStrs (kvs.map fun kv => if kv.1 = .inr w then (kv.1, d) else kv) = some ks := fun kvs => by
    induction kvs with
    | nil => intro ks h; exact h
    | cons p r ih =>
      intro ks h
      obtain ⟨x, v⟩ := p
      cases x with
      | inl x => cases h
      | inr x =>
        unfold keyStrs at h
        cases hr : keyStrs r with
        | none => rw [hr] at h; cases h
        | some us =>
          rw [hr] at h
          cases h
          rw [List.map_cons]
          have : (if ((Sum.inr x : Key), v).1 = .inr w then (((Sum.inr x : Key), v).1, d) else ((Sum.inr x : Key), v)) = ((Sum.inr x : Key), if (Sum.inr x : Key) = .inr w then d else v) := by
            by_cases e : (Sum.inr x : Key) = .inr w
            · simp [e]
            · simp [e]
          rw [this]
          show (keyStrs _).map _ = _
          rw [ih us hr]
          rfl
  unfold setK
  split
  · exact ⟨ks, mp kvs ks h, hp⟩
  · refine ⟨_, app kvs ks h, fun x hx => ?_⟩
    rcases List.mem_append.mp hx with hx | hx
    · exact hp x hx
    · rw [List.mem_singleton.mp hx]; exact hw
theorem NamE.put {kvs : List (Key × D)} (o : NamE kvs) {w : Str} (hw : Wd w) {v : Nat} (hv : v ≤ 3) (hl : kvs.length < 900) : NamE (setK kvs (.inr w) (I (v : Int))) := by
  obtain ⟨ks, h1, h2⟩ := o.keys
  refine ⟨keyStrs_set h1 h2 hw, fun kv hk => ?_, ?_, by have := setK_len kvs (.inr w) (I (v : Int)); omega⟩
  · rcases mem_setK hk with h | h
    · exact o.vals kv h
    · exact ⟨v, by rw [h], hv⟩
  · exact List.length_pos_iff.mpr (setK_ne _ _ _)
theorem NamE.lo {kvs : List (Key × D)} (o : NamE kvs) (n : Nat) : Cell.lo n (.dic kvs) = true := lo_dic fun kv hk => by
  obtain ⟨v, h, _⟩ := o.vals kv hk
  rw [h]
  exact noC_atom _
/-- [name for name in names if names[name] == 0] -/
theorem names_w {kvs : List (Key × D)} (o : NamE kvs) {S : Sto} {nD : Nat} (h : S[nD]? = some (.dic kvs)) {env : Slots} {i : Nat} (e1 : env[1]? = some (some (.cel nD))) (hi : i ≠ 1) (hl : i < env.length) :
    ∃ ns : List Str, aLock 1 (aLc (iKey (eVar 1)) (gN i) [i] (tBin dEq (eBin dIx (eVar 1) (eVar i)) (eC (.a (.int (0))))) (eVar i)) env S = .ok (sts ns) S ∧ (∀ w ∈ ns, Wd w) ∧ ns.length ≤ 900 := by
  obtain ⟨ks, k1, k2⟩ := o.keys
  have kl := keyStrs_len k1
  have hn := get_lt h
  have g1 : (S.set nD (.fdc kvs))[nD]? = some (.fdc kvs) := List.getElem?_set_self hn
  let p : D → Bool := fun d => match d with
    | .a (.str w) => match getK kvs (.inr w) with
      | some (.a (.int z)) => decide (z = 0)
      | _ => false
    | _ => false
  have f1 : ∀ d : D, (env.set i (some d))[1]? = some (some (.cel nD)) := fun d => by rw [List.getElem?_set_ne hi]; exact e1
  have f2 : ∀ d : D, (env.set i (some d))[i]? = some (some d) := fun d => by rw [List.getElem?_set_self hl]
  have lc : lcGo (some (nD, .fdc kvs)) (sts ks) (gN i) (tBin dEq (eBin dIx (eVar 1) (eVar i)) (eC (.a (.int (0))))) (eVar i) (env.set i none) (sts ks) (S.set nD (.fdc kvs)) = .ok (((sts ks).filter p).map id) (S.set nD (.fdc kvs)) := by
    refine lcH_filter id p ((held_some _ _ _ _).mpr g1) _ (fun d hd => ?_) fun d hd _ => by rw [eVar_eq, List.set_set, f2]; rfl
    obtain ⟨w, hw, rfl⟩ := List.mem_map.mp hd
    obtain ⟨v, gv⟩ := keyStrs_get k1 hw
    obtain ⟨kv, hk, hkv, _⟩ := getK_mem gv
    obtain ⟨z, hz, _⟩ := o.vals kv hk
    rw [hkv] at hz
    subst hz
    have ix := dIx_fdc (k := Sx w) g1 rfl gv
    generalize (z : Int) = zz at gv ix
    rw [List.set_set]
    have h1 := f1 (Sx w)
    have h2 := f2 (Sx w)
    generalize env.set i (some (Sx w)) = env' at h1 h2
    simp [h1, h2, ix, p, gv]
  refine ⟨ks.filter fun w => p (Sx w), ?_, fun w hw => k2 w (List.mem_filter.mp hw).1, ?_⟩
  · refine aLock_same e1 h ?_
    have e : ((sts ks).filter p).map id = sts (ks.filter fun w => p (Sx w)) := by
      rw [List.map_id, List.filter_map]
      rfl
    rw [e] at lc
    rw [aLc_eq, iKey_eq, eVar_eq, e1, varR_some, keyR_at g1, keyStrs_keysD k1]
    exact lcR_at (by simp; have := o.len; omega) lc
  · have h1 := List.length_filter_le (fun w => p (Sx w)) ks
    have h2 := o.len
    omega
/-- [(name, names[name]) for name in names if names[name] > 0] -/
theorem rows_w {kvs : List (Key × D)} (o : NamE kvs) {S : Sto} {nD : Nat} (h : S[nD]? = some (.dic kvs)) {env : Slots} {i : Nat} (e1 : env[1]? = some (some (.cel nD))) (hi : i ≠ 1) (hl : i < env.length) :
    ∃ rs : List (Str × Nat), aLock 1 (aLc (iKey (eVar 1)) (gN i) [i] (tBin dGt (eBin dIx (eVar 1) (eVar i)) (eC (.a (.int (0))))) (eTup (aCons (eVar i) (aCons (eBin dIx (eVar 1) (eVar i)) aNil)))) env S = .ok (rws rs) S ∧ (∀ r ∈ rs, Wd r.1 ∧ 1 ≤ r.2 ∧ r.2 ≤ 3) ∧ rs.length ≤ 900 := by
  obtain ⟨ks, k1, k2⟩ := o.keys
  have kl := keyStrs_len k1
  have hn := get_lt h
  have g1 : (S.set nD (.fdc kvs))[nD]? = some (.fdc kvs) := List.getElem?_set_self hn
  have val : ∀ w ∈ ks, ∃ z : Nat, getK kvs (.inr w) = some (I (z : Int)) ∧ z ≤ 3 := fun w hw => by
    obtain ⟨v, gv⟩ := keyStrs_get k1 hw
    obtain ⟨kv, hk, hkv, _⟩ := getK_mem gv
    obtain ⟨z, hz, hz3⟩ := o.vals kv hk
    rw [hkv] at hz
    subst hz
    exact ⟨z, gv, hz3⟩
  let vz : Str → Nat := fun w => match getK kvs (.inr w) with
    | some (.a (.int z)) => z.toNat
    | _ => 0
  have hvz : ∀ w ∈ ks, getK kvs (.inr w) = some (I (vz w : Int)) ∧ vz w ≤ 3 := fun w hw => by
    obtain ⟨z, h1, h2⟩ := val w hw
    have : vz w = z := by
      simp only [vz, h1]
      exact Int.toNat_natCast z
    rw [this]
    exact ⟨h1, h2⟩
  let wd : D → Str := fun d => match d with
    | .a (.str w) => w
    | _ => Str.ofString ""
  let p : D → Bool := fun d => decide (0 < vz (wd d))
  let f : D → D := fun d => .tup [d, I (vz (wd d) : Int)]
  have f1 : ∀ d : D, (env.set i (some d))[1]? = some (some (.cel nD)) := fun d => by rw [List.getElem?_set_ne hi]; exact e1
  have f2 : ∀ d : D, (env.set i (some d))[i]? = some (some d) := fun d => by rw [List.getElem?_set_self hl]
  have lc : lcGo (some (nD, .fdc kvs)) (sts ks) (gN i) (tBin dGt (eBin dIx (eVar 1) (eVar i)) (eC (.a (.int (0))))) (eTup (aCons (eVar i) (aCons (eBin dIx (eVar 1) (eVar i)) aNil))) (env.set i none) (sts ks) (S.set nD (.fdc kvs)) = .ok (((sts ks).filter p).map f) (S.set nD (.fdc kvs)) := by
    refine lcH_filter f p ((held_some _ _ _ _).mpr g1) _ (fun d hd => ?_) fun d hd _ => ?_
    · obtain ⟨w, hw, rfl⟩ := List.mem_map.mp hd
      obtain ⟨gv, _⟩ := hvz w hw
      have ix := dIx_fdc (k := Sx w) g1 rfl gv
      have hd : decide ((0 : Int) < (vz w : Int)) = decide (0 < vz w) := by
        rw [Bool.eq_iff_iff, decide_eq_true_iff, decide_eq_true_iff]
        omega
      show _ = R.ok (decide (0 < vz w)) _
      rw [← hd]
      generalize (vz w : Int) = zz at ix
      rw [List.set_set]
      have h1 := f1 (Sx w)
      have h2 := f2 (Sx w)
      generalize env.set i (some (Sx w)) = env' at h1 h2
      simp [h1, h2, ix]
    · obtain ⟨w, hw, rfl⟩ := List.mem_map.mp hd
      obtain ⟨gv, _⟩ := hvz w hw
      have ix := dIx_fdc (k := Sx w) g1 rfl gv
      show _ = R.ok (D.tup [Sx w, I (vz w : Int)]) _
      generalize (vz w : Int) = zz at ix
      rw [List.set_set]
      have h1 := f1 (Sx w)
      have h2 := f2 (Sx w)
      generalize env.set i (some (Sx w)) = env' at h1 h2
      simp [h1, h2, ix]
  refine ⟨(ks.filter fun w => decide (0 < vz w)).map fun w => (w, vz w), ?_, fun r hr => ?_, ?_⟩
  · refine aLock_same e1 h ?_
    have e : ((sts ks).filter p).map f = rws ((ks.filter fun w => decide (0 < vz w)).map fun w => (w, vz w)) := by
      rw [List.filter_map, List.map_map]
      show _ = List.map _ (List.map _ _)
      rw [List.map_map]
      rfl
    rw [e] at lc
    rw [aLc_eq, iKey_eq, eVar_eq, e1, varR_some, keyR_at g1, keyStrs_keysD k1]
    exact lcR_at (by simp; have := o.len; omega) lc
  · obtain ⟨w, hw, rfl⟩ := List.mem_map.mp hr
    obtain ⟨h1, h2⟩ := List.mem_filter.mp hw
    exact ⟨k2 w h1, of_decide_eq_true h2, (hvz w h1).2⟩
  · rw [List.length_map]
    have h1 := List.length_filter_le (fun w => decide (0 < vz w)) ks
    have h2 := o.len
    omega
theorem rws_nc {rs : List (Str × Nat)} : ∀ d ∈ rws rs, noC d := fun d hd => by
  obtain ⟨r, _, rfl⟩ := List.mem_map.mp hd
  refine noC_tup fun d hd => ?_
  simp only [List.mem_cons, List.not_mem_nil, or_false] at hd
  rcases hd with rfl | rfl <;> exact noC_atom _
def nbS : Nat → Nat
  | 0 => 75
  | l + 1 => 2 * nbS l + 3
/-- a sentence of a level -/
def PS_ (l : Nat) (d : D) : Prop := ∃ s, d = encS s ∧ WS Wd s ∧ htS s ≤ l + 3 ∧ nlS s ≤ nbS l
theorem PS_.noC {l : Nat} {d : D} (h : PS_ l d) : G.noC d := by
  obtain ⟨s, rfl, h, _⟩ := h
  exact ws_nc h
theorem nbS_pos : ∀ l, 75 ≤ nbS l
  | 0 => Nat.le_refl _
  | l + 1 => by
    have := nbS_pos l
    show 75 ≤ 2 * nbS l + 3
    omega
theorem PS_.up {l : Nat} {d : D} (h : PS_ 0 d) : PS_ l d := by
  obtain ⟨s, h1, h2, h3, h4⟩ := h
  exact ⟨s, h1, h2, by omega, Nat.le_trans h4 (nbS_pos l)⟩
/-- functions -/
def FnE (kvs : List (Key × D)) : Prop := ∃ ks : List Str, keyStrs kvs = some ks ∧ (∀ w ∈ ks, Wd w) ∧ (∀ kv ∈ kvs, kv.2 = fval) ∧ kvs.length ≤ 10
theorem _root_.G.Dx.dicm {m : Nat} {S0 S : Sto} (a : Dx [m] S0 S) {n : Nat} {kvs : List (Key × D)} {ds : List D} (h : S0[n]? = some (.dic kvs)) (hm : S0[m]? = some (.lst ds)) : S[n]? = some (.dic kvs) :=
  a.get h (a.st0.nd h) (by
    intro e
    rw [List.mem_singleton.mp e, hm] at h
    cases h)
theorem _root_.G.Dr.getm {m : Nat} {S0 S : Sto} (a : Dr [] S0 S) {c : Cell} (h : S0[m]? = some c) (h1 : m ≠ 1) : S[m]? = some c := a.get h h1 (by simp)
end K06
set_option maxRecDepth 100000
set_option exponentiation.threshold 600
/-! k06: sentences are drawn: _law_met. -/
namespace K06
open PySem PySem.Spec PyProof.Rows L2 G
/-- an atom over names: both lists, then two expressions -/
theorem genE_of {S : Sto} {nD nF : Nat} {kvs fvs : List (Key × D)} {ns : List Str} {rs : List (Str × Nat)} {a b : Nat} (h0 : Stc S) (hf : S[nF]? = some (.dic fvs)) (F : FnE fvs) (ha : S[a]? = some (.lst (sts ns))) (hb : S[b]? = some (.lst (rws rs))) (h1 : ∀ w ∈ ns, Wd w) (h2 : ns.length ≤ 900) (h3 : ∀ r ∈ rs, Wd r.1 ∧ 1 ≤ r.2 ∧ r.2 ≤ 3) (h4 : rs.length ≤ 900) (a1 : a ≠ 1) (b1 : b ≠ 1) : GenE S a b nF := by
  obtain ⟨ks, f1, f2, f3, f4⟩ := F
  exact ⟨⟨ns, ha, h1, by omega⟩, ⟨rs, hb, h3, by omega⟩, ⟨fvs, ks, hf, f1, f2, f3, f4⟩, a1, b1⟩
theorem is_w {a b : D} {l m : Nat} (ha : PE_ l a) (hb : PE_ m b) (hl : l ≤ 2) (hm : m ≤ 2) : PS_ 0 (.tup [L "is", a, b]) := by
  obtain ⟨x, rfl, x1, x2, x3⟩ := ha
  obtain ⟨y, rfl, y1, y2, y3⟩ := hb
  have n1 := nb_mono hl
  have n2 := nb_mono hm
  have e2 : nb 2 = 37 := rfl
  refine ⟨.is x y, rfl, .is x y x1 y1, ?_, ?_⟩
  · show max (ht x) (ht y) + 1 ≤ 0 + 3
    omega
  · show nl x + nl y + 1 ≤ 75
    omega
/-- the atom of a sentence -/
theorem isat_w {k : Nat} (hk : 12 ≤ k) {nD nF : Nat} {kvs fvs : List (Key × D)} {S : Sto} (h : Dx [] S S) (hD : S[nD]? = some (.dic kvs)) (o : NamE kvs) (hF : S[nF]? = some (.dic fvs)) (F : FnE fvs) {lv rm way : D} {K : SR → Prop} {C : SX}
    (hK : ∀ d S', PS_ 0 d → Dx [] S S' → K (.rt d S')) :
    Ws K ((sSeq (sSet 6 (eOfL (aLock 1 (aLc (iKey (eVar 1)) (gN 13) (List.map (fun p => p.2) ([("name", 13)] : List (Str × Nat))) (tBin dEq (eBin dIx (eVar 1) (eVar 13)) (eC (.a (.int (0))))) (eVar 13)))))
 (sSeq (sSet 7 (eOfL (aLock 1 (aLc (iKey (eVar 1)) (gN 13) (List.map (fun p => p.2) ([("name", 13)] : List (Str × Nat))) (tBin dGt (eBin dIx (eVar 1) (eVar 13)) (eC (.a (.int (0))))) (eTup (aCons (eVar 13) (aCons (eBin dIx (eVar 1) (eVar 13)) aNil)))))))
 (sSeq (sSet 8 (eCall (sem k)._law_expression [] (aCons (eVar 0) (aCons (eVar 6) (aCons (eVar 7) (aCons (eVar 2) (aCons (eCall (sem k)._law_pick [] (aCons (eVar 0) (aCons (eC (.a (.int (3)))) aNil))) aNil)))))))
 (sSeq (sRet (eTup (aCons (eC (.a (.str "is"))) (aCons (eVar 8) (aCons (eCall (sem k)._law_expression [] (aCons (eVar 0) (aCons (eVar 6) (aCons (eVar 7) (aCons (eVar 2) (aCons (eCall (sem k)._law_pick [] (aCons (eVar 0) (aCons (eC (.a (.int (3)))) aNil))) aNil)))))) aNil)))))
 C)))) [some stD, some (.cel nD), some (.cel nF), some lv, some rm, some way, none, none, none, none, none, none, none, none] S) := by
  have hS := h.stc.lt
  obtain ⟨ns, n1, n2, n3⟩ := names_w o hD (env := [some stD, some (.cel nD), some (.cel nF), some lv, some rm, some way, none, none, none, none, none, none, none, none]) (i := 13) rfl (by decide) (by simp)
  refine w_sete (d := .cel S.length) (S' := S ++ [.lst (sts ns)]) (by
    rw [eOfL_eq]
    exact (congrArg ofLR n1)) ?_
  simp only [List.set_cons_succ, List.set_cons_zero]
  have x1 : Dx [] S (S ++ [Cell.lst (sts ns)]) := h.push (lo_strs _ _)
  obtain ⟨rs, r1, r2, r3⟩ := rows_w o (get_app hD (l := [Cell.lst (sts ns)])) (env := [some stD, some (.cel nD), some (.cel nF), some lv, some rm, some way, some (.cel S.length), none, none, none, none, none, none, none]) (i := 13) rfl (by decide) (by simp)
  refine w_sete (d := .cel (S.length + 1)) (S' := S ++ [.lst (sts ns), .lst (rws rs)]) (by
    rw [eOfL_eq]
    refine (congrArg ofLR r1).trans ?_
    simp) ?_
  simp only [List.set_cons_succ, List.set_cons_zero]
  have x2 : Dx [] S (S ++ [Cell.lst (sts ns), Cell.lst (rws rs)]) := by
    have := x1.push (c := .lst (rws rs)) (lo_lst rws_nc)
    simpa using this
  have g2 : GenE (S ++ [Cell.lst (sts ns), Cell.lst (rws rs)]) S.length (S.length + 1) nF := genE_of (nD := nD) (kvs := kvs) x2.stc (get_app hF) F (by simp) (by simp) n2 n3 r2 r3 (by omega) (by omega)
  generalize S ++ [Cell.lst (sts ns), Cell.lst (rws rs)] = S2 at x2 g2 ⊢
  generalize S.length = a at g2 ⊢
  have ex : ∀ (env : Slots) (S3 : Sto), env[0]? = some (some stD) → env[6]? = some (some (.cel a)) → env[7]? = some (some (.cel (a + 1))) → env[2]? = some (some (.cel nF)) → Dx [] S S3 → GenE S3 a (a + 1) nF → Wp nX (fun d S' => (∃ l, l ≤ 2 ∧ PE_ l d) ∧ Dr [] S3 S') (eCall (sem k)._law_expression [] (aCons (eVar 0) (aCons (eVar 6) (aCons (eVar 7) (aCons (eVar 2) (aCons (eCall (sem k)._law_pick [] (aCons (eVar 0) (aCons (eC (.a (.int (3)))) aNil))) aNil))))) env S3) := fun env S3 e0 e6 e7 e2 x3 g3 => by
    simp [e0, e6, e7, e2]
    refine (sp_pick (j := k) (by omega) x3.here (L := 3) (by decide) (by decide)).use ?_
    rintro _ S4 ⟨v, rfl, hv, d4⟩
    refine (sp_expr v (j := k) (by omega) d4.here0 (g3.step d4.dx)).use ?_
    rintro d S5 ⟨hd, d5⟩
    exact ⟨⟨v, by omega, hd⟩, d4.trans d5⟩
  refine w_set rfl (ex _ _ rfl rfl rfl rfl x2 g2) ?_
  rintro d3 S3 ⟨⟨l3, h3, p3⟩, d3'⟩
  have x3 := x2.step d3'
  have g3 := g2.step d3'.dx
  simp only [List.set_cons_succ, List.set_cons_zero]
  refine w_ret (P := fun d S' => PS_ 0 d ∧ Dx [] S S') rfl ?_ fun d S' ⟨a, b⟩ => hK _ _ a b
  have e4 := ex [some stD, some (.cel nD), some (.cel nF), some lv, some rm, some way, some (.cel a), some (.cel (a + 1)), some d3, none, none, none, none, none] S3 rfl rfl rfl rfl x3 g3
  obtain ⟨d4, S4, e, ⟨l4, h4, p4⟩, d4'⟩ := e4.get
  simp only [eTup_eq, aCons_eq, eC_eq, eVar_eq, List.getElem?_cons_succ, List.getElem?_cons_zero, varR_some, cons1_ok, aNil_eq]
  rw [e]
  exact ⟨is_w p3 p4 h3 h4, x3.step d4'⟩
def hd6 : List D := [L "all", L "some", L "allbelow", L "somebelow", L "allrow", L "somerow"]
theorem hd6_of : ∀ d ∈ hd6, ∃ h, d = L h ∧ ((h = "all" ∨ h = "some" ∨ h = "allrow" ∨ h = "somerow") ∨ (h = "allbelow" ∨ h = "somebelow")) := by
  intro d hd
  simp only [hd6, List.mem_cons, List.not_mem_nil, or_false] at hd
  rcases hd with rfl | rfl | rfl | rfl | rfl | rfl <;> exact ⟨_, rfl, by decide⟩
theorem met_step (l k : Nat) (hk : l + 13 ≤ k + 2) {nD nF nM : Nat} {kvs fvs : List (Key × D)} {S : Sto} {r : Int} (h : Dx [nM] S S) (hD : S[nD]? = some (.dic kvs)) (o : NamE kvs) (hkl : kvs.length + l < 800) (hF : S[nF]? = some (.dic fvs)) (F : FnE fvs) (hM : S[nM]? = some (.lst [I r])) (hM2 : 2 ≤ nM)
    (rec : ∀ l', l = l' + 1 → ∀ {nD : Nat} {kvs : List (Key × D)} {S : Sto} {r : Int}, Dx [nM] S S → S[nD]? = some (.dic kvs) → NamE kvs → kvs.length + l' < 800 → S[nF]? = some (.dic fvs) → S[nM]? = some (.lst [I r]) →
      Wp nX (fun d S' => (PS_ l' d ∧ ∃ r', S'[nM]? = some (.lst [I r'])) ∧ Dr [nM] S S') ((sem (k + 1))._law_met [stD, .cel nD, .cel nF, I (l' : Int), .cel nM] S)) :
    Wp nX (fun d S' => (PS_ l d ∧ ∃ r', S'[nM]? = some (.lst [I r'])) ∧ Dr [nM] S S') ((sem (k + 2))._law_met [stD, .cel nD, .cel nF, I (l : Int), .cel nM] S) := by
  rw [e__law_met]
  generalize hz : (l : Int) = z
  have hML := get_lt hM
  refine def_drGk (ms := [nM]) (P := fun d S' => PS_ l d ∧ ∃ r', S'[nM]? = some (.lst [I r'])) (n := 5) (ds := [_, _, _, _, _]) rfl h (fun d S' ⟨a, r', b⟩ => ⟨a, r', by rw [List.getElem?_take_of_lt hML]; exact b⟩) (fun d S' ⟨a, _⟩ => a.noC _) (fun d S' ⟨_, r', b⟩ rr c hr hc => by rw [List.mem_singleton.mp hr, b] at hc; cases hc; rfl) fun K hK => ?_
  simp only [List.map_cons, List.map_nil, List.length_cons, List.length_nil, Nat.reduceAdd, Nat.reduceSub, List.replicate, List.cons_append, List.nil_append]
  unfold b__law_met
  refine w_set (by simp) (sp_pick (j := k + 1) (by omega) h.here0 (L := 12) (by decide) (by decide)) ?_
  rintro _ S1 ⟨v, rfl, hv, d1⟩
  have x1 : Dx [nM] S S1 := (d1.more [nM]).dx
  have hM1 := d1.getm hM (by omega)
  have hD1 := d1.dic hD
  have hF1 := d1.dic hF
  generalize hvz : (v : Int) = vz
  simp only [List.set_cons_succ, List.set_cons_zero]
  refine w_ife (x := decide (z = 0) || decide (vz < 2)) (S' := S1) (by
    by_cases h0 : z = 0
    · simp [h0]
    · simp [h0]) (fun _ => ?_) fun h0 => w_nil ?_
  · simp only [sSeq_assoc, sSeq_nilL]
    exact isat_w (k := k + 1) (by omega) d1.here0 hD1 o hF1 F fun d S' hd hx => hK _ _ ⟨hd.up, r, hx.get hM1 (by omega) (by simp)⟩ (x1.trans (hx.more [nM]))
  obtain ⟨l', rfl⟩ : ∃ l', l = l' + 1 := ⟨l - 1, by
    have := (Bool.or_eq_false_iff.mp h0).1
    have := of_decide_eq_false this
    omega⟩
  have hz1 : z - 1 = (l' : Int) := by omega
  have ix0 : ∀ (S : Sto) (r : Int), S[nM]? = some (.lst [I r]) → dIx (.cel nM) (I 0) S = some (I r, S) := fun S r h => by
    rw [dIx_lst h]
    simp
  refine w_ife (x := decide (vz < 5) && decide (0 < r)) (S' := S1) (by
    by_cases h5 : vz < 5
    · simp [h5, ix0 S1 r hM1]
    · simp [h5]) (fun _ => ?_) fun _ => w_nil ?_
  · simp only [sSeq_assoc, sSeq_nilL]
    refine w_put (v := I (r - 1)) (o := .cel nM) (i := I 0) (S1 := S1) (S2 := S1) (S3 := S1) (by simp [ix0 S1 r hM1]) (by simp) (by simp) (dPut_lst (k := 0) hM1 (by simp)) ?_
    have x2 : Dx [nM] S (S1.set nM (.lst ([I r].set 0 (I (r - 1))))) := x1.setm (by simp) hM2 rfl
    have hM2' : (S1.set nM (Cell.lst ([I r].set 0 (I (r - 1)))))[nM]? = some (.lst [I (r - 1)]) := List.getElem?_set_self (get_lt hM1)
    generalize S1.set nM (Cell.lst ([I r].set 0 (I (r - 1)))) = S2 at x2 hM2' ⊢
    have hD2 := Dx.dicm x2 hD hM
    have hF2 := Dx.dicm x2 hF hM
    refine w_set (by simp [hz1]) (rec l' rfl x2.here hD2 o (by omega) hF2 hM2') ?_
    rintro d3 S3 ⟨⟨⟨s, rfl, s1, s2, s3⟩, r3, hM3⟩, dd3⟩
    have x3 := x2.step dd3
    have hD3 := Dx.dicm x3 hD hM
    have hF3 := Dx.dicm x3 hF hM
    simp only [List.set_cons_succ, List.set_cons_zero]
    refine w_ret (P := fun d S' => (PS_ (l' + 1) d ∧ ∃ r', S'[nM]? = some (.lst [I r'])) ∧ Dx [nM] S S') rfl ?_ fun d S' ⟨a, b⟩ => hK _ _ a b
    simp [hz1]
    refine (sp_pick (j := k + 1) (by omega) x3.here0 (L := 2) (by decide) (by decide)).use ?_
    rintro _ S4 ⟨u, rfl, hu, d4⟩
    have x4 := x3.step0 d4
    obtain ⟨hd, hm, ha⟩ := atI_mem (xs := [L "and", L "if"]) (v := u) (by simp; omega)
    obtain ⟨h', rfl, hh'⟩ : ∃ h', hd = L h' ∧ (h' = "and" ∨ h' = "if") := by
      simp only [List.mem_cons, List.not_mem_nil, or_false] at hm
      rcases hm with rfl | rfl
      · exact ⟨_, rfl, .inl rfl⟩
      · exact ⟨_, rfl, .inr rfl⟩
    simp [ha]
    refine (rec l' rfl x4.here (Dx.dicm x4 hD hM) o (by omega) (Dx.dicm x4 hF hM) (d4.getm hM3 (by omega))).use ?_
    rintro d5 S5 ⟨⟨⟨t, rfl, t1, t2, t3⟩, r5, hM5⟩, dd5⟩
    refine ⟨⟨⟨.two h' s t, rfl, .two h' s t hh' s1 t1, ?_, ?_⟩, r5, hM5⟩, x4.step dd5⟩
    · show max (htS s) (htS t) + 1 ≤ l' + 1 + 3
      omega
    · show nlS s + nlS t + 1 ≤ 2 * nbS l' + 3
      omega
  -- a binding part
  refine w_set (P := fun d S2 => (∃ h, d = L h ∧ ((h = "all" ∨ h = "some" ∨ h = "allrow" ∨ h = "somerow") ∨ (h = "allbelow" ∨ h = "somebelow"))) ∧ Dr [] S1 S2) rfl ?_ ?_
  · simp
    refine (sp_pick (j := k + 1) (by omega) d1.here0 (L := 6) (by decide) (by decide)).use ?_
    rintro _ S2 ⟨u, rfl, hu, d2⟩
    obtain ⟨x, hx, ha⟩ := atI_mem (xs := hd6) (v := u) (by simp [hd6]; omega)
    have ha' : atI [L "all", L "some", L "allbelow", L "somebelow", L "allrow", L "somerow"] (u : Int) = some x := ha
    obtain ⟨h', rfl, hh⟩ := hd6_of x hx
    simp [ha']
    exact ⟨hh, d2⟩
  rintro _ S2 ⟨⟨h', rfl, hh⟩, d2⟩
  have x2 := x1.step0 d2
  have hM2' := d2.getm hM1 (by omega)
  have hD2 := d2.dic hD1
  have hF2 := d2.dic hF1
  simp only [List.set_cons_succ, List.set_cons_zero]
  obtain ⟨ks, k1, k2⟩ := o.keys
  have kl := keyStrs_len k1
  have opos := o.pos
  have olen := o.len
  refine w_set (P := fun d S3 => (∃ w, d = Sx w ∧ Wd w) ∧ Dr [] S2 S3) rfl ?_ ?_
  · simp [keysOfR_at hD2, dLen_dic hD2]
    refine (sp_pick (j := k + 1) (by omega) d2.here0 (L := (kvs.length : Int)) (by omega) (by omega)).use ?_
    rintro _ S3 ⟨u, rfl, hu, d3⟩
    rw [keyStrs_keysD k1]
    obtain ⟨x, hx, ha⟩ := atI_mem (xs := sts ks) (v := u) (by simp; omega)
    obtain ⟨w, hm, rfl⟩ := List.mem_map.mp hx
    simp [ha]
    exact ⟨k2 w hm, d3⟩
  rintro _ S3 ⟨⟨w, rfl, hw⟩, d3⟩
  have x3 := x2.step0 d3
  have hM3 := d3.getm hM2' (by omega)
  have hD3 := d3.dic hD2
  have hF3 := d3.dic hF2
  simp only [List.set_cons_succ, List.set_cons_zero]
  generalize hC : (sSeq (sSet 11 (eTup (aCons (eVar 9) (aCons (eVar 10) aNil))))
 (sSeq (sIf (tBin dIn (eVar 9) (eOfL (aCons (eC (.a (.str "allbelow"))) (aCons (eC (.a (.str "somebelow"))) aNil))))
 (sSeq (sSet 11 (eTup (aCons (eVar 9) (aCons (eVar 10) (aCons (eBin dAdd (eC (.a (.int (1)))) (eCall (sem (k + 1))._law_pick [] (aCons (eVar 0) (aCons (eC (.a (.int (12)))) aNil)))) aNil)))))
 sNil)
 sNil)
 (sSeq (sSet 12 (eCall (sem (k + 1))._law_with [] (aCons (eVar 1) (aCons (eVar 10) (aCons (eCallB dInt (aCons (eBin dIn (eVar 9) (eOfL (aCons (eC (.a (.str "allrow"))) (aCons (eC (.a (.str "somerow"))) aNil)))) aNil)) aNil)))))
 (sSeq (sRet (eBin dAdd (eVar 11) (eTup (aCons (eCall (sem (k + 1))._law_met [] (aCons (eVar 0) (aCons (eVar 12) (aCons (eVar 2) (aCons (eBin dSub (eVar 3) (eC (.a (.int (1))))) (aCons (eVar 4) aNil)))))) aNil))))
 sNil)))) = C
  have tail : ∀ (w : Str) (S4 : Sto), Wd w → Dx [nM] S S4 → S4[nM]? = some (.lst [I r]) → Ws K (C [some stD, some (.cel nD), some (.cel nF), some (I z), some (.cel nM), some (I vz), none, none, none, some (L h'), some (Sx w), none, none, none] S4) := fun w S4 hw x4 hM4 => by
    subst hC
    have hD4 := Dx.dicm x4 hD hM
    have hF4 := Dx.dicm x4 hF hM
    -- the end
    have fin : ∀ (st : List D) (vv : Nat) (mk : Se → Se) (S5 : Sto), vv ≤ 1 → (∀ s, WS Wd s → WS Wd (mk s) ∧ htS (mk s) = htS s + 1 ∧ nlS (mk s) ≤ nlS s + 3 ∧ encS (mk s) = .tup (st ++ [encS s])) → st.length ≤ 5 → Dx [nM] S S5 → S5[nM]? = some (.lst [I r]) → (∀ S6, eCallB dInt (aCons (eBin dIn (eVar 9) (eOfL (aCons (eC (.a (.str "allrow"))) (aCons (eC (.a (.str "somerow"))) aNil)))) aNil) [some stD, some (.cel nD), some (.cel nF), some (I z), some (.cel nM), some (I vz), none, none, none, some (L h'), some (Sx w), some (.tup st), none, none] S6 = .ok (I (vv : Int)) (S6 ++ [.lst [L "allrow", L "somerow"]])) →
        Ws K ((sSeq (sSet 12 (eCall (sem (k + 1))._law_with [] (aCons (eVar 1) (aCons (eVar 10) (aCons (eCallB dInt (aCons (eBin dIn (eVar 9) (eOfL (aCons (eC (.a (.str "allrow"))) (aCons (eC (.a (.str "somerow"))) aNil)))) aNil)) aNil)))))
 (sSeq (sRet (eBin dAdd (eVar 11) (eTup (aCons (eCall (sem (k + 1))._law_met [] (aCons (eVar 0) (aCons (eVar 12) (aCons (eVar 2) (aCons (eBin dSub (eVar 3) (eC (.a (.int (1))))) (aCons (eVar 4) aNil)))))) aNil))))
 sNil)) [some stD, some (.cel nD), some (.cel nF), some (I z), some (.cel nM), some (I vz), none, none, none, some (L h'), some (Sx w), some (.tup st), none, none] S5) := fun st vv mk S5 hvv hmk hst x5 hM5 hint => by
      have hD5 := Dx.dicm x5 hD hM
      have on := o.put hw (v := vv) (by omega) (by omega)
      have x6 : Dx [nM] S (S5 ++ [Cell.lst [L "allrow", L "somerow"]]) := x5.push rfl
      have wi := sp_with (j := k + 1) (by omega) x6.clo (w := w) (v := I (vv : Int)) (get_app hD5) (by omega) (on.lo _)
      have hsl := setK_len kvs (.inr w) (I (vv : Int))
      have hint := hint S5
      generalize (vv : Int) = vvz at on wi hsl hint
      generalize setK kvs (.inr w) (I vvz) = K1 at on wi hsl
      have x7 : Dx [nM] S (S5 ++ [Cell.lst [L "allrow", L "somerow"]] ++ [Cell.dic K1]) := x6.push (on.lo _)
      have q7 : (S5 ++ [Cell.lst [L "allrow", L "somerow"]] ++ [Cell.dic K1])[(S5 ++ [Cell.lst [L "allrow", L "somerow"]]).length]? = some (.dic K1) := new_at
      have hM7 : (S5 ++ [Cell.lst [L "allrow", L "somerow"]] ++ [Cell.dic K1])[nM]? = some (.lst [I r]) := get_app (get_app hM5)
      generalize (S5 ++ [Cell.lst [L "allrow", L "somerow"]] ++ [Cell.dic K1]) = S7 at wi x7 q7 hM7
      generalize (S5 ++ [Cell.lst [L "allrow", L "somerow"]]).length = n7 at wi q7
      refine w_sete (d := .cel n7) (S' := S7) (by
        simp only [eCall_eq, aCons_eq, eVar_eq, List.getElem?_cons_succ, List.getElem?_cons_zero, varR_some, cons1_ok, hint, aNil_eq, cons2_ok, callR_ok, List.append_nil]
        exact wi) ?_
      simp only [List.set_cons_succ, List.set_cons_zero]
      refine w_ret (P := fun d S' => (PS_ (l' + 1) d ∧ ∃ r', S'[nM]? = some (.lst [I r'])) ∧ Dx [nM] S S') rfl ?_ fun d S' ⟨a, b⟩ => hK _ _ a b
      simp [hz1]
      refine (rec l' rfl x7.here q7 on (by omega) (Dx.dicm x7 hF hM) hM7).use ?_
      rintro d8 S8 ⟨⟨⟨s, rfl, s1, s2, s3⟩, r8, hM8⟩, dd8⟩
      obtain ⟨m1, m2, m3, m4⟩ := hmk s s1
      have ad := dAdd_tup (xs := st) (ys := [encS s]) (S := S8) (small_line (by simp; omega))
      simp [ad]
      refine ⟨⟨⟨mk s, m4.symm, m1, by omega, ?_⟩, r8, hM8⟩, x7.step dd8⟩
      show nlS (mk s) ≤ 2 * nbS l' + 3
      have := nbS_pos l'
      omega
    refine w_sete (d := .tup [L h', Sx w]) (S' := S4) (by simp) ?_
    simp only [List.set_cons_succ, List.set_cons_zero]
    have x5 : Dx [nM] S (S4 ++ [Cell.lst [L "allbelow", L "somebelow"]]) := x4.push rfl
    have hM5 : (S4 ++ [Cell.lst [L "allbelow", L "somebelow"]])[nM]? = some (.lst [I r]) := get_app hM4
    rcases hh with hh | hh
    · refine w_iff (S' := S4 ++ [.lst [L "allbelow", L "somebelow"]]) (by rcases hh with rfl | rfl | rfl | rfl <;> simp) (w_nil ?_)
      rcases hh with rfl | rfl | rfl | rfl
      · exact fin [L "all", Sx w] 0 (.b3 "all" w) _ (by decide) (fun s hs => ⟨.b3 _ _ _ (by decide) hw hs, rfl, by show nlS s + 2 ≤ _; omega, rfl⟩) (by simp) x5 hM5 fun S6 => by simp
      · exact fin [L "some", Sx w] 0 (.b3 "some" w) _ (by decide) (fun s hs => ⟨.b3 _ _ _ (by decide) hw hs, rfl, by show nlS s + 2 ≤ _; omega, rfl⟩) (by simp) x5 hM5 fun S6 => by simp
      · exact fin [L "allrow", Sx w] 1 (.b3 "allrow" w) _ (by decide) (fun s hs => ⟨.b3 _ _ _ (by decide) hw hs, rfl, by show nlS s + 2 ≤ _; omega, rfl⟩) (by simp) x5 hM5 fun S6 => by simp
      · exact fin [L "somerow", Sx w] 1 (.b3 "somerow" w) _ (by decide) (fun s hs => ⟨.b3 _ _ _ (by decide) hw hs, rfl, by show nlS s + 2 ≤ _; omega, rfl⟩) (by simp) x5 hM5 fun S6 => by simp
    · refine w_ift (S' := S4 ++ [.lst [L "allbelow", L "somebelow"]]) (by rcases hh with rfl | rfl <;> simp) ?_
      simp only [sSeq_assoc, sSeq_nilL]
      refine w_set (P := fun d S6 => (∃ n : Nat, d = .tup [L h', Sx w, I n]) ∧ Dr [] (S4 ++ [.lst [L "allbelow", L "somebelow"]]) S6) rfl ?_ ?_
      · simp
        refine (sp_pick (j := k + 1) (by omega) x5.here0 (L := 12) (by decide) (by decide)).use ?_
        rintro _ S6 ⟨u, rfl, hu, d6⟩
        simp
        exact ⟨⟨1 + u, by omega⟩, d6⟩
      rintro _ S6 ⟨⟨n, rfl⟩, d6⟩
      simp only [List.set_cons_succ, List.set_cons_zero]
      have x6 := x5.step0 d6
      have hM6 := d6.getm hM5 (by omega)
      rcases hh with rfl | rfl
      · exact fin [L "allbelow", Sx w, I n] 0 (.b4 "allbelow" w n) _ (by decide) (fun s hs => ⟨.b4 _ _ _ _ (by decide) hw hs, rfl, Nat.le_refl _, rfl⟩) (by simp) x6 hM6 fun S6 => by simp
      · exact fin [L "somebelow", Sx w, I n] 0 (.b4 "somebelow" w n) _ (by decide) (fun s hs => ⟨.b4 _ _ _ _ (by decide) hw hs, rfl, Nat.le_refl _, rfl⟩) (by simp) x6 hM6 fun S6 => by simp
  refine w_if (PB := fun _ S4 => Dr [] S3 S4) ?_ (fun S4 d4 => ?_) fun S4 d4 => w_nil (tail w S4 hw (x3.step0 d4) (d4.getm hM3 (by omega)))
  · simp
    refine (sp_pick (j := k + 1) (by omega) d3.here0 (L := 6) (by decide) (by decide)).use ?_
    rintro _ S4 ⟨u, rfl, hu, d4⟩
    simp
    exact d4
  · simp only [sSeq_assoc, sSeq_nilL]
    have x4 := x3.step0 d4
    refine w_set (P := fun d S5 => (∃ w, d = Sx w ∧ Wd w) ∧ Dr [] (S4 ++ [.lst []]) S5) rfl ?_ ?_
    · simp
      have x5 : Dx [nM] S (S4 ++ [Cell.lst []]) := x4.push rfl
      exact sp_new (j := k + 1) (by omega) x5.here0 (n := S4.length) (xs := []) new_at (by have := x4.stc.lt; omega)
    · rintro _ S5 ⟨⟨w', rfl, hw'⟩, d5⟩
      have x5 : Dx [nM] S (S4 ++ [Cell.lst []]) := x4.push rfl
      exact tail w' S5 hw' (x5.step0 d5) (d5.getm (get_app (d4.getm hM3 (by omega))) (by omega))
theorem sp_met : ∀ (l : Nat) {j : Nat}, l + 13 ≤ j → ∀ {nD nF nM : Nat} {kvs fvs : List (Key × D)} {S : Sto} {r : Int}, Dx [nM] S S → S[nD]? = some (.dic kvs) → NamE kvs → kvs.length + l < 800 → S[nF]? = some (.dic fvs) → FnE fvs → S[nM]? = some (.lst [I r]) → 2 ≤ nM →
    Wp nX (fun d S' => (PS_ l d ∧ ∃ r', S'[nM]? = some (.lst [I r'])) ∧ Dr [nM] S S') ((sem j)._law_met [stD, .cel nD, .cel nF, I (l : Int), .cel nM] S) := by
  intro l
  induction l with
  | zero =>
    intro j hj nD nF nM kvs fvs S r h hD o hkl hF F hM hM2
    obtain ⟨k, rfl⟩ := lv2 (by omega : 2 ≤ j)
    exact met_step 0 k (by omega) h hD o hkl hF F hM hM2 fun l' e => by omega
  | succ l ih =>
    intro j hj nD nF nM kvs fvs S r h hD o hkl hF F hM hM2
    obtain ⟨k, rfl⟩ := lv2 (by omega : 2 ≤ j)
    refine met_step (l + 1) k (by omega) h hD o hkl hF F hM hM2 fun l' e nD kvs S r h hD o hkl hF hM => ?_
    obtain rfl : l = l' := by omega
    exact ih (by omega) h hD o hkl hF F hM hM2
end K06
set_option maxRecDepth 100000
set_option exponentiation.threshold 600
/-! k06: sentences are drawn: _law_tower. -/
namespace K06
open PySem PySem.Spec PyProof.Rows L2 G
theorem pw_sts {P : Str → Prop} : ∀ {ws : List D}, (∀ d ∈ ws, PW P d) → ∃ xs : List Str, ws = sts xs ∧ ∀ x ∈ xs, P x
  | [], _ => ⟨[], rfl, fun _ h => by cases h⟩
  | d :: r, h => by
    obtain ⟨w, rfl, hw⟩ := h d (List.mem_cons_self ..)
    obtain ⟨xs, rfl, hx⟩ := pw_sts (P := P) fun d hd => h d (List.mem_cons_of_mem _ hd)
    refine ⟨w :: xs, rfl, fun x hx' => ?_⟩
    rcases List.mem_cons.mp hx' with rfl | hx'
    · exact hw
    · exact hx x hx'
/-- a sentence -/
def PT (d : D) : Prop := ∃ s, d = encS s ∧ WS Wd s ∧ htS s ≤ 30 ∧ nlS s ≤ 3000
theorem PT.noC {d : D} (h : PT d) : G.noC d := by
  obtain ⟨s, rfl, h, _⟩ := h
  exact ws_nc h
theorem sp_tower {j : Nat} (hj : 15 ≤ j) {nD nF : Nat} {kvs fvs : List (Key × D)} {S : Sto} (h : Dx [] S S) (hD : S[nD]? = some (.dic kvs)) (o : NamE kvs) (hF : S[nF]? = some (.dic fvs)) (F : FnE fvs) :
    Wp nX (fun d S' => PT d ∧ Dr [] S S') ((sem j)._law_tower [stD, .cel nD, .cel nF] S) := by
  obtain ⟨k, rfl⟩ := lv2 (by omega : 2 ≤ j)
  rw [e__law_tower]
  refine def_drk (P := PT) (n := 3) (ds := [_, _, _]) rfl h (fun d hd => hd.noC _) fun K hK => ?_
  simp only [List.map_cons, List.map_nil, List.length_cons, List.length_nil, Nat.reduceAdd, Nat.reduceSub, List.replicate, List.cons_append, List.nil_append]
  unfold b__law_tower
  have hS := h.stc.lt
  obtain ⟨ns, n1, n2, n3⟩ := names_w o hD (env := [some stD, some (.cel nD), some (.cel nF), none, none, none, none, none, none, none, none]) (i := 10) rfl (by decide) (by simp)
  refine w_sete (d := .cel S.length) (S' := S ++ [.lst (sts ns)]) (by
    rw [eOfL_eq]
    exact (congrArg ofLR n1)) ?_
  simp only [List.set_cons_succ, List.set_cons_zero]
  have x1 : Dx [] S (S ++ [Cell.lst (sts ns)]) := h.push (lo_strs _ _)
  obtain ⟨rs, r1, r2, r3⟩ := rows_w o (get_app hD (l := [Cell.lst (sts ns)])) (env := [some stD, some (.cel nD), some (.cel nF), some (.cel S.length), none, none, none, none, none, none, none]) (i := 10) rfl (by decide) (by simp)
  refine w_sete (d := .cel (S.length + 1)) (S' := S ++ [.lst (sts ns), .lst (rws rs)]) (by
    rw [eOfL_eq]
    refine (congrArg ofLR r1).trans ?_
    simp) ?_
  simp only [List.set_cons_succ, List.set_cons_zero]
  have x2 : Dx [] S (S ++ [Cell.lst (sts ns), Cell.lst (rws rs)]) := by
    have := x1.push (c := Cell.lst (rws rs)) (lo_lst rws_nc)
    simpa using this
  have g2 : GenE (S ++ [Cell.lst (sts ns), Cell.lst (rws rs)]) S.length (S.length + 1) nF := genE_of (nD := nD) (kvs := kvs) x2.stc (get_app hF) F (by simp) (by simp) n2 n3 r2 r3 (by omega) (by omega)
  have l2 : (S ++ [Cell.lst (sts ns), Cell.lst (rws rs)]).length = S.length + 2 := by simp
  have ha1 : 2 ≤ S.length := by omega
  generalize S ++ [Cell.lst (sts ns), Cell.lst (rws rs)] = S2 at x2 g2 l2 ⊢
  generalize haS : S.length = a at g2 l2 ha1 ⊢
  have one : (1 : Int) = ((1 : Nat) : Int) := rfl
  refine w_set (P := fun d S' => PE_ 1 d ∧ Dr [] S2 S') rfl ?_ ?_
  · simp
    exact sp_expr 1 (j := k + 1) (by omega) x2.here0 g2
  rintro _ S3 ⟨⟨e, rfl, e1, e2, e3⟩, d3⟩
  have x3 := x2.step d3
  have g3 := g2.step d3.dx
  simp only [List.set_cons_succ, List.set_cons_zero]
  refine w_set (P := fun d S' => (∃ s, d = encS s ∧ WS Wd s ∧ htS s ≤ 2 ∧ nlS s ≤ 21) ∧ Dr [] S3 S') rfl ?_ ?_
  · simp
    refine (sp_expr 1 (j := k + 1) (by omega) x3.here0 g3).use ?_
    rintro _ S4 ⟨⟨f, rfl, f1, f2, f3⟩, d4⟩
    have b1 : nb 1 = 10 := rfl
    refine ⟨⟨.is e f, rfl, .is e f e1 f1, ?_, ?_⟩, d4⟩
    · show max (ht e) (ht f) + 1 ≤ 2
      omega
    · show nl e + nl f + 1 ≤ 21
      omega
  rintro _ S4 ⟨⟨s, rfl, s1, s2, s3⟩, d4⟩
  have x4 := x3.step d4
  have l4 : S4.length = a + 2 := by rw [d4.len, d3.len, l2]
  simp only [List.set_cons_succ, List.set_cons_zero]
  obtain ⟨ws, w1, w2, w3⟩ := sp_free (fun _ h => strOk_wd h) s1 (j := k + 1) (by omega) (by omega) S4 x4.clo
  obtain ⟨xs, rfl, hxs⟩ := pw_sts w1
  rw [l4] at w3
  refine w_sete (d := .cel (a + 2)) (S' := S4 ++ [.lst (sts xs)]) (by simp [w3]) ?_
  simp only [List.set_cons_succ, List.set_cons_zero]
  have x5 : Dx [] S (S4 ++ [Cell.lst (sts xs)]) := x4.push (lo_strs _ _)
  have g5 : (S4 ++ [Cell.lst (sts xs)])[a + 2]? = some (.lst (sts xs)) := by rw [← l4]; exact new_at
  generalize S4 ++ [Cell.lst (sts xs)] = S5 at x5 g5 ⊢
  refine w_forx (PW := fun w S6 => (∃ n : Nat, n < 27 ∧ w = (rangeL 0 n, none)) ∧ Dr [] S5 S6) ?_ ?_
  · simp
    refine (sp_pick (j := k + 1) (by omega) x5.here0 (L := 27) (by decide) (by decide)).use ?_
    rintro _ S6 ⟨u, rfl, hu, d6⟩
    simp
    exact ⟨by omega, ⟨u, by omega, rfl⟩, d6⟩
  rintro _ S6 ⟨⟨n, hn, rfl⟩, d6⟩
  have x6 := x5.step d6
  have g6 := d6.getm g5 (by omega)
  obtain ⟨ks, k1, k2⟩ := o.keys
  have kl := keyStrs_len k1
  have opos := o.pos
  have olen := o.len
  refine forGo_wp (fun i env S' => ∃ s y8 y9, env = [some stD, some (.cel nD), some (.cel nF), some (.cel a), some (.cel (a + 1)), some (enc e), some (encS s), some (.cel (a + 2)), y8, y9, none] ∧ WS Wd s ∧ htS s ≤ 2 + i ∧ nlS s ≤ 21 + 3 * i ∧ Dx [] S S' ∧ S'[a + 2]? = some (.lst (sts xs))) ⟨s, none, none, rfl, s1, by omega, by omega, x6, g6⟩ ?_ ?_
  · rintro i _ env S1 hi ⟨t, y8, y9, rfl, t1, t2, t3, y1, q1⟩
    obtain ⟨_, rfl⟩ := rangeL_get hi
    generalize (0 + (i : Int)) = zi
    simp only [List.set_cons_succ, List.set_cons_zero]
    have hD1 := y1.dic hD
    refine w_set (P := fun d S3 => (∃ w, d = Sx w ∧ w ∈ ks) ∧ Dr [] S1 S3) rfl ?_ ?_
    · simp [keysOfR_at hD1, dLen_dic hD1]
      refine (sp_pick (j := k + 1) (by omega) y1.here0 (L := (kvs.length : Int)) (by omega) (by omega)).use ?_
      rintro _ S3 ⟨u, rfl, hu, d3⟩
      rw [keyStrs_keysD k1]
      obtain ⟨x, hx, ha⟩ := atI_mem (xs := sts ks) (v := u) (by simp; omega)
      obtain ⟨w, hm, rfl⟩ := List.mem_map.mp hx
      simp [ha]
      exact ⟨hm, d3⟩
    rintro _ S3 ⟨⟨w, rfl, hw⟩, d3⟩
    have y3 := y1.step d3
    have q3 := d3.getm q1 (by omega)
    have hD3 := d3.dic hD1
    simp only [List.set_cons_succ, List.set_cons_zero]
    obtain ⟨v, gv⟩ := keyStrs_get k1 hw
    obtain ⟨kv, hk, hkv, _⟩ := getK_mem gv
    obtain ⟨z, hz, _⟩ := o.vals kv hk
    rw [hkv] at hz
    subst hz
    have ix := dIx_dic (k := Sx w) hD3 rfl gv
    generalize (z : Int) = zz at ix
    have fin : ∀ (t' : Se) (S' : Sto), WS Wd t' → htS t' ≤ htS t + 1 → nlS t' ≤ nlS t + 3 → Dx [] S S' → S'[a + 2]? = some (.lst (sts xs)) → ∃ s y8 y9, [some stD, some (.cel nD), some (.cel nF), some (.cel a), some (.cel (a + 1)), some (enc e), some (encS t'), some (.cel (a + 2)), some (I zi), some (Sx w), none] = [some stD, some (.cel nD), some (.cel nF), some (.cel a), some (.cel (a + 1)), some (enc e), some (encS s), some (.cel (a + 2)), y8, y9, none] ∧ WS Wd s ∧ htS s ≤ 2 + (i + 1) ∧ nlS s ≤ 21 + 3 * (i + 1) ∧ Dx [] S S' ∧ S'[a + 2]? = some (.lst (sts xs)) := fun t' S' h1 h2 h3 h4 h5 => ⟨t', _, _, rfl, h1, by omega, by omega, h4, h5⟩
    refine w_ife (x := decide (zz = 0)) (S' := S3) (by simp [ix]) (fun _ => ?_) fun _ => ?_
    · simp only [sSeq_assoc, sSeq_nilL]
      refine w_set (P := fun d S4 => (∃ t', d = encS t' ∧ WS Wd t' ∧ htS t' ≤ htS t + 1 ∧ nlS t' ≤ nlS t + 3) ∧ Dr [] S3 S4) rfl ?_ ?_
      · simp
        refine (sp_pick (j := k + 1) (by omega) y3.here0 (L := 3) (by decide) (by decide)).use ?_
        rintro _ S4 ⟨u, rfl, hu, d4⟩
        obtain ⟨x, hx, ha⟩ := atI_mem (xs := [encS (.b3 "all" w t), encS (.b3 "some" w t), encS (.b4 "allbelow" w 12 t)]) (v := u) (by simp; omega)
        have ha' : atI [D.tup [L "all", Sx w, encS t], .tup [L "some", Sx w, encS t], .tup [L "allbelow", Sx w, I 12, encS t]] (u : Int) = some x := ha
        simp [ha']
        refine ⟨?_, d4⟩
        simp only [List.mem_cons, List.not_mem_nil, or_false] at hx
        rcases hx with rfl | rfl | rfl
        · exact ⟨_, rfl, .b3 _ _ _ (by decide) (k2 w hw) t1, Nat.le_refl _, by show nlS t + 2 ≤ _; omega⟩
        · exact ⟨_, rfl, .b3 _ _ _ (by decide) (k2 w hw) t1, Nat.le_refl _, by show nlS t + 2 ≤ _; omega⟩
        · exact ⟨_, rfl, .b4 _ _ _ _ (by decide) (k2 w hw) t1, Nat.le_refl _, Nat.le_refl _⟩
      rintro _ S4 ⟨⟨t', rfl, h1, h2, h3⟩, d4⟩
      simp only [List.set_cons_succ, List.set_cons_zero]
      exact fin t' S4 h1 h2 h3 (y3.step d4) (d4.getm q3 (by omega))
    · simp only [sSeq_assoc, sSeq_nilL]
      have ni := dNotIn_strs (w := w) q3
      refine w_ife (x := decide (zz = 1) || !decide (w ∈ xs)) (S' := S3) (by
        by_cases h1 : zz = 1
        · simp [ix, h1]
        · simp [ix, h1, ni]) (fun _ => ?_) fun _ => ?_
      · simp only [sSeq_assoc, sSeq_nilL]
        refine w_set (P := fun d S4 => (∃ t', d = encS t' ∧ WS Wd t' ∧ htS t' ≤ htS t + 1 ∧ nlS t' ≤ nlS t + 3) ∧ Dr [] S3 S4) rfl ?_ ?_
        · simp
          refine (sp_pick (j := k + 1) (by omega) y3.here0 (L := 2) (by decide) (by decide)).use ?_
          rintro _ S4 ⟨u, rfl, hu, d4⟩
          obtain ⟨hd, hm, ha⟩ := atI_mem (xs := [L "allrow", L "somerow"]) (v := u) (by simp; omega)
          simp [ha]
          refine ⟨?_, d4⟩
          simp only [List.mem_cons, List.not_mem_nil, or_false] at hm
          rcases hm with rfl | rfl
          · exact ⟨.b3 "allrow" w t, rfl, .b3 _ _ _ (by decide) (k2 w hw) t1, Nat.le_refl _, by show nlS t + 2 ≤ _; omega⟩
          · exact ⟨.b3 "somerow" w t, rfl, .b3 _ _ _ (by decide) (k2 w hw) t1, Nat.le_refl _, by show nlS t + 2 ≤ _; omega⟩
        rintro _ S4 ⟨⟨t', rfl, h1, h2, h3⟩, d4⟩
        simp only [List.set_cons_succ, List.set_cons_zero]
        exact fin t' S4 h1 h2 h3 (y3.step d4) (d4.getm q3 (by omega))
      · exact fin t S3 t1 (by omega) (by omega) y3 q3
  · rintro env S1 ⟨t, y8, y9, rfl, t1, t2, t3, y1, q1⟩
    rw [rangeL_len] at t2 t3
    simp
    exact hK _ _ ⟨t, rfl, t1, by omega, by omega⟩ y1
end K06
set_option maxRecDepth 100000
set_option exponentiation.threshold 600
/-! k06: one leaf is changed: trees. -/
namespace K06
open PySem PySem.Spec PyProof.Rows L2 G
def grps : List (List String) := [opsL, ["and", "if"], ["all", "some", "allrow", "somerow"], ["allbelow", "somebelow"]]
/-- a leaf, its last place, what may stand there -/
inductive Leaf : Nat → D → (D → Prop) → Prop
  | int (k n : Nat) : Leaf k (I (n : Nat)) (fun x => ∃ m : Nat, x = I (m : Nat))
  | word (k : Nat) (w : Str) : 0 < k → Leaf k (Sx w) (fun x => ∃ w, x = Sx w ∧ Wd w)
  | head (g : List String) (h : String) : g ∈ grps → h ∈ g → Leaf 0 (L h) (fun x => ∃ h' ∈ g, x = L h')
  | other (h : String) : h ∈ ["is", "call", "look", "table", "pick"] → Leaf 0 (L h) (fun x => x = L h)
theorem htL_set : ∀ {es : List Ex} {i : Nat} {e e' : Ex}, es[i]? = some e → ht e' = ht e → htL (es.set i e') = htL es
  | x :: r, 0, e, e', h, q => by
    cases h
    show max (ht e') (htL r) = max (ht x) (htL r)
    rw [q]
  | x :: r, i + 1, e, e', h, q => by
    show max (ht x) (htL (r.set i e')) = max (ht x) (htL r)
    rw [htL_set (by simpa using h) q]
theorem nlL_set : ∀ {es : List Ex} {i : Nat} {e e' : Ex}, es[i]? = some e → nl e' = nl e → nlL (es.set i e') = nlL es
  | x :: r, 0, e, e', h, q => by
    cases h
    show nl e' + nlL r = nl x + nlL r
    rw [q]
  | x :: r, i + 1, e, e', h, q => by
    show nl x + nlL (r.set i e') = nl x + nlL r
    rw [nlL_set (by simpa using h) q]
theorem encL_set (es : List Ex) (i : Nat) (e' : Ex) : (encL es).set i (enc e') = encL (es.set i e') := by
  rw [encL_eq, encL_eq, List.map_set]
theorem LP.atom {v : V} {q : List Nat} {leaf : D} (h : LP (.a v) q leaf) : q = [] ∧ leaf = .a v := by
  cases h
  exact ⟨rfl, rfl⟩
theorem LP.tup {ds : List D} {q : List Nat} {leaf : D} (h : LP (.tup ds) q leaf) : ∃ k d q', q = k :: q' ∧ ds[k]? = some d ∧ LP d q' leaf := by
  cases h with
  | step h1 h2 => exact ⟨_, _, _, rfl, h1, h2⟩
theorem putD_step {ds : List D} {k : Nat} {d x : D} {q : List Nat} (h : ds[k]? = some d) : putD (.tup ds) (k :: q) x = .tup (ds.set k (putD d q x)) := by
  show D.tup (ds.set k (putD (ds[k]?.getD x) q x)) = _
  rw [h, Option.getD_some]
theorem putD_atom (v : V) (x : D) : putD (.a v) [] x = x := rfl
def ChE (e : Ex) (d : D) : Prop := ∃ e', d = enc e' ∧ WE Wd e' ∧ ht e' = ht e ∧ nl e' = nl e
/-- a place among numbers -/
theorem place_nums {ns : List Nat} {q : List Nat} {leaf : D} {k0 : Nat} (h : LP (.tup (ns.map fun k : Nat => I (k : Nat))) q leaf) : ∃ A, Leaf (q.getLastD k0) leaf A ∧ ∀ x, A x → ∃ ns' : List Nat, putD (.tup (ns.map fun k : Nat => I (k : Nat))) q x = .tup (ns'.map fun k : Nat => I (k : Nat)) ∧ ns'.length = ns.length := by
  obtain ⟨k, d, q', rfl, h1, h2⟩ := h.tup
  have h1' := h1
  rw [List.getElem?_map] at h1
  obtain ⟨n, hn, rfl⟩ := Option.map_eq_some_iff.mp h1
  obtain ⟨rfl, rfl⟩ := h2.atom
  refine ⟨_, .int _ n, ?_⟩
  rintro _ ⟨m, rfl⟩
  refine ⟨ns.set k m, ?_, List.length_set ..⟩
  rw [putD_step h1', putD_atom, List.map_set]
theorem rest_e {h : String} {nm : Option Str} {es : List Ex} {tl : List D} (s : Shp h nm es.length tl) (he : ∀ e ∈ es, WE Wd e)
    (ih : ∀ e ∈ es, ∀ {q : List Nat} {leaf : D} {k0 : Nat}, LP (enc e) q leaf → 0 < k0 → ∃ A, Leaf (q.getLastD k0) leaf A ∧ ∀ x, A x → ChE e (putD (enc e) q x))
    {i k : Nat} {d leaf : D} {q : List Nat} (h1 : (encL es ++ tl)[i]? = some d) (h2 : LP d q leaf) (hk : 0 < k) :
    ∃ A, Leaf (q.getLastD k) leaf A ∧ ∀ x, A x → ∃ es' tl', (encL es ++ tl).set i (putD d q x) = encL es' ++ tl' ∧ Shp h nm es'.length tl' ∧ (∀ e ∈ es', WE Wd e) ∧ htL es' = htL es ∧ nlL es' = nlL es := by
  by_cases hi : i < (encL es).length
  · have hi' : i < es.length := by rwa [encL_len] at hi
    have h3 := h1
    rw [List.getElem?_append_left hi, encL_eq, List.getElem?_map] at h3
    obtain ⟨e, hee, rfl⟩ := Option.map_eq_some_iff.mp h3
    have hm := List.mem_of_getElem? hee
    obtain ⟨A, a1, a2⟩ := ih e hm h2 hk
    refine ⟨A, a1, fun x hx => ?_⟩
    obtain ⟨e', e1, e2, e3, e4⟩ := a2 x hx
    refine ⟨es.set i e', tl, ?_, by rw [List.length_set]; exact s, fun e0 h0 => ?_, htL_set hee e3, nlL_set hee e4⟩
    · rw [List.set_append_left _ _ hi, e1, encL_set]
    · rcases List.mem_or_eq_of_mem_set h0 with h0 | rfl
      · exact he e0 h0
      · exact e2
  · have h3 := h1
    rw [List.getElem?_append_right (by omega)] at h3
    have put : ∀ y, (encL es ++ tl).set i y = encL es ++ tl.set (i - (encL es).length) y := fun y => List.set_append_right _ _ (by omega)
    generalize i - (encL es).length = m at h3 put
    revert s h3 put
    generalize hn : es.length = n
    intro s h3 put
    cases s with
    | table ns n0 hl =>
      match m, h3 with
      | 0, h3 =>
        cases h3
        obtain ⟨A, a1, a2⟩ := place_nums (k0 := k) h2
        refine ⟨A, a1, fun x hx => ?_⟩
        obtain ⟨ns', e1, e2⟩ := a2 x hx
        exact ⟨es, [.tup (ns'.map fun k : Nat => I (k : Nat)), I (n0 : Nat)], by rw [put, e1]; rfl, by rw [hn]; exact .table ns' n0 (by omega), he, rfl, rfl⟩
      | 1, h3 =>
        cases h3
        obtain ⟨rfl, rfl⟩ := h2.atom
        refine ⟨_, .int _ n0, ?_⟩
        rintro _ ⟨x, rfl⟩
        exact ⟨es, [.tup (ns.map fun k : Nat => I (k : Nat)), I (x : Nat)], by rw [put]; rfl, by rw [hn]; exact .table ns x hl, he, rfl, rfl⟩
      | m + 2, h3 => cases h3
    | _ => cases h3
theorem place_e {e : Ex} (he : WE Wd e) : ∀ {q : List Nat} {leaf : D} {k0 : Nat}, LP (enc e) q leaf → 0 < k0 → ∃ A, Leaf (q.getLastD k0) leaf A ∧ ∀ x, A x → ChE e (putD (enc e) q x) := by
  induction he with
  | num n =>
    intro q leaf k0 h hk
    obtain ⟨rfl, rfl⟩ := h.atom
    refine ⟨_, .int _ n, ?_⟩
    rintro _ ⟨m, rfl⟩
    exact ⟨.num m, rfl, .num m, rfl, rfl⟩
  | var w hw =>
    intro q leaf k0 h hk
    obtain ⟨rfl, rfl⟩ := h.atom
    refine ⟨_, .word k0 w hk, ?_⟩
    rintro _ ⟨m, rfl, hm⟩
    exact ⟨.var m, rfl, .var m hm, rfl, rfl⟩
  | op h nm es tl s hn he ih =>
    intro q leaf k0 hq hk
    rw [enc_op] at hq ⊢
    obtain ⟨k, d, q', rfl, h1, h2⟩ := hq.tup
    suffices ∃ A, Leaf (q'.getLastD k) leaf A ∧ ∀ x, A x → ChE (.op h nm es tl) (.tup ((L h :: (nm.toList.map (fun w => Sx w) ++ (encL es ++ tl))).set k (putD d q' x))) by
      obtain ⟨A, a1, a2⟩ := this
      refine ⟨A, by rw [List.getLastD_cons]; exact a1, fun x hx => ?_⟩
      rw [putD_step h1]
      exact a2 x hx
    cases k with
    | zero =>
      cases h1
      obtain ⟨rfl, rfl⟩ := h2.atom
      have same : h ∈ ["is", "call", "look", "table", "pick"] → ∃ A, Leaf (([] : List Nat).getLastD 0) (L h) A ∧ ∀ x, A x → ChE (.op h nm es tl) (.tup ((L h :: (nm.toList.map (fun w => Sx w) ++ (encL es ++ tl))).set 0 (putD (L h) [] x))) := fun hm => by
        refine ⟨_, .other h hm, ?_⟩
        rintro _ rfl
        exact ⟨.op h nm es tl, rfl, .op h nm es tl s hn he, rfl, rfl⟩
      revert hn same s
      generalize hL : es.length = n
      intro s hn same
      cases s with
      | bin h hm =>
        refine ⟨_, .head opsL h (by simp [grps]) hm, ?_⟩
        rintro _ ⟨h', hm', rfl⟩
        exact ⟨.op h' none es [], rfl, .op h' none es [] (by rw [hL]; exact .bin h' hm') (fun w hw => by cases hw) he, rfl, rfl⟩
      | pick => exact same (by simp)
      | table ns n0 hl => exact same (by simp)
      | call f n h1 h2 => exact same (by simp)
      | look f n h1 h2 => exact same (by simp)
    | succ k =>
      rw [List.getElem?_cons_succ] at h1
      cases nm with
      | none =>
        obtain ⟨A, a1, a2⟩ := rest_e s he ih h1 h2 (k := k + 1) (by omega)
        refine ⟨A, a1, fun x hx => ?_⟩
        obtain ⟨es', tl', e1, e2, e3, e4, e5⟩ := a2 x hx
        refine ⟨.op h none es' tl', ?_, .op h none es' tl' e2 hn e3, ?_, ?_⟩
        · rw [enc_op, List.set_cons_succ]
          exact congrArg (fun z => D.tup (L h :: z)) e1
        · show htL es' + 1 = htL es + 1
          rw [e4]
        · show nlL es' + 7 = nlL es + 7
          rw [e5]
      | some f =>
        cases k with
        | zero =>
          cases h1
          obtain ⟨rfl, rfl⟩ := h2.atom
          refine ⟨_, .word 1 f (by omega), ?_⟩
          rintro _ ⟨g, rfl, hg⟩
          refine ⟨.op h (some g) es tl, rfl, .op h (some g) es tl ?_ (fun w hw => by cases hw; exact hg) he, rfl, rfl⟩
          revert s
          generalize es.length = n
          intro s
          cases s with
          | call f n h1 h2 => exact .call g n h1 h2
          | look f n h1 h2 => exact .look g n h1 h2
        | succ k =>
          have h1' : (encL es ++ tl)[k]? = some d := h1
          obtain ⟨A, a1, a2⟩ := rest_e s he ih h1' h2 (k := k + 1 + 1) (by omega)
          refine ⟨A, a1, fun x hx => ?_⟩
          obtain ⟨es', tl', e1, e2, e3, e4, e5⟩ := a2 x hx
          refine ⟨.op h (some f) es' tl', ?_, .op h (some f) es' tl' e2 hn e3, ?_, ?_⟩
          · rw [enc_op, List.set_cons_succ]
            exact congrArg (fun z => D.tup (L h :: Sx f :: z)) e1
          · show htL es' + 1 = htL es + 1
            rw [e4]
          · show nlL es' + 7 = nlL es + 7
            rw [e5]
def ChS (s : Se) (d : D) : Prop := ∃ s', d = encS s' ∧ WS Wd s' ∧ htS s' = htS s ∧ nlS s' = nlS s
theorem place_s {s : Se} (hs : WS Wd s) : ∀ {q : List Nat} {leaf : D} {k0 : Nat}, LP (encS s) q leaf → ∃ A, Leaf (q.getLastD k0) leaf A ∧ ∀ x, A x → ChS s (putD (encS s) q x) := by
  induction hs with
  | is a b ha hb =>
    intro q leaf k0 h
    obtain ⟨k, d, q', rfl, h1, h2⟩ := h.tup
    rw [List.getLastD_cons]
    match k, h1 with
    | 0, h1 =>
      cases h1
      obtain ⟨rfl, rfl⟩ := h2.atom
      refine ⟨_, .other "is" (by simp), ?_⟩
      rintro _ rfl
      exact ⟨.is a b, rfl, .is a b ha hb, rfl, rfl⟩
    | 1, h1 =>
      cases h1
      obtain ⟨A, a1, a2⟩ := place_e ha h2 (k0 := 1) (by omega)
      refine ⟨A, a1, fun x hx => ?_⟩
      obtain ⟨e, e1, e2, e3, e4⟩ := a2 x hx
      exact ⟨.is e b, congrArg (fun z => D.tup [L "is", z, enc b]) e1, .is e b e2 hb, by show max (ht e) (ht b) + 1 = max (ht a) (ht b) + 1; rw [e3], by show nl e + nl b + 1 = nl a + nl b + 1; rw [e4]⟩
    | 2, h1 =>
      cases h1
      obtain ⟨A, a1, a2⟩ := place_e hb h2 (k0 := 2) (by omega)
      refine ⟨A, a1, fun x hx => ?_⟩
      obtain ⟨e, e1, e2, e3, e4⟩ := a2 x hx
      exact ⟨.is a e, congrArg (fun z => D.tup [L "is", enc a, z]) e1, .is a e ha e2, by show max (ht a) (ht e) + 1 = max (ht a) (ht b) + 1; rw [e3], by show nl a + nl e + 1 = nl a + nl b + 1; rw [e4]⟩
    | k + 3, h1 => cases h1
  | two h s t hh hs ht ih1 ih2 =>
    intro q leaf k0 hq
    obtain ⟨k, d, q', rfl, h1, h2⟩ := hq.tup
    rw [List.getLastD_cons]
    match k, h1 with
    | 0, h1 =>
      cases h1
      obtain ⟨rfl, rfl⟩ := h2.atom
      refine ⟨_, .head ["and", "if"] h (by simp [grps]) (by simpa using hh), ?_⟩
      rintro _ ⟨h', hm, rfl⟩
      exact ⟨.two h' s t, rfl, .two h' s t (by simpa using hm) hs ht, rfl, rfl⟩
    | 1, h1 =>
      cases h1
      obtain ⟨A, a1, a2⟩ := ih1 h2 (k0 := 1)
      refine ⟨A, a1, fun x hx => ?_⟩
      obtain ⟨e, e1, e2, e3, e4⟩ := a2 x hx
      exact ⟨.two h e t, congrArg (fun z => D.tup [L h, z, encS t]) e1, .two h e t hh e2 ht, by show max (htS e) (htS t) + 1 = max (htS s) (htS t) + 1; rw [e3], by show nlS e + nlS t + 1 = nlS s + nlS t + 1; rw [e4]⟩
    | 2, h1 =>
      cases h1
      obtain ⟨A, a1, a2⟩ := ih2 h2 (k0 := 2)
      refine ⟨A, a1, fun x hx => ?_⟩
      obtain ⟨e, e1, e2, e3, e4⟩ := a2 x hx
      exact ⟨.two h s e, congrArg (fun z => D.tup [L h, encS s, z]) e1, .two h s e hh hs e2, by show max (htS s) (htS e) + 1 = max (htS s) (htS t) + 1; rw [e3], by show nlS s + nlS e + 1 = nlS s + nlS t + 1; rw [e4]⟩
    | k + 3, h1 => cases h1
  | b3 h w s hh hw hs ih =>
    intro q leaf k0 hq
    obtain ⟨k, d, q', rfl, h1, h2⟩ := hq.tup
    rw [List.getLastD_cons]
    match k, h1 with
    | 0, h1 =>
      cases h1
      obtain ⟨rfl, rfl⟩ := h2.atom
      refine ⟨_, .head ["all", "some", "allrow", "somerow"] h (by simp [grps]) (by simpa using hh), ?_⟩
      rintro _ ⟨h', hm, rfl⟩
      exact ⟨.b3 h' w s, rfl, .b3 h' w s (by simpa using hm) hw hs, rfl, rfl⟩
    | 1, h1 =>
      cases h1
      obtain ⟨rfl, rfl⟩ := h2.atom
      refine ⟨_, .word 1 w (by omega), ?_⟩
      rintro _ ⟨w', rfl, hw'⟩
      exact ⟨.b3 h w' s, rfl, .b3 h w' s hh hw' hs, rfl, rfl⟩
    | 2, h1 =>
      cases h1
      obtain ⟨A, a1, a2⟩ := ih h2 (k0 := 2)
      refine ⟨A, a1, fun x hx => ?_⟩
      obtain ⟨e, e1, e2, e3, e4⟩ := a2 x hx
      exact ⟨.b3 h w e, congrArg (fun z => D.tup [L h, Sx w, z]) e1, .b3 h w e hh hw e2, by show htS e + 1 = htS s + 1; rw [e3], by show nlS e + 2 = nlS s + 2; rw [e4]⟩
    | k + 3, h1 => cases h1
  | b4 h w n s hh hw hs ih =>
    intro q leaf k0 hq
    obtain ⟨k, d, q', rfl, h1, h2⟩ := hq.tup
    rw [List.getLastD_cons]
    match k, h1 with
    | 0, h1 =>
      cases h1
      obtain ⟨rfl, rfl⟩ := h2.atom
      refine ⟨_, .head ["allbelow", "somebelow"] h (by simp [grps]) (by simpa using hh), ?_⟩
      rintro _ ⟨h', hm, rfl⟩
      exact ⟨.b4 h' w n s, rfl, .b4 h' w n s (by simpa using hm) hw hs, rfl, rfl⟩
    | 1, h1 =>
      cases h1
      obtain ⟨rfl, rfl⟩ := h2.atom
      refine ⟨_, .word 1 w (by omega), ?_⟩
      rintro _ ⟨w', rfl, hw'⟩
      exact ⟨.b4 h w' n s, rfl, .b4 h w' n s hh hw' hs, rfl, rfl⟩
    | 2, h1 =>
      cases h1
      obtain ⟨rfl, rfl⟩ := h2.atom
      refine ⟨_, .int 2 n, ?_⟩
      rintro _ ⟨m, rfl⟩
      exact ⟨.b4 h w m s, rfl, .b4 h w m s hh hw hs, rfl, rfl⟩
    | 3, h1 =>
      cases h1
      obtain ⟨A, a1, a2⟩ := ih h2 (k0 := 3)
      refine ⟨A, a1, fun x hx => ?_⟩
      obtain ⟨e, e1, e2, e3, e4⟩ := a2 x hx
      exact ⟨.b4 h w n e, congrArg (fun z => D.tup [L h, Sx w, I n, z]) e1, .b4 h w n e hh hw e2, by show htS e + 1 = htS s + 1; rw [e3], by show nlS e + 3 = nlS s + 3; rw [e4]⟩
    | k + 4, h1 => cases h1
/-! bounds -/
theorem LP.len : ∀ {n : Nat} {d leaf : D} {q : List Nat}, LP d q leaf → dat n d → q.length ≤ n := by
  intro n d leaf q h
  induction h generalizing n with
  | here v => intro _; exact Nat.zero_le _
  | @step ds k d q leaf hd _ ih =>
    intro h
    cases n with
    | zero => exact h.elim
    | succ n =>
      have := ih (h d (List.mem_of_getElem? hd))
      simpa using this
theorem shp_tl {h : String} {nm : Option Str} {n : Nat} {tl : List D} (s : Shp h nm n tl) : ∀ d ∈ tl, Shrt d := fun d hd => by
  cases s with
  | table ns n0 hl =>
    simp only [List.mem_cons, List.not_mem_nil, or_false] at hd
    rcases hd with rfl | rfl
    · refine .tup _ (by simp; omega) fun d hd => ?_
      obtain ⟨w, _, rfl⟩ := List.mem_map.mp hd
      exact .a _
    · exact .a _
  | _ => cases hd
theorem shrt_we {P : Str → Prop} {e : Ex} (he : WE P e) : Shrt (enc e) := by
  induction he with
  | num n => exact .a _
  | var w _ => exact .a _
  | op h nm es tl s _ _ ih =>
    have b := s.bnd
    rw [enc_op]
    refine .tup _ ?_ fun d hd => ?_
    · simp only [List.length_cons, List.length_append, List.length_map, encL_len]
      omega
    · rcases List.mem_cons.mp hd with rfl | hd
      · exact .a _
      rcases List.mem_append.mp hd with hd | hd
      · obtain ⟨w, _, rfl⟩ := List.mem_map.mp hd
        exact .a _
      rcases List.mem_append.mp hd with hd | hd
      · rw [encL_eq] at hd
        obtain ⟨e, he, rfl⟩ := List.mem_map.mp hd
        exact ih e he
      · exact shp_tl s d hd
theorem shrt_ws {P : Str → Prop} {s : Se} (hs : WS P s) : Shrt (encS s) := by
  induction hs with
  | is a b ha hb =>
    refine .tup _ (by simp) fun d hd => ?_
    simp only [List.mem_cons, List.not_mem_nil, or_false] at hd
    rcases hd with rfl | rfl | rfl
    · exact .a _
    · exact shrt_we ha
    · exact shrt_we hb
  | two h s t _ _ _ ih1 ih2 =>
    refine .tup _ (by simp) fun d hd => ?_
    simp only [List.mem_cons, List.not_mem_nil, or_false] at hd
    rcases hd with rfl | rfl | rfl
    · exact .a _
    · exact ih1
    · exact ih2
  | b3 h w s _ hw _ ih =>
    refine .tup _ (by simp) fun d hd => ?_
    simp only [List.mem_cons, List.not_mem_nil, or_false] at hd
    rcases hd with rfl | rfl | rfl
    · exact .a _
    · exact .a _
    · exact ih
  | b4 h w n s _ hw _ ih =>
    refine .tup _ (by simp) fun d hd => ?_
    simp only [List.mem_cons, List.not_mem_nil, or_false] at hd
    rcases hd with rfl | rfl | rfl | rfl
    · exact .a _
    · exact .a _
    · exact .a _
    · exact ih
theorem nlDL_app (xs ys : List D) : nlDL (xs ++ ys) = nlDL xs + nlDL ys := by
  induction xs with
  | nil => simp [nlDL]
  | cons x r ih =>
    show nlD x + nlDL (r ++ ys) = nlD x + nlDL r + nlDL ys
    rw [ih]
    omega
theorem nlDL_ints (ns : List Nat) : nlDL (ns.map fun k : Nat => I (k : Nat)) = ns.length := by
  induction ns with
  | nil => rfl
  | cons x r ih =>
    rw [List.map_cons]
    unfold nlDL
    rw [ih, List.length_cons]
    show 1 + _ = _
    omega
theorem nlD_we {P : Str → Prop} {e : Ex} (he : WE P e) : nlD (enc e) ≤ nl e := by
  induction he with
  | num n => exact Nat.le_refl _
  | var w _ => exact Nat.le_refl _
  | op h nm es tl s _ _ ih =>
    have h1 : nlDL (encL es) ≤ nlL es := by
      have gen : ∀ es : List Ex, (∀ e ∈ es, nlD (enc e) ≤ nl e) → nlDL (encL es) ≤ nlL es := fun es => by
        induction es with
        | nil => exact fun _ => Nat.le_refl _
        | cons e r ihr =>
          intro ih
          show nlD (enc e) + nlDL (encL r) ≤ nl e + nlL r
          have a := ih e (List.mem_cons_self ..)
          have b := ihr fun e he => ih e (List.mem_cons_of_mem _ he)
          omega
      exact gen es ih
    have h2 : nlDL tl ≤ 4 := by
      revert s
      generalize es.length = n
      intro s
      cases s with
      | table ns n0 hl =>
        show nlDL (ns.map fun k : Nat => I (k : Nat)) + (1 + 0) ≤ 4
        rw [nlDL_ints]
        omega
      | _ => exact Nat.zero_le _
    have h3 : nlDL (nm.toList.map (fun w => Sx w)) ≤ 1 := by
      cases nm with
      | none => exact Nat.zero_le _
      | some f => exact Nat.le_refl _
    show 1 + nlDL (nm.toList.map (fun w => Sx w) ++ (encL es ++ tl)) ≤ nlL es + 7
    rw [nlDL_app, nlDL_app]
    omega
theorem nlD_ws {P : Str → Prop} {s : Se} (hs : WS P s) : nlD (encS s) ≤ nlS s ∧ 1 ≤ nlD (encS s) := by
  induction hs with
  | is a b ha hb =>
    have h1 := nlD_we ha
    have h2 := nlD_we hb
    show 1 + (nlD (enc a) + (nlD (enc b) + 0)) ≤ nl a + nl b + 1 ∧ 1 ≤ 1 + (nlD (enc a) + (nlD (enc b) + 0))
    omega
  | two h s t _ _ _ ih1 ih2 =>
    show 1 + (nlD (encS s) + (nlD (encS t) + 0)) ≤ nlS s + nlS t + 1 ∧ 1 ≤ 1 + (nlD (encS s) + (nlD (encS t) + 0))
    omega
  | b3 h w s _ hw _ ih =>
    show 1 + (1 + (nlD (encS s) + 0)) ≤ nlS s + 2 ∧ 1 ≤ 1 + (1 + (nlD (encS s) + 0))
    omega
  | b4 h w n s _ hw _ ih =>
    show 1 + (1 + (1 + (nlD (encS s) + 0))) ≤ nlS s + 3 ∧ 1 ≤ 1 + (1 + (1 + (nlD (encS s) + 0)))
    omega
end K06
set_option maxRecDepth 100000
set_option exponentiation.threshold 600
/-! k06: one leaf is changed: _law_other_leaf. -/
namespace K06
open PySem PySem.Spec PyProof.Rows L2 G
theorem dIn_L {n : Nat} {g : List String} {x : String} {S : Sto} (h : S[n]? = some (.lst (g.map fun s => L s))) : dIn (L x) (.cel n) S = some (.a (.bl (decide (x ∈ g))), S) := by
  have h' : S[n]? = some (.lst ((g.map fun s => Str.ofString s).map fun x => .a (.str x))) := by
    rw [List.map_map]
    exact h
  rw [dIn_strs h']
  congr 4
  rw [decide_eq_decide, List.mem_map]
  constructor
  · rintro ⟨a, ha, e⟩
    rw [ofString_eq] at e
    exact e ▸ ha
  · exact fun h => ⟨x, h, rfl⟩
theorem grps_dis : ∀ g ∈ grps, ∀ g' ∈ grps, ∀ h ∈ g, h ∈ g' → g = g' := by decide +kernel
theorem grps_oth : ∀ g ∈ grps, ∀ h ∈ ["is", "call", "look", "table", "pick"], h ∉ g := by decide +kernel
theorem sp_other_leaf {j : Nat} (hj : 8 ≤ j) {S : Sto} (h : Dx [] S S) {k nW : Nat} {leaf : D} {A : D → Prop} (hl : Leaf k leaf A) {ps : List D} (hp : atI ps (-1) = some (I (k : Int))) {ws : List Str} (hw : S[nW]? = some (.lst (sts ws))) (hn : ws.length ≤ 1000) (hW : ∀ w ∈ ws, Wd w) (hnW : nW ≠ 1) :
    Wp nX (fun d S' => A d ∧ Dr [] S S') ((sem j)._law_other_leaf [stD, leaf, .tup ps, .cel nW] S) := by
  obtain ⟨m, rfl⟩ := lv2 (by omega : 2 ≤ j)
  rw [e__law_other_leaf]
  have hA : ∀ d, A d → D.lo S.length d = true := fun d hd => by
    cases hl with
    | int k n => obtain ⟨m, rfl⟩ := hd; rfl
    | word k w _ => obtain ⟨m, rfl, _⟩ := hd; rfl
    | head g h _ _ => obtain ⟨m, _, rfl⟩ := hd; rfl
    | other h _ => cases hd; rfl
  refine def_drk (P := A) (n := 4) (ds := [_, _, _, _]) rfl h hA fun K hK => ?_
  simp only [List.map_cons, List.map_nil, List.length_cons, List.length_nil, Nat.reduceAdd, Nat.reduceSub, List.replicate, List.cons_append, List.nil_append]
  unfold b__law_other_leaf
  have hS := h.stc.lt
  -- heads
  have heads : ∀ (x : String), (∀ g ∈ grps, x ∈ g → ∀ h' ∈ g, A (L h')) → A (L x) → leaf = L x → k = 0 →
      Ws K ((sSeq (sSet 4 (eOfL (aCons (eOfL (aCons (eC (.a (.str "plus"))) (aCons (eC (.a (.str "minus"))) (aCons (eC (.a (.str "times"))) (aCons (eC (.a (.str "div"))) (aCons (eC (.a (.str "rem"))) (aCons (eC (.a (.str "least"))) (aCons (eC (.a (.str "greatest"))) (aCons (eC (.a (.str "same"))) (aCons (eC (.a (.str "below"))) aNil)))))))))) (aCons (eOfL (aCons (eC (.a (.str "and"))) (aCons (eC (.a (.str "if"))) aNil))) aNil))))
 (sSeq (sSet 4 (eBin dAdd (eVar 4) (eOfL (aCons (eOfL (aCons (eC (.a (.str "all"))) (aCons (eC (.a (.str "some"))) (aCons (eC (.a (.str "allrow"))) (aCons (eC (.a (.str "somerow"))) aNil))))) (aCons (eOfL (aCons (eC (.a (.str "allbelow"))) (aCons (eC (.a (.str "somebelow"))) aNil))) aNil)))))
 (sSeq (sFor (iSeq (eVar 4)) (gN 5)
 (sSeq (sIf (tBin dIn (eVar 1) (eVar 5))
 (sSeq (sRet (eBin dIx (eVar 5) (eCall (sem (m + 1))._law_pick [] (aCons (eVar 0) (aCons (eCallB dLen (aCons (eVar 5) aNil)) aNil)))))
 sNil)
 sNil)
 sNil))
 (sSeq (sRet (eVar 1))
 sNil)))) [some stD, some leaf, some (.tup ps), some (.cel nW), none, none] S) := fun x hx hxx hlf hk => by
    subst hlf hk
    obtain ⟨S1, e1, x1, q1, q2, q3, l1⟩ : ∃ S1, S1 = S ++ [Cell.lst (opsL.map fun s => L s), .lst [L "and", L "if"], .lst [.cel S.length, .cel (S.length + 1)]] ∧ Dx [] S S1 ∧ S1[S.length]? = some (.lst (opsL.map fun s => L s)) ∧ S1[S.length + 1]? = some (.lst [L "and", L "if"]) ∧ S1[S.length + 2]? = some (.lst [.cel S.length, .cel (S.length + 1)]) ∧ S1.length = S.length + 3 := by
      refine ⟨_, rfl, ?_, by simp, by simp, by simp, by simp⟩
      have a1 := h.push (c := .lst (opsL.map fun s => L s)) (lo_lst fun d hd => by obtain ⟨s, _, rfl⟩ := List.mem_map.mp hd; exact noC_atom _)
      have a2 := a1.push (c := .lst [L "and", L "if"]) rfl
      have a3 := a2.push (c := .lst [.cel S.length, .cel (S.length + 1)]) (by simp [Cell.lo, D.lo, D.loL]; omega)
      simpa using a3
    refine w_sete (d := .cel (S.length + 2)) (S' := S1) (by rw [e1]; simp [opsL]) ?_
    simp only [List.set_cons_succ, List.set_cons_zero]
    clear e1
    obtain ⟨S2, e2, x2, r1, r2, r3, r4, r5⟩ : ∃ S2, eBin dAdd (eVar 4) (eOfL (aCons (eOfL (aCons (eC (.a (.str "all"))) (aCons (eC (.a (.str "some"))) (aCons (eC (.a (.str "allrow"))) (aCons (eC (.a (.str "somerow"))) aNil))))) (aCons (eOfL (aCons (eC (.a (.str "allbelow"))) (aCons (eC (.a (.str "somebelow"))) aNil))) aNil))) [some stD, some (L x), some (.tup ps), some (.cel nW), some (.cel (S.length + 2)), none] S1 = .ok (.cel (S.length + 6)) S2 ∧ Dx [] S S2 ∧ S2[S.length + 6]? = some (.lst [.cel S.length, .cel (S.length + 1), .cel (S.length + 3), .cel (S.length + 4)]) ∧ S2[S.length]? = some (.lst (opsL.map fun s => L s)) ∧ S2[S.length + 1]? = some (.lst [L "and", L "if"]) ∧ S2[S.length + 3]? = some (.lst [L "all", L "some", L "allrow", L "somerow"]) ∧ S2[S.length + 4]? = some (.lst [L "allbelow", L "somebelow"]) := by
      have g5 : (S1 ++ [Cell.lst [L "all", L "some", L "allrow", L "somerow"], .lst [L "allbelow", L "somebelow"], .lst [.cel (S.length + 3), .cel (S.length + 4)]])[S.length + 5]? = some (.lst [.cel (S.length + 3), .cel (S.length + 4)]) := by
        rw [List.getElem?_append_right (by omega), show S.length + 5 - S1.length = 2 by omega]
        rfl
      have ad : dAdd (.cel (S.length + 2)) (.cel (S.length + 5)) (S1 ++ [.lst [L "all", L "some", L "allrow", L "somerow"], .lst [L "allbelow", L "somebelow"], .lst [.cel (S.length + 3), .cel (S.length + 4)]]) = some (.cel (S.length + 6), S1 ++ [.lst [L "all", L "some", L "allrow", L "somerow"], .lst [L "allbelow", L "somebelow"], .lst [.cel (S.length + 3), .cel (S.length + 4)], .lst [.cel S.length, .cel (S.length + 1), .cel (S.length + 3), .cel (S.length + 4)]]) := by
        have := dAdd_lst (S := S1 ++ [.lst [L "all", L "some", L "allrow", L "somerow"], .lst [L "allbelow", L "somebelow"], .lst [.cel (S.length + 3), .cel (S.length + 4)]]) (get_app q3) g5 (small_line (by simp))
        simpa [l1] using this
      refine ⟨S1 ++ [.lst [L "all", L "some", L "allrow", L "somerow"], .lst [L "allbelow", L "somebelow"], .lst [.cel (S.length + 3), .cel (S.length + 4)], .lst [.cel S.length, .cel (S.length + 1), .cel (S.length + 3), .cel (S.length + 4)]], by simp [l1, ad], ?_, ?_, get_app q1, get_app q2, ?_, ?_⟩
      · have a1 := x1.push (c := .lst [L "all", L "some", L "allrow", L "somerow"]) rfl
        have a2 := a1.push (c := .lst [L "allbelow", L "somebelow"]) rfl
        have a3 := a2.push (c := .lst [.cel (S.length + 3), .cel (S.length + 4)]) (by simp [Cell.lo, D.lo, D.loL, l1])
        have a4 := a3.push (c := .lst [.cel S.length, .cel (S.length + 1), .cel (S.length + 3), .cel (S.length + 4)]) (by simp [Cell.lo, D.lo, D.loL, l1]; omega)
        simpa using a4
      · rw [List.getElem?_append_right (by omega), show S.length + 6 - S1.length = 3 by omega]
        rfl
      · rw [List.getElem?_append_right (by omega), show S.length + 3 - S1.length = 0 by omega]
        rfl
      · rw [List.getElem?_append_right (by omega), show S.length + 4 - S1.length = 1 by omega]
        rfl
    refine w_sete e2 ?_
    simp only [List.set_cons_succ, List.set_cons_zero]
    refine w_for (ds := [.cel S.length, .cel (S.length + 1), .cel (S.length + 3), .cel (S.length + 4)]) (gg := some (S.length + 6, .lst [.cel S.length, .cel (S.length + 1), .cel (S.length + 3), .cel (S.length + 4)])) (S1 := S2) (by simp [seqR_lst r1]) ?_
    refine forH_wp (fun i env S' => ∃ y, env = [some stD, some (L x), some (.tup ps), some (.cel nW), some (.cel (S.length + 6)), y] ∧ S' = S2) (fun i env S' ⟨y, _, e⟩ => by rw [e]; exact held_lst r1) ⟨none, rfl, rfl⟩ ?_ ?_
    · rintro i d env S' hd ⟨y, rfl, rfl⟩
      obtain ⟨n, g, hg, rfl, hn, hn1⟩ : ∃ n g, g ∈ grps ∧ d = .cel n ∧ S'[n]? = some (.lst (g.map fun s => L s)) ∧ n ≠ 1 := by
        match i, hd with
        | 0, hd => cases hd; exact ⟨_, opsL, by simp [grps], rfl, r2, by omega⟩
        | 1, hd => cases hd; exact ⟨_, ["and", "if"], by simp [grps], rfl, r3, by omega⟩
        | 2, hd => cases hd; exact ⟨_, ["all", "some", "allrow", "somerow"], by simp [grps], rfl, r4, by omega⟩
        | 3, hd => cases hd; exact ⟨_, ["allbelow", "somebelow"], by simp [grps], rfl, r5, by omega⟩
      simp only [List.set_cons_succ, List.set_cons_zero]
      have gl : 1 ≤ g.length ∧ g.length ≤ 9 := by
        have : ∀ g ∈ grps, 1 ≤ g.length ∧ g.length ≤ 9 := by decide
        exact this g hg
      refine w_ife (x := decide (x ∈ g)) (S' := S') (by simp [dIn_L hn]) (fun hx' => ?_) fun _ => w_nil ⟨_, rfl, rfl⟩
      simp only [sSeq_assoc, sSeq_nilL]
      refine w_ret (P := fun d S'' => A d ∧ Dr [] S' S'') rfl ?_ fun d S'' ⟨a, b⟩ => hK _ _ a (x2.step b)
      simp [dLen_lst hn]
      refine (sp_pick (j := m + 1) (by omega) x2.here0 (L := (g.length : Int)) (by omega) (by omega)).use ?_
      rintro _ S3 ⟨v, rfl, hv, d3⟩
      have hn3 := d3.getm hn hn1
      obtain ⟨x', hm, ha⟩ := atI_mem (xs := g.map fun s => L s) (v := v) (by simp; omega)
      obtain ⟨h', hh', rfl⟩ := List.mem_map.mp hm
      rw [dIx_lst hn3, ha]
      exact ⟨hx g hg (of_decide_eq_true hx') h' hh', d3⟩
    · rintro env S' ⟨y, rfl, rfl⟩
      simp
      exact hK _ _ hxx x2
  cases hl with
  | int k n =>
    clear heads
    refine w_ift (S' := S) (by simp) ?_
    simp only [sSeq_assoc, sSeq_nilL]
    refine w_ret (P := fun d S' => (∃ m : Nat, d = I (m : Nat)) ∧ Dr [] S S') rfl ?_ fun d S' ⟨a, b⟩ => hK _ _ a b.dx
    simp
    refine (sp_number (j := m + 1) (by omega) h).use ?_
    rintro _ S1 ⟨⟨a, rfl⟩, d1⟩
    refine (sp_pick (j := m + 1) (by omega) d1.here0 (L := 12) (by decide) (by decide)).use ?_
    rintro _ S2 ⟨u, rfl, hu, d2⟩
    simp
    refine (sp_pick (j := m + 1) (by omega) d2.here0 (L := 4) (by decide) (by decide)).use ?_
    rintro _ S3 ⟨v, rfl, hv, d3⟩
    obtain ⟨x, hx, ha⟩ := atI_mem (xs := [I (if (999999999 : Int) < (n : Int) + 1 then 999999999 else (n : Int) + 1), I (if (0 : Int) > (n : Int) - 1 then 0 else (n : Int) - 1), I (a : Int), I (1 + (u : Int))]) (v := v) (by simp; omega)
    have hx' : ∃ z : Int, x = I z ∧ 0 ≤ z := by
      simp only [List.mem_cons, List.not_mem_nil, or_false] at hx
      rcases hx with rfl | rfl | rfl | rfl
      · exact ⟨_, rfl, by split <;> omega⟩
      · exact ⟨_, rfl, by split <;> omega⟩
      · exact ⟨_, rfl, by omega⟩
      · exact ⟨_, rfl, by omega⟩
    obtain ⟨z, rfl, hz⟩ := hx'
    simp at ha
    simp [ha]
    exact ⟨⟨z.toNat, by omega⟩, (d1.trans d2).trans d3⟩
  | word k w hk =>
    clear heads
    refine w_iff (S' := S) (by simp) (w_nil ?_)
    refine w_ift (S' := S) (by
      generalize hz : (k : Int) = z at hp
      have : 0 < z := by omega
      simp [hp, this]) ?_
    simp only [sSeq_assoc, sSeq_nilL]
    refine w_ret (P := fun d S' => (∃ w, d = Sx w ∧ Wd w) ∧ Dx [] S S') rfl ?_ fun d S' ⟨a, b⟩ => hK _ _ a b
    have x1 : Dx [] S (S ++ [Cell.lst []]) := h.push rfl
    simp
    refine (sp_new (j := m + 1) (by omega) x1.here0 (n := S.length) (xs := []) new_at (by omega)).use ?_
    rintro _ S2 ⟨⟨w', rfl, hw'⟩, d2⟩
    have x2 := x1.step d2
    have hw2 := x2.get hw hnW (by simp)
    have ad : dAdd (.cel nW) (.cel S2.length) (S2 ++ [.lst [Sx w']]) = some (.cel (S2.length + 1), S2 ++ [.lst [Sx w'], .lst (sts (ws ++ [w']))]) := by
      have := dAdd_lst (S := S2 ++ [.lst [Sx w']]) (ys := [Sx w']) (get_app hw2) new_at (small_line (by simp; omega))
      simpa using this
    have x3 : Dx [] S (S2 ++ [Cell.lst [Sx w'], .lst (sts (ws ++ [w']))]) := by
      have := (x2.push (c := .lst [Sx w']) rfl).push (c := .lst (sts (ws ++ [w']))) (lo_strs _ _)
      simpa using this
    have hw3 : (S2 ++ [Cell.lst [Sx w'], .lst (sts (ws ++ [w']))])[nW]? = some (.lst (sts ws)) := get_app hw2
    have hq3 : (S2 ++ [Cell.lst [Sx w'], .lst (sts (ws ++ [w']))])[S2.length + 1]? = some (.lst (sts (ws ++ [w']))) := by simp
    generalize S2 ++ [Cell.lst [Sx w'], .lst (sts (ws ++ [w']))] = S3 at ad x3 hw3 hq3
    simp [ad, dLen_lst hw3]
    refine (sp_pick (j := m + 1) (by omega) x3.here0 (L := (ws.length : Int) + 1) (by omega) (by omega)).use ?_
    rintro _ S4 ⟨v, rfl, hv, d4⟩
    have hq4 := d4.getm hq3 (by have := x2.len; omega)
    obtain ⟨x, hx, ha⟩ := atI_mem (xs := sts (ws ++ [w'])) (v := v) (by simp; omega)
    obtain ⟨w0, hm, rfl⟩ := List.mem_map.mp hx
    rw [dIx_lst hq4, ha]
    refine ⟨?_, x3.step d4⟩
    refine ⟨w0, rfl, ?_⟩
    rcases List.mem_append.mp hm with hm | hm
    · exact hW w0 hm
    · rw [List.mem_singleton.mp hm]; exact hw'
  | head g x hg hx =>
    refine w_iff (S' := S) (by simp) (w_nil ?_)
    refine w_iff (S' := S) (by simp [hp]) (w_nil ?_)
    refine heads x (fun g' hg' hx' h' hh' => ?_) ⟨x, hx, rfl⟩ rfl rfl
    rw [grps_dis g hg g' hg' x hx hx']
    exact ⟨h', hh', rfl⟩
  | other x hx =>
    refine w_iff (S' := S) (by simp) (w_nil ?_)
    refine w_iff (S' := S) (by simp [hp]) (w_nil ?_)
    exact heads x (fun g hg hx' => absurd hx' (grps_oth g hg x hx)) rfl rfl rfl
end K06
set_option maxRecDepth 100000
set_option exponentiation.threshold 600
/-! k06: one leaf is changed: _law_changed. -/
namespace K06
open PySem PySem.Spec PyProof.Rows L2 G
theorem ChS.noC {s : Se} {d : D} (h : ChS s d) : G.noC d := by
  obtain ⟨s', rfl, h, _⟩ := h
  exact ws_nc h
theorem pth_last : ∀ {q : List Nat}, q ≠ [] → atI (q.map fun k : Nat => I (k : Int)) (-1) = some (I ((q.getLastD 0 : Nat) : Int)) := fun {q} hq => by
  obtain ⟨r, k, rfl⟩ : ∃ r k, q = r ++ [k] := ⟨q.dropLast, q.getLast hq, (List.dropLast_concat_getLast hq).symm⟩
  rw [List.map_append, List.map_cons, List.map_nil, G.atI_last]
  simp
open Classical in
theorem sp_changed {j : Nat} (hj : 45 ≤ j) {S : Sto} (h : Dx [] S S) {s : Se} (hs : WS Wd s) (hh : htS s ≤ 30) (hnl : nlS s ≤ 3000) {nW : Nat} {ws : List Str} (hw : S[nW]? = some (.lst (sts ws))) (hn : ws.length ≤ 1000) (hW : ∀ w ∈ ws, Wd w) (hnW : nW ≠ 1) :
    Wp nX (fun d S' => ChS s d ∧ Dr [] S S') ((sem j)._law_changed [stD, encS s, .cel nW] S) := by
  obtain ⟨m, rfl⟩ := lv2 (by omega : 2 ≤ j)
  rw [e__law_changed]
  refine def_drk (P := ChS s) (n := 3) (ds := [_, _, _]) rfl h (fun d hd => hd.noC _) fun K hK => ?_
  simp only [List.map_cons, List.map_nil, List.length_cons, List.length_nil, Nat.reduceAdd, Nat.reduceSub, List.replicate, List.cons_append, List.nil_append]
  unfold b__law_changed
  have hS := h.stc.lt
  have hdat := ws_dat (fun _ h => strOk_wd h) hs
  have hsh := shrt_ws hs
  have hnd := nlD_ws hs
  obtain ⟨ls, l1, l2, l3⟩ := sp_leaves hdat hsh (j := m + 1) (by omega) [] (by simp; omega) (by omega) S h.clo
  have l3' : (sem (m + 1))._law_leaves [encS s, .tup []] S = .ok (.cel S.length) (S ++ [.lst ls]) := l3
  refine w_sete (d := .cel S.length) (S' := S ++ [.lst ls]) (by simp [l3']) ?_
  simp only [List.set_cons_succ, List.set_cons_zero]
  have x1 : Dx [] S (S ++ [Cell.lst ls]) := h.push (lo_lst fun d hd => by obtain ⟨q, l, rfl, _⟩ := l1 d hd; exact noC_pth _)
  have g1 : (S ++ [Cell.lst ls])[S.length]? = some (.lst ls) := new_at
  generalize S ++ [Cell.lst ls] = S1 at x1 g1 ⊢
  refine w_for (ds := rangeL 0 8) (gg := none) (S1 := S1) (by
    have hr := iR1R_nat (n := 8) S1 (by omega)
    simpa using hr) ?_
  refine forGo_wp (fun i env S' => ∃ y4 y5 y6 y7 y8, env = [some stD, some (encS s), some (.cel nW), some (.cel S.length), y4, y5, y6, y7, y8] ∧ Dx [] S S' ∧ S'[S.length]? = some (.lst ls)) ⟨none, none, none, none, none, rfl, x1, g1⟩ ?_ ?_
  · rintro i d env S2 hd ⟨y4, y5, y6, y7, y8, rfl, x2, g2⟩
    obtain ⟨hi, rfl⟩ := rangeL_get hd
    generalize (0 + (i : Int)) = zi
    simp only [List.set_cons_succ, List.set_cons_zero]
    refine w_set (P := fun d S3 => (∃ q leaf, d = pth q ∧ LP (encS s) q leaf) ∧ Dr [] S2 S3) rfl ?_ ?_
    · simp [dLen_lst g2]
      refine (sp_pick (j := m + 1) (by omega) x2.here0 (L := (ls.length : Int)) (by omega) (by omega)).use ?_
      rintro _ S3 ⟨u, rfl, hu, d3⟩
      have g3 := d3.getm g2 (by omega)
      obtain ⟨x, hx, ha⟩ := atI_mem (xs := ls) (v := u) (by omega)
      obtain ⟨q, leaf, rfl, hq⟩ := l1 x hx
      rw [dIx_lst g3, ha]
      exact ⟨⟨q, rfl, leaf, hq⟩, d3⟩
    rintro _ S3 ⟨⟨q, leaf, rfl, hq⟩, d3⟩
    have x3 := x2.step d3
    have g3 := d3.getm g2 (by omega)
    have hql := hq.len hdat
    simp only [List.set_cons_succ, List.set_cons_zero]
    refine w_sete (d := encS s) (S' := S3) (by simp) ?_
    simp only [List.set_cons_succ, List.set_cons_zero]
    have shs : ∀ {d leaf : D} {q : List Nat}, LP d q leaf → Shrt d → ∀ {k : Nat} {r : List Nat}, q = k :: r → ∃ ds d', d = .tup ds ∧ ds.length ≤ 1000 ∧ atI ds (k : Int) = some d' ∧ LP d' r leaf ∧ Shrt d' := fun {d leaf q} hq hsd {k r} e => by
      subst e
      cases hq with
      | step h1 h2 =>
        cases hsd with
        | tup _ hl hds =>
          have hi := (List.getElem?_eq_some_iff.mp h1).1
          exact ⟨_, _, rfl, hl, by rw [atI_nat hi]; exact (List.getElem?_eq_getElem hi).symm.trans h1, h2, hds _ (List.mem_of_getElem? h1)⟩
    refine w_for (ds := q.map fun k : Nat => I (k : Int)) (gg := none) (S1 := S3) (by simp) ?_
    refine forGo_wp (fun i env S' => ∃ d' y7, env = [some stD, some (encS s), some (.cel nW), some (.cel S.length), some (I zi), some (pth q), some d', y7, y8] ∧ S' = S3 ∧ LP d' (q.drop i) leaf ∧ Shrt d') ⟨encS s, y7, rfl, rfl, hq, hsh⟩ ?_ ?_
    · rintro i d env S' hd ⟨d', y7, rfl, rfl, hd', hsd⟩
      rw [List.getElem?_map] at hd
      obtain ⟨k, hk, rfl⟩ := Option.map_eq_some_iff.mp hd
      have hil := (List.getElem?_eq_some_iff.mp hk).1
      have hdrop : q.drop i = k :: q.drop (i + 1) := by
        rw [List.drop_eq_getElem_cons hil, (List.getElem?_eq_some_iff.mp hk).2]
      obtain ⟨ds, d'', rfl, hl, ha, hlp, hs''⟩ := shs hd' hsd hdrop
      simp only [List.set_cons_succ, List.set_cons_zero]
      generalize hz : (k : Int) = z at ha
      refine w_sete (d := d'') (S' := S') (by simp [ha, small_line (show ds.length ≤ 100000 by omega)]) ?_
      exact ⟨d'', _, rfl, rfl, hlp, hs''⟩
    · rintro env S' ⟨d', y7, rfl, rfl, hd', _⟩
      rw [List.length_map, List.drop_length] at hd'
      obtain rfl : d' = leaf := by cases hd'; rfl
      obtain ⟨A, a1, a2⟩ := place_s hs (k0 := 0) hq
      have hq0 : q ≠ [] := fun e => by
        subst e
        cases hs <;> cases hq
      simp only [sqK_nx]
      refine w_set (P := fun d S4 => ChS s d ∧ Dr [] S' S4) rfl ?_ ?_
      · simp
        refine (sp_other_leaf (j := m + 1) (by omega) x3.here0 a1 (pth_last hq0) (x3.get hw hnW (by simp)) hn hW hnW).use ?_
        rintro x S4 ⟨hx, d4⟩
        have pu := sp_put (x := x) hq hsh (j := m + 1) (by omega) (by omega) S4
        rw [pu]
        exact ⟨a2 x hx, d4⟩
      rintro _ S4 ⟨⟨s', rfl, s1, s2, s3⟩, d4⟩
      have x4 := x3.step d4
      have g4 := d4.getm g3 (by omega)
      simp only [List.set_cons_succ, List.set_cons_zero]
      obtain ⟨b, hb⟩ := sp_fits (fun _ h => strOk_wd h) s1 (j := m + 1) (by omega) (by omega) x4.clo
      have hdat' := ws_dat (fun _ h => strOk_wd h) s1
      rw [s2] at hdat'
      have ne := dNe_dat (S := S4) hdat' hdat (by omega)
      refine w_ife (x := !decide (encS s' = encS s) && b) (S' := S4) ?_ (fun _ => ?_) fun _ => w_nil ⟨_, _, _, _, _, rfl, x4, g4⟩
      · by_cases e : encS s' = encS s
        · rw [e] at ne
          simp [ne, e]
        · simp [ne, e, hb]
      · simp only [sSeq_assoc, sSeq_nilL]
        exact w_rete (d := encS s') (S' := S4) (by simp) (hK _ _ ⟨s', rfl, s1, s2, s3⟩ x4)
  · rintro env S2 ⟨y4, y5, y6, y7, y8, rfl, x2, g2⟩
    simp
    exact hK _ _ ⟨s, rfl, hs, rfl, rfl⟩ x2
end K06
set_option maxRecDepth 100000
set_option exponentiation.threshold 600
/-! k06: words are renamed. -/
namespace K06
open PySem PySem.Spec PyProof.Rows L2 G
theorem dr_dx (a : Dr [] S0 S) (b : Dx [] S S1) : Dx [] S0 S1 := a.dx.trans b
theorem ren_bind {m : Nat} {S0 S : Sto} (hx : Dx [] S0 S) {nE nW : Nat} {kvs : List (Key × D)} {f : Str → Str} {ws : List Str} {s : Se} {w : Str} {h : String} {mid T : List D}
    (gE : S[nE]? = some (.dic kvs)) (o : EnvE kvs f) (hf : ∀ w, Wd w → Wd (f w)) (hkl : kvs.length + htS s + 1 < 900) (hw : S[nW]? = some (.lst (sts ws))) (hn0 : 1 ≤ ws.length) (hn : ws.length ≤ 1000) (hW : ∀ w ∈ ws, Wd w) (hnW : nW ≠ 1)
    (hwd : Wd w) (hs : WS Wd s) (hm : htS s + 7 ≤ m + 1) (hnl : nlS s ≤ 90000) (hmid : mid.length ≤ 1)
    (hT : T.length ≤ 4) (t0 : atI T 0 = some (L h)) (t1 : atI T 1 = some (Sx w)) (tl : atI T (-1) = some (encS s)) (tc : cutL T (some 2) (some (-1)) = mid)
    (ih : ∀ {S : Sto} {kvs : List (Key × D)} {f : Str → Str} {nE : Nat}, Dx [] S S → S[nE]? = some (.dic kvs) → EnvE kvs f → (∀ w, Wd w → Wd (f w)) → kvs.length + htS s < 900 → S[nW]? = some (.lst (sts ws)) → Wp nX (fun d S' => ChS s d ∧ Dr [] S S') ((sem (m + 1))._law_renamed [stD, encS s, .cel nE, .cel nW] S))
    {K : SR → Prop} (hK : ∀ w' d S', Wd w' → ChS s d → Dx [] S0 S' → K (.rt (.tup (L h :: Sx w' :: (mid ++ [d]))) S')) :
    Ws K ((sSeq (sSet 5 (eOfL (aLc (iSeq (eCall (sem (m + 1))._law_free [] (aCons (eBin dIx (eVar 1) (eUn dNeg (eC (.a (.int (1)))))) aNil))) (gN 6) (List.map (fun p => p.2) ([("word", 6)] : List (Str × Nat))) (tBin dNe (eVar 6) (eBin dIx (eVar 1) (eC (.a (.int (1)))))) (eGet2 (eVar 2) (eVar 6) (eVar 6)))))
 (sSeq (sSet 6 (eBin dIx (eVar 3) (eCall (sem (m + 1))._law_pick [] (aCons (eVar 0) (aCons (eCallB dLen (aCons (eVar 3) aNil)) aNil)))))
 (sSeq (sIf (tOr (tBin dIn (eVar 6) (eVar 5)) (tBin dEq (eCall (sem (m + 1))._law_pick [] (aCons (eVar 0) (aCons (eC (.a (.int (4)))) aNil))) (eC (.a (.int (0))))))
 (sSeq (sSet 6 (eCall (sem (m + 1))._law_new [] (aCons (eVar 0) (aCons (eVar 5) aNil))))
 sNil)
 sNil)
 (sSeq (sRet (eBin dAdd (eBin dAdd (eTup (aCons (eBin dIx (eVar 1) (eC (.a (.int (0))))) (aCons (eVar 6) aNil))) (eCut (eVar 1) (oSome (eC (.a (.int (2))))) (oSome (eUn dNeg (eC (.a (.int (1)))))))) (eTup (aCons (eCall (sem (m + 1))._law_renamed [] (aCons (eVar 0) (aCons (eBin dIx (eVar 1) (eUn dNeg (eC (.a (.int (1)))))) (aCons (eCall (sem (m + 1))._law_with [] (aCons (eVar 2) (aCons (eBin dIx (eVar 1) (eC (.a (.int (1))))) (aCons (eVar 6) aNil)))) (aCons (eVar 3) aNil))))) aNil))))
 sNil)))) [some stD, some (.tup T), some (.cel nE), some (.cel nW), none, none, none] S) := by
  have hS := hx.stc.lt
  have szT : T.length ≤ sizeLine := small_line (by omega)
  obtain ⟨us, u1, u2, u3⟩ := sp_free (fun _ h => strOk_wd h) hs (j := m + 1) (by omega) hnl S hx.clo
  let p : D → Bool := fun d => match d with
    | .a (.str x) => !decide (x = w)
    | _ => false
  let g : D → D := fun d => match d with
    | .a (.str x) => Sx (f x)
    | d => d
  have g1 : (S ++ [Cell.lst us])[S.length]? = some (.lst us) := new_at
  have gE1 : (S ++ [Cell.lst us])[nE]? = some (.dic kvs) := get_app gE
  have lc : lcGo (some (S.length, .lst us)) us (gN 6) (tBin dNe (eVar 6) (eBin dIx (eVar 1) (eC (.a (.int (1)))))) (eGet2 (eVar 2) (eVar 6) (eVar 6)) [some stD, some (.tup T), some (.cel nE), some (.cel nW), none, none, none] us (S ++ [Cell.lst us]) = .ok ((us.filter p).map g) (S ++ [Cell.lst us]) := by
    refine lcH_filter g p (held_lst g1) us (fun d hd => ?_) fun d hd _ => ?_
    · obtain ⟨x, rfl, _⟩ := u1 d hd
      simp [p, t1, szT]
    · obtain ⟨x, rfl, _⟩ := u1 d hd
      refine (get2_at (y := .inr x) (kvs := kvs) (k := Sx x) (x := Sx x) rfl gE1 rfl rfl (keyOf_str x)).trans ?_
      rw [o.at_ x]
  have lr := lcR_at (by omega) lc
  obtain ⟨ys, hys, _⟩ := pw_sts (P := fun _ => True) (ws := (us.filter p).map g) fun d hd => by
    obtain ⟨d', hd', rfl⟩ := List.mem_map.mp hd
    obtain ⟨x, rfl, _⟩ := u1 d' (List.mem_filter.mp hd').1
    exact ⟨f x, rfl, trivial⟩
  rw [hys] at lr
  refine w_sete (d := .cel (S.length + 1)) (S' := S ++ [.lst us, .lst (sts ys)]) (by simp [tl, szT, u3, seqR_lst g1, wipeS, lr]) ?_
  simp only [List.set_cons_succ, List.set_cons_zero]
  have x1 : Dx [] S0 (S ++ [Cell.lst us, .lst (sts ys)]) := by
    have := (hx.push (c := .lst us) (lo_lst fun d hd => (u1 d hd).noC)).push (c := .lst (sts ys)) (lo_strs _ _)
    simpa using this
  have q1 : (S ++ [Cell.lst us, .lst (sts ys)])[S.length + 1]? = some (.lst (sts ys)) := by simp
  have hw1 : (S ++ [Cell.lst us, .lst (sts ys)])[nW]? = some (.lst (sts ws)) := get_app hw
  have hE1 : (S ++ [Cell.lst us, .lst (sts ys)])[nE]? = some (.dic kvs) := get_app gE
  generalize S ++ [Cell.lst us, .lst (sts ys)] = S1 at x1 q1 hw1 hE1 ⊢
  refine w_set (P := fun d S2 => (∃ w', d = Sx w' ∧ Wd w') ∧ Dr [] S1 S2) rfl ?_ ?_
  · simp [dLen_lst hw1]
    refine (sp_pick (j := m + 1) (by omega) x1.here0 (L := (ws.length : Int)) (by omega) (by omega)).use ?_
    rintro _ S2 ⟨u, rfl, hu, d2⟩
    have hw2 := d2.getm hw1 hnW
    obtain ⟨x, hx, ha⟩ := atI_mem (xs := sts ws) (v := u) (by simp; omega)
    obtain ⟨w', hm', rfl⟩ := List.mem_map.mp hx
    rw [dIx_lst hw2, ha]
    exact ⟨⟨w', rfl, hW w' hm'⟩, d2⟩
  rintro _ S2 ⟨⟨w', rfl, hw'⟩, d2⟩
  simp only [List.set_cons_succ, List.set_cons_zero]
  have x2 := x1.step d2
  have q2 := d2.getm q1 (by omega)
  have hw2 := d2.getm hw1 hnW
  have hE2 := d2.dic hE1
  generalize hC : (sSeq (sRet (eBin dAdd (eBin dAdd (eTup (aCons (eBin dIx (eVar 1) (eC (.a (.int (0))))) (aCons (eVar 6) aNil))) (eCut (eVar 1) (oSome (eC (.a (.int (2))))) (oSome (eUn dNeg (eC (.a (.int (1)))))))) (eTup (aCons (eCall (sem (m + 1))._law_renamed [] (aCons (eVar 0) (aCons (eBin dIx (eVar 1) (eUn dNeg (eC (.a (.int (1)))))) (aCons (eCall (sem (m + 1))._law_with [] (aCons (eVar 2) (aCons (eBin dIx (eVar 1) (eC (.a (.int (1))))) (aCons (eVar 6) aNil)))) (aCons (eVar 3) aNil))))) aNil))))
 sNil) = C
  have fin : ∀ (w' : Str) (S3 : Sto), Wd w' → Dx [] S0 S3 → S3[nE]? = some (.dic kvs) → S3[nW]? = some (.lst (sts ws)) → Ws K (C [some stD, some (.tup T), some (.cel nE), some (.cel nW), none, some (.cel (S.length + 1)), some (Sx w')] S3) := fun w' S3 hw' x3 hE3 hw3 => by
    subst hC
    have on := o.put w w' (by omega)
    have wi := sp_with (j := m + 1) (by omega) x3.clo (w := w) (v := Sx w') hE3 (by omega) (lo_dic on.noC)
    have hdl := setK_len kvs (.inr w) (Sx w')
    generalize setK kvs (.inr w) (Sx w') = K1 at on wi hdl
    have x4 : Dx [] S0 (S3 ++ [Cell.dic K1]) := x3.push (lo_dic on.noC)
    have g4 : (S3 ++ [Cell.dic K1])[S3.length]? = some (.dic K1) := new_at
    have hw4 : (S3 ++ [Cell.dic K1])[nW]? = some (.lst (sts ws)) := get_app hw3
    generalize S3 ++ [Cell.dic K1] = S4 at wi x4 g4 hw4
    generalize S3.length = n4 at wi g4
    refine w_ret (P := fun d S' => (∃ e, d = .tup (L h :: Sx w' :: (mid ++ [e])) ∧ ChS s e) ∧ Dx [] S0 S') rfl ?_ ?_
    · have a1 := dAdd_tup (xs := [L h, Sx w']) (ys := mid) (S := S3) (small_line (by simp; omega))
      simp only [List.cons_append, List.nil_append] at a1
      simp [t0, t1, tl, szT, tc, a1, wi]
      refine (ih x4.here g4 on (fun x hx => ?_) (by omega) hw4).use ?_
      · unfold upd1
        split
        · exact hw'
        · exact hf x hx
      rintro e S5 ⟨he, d5⟩
      have a2 := dAdd_tup (xs := L h :: Sx w' :: mid) (ys := [e]) (S := S5) (small_line (by simp; omega))
      simp only [List.cons_append] at a2
      simp [a2]
      exact ⟨he, x4.step d5⟩
    · rintro _ S' ⟨⟨e, rfl, he⟩, hx'⟩
      exact hK w' e S' hw' he hx'
  refine w_if (PB := fun _ S3 => Dr [] S2 S3) ?_ (fun S3 d3 => ?_) fun S3 d3 => w_nil (fin w' S3 hw' (x2.step d3) (d3.dic hE2) (d3.getm hw2 hnW))
  · by_cases hmem : w' ∈ ys
    · simp [dIn_strs q2, hmem]
      exact Dr.refl x2.stc x2.clo
    · simp [dIn_strs q2, hmem]
      refine (sp_pick (j := m + 1) (by omega) x2.here0 (L := 4) (by decide) (by decide)).use ?_
      rintro _ S3 ⟨u, rfl, hu, d3⟩
      simp
      exact d3
  · simp only [sSeq_assoc, sSeq_nilL]
    refine w_set (by simp) (sp_new (j := m + 1) (by omega) d3.here0 (n := S.length + 1) (xs := ys) (d3.getm q2 (by omega)) (by omega)) ?_
    rintro _ S4 ⟨⟨w'', rfl, hw''⟩, d4⟩
    simp only [List.set_cons_succ, List.set_cons_zero]
    exact fin w'' S4 hw'' ((x2.step d3).step d4) (d4.dic (d3.dic hE2)) (d4.getm (d3.getm hw2 hnW) hnW)
theorem sp_renamed {nW : Nat} {ws : List Str} (hn0 : 1 ≤ ws.length) (hn : ws.length ≤ 1000) (hW : ∀ w ∈ ws, Wd w) (hnW : nW ≠ 1) {s : Se} (hs : WS Wd s) : ∀ {j : Nat}, htS s + 8 ≤ j → nlS s ≤ 90000 → ∀ {S : Sto} {kvs : List (Key × D)} {f : Str → Str} {nE : Nat}, Dx [] S S → S[nE]? = some (.dic kvs) → EnvE kvs f → (∀ w, Wd w → Wd (f w)) → kvs.length + htS s < 900 → S[nW]? = some (.lst (sts ws)) →
    Wp nX (fun d S' => ChS s d ∧ Dr [] S S') ((sem j)._law_renamed [stD, encS s, .cel nE, .cel nW] S) := by
  induction hs with
  | is a b ha hb =>
    intro j hj hnl S kvs f nE h g o hf hkl hw
    obtain ⟨k, rfl⟩ := lv2 (by omega : 2 ≤ j)
    have e1 : htS (.is a b) = max (K06.ht a) (K06.ht b) + 1 := rfl
    rw [e__law_renamed]
    refine def_drk (P := ChS _) (n := 4) (ds := [_, _, _, _]) rfl h (fun d hd => hd.noC _) fun K hK => ?_
    have r1 := sp_filled (fun _ h => strOk_wd h) ha (j := k + 1) (by omega) h.clo g o
    have r2 := sp_filled (fun _ h => strOk_wd h) hb (j := k + 1) (by omega) h.clo g o
    simp [b__law_renamed, encS, r1, r2]
    exact hK _ _ ⟨.is (fill f a) (fill f b), rfl, .is _ _ (we_fill hf (fun _ h => h) ha) (we_fill hf (fun _ h => h) hb), by show max (K06.ht (fill f a)) (K06.ht (fill f b)) + 1 = _; rw [ht_fill, ht_fill]; rfl, by show nl (fill f a) + nl (fill f b) + 1 = _; rw [nl_fill, nl_fill]; rfl⟩ h
  | two h s t hh hs ht ih1 ih2 =>
    intro j hj hnl S kvs f nE hx g o hf hkl hw
    obtain ⟨k, rfl⟩ := lv2 (by omega : 2 ≤ j)
    have e1 : htS (.two h s t) = max (htS s) (htS t) + 1 := rfl
    have e2 : nlS (.two h s t) = nlS s + nlS t + 1 := rfl
    rw [e__law_renamed]
    refine def_drk (P := ChS _) (n := 4) (ds := [_, _, _, _]) rfl hx (fun d hd => hd.noC _) fun K hK => ?_
    simp only [List.map_cons, List.map_nil, List.length_cons, List.length_nil, Nat.reduceAdd, Nat.reduceSub, List.replicate, List.cons_append, List.nil_append]
    unfold b__law_renamed
    rw [show encS (.two h s t) = .tup [L h, encS s, encS t] from rfl]
    have x1 : Dx [] S (S ++ [Cell.lst [L "and", L "if"]]) := hx.push rfl
    have g1 : (S ++ [Cell.lst [L "and", L "if"]])[nE]? = some (.dic kvs) := get_app g
    have hw1 : (S ++ [Cell.lst [L "and", L "if"]])[nW]? = some (.lst (sts ws)) := get_app hw
    refine w_iff (S' := S) (by rcases hh with rfl | rfl <;> simp) (w_nil ?_)
    refine w_ift (S' := S ++ [Cell.lst [L "and", L "if"]]) (by rcases hh with rfl | rfl <;> simp) ?_
    simp only [sSeq_assoc, sSeq_nilL]
    generalize S ++ [Cell.lst [L "and", L "if"]] = S1 at x1 g1 hw1 ⊢
    refine w_set (by simp) (ih1 (j := k + 1) (by omega) (by omega) x1.here0 g1 o hf (by omega) hw1) ?_
    rintro _ S2 ⟨⟨s', rfl, s1, s2, s3⟩, d2⟩
    simp only [List.set_cons_succ, List.set_cons_zero]
    refine w_ret (P := fun d S' => ChS (.two h s t) d ∧ Dx [] S S') rfl ?_ fun d S' ⟨a, b⟩ => hK _ _ a b
    simp
    refine (ih2 (j := k + 1) (by omega) (by omega) d2.here0 (d2.dic g1) o hf (by omega) (d2.getm hw1 hnW)).use ?_
    rintro _ S3 ⟨⟨t', rfl, t1, t2, t3⟩, d3⟩
    exact ⟨⟨.two h s' t', rfl, .two h s' t' hh s1 t1, by show max (htS s') (htS t') + 1 = max (htS s) (htS t) + 1; rw [s2, t2], by show nlS s' + nlS t' + 1 = nlS s + nlS t + 1; rw [s3, t3]⟩, (x1.step d2).step d3⟩
  | b3 h w s hh hwd hs ih =>
    intro j hj hnl S kvs f nE hx g o hf hkl hw
    obtain ⟨k, rfl⟩ := lv2 (by omega : 2 ≤ j)
    have e1 : htS (.b3 h w s) = htS s + 1 := rfl
    have e2 : nlS (.b3 h w s) = nlS s + 2 := rfl
    rw [e__law_renamed]
    refine def_drk (P := ChS _) (n := 4) (ds := [_, _, _, _]) rfl hx (fun d hd => hd.noC _) fun K hK => ?_
    simp only [List.map_cons, List.map_nil, List.length_cons, List.length_nil, Nat.reduceAdd, Nat.reduceSub, List.replicate, List.cons_append, List.nil_append]
    unfold b__law_renamed
    rw [show encS (.b3 h w s) = .tup [L h, Sx w, encS s] from rfl]
    have x1 : Dx [] S (S ++ [Cell.lst [L "and", L "if"]]) := hx.push rfl
    have g1 : (S ++ [Cell.lst [L "and", L "if"]])[nE]? = some (.dic kvs) := get_app g
    have hw1 : (S ++ [Cell.lst [L "and", L "if"]])[nW]? = some (.lst (sts ws)) := get_app hw
    refine w_iff (S' := S) (by rcases hh with rfl | rfl | rfl | rfl <;> simp) (w_nil ?_)
    refine w_iff (S' := S ++ [Cell.lst [L "and", L "if"]]) (by rcases hh with rfl | rfl | rfl | rfl <;> simp) (w_nil ?_)
    exact ren_bind (h := h) (mid := []) (s := s) (w := w) x1 g1 o hf (by omega) hw1 hn0 hn hW hnW hwd hs (by omega) (by omega) (by simp) (by simp) (by simp) (by simp) (by simp) rfl (fun a b c d e f => ih (by omega) (by omega) a b c d e f) fun w' d S' hw' ⟨s', hd, s1, s2, s3⟩ hx' => hK _ _ ⟨.b3 h w' s', by rw [hd]; rfl, .b3 h w' s' hh hw' s1, by show htS s' + 1 = htS s + 1; rw [s2], by show nlS s' + 2 = nlS s + 2; rw [s3]⟩ hx'
  | b4 h w n s hh hwd hs ih =>
    intro j hj hnl S kvs f nE hx g o hf hkl hw
    obtain ⟨k, rfl⟩ := lv2 (by omega : 2 ≤ j)
    have e1 : htS (.b4 h w n s) = htS s + 1 := rfl
    have e2 : nlS (.b4 h w n s) = nlS s + 3 := rfl
    rw [e__law_renamed]
    refine def_drk (P := ChS _) (n := 4) (ds := [_, _, _, _]) rfl hx (fun d hd => hd.noC _) fun K hK => ?_
    simp only [List.map_cons, List.map_nil, List.length_cons, List.length_nil, Nat.reduceAdd, Nat.reduceSub, List.replicate, List.cons_append, List.nil_append]
    unfold b__law_renamed
    rw [show encS (.b4 h w n s) = .tup [L h, Sx w, I n, encS s] from rfl]
    have x1 : Dx [] S (S ++ [Cell.lst [L "and", L "if"]]) := hx.push rfl
    have g1 : (S ++ [Cell.lst [L "and", L "if"]])[nE]? = some (.dic kvs) := get_app g
    have hw1 : (S ++ [Cell.lst [L "and", L "if"]])[nW]? = some (.lst (sts ws)) := get_app hw
    refine w_iff (S' := S) (by rcases hh with rfl | rfl <;> simp) (w_nil ?_)
    refine w_iff (S' := S ++ [Cell.lst [L "and", L "if"]]) (by rcases hh with rfl | rfl <;> simp) (w_nil ?_)
    exact ren_bind (h := h) (mid := [I n]) (s := s) (w := w) x1 g1 o hf (by omega) hw1 hn0 hn hW hnW hwd hs (by omega) (by omega) (by simp) (by simp) (by simp) (by simp) (by simp) rfl (fun a b c d e f => ih (by omega) (by omega) a b c d e f) fun w' d S' hw' ⟨s', hd, s1, s2, s3⟩ hx' => hK _ _ ⟨.b4 h w' n s', by rw [hd]; rfl, .b4 h w' n s' hh hw' s1, by show htS s' + 1 = htS s + 1; rw [s2], by show nlS s' + 3 = nlS s + 3; rw [s3]⟩ hx'
end K06
set_option maxRecDepth 100000
set_option exponentiation.threshold 600
/-! k06: the law's end: all pairs. -/
namespace K06
open PySem PySem.Spec PyProof.Rows L2 G
theorem plain_ok {s : Se} (hs : WS Wd s) : ∀ (f : Str → Str) (d : Nat), (∀ w, Wd w → Ok (f w)) → d + htS s < 64 → WS Ok (plain f d s) ∧ htS (plain f d s) = htS s := by
  have up : ∀ (f : Str → Str) (w : Str) (d : Nat), d < 64 → (∀ w, Wd w → Ok (f w)) → ∀ x, Wd x → Ok (upd1 f w (Bn d) x) := fun f w d hd hf x hx => by
    unfold upd1
    split
    · exact Bn_ok d hd
    · exact hf x hx
  induction hs with
  | is a b ha hb =>
    intro f d hf hd
    exact ⟨.is _ _ (we_fill hf (fun _ h => strOk_wd h) ha) (we_fill hf (fun _ h => strOk_wd h) hb), by show max (K06.ht (fill f a)) (K06.ht (fill f b)) + 1 = _; rw [ht_fill, ht_fill]; rfl⟩
  | two h s t hh hs ht ih1 ih2 =>
    intro f d hf hd
    have e : htS (.two h s t) = max (htS s) (htS t) + 1 := rfl
    obtain ⟨a1, a2⟩ := ih1 f d hf (by omega)
    obtain ⟨b1, b2⟩ := ih2 f d hf (by omega)
    exact ⟨.two h _ _ hh a1 b1, by show max (htS (plain f d s)) (htS (plain f d t)) + 1 = _; rw [a2, b2, e]⟩
  | b3 h w s hh hw hs ih =>
    intro f d hf hd
    have e : htS (.b3 h w s) = htS s + 1 := rfl
    obtain ⟨a1, a2⟩ := ih (upd1 f w (Bn d)) (d + 1) (up f w d (by omega) hf) (by omega)
    exact ⟨.b3 h _ _ hh (Bn_ok d (by omega)) a1, by show htS (plain (upd1 f w (Bn d)) (d + 1) s) + 1 = _; rw [a2, e]⟩
  | b4 h w n s hh hw hs ih =>
    intro f d hf hd
    have e : htS (.b4 h w n s) = htS s + 1 := rfl
    obtain ⟨a1, a2⟩ := ih (upd1 f w (Bn d)) (d + 1) (up f w d (by omega) hf) (by omega)
    exact ⟨.b4 h _ n _ hh (Bn_ok d (by omega)) a1, by show htS (plain (upd1 f w (Bn d)) (d + 1) s) + 1 = _; rw [a2, e]⟩
abbrev plS (s : Se) : D := encS (plain id 0 s)
theorem sem_same (k : Nat) (b : Bool) (S : Sto) : (sem (k + 2))._law_same [.a (.bl b), .a (.bl b)] S = .ok (.a (.bl true)) S :=
  same_refl (F := fun k => (sem (k + 1))._law_same) (fun k => by show (sem (k + 2))._law_same = _; rw [e__law_same]; rfl) k (.a (.bl b)) S (by cases k <;> rfl)
theorem map_at {ss : List Se} (hl : ss.length = 6) {a : Nat} (ha : a < 6) : ∃ s ∈ ss, atI (ss.map encS) (a : Int) = some (encS s) ∧ atI (ss.map plS) (a : Int) = some (plS s) := by
  refine ⟨ss[a], List.getElem_mem _, ?_, ?_⟩
  · rw [G.atI_nat (by simp; omega), List.getElem_map]
  · rw [G.atI_nat (by simp; omega), List.getElem_map]
def PP (ps : List D) : Prop := ∀ p ∈ ps, ∃ a b : Nat, p = .tup [I (a : Int), I (b : Int)] ∧ a < 6 ∧ b < 6
theorem PP.nc {ps : List D} (h : PP ps) : ∀ d ∈ ps, noC d := fun d hd => by
  obtain ⟨a, b, rfl, _⟩ := h d hd
  refine noC_tup fun d hd => ?_
  simp only [List.mem_cons, List.not_mem_nil, or_false] at hd
  rcases hd with rfl | rfl <;> exact noC_atom _
open Classical in
theorem law_pairs {k : Nat} (hk : 50 ≤ k) {S : Sto} (h : Clo S) {n9 : Nat} {ss : List Se} (g9 : S[n9]? = some (.lst (ss.map encS))) (hl : ss.length = 6) (hs : ∀ s ∈ ss, WS Wd s ∧ htS s ≤ 30)
    {e0 e1 e2 e3 e4 e5 e6 e7 e8 : Option D} {K : SR → Prop} (hK : ∀ S', K (.rt (.a (.bl true)) S')) :
    Ws K ((sSeq (sSet 10 (eOfL (aLc (iSeq (eVar 9)) (gN 14) (List.map (fun p => p.2) ([("one", 14)] : List (Str × Nat))) tTrue (eCall (sem (k + 1))._law_plain [] (aCons (eVar 14) (aCons eDict0 (aCons (eC (.a (.int (0)))) aNil)))))))
 (sSeq (sSet 11 (eOfL aNil))
 (sSeq (sFor (iR1 (eCallB dLen (aCons (eVar 9) aNil))) (gN 12)
 (sSeq (sSet 11 (eBin dAdd (eVar 11) (eOfL (aLc (iR1 (eCallB dLen (aCons (eVar 9) aNil))) (gN 4) (List.map (fun p => p.2) ([("k", 4)] : List (Str × Nat))) tTrue (eTup (aCons (eVar 12) (aCons (eVar 4) aNil)))))))
 sNil))
 (sSeq (sFor (iSeq (eBin dAdd (eVar 11) (eOfL (aCons (eTup (aCons (eC (.a (.int (0)))) (aCons (eC (.a (.int (1)))) aNil))) (aCons (eTup (aCons (eC (.a (.int (2)))) (aCons (eC (.a (.int (0)))) aNil))) (aCons (eTup (aCons (eC (.a (.int (3)))) (aCons (eC (.a (.int (1)))) aNil))) aNil)))))) (gN 13)
 (sSeq (sIf (tNot (tOf (eCall (sem (k + 1))._law_same [] (aCons (eCall (sem (k + 1)).are_alike [] (aCons (eBin dIx (eVar 9) (eBin dIx (eVar 13) (eC (.a (.int (0)))))) (aCons (eBin dIx (eVar 9) (eBin dIx (eVar 13) (eC (.a (.int (1)))))) aNil))) (aCons (eBin dEq (eBin dIx (eVar 10) (eBin dIx (eVar 13) (eC (.a (.int (0)))))) (eBin dIx (eVar 10) (eBin dIx (eVar 13) (eC (.a (.int (1))))))) aNil)))))
 (sSeq (sRet (eC (.a (.bl false))))
 sNil)
 sNil)
 sNil))
 (sSeq (sRet (eC (.a (.bl true))))
 sNil))))) [e0, e1, e2, e3, e4, e5, e6, e7, e8, some (.cel n9), none, none, none, none, none] S) := by
  have hmap : (ss.map encS).length = 6 := by rw [List.length_map, hl]
  refine w_set (P := fun d S' => ∃ n10, d = .cel n10 ∧ S'[n10]? = some (.lst (ss.map plS)) ∧ S'[n9]? = some (.lst (ss.map encS)) ∧ Clo S') rfl ?_ ?_
  · rw [eOfL_eq, aLc_eq, iSeq_eq, eVar_eq]
    simp only [List.getElem?_cons_succ, List.getElem?_cons_zero, varR_some, seqR_lst g9, wipeS, List.map_cons, List.map_nil, List.set_cons_succ, List.set_cons_zero]
    rw [Wp_ofLR, lcR_ok (small_line (by omega))]
    refine lcH_wp (fun ys S' => ys = (ss.take ys.length).map plS ∧ S'[n9]? = some (.lst (ss.map encS)) ∧ Clo S') (fun ys S' ⟨_, g, _⟩ => held_lst g) ⟨rfl, g9, h⟩ ?_ ?_
    · rintro d ys S' hd ⟨hy, g, c⟩
      rw [List.getElem?_map] at hd
      obtain ⟨s, hs1, rfl⟩ := Option.map_eq_some_iff.mp hd
      obtain ⟨w1, w2⟩ := hs s (List.mem_of_getElem? hs1)
      have sp := sp_plain (fun _ h => strOk_wd h) w1 (j := k + 1) (by omega) (S := S' ++ [.dic []]) (c.push rfl) (n := S'.length) (d := 0) new_at EnvE.nil (by omega) (by simp; omega)
      have sp' : (sem (k + 1))._law_plain [encS s, .cel S'.length, I 0] (S' ++ [.dic []]) = .ok (plS s) (S' ++ [.dic []]) := sp
      simp only [List.set_cons_succ, List.set_cons_zero]
      simp [sp']
      refine ⟨?_, get_app g, c.push rfl⟩
      rw [List.take_add_one, List.getElem?_map, hs1, ← List.map_take, ← hy]
      rfl
    · rintro ys S' ⟨hy, g, c⟩ hyl
      rw [hyl, hmap, List.take_of_length_le (by omega)] at hy
      refine ⟨S'.length, rfl, by rw [hy]; exact new_at, get_app g, c.push (lo_lst fun d hd => ?_)⟩
      rw [hy] at hd
      obtain ⟨s, hs1, rfl⟩ := List.mem_map.mp hd
      exact ws_nc (plain_ok (hs s hs1).1 id 0 (fun _ h => strOk_wd h) (by have := (hs s hs1).2; omega)).1
  rintro _ S1 ⟨n10, rfl, g10, g9, c1⟩
  simp only [List.set_cons_succ, List.set_cons_zero]
  refine w_sete (d := .cel S1.length) (S' := S1 ++ [.lst []]) (by simp) ?_
  simp only [List.set_cons_succ, List.set_cons_zero]
  have r6 : ∀ S : Sto, iR1R (.ok (I 6) S) = .ok (rangeL 0 6, none) S := fun S => iR1R_nat (n := 6) S (by omega)
  refine w_for (ds := rangeL 0 6) (gg := none) (S1 := S1 ++ [.lst []]) (by
    have dl := dLen_lst (get_app g9 (l := [Cell.lst []]))
    rw [hmap] at dl
    have dl' : dLen [.cel n9] (S1 ++ [Cell.lst []]) = some (I 6, S1 ++ [Cell.lst []]) := dl
    simp [dl', r6]) ?_
  refine forGo_wp (fun i env S' => ∃ m ps y12, env = [e0, e1, e2, e3, e4, e5, e6, e7, e8, some (.cel n9), some (.cel n10), some (.cel m), y12, none, none] ∧ S'[m]? = some (.lst ps) ∧ PP ps ∧ ps.length = 6 * i ∧ S'[n9]? = some (.lst (ss.map encS)) ∧ S'[n10]? = some (.lst (ss.map plS)) ∧ Clo S') ⟨_, [], none, rfl, new_at, fun p hp => (by cases hp), rfl, get_app g9, get_app g10, c1.push rfl⟩ ?_ ?_
  · rintro i d env S' hd ⟨m, ps, y12, rfl, p1, p2, p3, q9, q10, c⟩
    obtain ⟨hi, rfl⟩ := rangeL_get hd
    rw [Int.zero_add]
    have dl := dLen_lst q9
    rw [hmap] at dl
    have dl' : dLen [.cel n9] S' = some (I 6, S') := dl
    generalize hz : (i : Int) = zi
    simp only [List.set_cons_succ, List.set_cons_zero]
    have lc : lcGo none (rangeL 0 6) (gN 4) tTrue (eTup (aCons (eVar 12) (aCons (eVar 4) aNil))) [e0, e1, e2, e3, none, e5, e6, e7, e8, some (.cel n9), some (.cel n10), some (.cel m), some (I zi), none, none] (rangeL 0 6) S' = .ok ((rangeL 0 6).map fun d => .tup [I zi, d]) S' := lcH_map _ (held_none' _ _) _ fun d hd => by simp
    have lr := lcR_at (by rw [rangeL_len]; omega) lc
    have pp : PP ((rangeL 0 6).map fun d => .tup [I zi, d]) := fun p hp => by
      obtain ⟨d, hd, rfl⟩ := List.mem_map.mp hp
      obtain ⟨b, hb, rfl⟩ := List.mem_map.mp hd
      exact ⟨i, b, by rw [hz, Int.zero_add], hi, List.mem_range.mp hb⟩
    have pl : ((rangeL 0 6).map fun d => D.tup [I zi, d]).length = 6 := by rw [List.length_map, rangeL_len]
    generalize ((rangeL 0 6).map fun d => D.tup [I zi, d]) = qs at lr pp pl
    have ad : dAdd (.cel m) (.cel S'.length) (S' ++ [.lst qs]) = some (.cel (S'.length + 1), S' ++ [.lst qs, .lst (ps ++ qs)]) := by
      have := dAdd_lst (S := S' ++ [.lst qs]) (get_app p1) new_at (small_line (by omega))
      simpa using this
    have pa : PP (ps ++ qs) := fun p hp => (List.mem_append.mp hp).elim (p2 p) (pp p)
    refine w_sete (d := .cel (S'.length + 1)) (S' := S' ++ [.lst qs, .lst (ps ++ qs)]) (by simp [dl', r6, wipeS, lr, ad]) ?_
    refine ⟨_, ps ++ qs, _, rfl, by simp, pa, by rw [List.length_append]; omega, get_app q9, get_app q10, ?_⟩
    have := (c.push (c := .lst qs) (lo_lst pp.nc)).push (c := .lst (ps ++ qs)) (lo_lst pa.nc)
    simpa using this
  · rintro env S' ⟨m, ps, y12, rfl, p1, p2, p3, q9, q10, c⟩
    rw [rangeL_len] at p3
    simp only [sqK_nx]
    have ad : dAdd (.cel m) (.cel S'.length) (S' ++ [.lst [.tup [I 0, I 1], .tup [I 2, I 0], .tup [I 3, I 1]]]) = some (.cel (S'.length + 1), S' ++ [.lst [.tup [I 0, I 1], .tup [I 2, I 0], .tup [I 3, I 1]], .lst (ps ++ [.tup [I 0, I 1], .tup [I 2, I 0], .tup [I 3, I 1]])]) := by
      have := dAdd_lst (S := S' ++ [.lst [.tup [I 0, I 1], .tup [I 2, I 0], .tup [I 3, I 1]]]) (get_app p1) new_at (small_line (by simp; omega))
      simpa using this
    have pp : PP [.tup [I 0, I 1], .tup [I 2, I 0], .tup [I 3, I 1]] := fun p hp => by
      simp only [List.mem_cons, List.not_mem_nil, or_false] at hp
      rcases hp with rfl | rfl | rfl
      · exact ⟨0, 1, rfl, by omega, by omega⟩
      · exact ⟨2, 0, rfl, by omega, by omega⟩
      · exact ⟨3, 1, rfl, by omega, by omega⟩
    have pa : PP (ps ++ [.tup [I 0, I 1], .tup [I 2, I 0], .tup [I 3, I 1]]) := fun p hp => (List.mem_append.mp hp).elim (p2 p) (pp p)
    have cc : Clo (S' ++ [Cell.lst [.tup [I 0, I 1], .tup [I 2, I 0], .tup [I 3, I 1]], .lst (ps ++ [.tup [I 0, I 1], .tup [I 2, I 0], .tup [I 3, I 1]])]) := by
      have := (c.push (c := .lst [.tup [I 0, I 1], .tup [I 2, I 0], .tup [I 3, I 1]]) (lo_lst pp.nc)).push (c := .lst (ps ++ [.tup [I 0, I 1], .tup [I 2, I 0], .tup [I 3, I 1]])) (lo_lst pa.nc)
      simpa using this
    have gn : (S' ++ [Cell.lst [.tup [I 0, I 1], .tup [I 2, I 0], .tup [I 3, I 1]], .lst (ps ++ [.tup [I 0, I 1], .tup [I 2, I 0], .tup [I 3, I 1]])])[S'.length + 1]? = some (.lst (ps ++ [.tup [I 0, I 1], .tup [I 2, I 0], .tup [I 3, I 1]])) := by simp
    have h9 : (S' ++ [Cell.lst [.tup [I 0, I 1], .tup [I 2, I 0], .tup [I 3, I 1]], .lst (ps ++ [.tup [I 0, I 1], .tup [I 2, I 0], .tup [I 3, I 1]])])[n9]? = some (.lst (ss.map encS)) := get_app q9
    have h10 : (S' ++ [Cell.lst [.tup [I 0, I 1], .tup [I 2, I 0], .tup [I 3, I 1]], .lst (ps ++ [.tup [I 0, I 1], .tup [I 2, I 0], .tup [I 3, I 1]])])[n10]? = some (.lst (ss.map plS)) := get_app q10
    generalize ps ++ [.tup [I 0, I 1], .tup [I 2, I 0], .tup [I 3, I 1]] = ts at *
    generalize hS2 : S' ++ [Cell.lst [.tup [I 0, I 1], .tup [I 2, I 0], .tup [I 3, I 1]], .lst ts] = S2 at *
    refine w_for (ds := ts) (gg := some (S'.length + 1, .lst ts)) (S1 := S2) (by simp [ad, seqR_lst gn]) ?_
    refine forH_wp (fun i env S'' => ∃ y13, env = [e0, e1, e2, e3, e4, e5, e6, e7, e8, some (.cel n9), some (.cel n10), some (.cel m), y12, y13, none] ∧ S'' = S2) (fun i env S'' ⟨y, _, e⟩ => by rw [e]; exact held_lst gn) ⟨none, rfl, rfl⟩ ?_ ?_
    · rintro i p env S'' hp ⟨y13, rfl, rfl⟩
      obtain ⟨a, b, rfl, ha, hb⟩ := pa p (List.mem_of_getElem? hp)
      obtain ⟨s, hs1, s2, s3⟩ := map_at hl ha
      obtain ⟨t, ht1, t2, t3⟩ := map_at hl hb
      obtain ⟨w1, w2⟩ := hs s hs1
      obtain ⟨v1, v2⟩ := hs t ht1
      generalize (a : Int) = za at s2 s3
      generalize (b : Int) = zb at t2 t3
      simp only [List.set_cons_succ, List.set_cons_zero]
      have al := sp_alike w1 v1 (j := k + 1) (by omega) (by omega) (by omega) cc
      obtain ⟨o1, o2⟩ := plain_ok w1 id 0 (fun _ h => strOk_wd h) (by omega)
      obtain ⟨o3, o4⟩ := plain_ok v1 id 0 (fun _ h => strOk_wd h) (by omega)
      have de := dEq_dat (n := 64) (S := S'') (dat_mono (by omega) (ws_dat (fun _ h => h) o1)) (dat_mono (by omega) (ws_dat (fun _ h => h) o3)) (Nat.le_refl _)
      generalize decide (encS (plain id 0 s) = encS (plain id 0 t)) = bb at al de
      obtain ⟨k', rfl⟩ : ∃ k', k = k' + 1 := ⟨k - 1, by omega⟩
      have sm := sem_same k' bb S''
      refine w_iff (S' := S'') (by simp [dIx_lst h9, dIx_lst h10, s2, s3, t2, t3, al, de, sm]) (w_nil ⟨_, rfl, rfl⟩)
    · rintro env S'' ⟨y13, rfl, rfl⟩
      simp
      exact hK _
end K06
set_option maxRecDepth 100000
set_option exponentiation.threshold 600
/-! k06: the law. -/
namespace K06
open PySem PySem.Spec PyProof.Rows L2 G
theorem ChS.pt {s : Se} {d : D} (h : ChS s d) (h1 : htS s ≤ 30) (h2 : nlS s ≤ 3000) : ∃ s', d = encS s' ∧ WS Wd s' ∧ htS s' ≤ 30 ∧ nlS s' ≤ 3000 := by
  obtain ⟨s', rfl, a, b, c⟩ := h
  exact ⟨s', rfl, a, by omega, by omega⟩
theorem nbS5 : ∀ l ≤ 5, nbS l ≤ 3000 := by decide
theorem PS_.pt {l : Nat} {d : D} (h : PS_ l d) (hl : l ≤ 5) : PT d := by
  obtain ⟨s, rfl, a, b, c⟩ := h
  have := nbS5 l hl
  exact ⟨s, rfl, a, by omega, by omega⟩
theorem law_tail {k : Nat} (hk : 50 ≤ k) {S : Sto} (h : Dx [] S S) {nW nD nF : Nat} {ws : List Str} {kvs fvs : List (Key × D)} (hw : S[nW]? = some (.lst (sts ws))) (hl : ws.length = 5) (hW : ∀ w ∈ ws, Wd w) (hnW : nW ≠ 1) (hD : S[nD]? = some (.dic kvs)) (o : NamE kvs) (hkl : kvs.length ≤ 10) (hF : S[nF]? = some (.dic fvs)) (F : FnE fvs)
    {s : Se} (hs : WS Wd s) (hh : htS s ≤ 30) (hnl : nlS s ≤ 3000) {e0 e4 : Option D} {K : SR → Prop} (hK : ∀ S', K (.rt (.a (.bl true)) S')) {C : SX}
    (hC : ∀ {S : Sto}, Clo S → ∀ {n9 : Nat} {ss : List Se}, S[n9]? = some (.lst (ss.map encS)) → ss.length = 6 → (∀ s ∈ ss, WS Wd s ∧ htS s ≤ 30) → ∀ e0 e1 e2 e3 e4 e5 e6 e7 e8, Ws K (C [e0, e1, e2, e3, e4, e5, e6, e7, e8, some (.cel n9), none, none, none, none, none] S)) :
    Ws K ((sSeq (sSet 7 (eCall (sem (k + 1))._law_renamed [] (aCons (eVar 1) (aCons (eVar 6) (aCons eDict0 (aCons (eVar 2) aNil))))))
 (sSeq (sSet 8 (eCall (sem (k + 1))._law_changed [] (aCons (eVar 1) (aCons (eVar 6) (aCons (eVar 2) aNil)))))
 (sSeq (sSet 9 (eOfL (aCons (eVar 6) (aCons (eVar 7) (aCons (eVar 8) (aCons (eCall (sem (k + 1))._law_changed [] (aCons (eVar 1) (aCons (eVar 7) (aCons (eVar 2) aNil)))) (aCons (eCall (sem (k + 1))._law_renamed [] (aCons (eVar 1) (aCons (eVar 8) (aCons eDict0 (aCons (eVar 2) aNil))))) aNil)))))))
 (sSeq (sDo (eMeth "list" dAppend (eVar 9) (aCons (eCall (sem (k + 1))._law_met [] (aCons (eVar 1) (aCons (eVar 3) (aCons (eVar 5) (aCons (eCall (sem (k + 1))._law_pick [] (aCons (eVar 1) (aCons (eC (.a (.int (3)))) aNil))) (aCons (eOfL (aCons (eC (.a (.int (1)))) aNil)) aNil)))))) aNil)))
 C)))) [e0, some stD, some (.cel nW), some (.cel nD), e4, some (.cel nF), some (encS s), none, none, none, none, none, none, none, none] S) := by
  have ren : ∀ {s : Se} {S : Sto}, WS Wd s → htS s ≤ 30 → nlS s ≤ 3000 → Dx [] S S → S[nW]? = some (.lst (sts ws)) → Wp nX (fun d S' => ChS s d ∧ Dr [] (S ++ [.dic []]) S') ((sem (k + 1))._law_renamed [stD, encS s, .cel S.length, .cel nW] (S ++ [.dic []])) := fun {s S} hs h1 h2 h hw => by
    have x1 : Dx [] S (S ++ [Cell.dic []]) := h.push rfl
    exact sp_renamed (by omega) (by omega) hW hnW hs (j := k + 1) (by omega) (by omega) x1.here0 new_at EnvE.nil (fun _ h => h) (by simp; omega) (get_app hw)
  refine w_set (P := fun d S' => ChS s d ∧ Dx [] S S') rfl ?_ ?_
  · simp
    refine (ren hs hh hnl h hw).use ?_
    rintro d S1 ⟨hd, d1⟩
    exact ⟨hd, (h.push (c := .dic []) rfl).step d1⟩
  rintro d S1 ⟨hd, x1⟩
  obtain ⟨r, rfl, r1, r2, r3⟩ := hd.pt hh hnl
  have hw1 := x1.get hw hnW (by simp)
  simp only [List.set_cons_succ, List.set_cons_zero]
  refine w_set (by simp) (sp_changed (j := k + 1) (by omega) x1.here0 hs hh hnl hw1 (by omega) hW hnW) ?_
  rintro d S2 ⟨hd, d2⟩
  obtain ⟨c, rfl, c1, c2, c3⟩ := hd.pt hh hnl
  have x2 := x1.step d2
  have hw2 := x2.get hw hnW (by simp)
  simp only [List.set_cons_succ, List.set_cons_zero]
  refine w_set (P := fun d S' => ∃ (n9 : Nat) (ss : List Se), d = .cel n9 ∧ S'[n9]? = some (.lst (ss.map encS)) ∧ ss.length = 5 ∧ (∀ s ∈ ss, WS Wd s ∧ htS s ≤ 30) ∧ S.length ≤ n9 ∧ Dx [] S S') rfl ?_ ?_
  · simp
    refine (sp_changed (j := k + 1) (by omega) x2.here0 r1 r2 r3 hw2 (by omega) hW hnW).use ?_
    rintro d S3 ⟨hd, d3⟩
    obtain ⟨t, rfl, t1, t2, t3⟩ := hd.pt r2 r3
    have x3 := x2.step d3
    refine (ren c1 c2 c3 x3.here0 (x3.get hw hnW (by simp))).use ?_
    rintro d S4 ⟨hd, d4⟩
    obtain ⟨u, rfl, u1, u2, u3⟩ := hd.pt c2 c3
    have x4 := (x3.push (c := .dic []) rfl).step d4
    have hnc : ∀ d ∈ [encS s, encS r, encS c, encS t, encS u], noC d := fun d hd => by
      simp only [List.mem_cons, List.not_mem_nil, or_false] at hd
      rcases hd with rfl | rfl | rfl | rfl | rfl
      · exact ws_nc hs
      · exact ws_nc r1
      · exact ws_nc c1
      · exact ws_nc t1
      · exact ws_nc u1
    have hx4 := x4.len
    refine ⟨[s, r, c, t, u], by simp, rfl, fun x hx => ?_, hx4, x4.push (lo_lst hnc)⟩
    simp only [List.mem_cons, List.not_mem_nil, or_false] at hx
    rcases hx with rfl | rfl | rfl | rfl | rfl
    · exact ⟨hs, hh⟩
    · exact ⟨r1, r2⟩
    · exact ⟨c1, c2⟩
    · exact ⟨t1, t2⟩
    · exact ⟨u1, u2⟩
  rintro _ S5 ⟨n9, ss, rfl, g5, ss5, hss, hn9, x5⟩
  simp only [List.set_cons_succ, List.set_cons_zero]
  have hS2 := h.stc.lt
  refine w_do (P := fun _ S' => ∃ ss : List Se, S'[n9]? = some (.lst (ss.map encS)) ∧ ss.length = 6 ∧ (∀ s ∈ ss, WS Wd s ∧ htS s ≤ 30) ∧ Clo S') rfl ?_ ?_
  · simp [isTy_lst g5]
    refine (sp_pick (j := k + 1) (by omega) x5.here0 (L := 3) (by decide) (by decide)).use ?_
    rintro _ S6 ⟨v, rfl, hv, d6⟩
    have x6 := x5.step d6
    have g6 := d6.getm g5 (by omega)
    have hD6 := x6.dic hD
    have hF6 := x6.dic hF
    have x7 : Dx [S6.length] (S6 ++ [Cell.lst [I 1]]) (S6 ++ [Cell.lst [I 1]]) := (x6.here0.push (c := .lst [I 1]) rfl).here0.more _
    refine (sp_met v (j := k + 1) (by omega) x7 (get_app hD6) o (by omega) (get_app hF6) F new_at (by have := x6.len; omega)).use ?_
    rintro d S8 ⟨⟨hd, _⟩, d8⟩
    obtain ⟨m, rfl, m1, m2, m3⟩ := hd.pt (by omega)
    have g8 := d8.get (get_app g6 (l := [.lst [I 1]])) (by omega) (by have := get_lt g6; simp; omega)
    have ap := dAppend_lst (d := encS m) g8 (small_line (by simp; omega))
    simp [ap]
    have nc : ∀ d ∈ (ss ++ [m]).map encS, noC d := fun d hd => by
      obtain ⟨x, hx, rfl⟩ := List.mem_map.mp hd
      rcases List.mem_append.mp hx with hx | hx
      · exact ws_nc (hss x hx).1
      · rw [List.mem_singleton.mp hx]; exact ws_nc m1
    refine ⟨ss ++ [m], ?_, by simp [ss5], fun x hx => ?_, ?_⟩
    · rw [List.getElem?_set_self (get_lt g8), List.map_append]
      rfl
    · rcases List.mem_append.mp hx with hx | hx
      · exact hss x hx
      · rw [List.mem_singleton.mp hx]; exact ⟨m1, m2⟩
    · refine d8.clo.set ?_
      have := lo_lst (n := S8.length) nc
      rw [List.map_append] at this
      exact this
  · rintro _ S8 ⟨ss, g8, l8, hs8, c8⟩
    exact hC c8 g8 l8 hs8 _ _ _ _ _ _ _ _ _
end K06
set_option maxRecDepth 100000
set_option exponentiation.threshold 600
/-! k06: the law holds. -/
namespace K06
open PySem PySem.Spec PyProof.Rows L2 G
/-- the words -/
def NW (d : D) (S : Sto) : Prop := ∃ n ws, d = .cel n ∧ S[n]? = some (.lst (sts ws)) ∧ ws.length = 5 ∧ (∀ w ∈ ws, Wd w) ∧ 2 ≤ n ∧ Dx [] S S
theorem NamE.put0 {kvs : List (Key × D)} (o : kvs = [] ∨ NamE kvs) {w : Str} (hw : Wd w) {v : Nat} (hv : v ≤ 3) (hl : kvs.length < 900) : NamE (setK kvs (.inr w) (I (v : Int))) := by
  rcases o with rfl | o
  · refine ⟨⟨[w], rfl, fun x hx => by rw [List.mem_singleton.mp hx]; exact hw⟩, fun kv hk => ?_, by show 0 < 1; decide, by show 1 ≤ 900; decide⟩
    rw [List.mem_singleton.mp hk]
    exact ⟨v, rfl, hv⟩
  · exact o.put hw hv hl
theorem fnE_two {a b : Str} (ha : Wd a) (hb : Wd b) : FnE (foldK [] [(.inr a, fval), (.inr b, fval)]) := by
  have e : foldK [] [((.inr a : Key), fval), (.inr b, fval)] = setK (setK [] (.inr a) fval) (.inr b) fval := rfl
  rw [e]
  obtain ⟨k1, h1, p1⟩ := keyStrs_set (kvs := []) (ks := []) (P := Wd) (w := a) (d := fval) rfl (fun _ h => by cases h) ha
  obtain ⟨k2, h2, p2⟩ := keyStrs_set (P := Wd) (w := b) (d := fval) h1 p1 hb
  refine ⟨k2, h2, p2, fun kv hk => ?_, ?_⟩
  · rcases mem_setK hk with hk | hk
    · rcases mem_setK hk with hk | hk
      · cases hk
      · rw [hk]
    · rw [hk]
  · have l1 := setK_len ([] : List (Key × D)) (.inr a) fval
    have l2 := setK_len (setK ([] : List (Key × D)) (.inr a) fval) (.inr b) fval
    simp only [List.length_nil] at l1
    omega
theorem fval_nc : noC fval := noC_tup fun d hd => by
  simp only [List.mem_cons, List.not_mem_nil, or_false] at hd
  rcases hd with rfl | rfl
  · refine noC_tup fun d hd => ?_
    rw [List.mem_singleton.mp hd]
    exact noC_atom _
  · exact noC_atom _
theorem law_k {k : Nat} (hk : 50 ≤ k) (ns : List Int) (hns : ns.length ≤ 63) : defSem 1 15 (b_law (sem (k + 1)) (sem k)) [.ils (ilist ns)] [] = .ok (.a (.bl true)) [] := by
  refine def_det (n := 1) (ds := [_]) rfl Clo.nil rfl ?_
  simp only [List.map_cons, List.map_nil, List.length_cons, List.length_nil, Nat.reduceAdd, Nat.reduceSub, List.replicate, List.cons_append, List.nil_append]
  unfold b_law
  have hK : ∀ S', (RtP fun d' S' => d' = D.a (.bl true) ∧ Fix [] S') (.rt (.a (.bl true)) S') := fun S' => ⟨rfl, Nat.zero_le _, fun i hi => absurd hi (Nat.not_lt_zero i)⟩
  generalize (RtP fun d' S' => d' = D.a (.bl true) ∧ Fix [] S') = K at hK ⊢
  obtain ⟨S1, e1, x1, l1⟩ := start_dr ns hns
  have e1' : (sem (k + 1))._law_start [.ils (ilist ns)] [] = .ok stD S1 := by
    obtain ⟨k', rfl⟩ : ∃ k', k = k' + 1 := ⟨k - 1, by omega⟩
    rw [e__law_start]
    exact e1
  generalize D.ils (ilist ns) = sc at e1' ⊢
  refine w_sete (d := stD) (S' := S1) (by simp [e1']) ?_
  simp only [List.set_cons_succ, List.set_cons_zero]
  refine w_set (P := NW) rfl ?_ ?_
  · simp
    have x2 : Dx [] S1 (S1 ++ [Cell.lst []]) := x1.push rfl
    refine (sp_names (j := k + 1) (by omega) x2.here0 (n := S1.length) (many := 5) new_at (by omega) (by omega)).use ?_
    rintro d S' ⟨c, S2, rfl, rfl, ⟨ws, rfl, h5, hw⟩, hlo, d2⟩
    obtain ⟨y1, y2⟩ := d2.new hlo
    exact ⟨_, ws, rfl, y2, h5, hw, by simp; omega, y1.here0⟩
  rintro _ S2 ⟨nW, ws, rfl, hw, h5, hW, hn, x2⟩
  have hS2 := x2.stc.lt
  simp only [List.set_cons_succ, List.set_cons_zero]
  refine w_sete (d := .cel S2.length) (S' := S2 ++ [.dic []]) (by simp) ?_
  simp only [List.set_cons_succ, List.set_cons_zero]
  have wat : ∀ i : Nat, i < 5 → ∃ w, Wd w ∧ atI (sts ws) (i : Int) = some (Sx w) := fun i hi => by
    obtain ⟨x, hx, ha⟩ := atI_mem (xs := sts ws) (v := i) (by simp; omega)
    obtain ⟨w, hm, rfl⟩ := List.mem_map.mp hx
    exact ⟨w, hW w hm, ha⟩
  have x3 : Dx [] S2 (S2 ++ [Cell.dic []]) := x2.push rfl
  have r3 : ∀ S : Sto, iR1R (.ok (I 3) S) = .ok (rangeL 0 3, none) S := fun S => iR1R_nat (n := 3) S (by omega)
  have put : ∀ {S' : Sto} {kvs : List (Key × D)} {w : Str} {v : Nat}, S'[S2.length]? = some (.dic kvs) → S'[nW]? = some (.lst (sts ws)) → (kvs = [] ∨ NamE kvs) → Wd w → v ≤ 3 → kvs.length < 9 → Dx [] S2 S' → ∃ S'', dPut (.cel S2.length) (Sx w) (I (v : Int)) S' = some S'' ∧ S''[S2.length]? = some (.dic (setK kvs (.inr w) (I (v : Int)))) ∧ S''[nW]? = some (.lst (sts ws)) ∧ NamE (setK kvs (.inr w) (I (v : Int))) ∧ (setK kvs (.inr w) (I (v : Int))).length ≤ kvs.length + 1 ∧ Dx [] S2 S'' := fun {S' kvs w v} hD hw o hwd hv hl hx => by
    have on := NamE.put0 o hwd hv (by omega)
    exact ⟨_, dPut_dic hD rfl (small_line (by omega)), List.getElem?_set_self (get_lt hD), by rw [List.getElem?_set_ne (by have := get_lt hw; intro e; subst e; rw [hD] at hw; cases hw)]; exact hw, on, setK_len _ _ _, hx.set (Nat.le_refl _) (on.lo _)⟩
  refine w_for (ds := rangeL 0 3) (gg := none) (S1 := S2 ++ [.dic []]) (by simp [r3]) ?_
  refine forGo_wp (fun i env S' => ∃ y4 kvs, env = [some sc, some stD, some (.cel nW), some (.cel S2.length), y4, none, none, none, none, none, none, none, none, none, none] ∧ S'[S2.length]? = some (.dic kvs) ∧ S'[nW]? = some (.lst (sts ws)) ∧ (kvs = [] ∨ NamE kvs) ∧ kvs.length ≤ i ∧ Dx [] S2 S') ⟨none, [], rfl, new_at, get_app hw, .inl rfl, Nat.le_refl _, x3⟩ ?_ ?_
  · rintro i d env S' hd ⟨y4, kvs, rfl, p1, p2, p3, p4, p5⟩
    obtain ⟨hi, rfl⟩ := rangeL_get hd
    rw [Int.zero_add]
    obtain ⟨w, w1, w2⟩ := wat i (by omega)
    generalize (i : Int) = zi at w2
    simp only [List.set_cons_succ, List.set_cons_zero]
    obtain ⟨S'', q1, q2, q3, q4, q5, q6⟩ := put (v := 0) p1 p2 p3 w1 (by omega) (by omega) p5
    exact w_put (v := I 0) (o := .cel S2.length) (i := Sx w) (S1 := S') (S2 := S') (S3 := S') (by simp) (by simp) (by simp [dIx_lst p2, w2]) q1 ⟨_, _, rfl, q2, q3, .inr q4, by omega, q6⟩
  rintro env S' ⟨y4, kvs, rfl, p1, p2, p3, p4, p5⟩
  rw [rangeL_len] at p4
  simp only [sqK_nx]
  obtain ⟨w3, v1, v2⟩ := wat 3 (by omega)
  obtain ⟨S4, q1, q2, q3, q4, q5, q6⟩ := put (v := 1) p1 p2 p3 v1 (by omega) (by omega) p5
  have v2' : atI (sts ws) 3 = some (Sx w3) := v2
  refine w_put (v := I 1) (o := .cel S2.length) (i := Sx w3) (S1 := S') (S2 := S') (S3 := S') (by simp) (by simp) (by simp [dIx_lst p2, v2']) q1 ?_
  generalize setK kvs (.inr w3) (I ((1 : Nat) : Int)) = kv4 at q2 q4 q5
  obtain ⟨_, S5, e5, u, rfl, hu, d5⟩ := (sp_pick (j := k + 1) (by omega) q6.here0 (L := 3) (by decide) (by decide)).get
  obtain ⟨w4, v3, v4⟩ := wat 4 (by omega)
  have v4' : atI (sts ws) 4 = some (Sx w4) := v4
  have hw5 := d5.getm q3 (by omega)
  obtain ⟨S6, t1, t2, t3, t4, t5, t6⟩ := put (v := 1 + u) (d5.dic q2) hw5 (.inr q4) v3 (by omega) (by omega) (q6.step d5)
  have cst : ((1 + u : Nat) : Int) = 1 + (u : Int) := by omega
  rw [cst] at t1 t2 t4 t5
  generalize (u : Int) = zu at e5 t1 t2 t4 t5
  refine w_put (v := I (1 + zu)) (o := .cel S2.length) (i := Sx w4) (S1 := S5) (S2 := S5) (S3 := S5) (by simp [e5]) (by simp) (by simp [dIx_lst hw5, v4']) t1 ?_
  generalize setK kv4 (.inr w4) (I (1 + zu)) = kv6 at t2 t4 t5
  -- functions
  obtain ⟨_, S7, e7, u7, rfl, hu7, d7⟩ := (sp_pick (j := k + 1) (by omega) t6.here0 (L := 5) (by decide) (by decide)).get
  obtain ⟨w7, v7, a7⟩ := wat u7 (by omega)
  have hw7 := d7.getm t3 (by omega)
  have hD7 := d7.dic t2
  have x7 := t6.step d7
  have x7p : Dx [] S2 (S7 ++ [Cell.lst []]) := x7.push rfl
  obtain ⟨_, S8, e8, ⟨w8, rfl, v8⟩, d8⟩ := (sp_new (j := k + 1) (by omega) x7p.here0 (n := S7.length) (xs := []) new_at (by have := x7.len; omega)).get
  have x8 := x7p.step d8
  have hw8 := d8.getm (get_app hw7) (by omega)
  have hD8 := d8.dic (get_app hD7)
  have F := fnE_two v7 v8
  have fnc : ∀ n, Cell.lo n (.dic (foldK [] [(.inr w7, fval), (.inr w8, fval)])) = true := fun n => by
    obtain ⟨_, _, _, h, _⟩ := F
    exact lo_dic fun kv hk => by rw [h kv hk]; exact fval_nc
  generalize (u7 : Int) = z7 at e7 a7
  have dk : ∀ S : Sto, dispR (.ok [(.inr w7, fval), (.inr w8, fval)] S) = .ok (.cel S.length) (S ++ [.dic (foldK [] [(.inr w7, fval), (.inr w8, fval)])]) := fun S => dispR_ok (by simp)
  generalize foldK [] [((.inr w7 : Key), fval), (.inr w8, fval)] = fvs at F fnc dk
  refine w_sete (d := .cel S8.length) (S' := S8 ++ [.dic fvs]) (by simp [e7, dIx_lst hw7, a7, e8, dk]) ?_
  simp only [List.set_cons_succ, List.set_cons_zero]
  have x9 : Dx [] S2 (S8 ++ [Cell.dic fvs]) := x8.push (fnc _)
  have hw9 : (S8 ++ [Cell.dic fvs])[nW]? = some (.lst (sts ws)) := get_app hw8
  have hD9 : (S8 ++ [Cell.dic fvs])[S2.length]? = some (.dic kv6) := get_app hD8
  have hF9 : (S8 ++ [Cell.dic fvs])[S8.length]? = some (.dic fvs) := new_at
  generalize S8 ++ [Cell.dic fvs] = S9 at x9 hw9 hD9 hF9 ⊢
  generalize S8.length = nF at hF9 ⊢
  have fin : ∀ (s : Se) (S : Sto), WS Wd s → htS s ≤ 30 → nlS s ≤ 3000 → Dx [] S9 S → _ := fun s S h1 h2 h3 hx => law_tail hk hx.here0 (hx.get hw9 (by omega) (by simp)) h5 hW (by omega) (hx.dic hD9) t4 (by omega) (hx.dic hF9) F (s := s) h1 h2 h3 (e0 := some sc) (e4 := y4) hK fun c _ _ g l h _ _ _ _ _ _ _ _ _ => law_pairs hk c g l h hK
  refine w_if (PB := fun _ S' => Dr [] S9 S') ?_ (fun S d => ?_) fun S d => ?_
  · simp
    refine (sp_pick (j := k + 1) (by omega) x9.here0 (L := 4) (by decide) (by decide)).use ?_
    rintro _ S3 ⟨u, rfl, hu, d3⟩
    simp
    exact d3
  · simp only [sSeq_assoc, sSeq_nilL]
    refine w_set (by simp) (sp_tower (j := k + 1) (by omega) d.here0 (d.dic hD9) t4 (d.dic hF9) F) ?_
    rintro _ S' ⟨⟨s, rfl, s1, s2, s3⟩, d'⟩
    exact fin s S' s1 s2 s3 (d.trans d').dx
  · simp only [sSeq_assoc, sSeq_nilL]
    refine w_set (P := fun d S' => PT d ∧ Dx [] S9 S') rfl ?_ ?_
    · simp
      refine (sp_pick (j := k + 1) (by omega) d.here0 (L := 6) (by decide) (by decide)).use ?_
      rintro _ S6 ⟨v, rfl, hv, d6⟩
      have y6 := (d.trans d6).dx
      have y7 : Dx [S6.length] (S6 ++ [Cell.lst [I 3]]) (S6 ++ [Cell.lst [I 3]]) := (y6.here0.push (c := .lst [I 3]) rfl).here0.more _
      have l6 := y6.len
      have l9 := x9.len
      refine (sp_met v (j := k + 1) (by omega) y7 (get_app (y6.dic hD9)) t4 (by omega) (get_app (y6.dic hF9)) F new_at (by omega)).use ?_
      rintro d S8 ⟨⟨hd, _⟩, d8⟩
      refine ⟨hd.pt (by omega), ?_⟩
      refine ⟨by rw [d8.len]; simp; omega, fun i hi h1 h2 => ?_, y6.st0, d8.stc, d8.clo⟩
      rw [d8.at_ i h1 (by simp; omega), List.getElem?_append_left (by omega)]
      exact y6.at_ i hi h1 h2
    · rintro _ S' ⟨⟨s, rfl, s1, s2, s3⟩, d'⟩
      exact fin s S' s1 s2 s3 d'
def LV : Nat := 100
theorem law_true : ∀ ns : List Int, ns.length ≤ 63 → (∀ z ∈ ns, Builtin.Int.intBits z ≤ 1048576) → ∃ S', defSem 1 (NN_law).length (b_law (sem (LV + 1)) (sem LV)) [.ils (ns.map fun i => .a (.int i))] [] = .ok (.a (.bl true)) S' := fun ns hl _ => ⟨_, law_k (k := 100) (by decide) ns hl⟩
end K06
set_option maxRecDepth 100000
set_option maxHeartbeats 4000000
namespace K06
open PySem PySem.Spec PyProof.Rows L2 G
theorem facts_mk {w : World} {K : PySem.W.Frag} {h : Heap} {mg : Str → Option Value} (X : K.In h) (G : h.Ns mainGlobals mg)
    {f_law f__law_same f_are_alike f__law_plain f__law_met f__law_pick f__law_renamed f__law_changed f__law_tower f__law_new f__law_names f__law_start f_alike_parts f__law_with f__law_filled f__law_expression f__law_free f__law_fits f__law_put f__law_other_leaf f__law_leaves f_alike_expressions f__law_rebuilt f__law_items f__law_number f__law_words f__law_uses f_inner_end f_items_start f_same_words f__law_uses_in KD_BOUND_KINDS : Addr} {od_law an_law od__law_same an__law_same od_are_alike an_are_alike od__law_plain an__law_plain od__law_met an__law_met od__law_pick an__law_pick od__law_renamed an__law_renamed od__law_changed an__law_changed od__law_tower an__law_tower od__law_new an__law_new od__law_names an__law_names od__law_start an__law_start od_alike_parts an_alike_parts od__law_with an__law_with od__law_filled an__law_filled od__law_expression an__law_expression od__law_free an__law_free od__law_fits an__law_fits od__law_put an__law_put od__law_other_leaf an__law_other_leaf od__law_leaves an__law_leaves od_alike_expressions an_alike_expressions od__law_rebuilt an__law_rebuilt od__law_items an__law_items od__law_number an__law_number od__law_words an__law_words od__law_uses an__law_uses od_inner_end an_inner_end od_items_start an_items_start od_same_words an_same_words od__law_uses_in an__law_uses_in : Option Addr} {sl_law sl__law_same sl_are_alike sl__law_plain sl__law_met sl__law_pick sl__law_renamed sl__law_changed sl__law_tower sl__law_new sl__law_names sl__law_start sl_alike_parts sl__law_with sl__law_filled sl__law_expression sl__law_free sl__law_fits sl__law_put sl__law_other_leaf sl__law_leaves sl_alike_expressions sl__law_rebuilt sl__law_items sl__law_number sl__law_words sl__law_uses sl_inner_end sl_items_start sl_same_words sl__law_uses_in : Array (Option Value)} {oc_law kV_law dc_law pm_law cd_law ct_law oc__law_same kV__law_same dc__law_same pm__law_same cd__law_same ct__law_same oc_are_alike kV_are_alike dc_are_alike pm_are_alike cd_are_alike ct_are_alike oc__law_plain kV__law_plain dc__law_plain pm__law_plain cd__law_plain ct__law_plain oc__law_met kV__law_met dc__law_met pm__law_met cd__law_met ct__law_met oc__law_pick kV__law_pick dc__law_pick pm__law_pick cd__law_pick ct__law_pick oc__law_renamed kV__law_renamed dc__law_renamed pm__law_renamed cd__law_renamed ct__law_renamed oc__law_changed kV__law_changed dc__law_changed pm__law_changed cd__law_changed ct__law_changed oc__law_tower kV__law_tower dc__law_tower pm__law_tower cd__law_tower ct__law_tower oc__law_new kV__law_new dc__law_new pm__law_new cd__law_new ct__law_new oc__law_names kV__law_names dc__law_names pm__law_names cd__law_names ct__law_names oc__law_start kV__law_start dc__law_start pm__law_start cd__law_start ct__law_start oc_alike_parts kV_alike_parts dc_alike_parts pm_alike_parts cd_alike_parts ct_alike_parts oc__law_with kV__law_with dc__law_with pm__law_with cd__law_with ct__law_with oc__law_filled kV__law_filled dc__law_filled pm__law_filled cd__law_filled ct__law_filled oc__law_expression kV__law_expression dc__law_expression pm__law_expression cd__law_expression ct__law_expression oc__law_free kV__law_free dc__law_free pm__law_free cd__law_free ct__law_free oc__law_fits kV__law_fits dc__law_fits pm__law_fits cd__law_fits ct__law_fits oc__law_put kV__law_put dc__law_put pm__law_put cd__law_put ct__law_put oc__law_other_leaf kV__law_other_leaf dc__law_other_leaf pm__law_other_leaf cd__law_other_leaf ct__law_other_leaf oc__law_leaves kV__law_leaves dc__law_leaves pm__law_leaves cd__law_leaves ct__law_leaves oc_alike_expressions kV_alike_expressions dc_alike_expressions pm_alike_expressions cd_alike_expressions ct_alike_expressions oc__law_rebuilt kV__law_rebuilt dc__law_rebuilt pm__law_rebuilt cd__law_rebuilt ct__law_rebuilt oc__law_items kV__law_items dc__law_items pm__law_items cd__law_items ct__law_items oc__law_number kV__law_number dc__law_number pm__law_number cd__law_number ct__law_number oc__law_words kV__law_words dc__law_words pm__law_words cd__law_words ct__law_words oc__law_uses kV__law_uses dc__law_uses pm__law_uses cd__law_uses ct__law_uses oc_inner_end kV_inner_end dc_inner_end pm_inner_end cd_inner_end ct_inner_end oc_items_start kV_items_start dc_items_start pm_items_start cd_items_start ct_items_start oc_same_words kV_same_words dc_same_words pm_same_words cd_same_words ct_same_words oc__law_uses_in kV__law_uses_in dc__law_uses_in pm__law_uses_in cd__law_uses_in ct__law_uses_in : Value}
    {kn_BOUND_KINDS : Nat}
    {ke_BOUND_KINDS : Array DictEntry}
    (a_law : PySem.W.nsIn K mainGlobals "law" = some (some (.ref f_law)))
    (l_law : K.lookup f_law = some ⟨oc_law, od_law, .func (PySem.W.fnOf "law" "law" (defArgs st_law) (defBody st_law) (defScope st_law) .none kV_law dc_law pm_law an_law cd_law ct_law), sl_law⟩)
    (c_law : PySem.W.codeIn K cd_law "law" = true)
    (k_law : PySem.W.keepIn K (.ref f_law) = true)
    (a__law_same : PySem.W.nsIn K mainGlobals "_law_same" = some (some (.ref f__law_same)))
    (l__law_same : K.lookup f__law_same = some ⟨oc__law_same, od__law_same, .func (PySem.W.fnOf "_law_same" "_law_same" (defArgs st__law_same) (defBody st__law_same) (defScope st__law_same) .none kV__law_same dc__law_same pm__law_same an__law_same cd__law_same ct__law_same), sl__law_same⟩)
    (c__law_same : PySem.W.codeIn K cd__law_same "_law_same" = true)
    (k__law_same : PySem.W.keepIn K (.ref f__law_same) = true)
    (a_are_alike : PySem.W.nsIn K mainGlobals "are_alike" = some (some (.ref f_are_alike)))
    (l_are_alike : K.lookup f_are_alike = some ⟨oc_are_alike, od_are_alike, .func (PySem.W.fnOf "are_alike" "are_alike" (defArgs st_are_alike) (defBody st_are_alike) (defScope st_are_alike) .none kV_are_alike dc_are_alike pm_are_alike an_are_alike cd_are_alike ct_are_alike), sl_are_alike⟩)
    (c_are_alike : PySem.W.codeIn K cd_are_alike "are_alike" = true)
    (k_are_alike : PySem.W.keepIn K (.ref f_are_alike) = true)
    (a__law_plain : PySem.W.nsIn K mainGlobals "_law_plain" = some (some (.ref f__law_plain)))
    (l__law_plain : K.lookup f__law_plain = some ⟨oc__law_plain, od__law_plain, .func (PySem.W.fnOf "_law_plain" "_law_plain" (defArgs st__law_plain) (defBody st__law_plain) (defScope st__law_plain) .none kV__law_plain dc__law_plain pm__law_plain an__law_plain cd__law_plain ct__law_plain), sl__law_plain⟩)
    (c__law_plain : PySem.W.codeIn K cd__law_plain "_law_plain" = true)
    (k__law_plain : PySem.W.keepIn K (.ref f__law_plain) = true)
    (a__law_met : PySem.W.nsIn K mainGlobals "_law_met" = some (some (.ref f__law_met)))
    (l__law_met : K.lookup f__law_met = some ⟨oc__law_met, od__law_met, .func (PySem.W.fnOf "_law_met" "_law_met" (defArgs st__law_met) (defBody st__law_met) (defScope st__law_met) .none kV__law_met dc__law_met pm__law_met an__law_met cd__law_met ct__law_met), sl__law_met⟩)
    (c__law_met : PySem.W.codeIn K cd__law_met "_law_met" = true)
    (k__law_met : PySem.W.keepIn K (.ref f__law_met) = true)
    (a__law_pick : PySem.W.nsIn K mainGlobals "_law_pick" = some (some (.ref f__law_pick)))
    (l__law_pick : K.lookup f__law_pick = some ⟨oc__law_pick, od__law_pick, .func (PySem.W.fnOf "_law_pick" "_law_pick" (defArgs st__law_pick) (defBody st__law_pick) (defScope st__law_pick) .none kV__law_pick dc__law_pick pm__law_pick an__law_pick cd__law_pick ct__law_pick), sl__law_pick⟩)
    (c__law_pick : PySem.W.codeIn K cd__law_pick "_law_pick" = true)
    (k__law_pick : PySem.W.keepIn K (.ref f__law_pick) = true)
    (a__law_renamed : PySem.W.nsIn K mainGlobals "_law_renamed" = some (some (.ref f__law_renamed)))
    (l__law_renamed : K.lookup f__law_renamed = some ⟨oc__law_renamed, od__law_renamed, .func (PySem.W.fnOf "_law_renamed" "_law_renamed" (defArgs st__law_renamed) (defBody st__law_renamed) (defScope st__law_renamed) .none kV__law_renamed dc__law_renamed pm__law_renamed an__law_renamed cd__law_renamed ct__law_renamed), sl__law_renamed⟩)
    (c__law_renamed : PySem.W.codeIn K cd__law_renamed "_law_renamed" = true)
    (k__law_renamed : PySem.W.keepIn K (.ref f__law_renamed) = true)
    (a__law_changed : PySem.W.nsIn K mainGlobals "_law_changed" = some (some (.ref f__law_changed)))
    (l__law_changed : K.lookup f__law_changed = some ⟨oc__law_changed, od__law_changed, .func (PySem.W.fnOf "_law_changed" "_law_changed" (defArgs st__law_changed) (defBody st__law_changed) (defScope st__law_changed) .none kV__law_changed dc__law_changed pm__law_changed an__law_changed cd__law_changed ct__law_changed), sl__law_changed⟩)
    (c__law_changed : PySem.W.codeIn K cd__law_changed "_law_changed" = true)
    (k__law_changed : PySem.W.keepIn K (.ref f__law_changed) = true)
    (a__law_tower : PySem.W.nsIn K mainGlobals "_law_tower" = some (some (.ref f__law_tower)))
    (l__law_tower : K.lookup f__law_tower = some ⟨oc__law_tower, od__law_tower, .func (PySem.W.fnOf "_law_tower" "_law_tower" (defArgs st__law_tower) (defBody st__law_tower) (defScope st__law_tower) .none kV__law_tower dc__law_tower pm__law_tower an__law_tower cd__law_tower ct__law_tower), sl__law_tower⟩)
    (c__law_tower : PySem.W.codeIn K cd__law_tower "_law_tower" = true)
    (k__law_tower : PySem.W.keepIn K (.ref f__law_tower) = true)
    (a__law_new : PySem.W.nsIn K mainGlobals "_law_new" = some (some (.ref f__law_new)))
    (l__law_new : K.lookup f__law_new = some ⟨oc__law_new, od__law_new, .func (PySem.W.fnOf "_law_new" "_law_new" (defArgs st__law_new) (defBody st__law_new) (defScope st__law_new) .none kV__law_new dc__law_new pm__law_new an__law_new cd__law_new ct__law_new), sl__law_new⟩)
    (c__law_new : PySem.W.codeIn K cd__law_new "_law_new" = true)
    (k__law_new : PySem.W.keepIn K (.ref f__law_new) = true)
    (a__law_names : PySem.W.nsIn K mainGlobals "_law_names" = some (some (.ref f__law_names)))
    (l__law_names : K.lookup f__law_names = some ⟨oc__law_names, od__law_names, .func (PySem.W.fnOf "_law_names" "_law_names" (defArgs st__law_names) (defBody st__law_names) (defScope st__law_names) .none kV__law_names dc__law_names pm__law_names an__law_names cd__law_names ct__law_names), sl__law_names⟩)
    (c__law_names : PySem.W.codeIn K cd__law_names "_law_names" = true)
    (k__law_names : PySem.W.keepIn K (.ref f__law_names) = true)
    (a__law_start : PySem.W.nsIn K mainGlobals "_law_start" = some (some (.ref f__law_start)))
    (l__law_start : K.lookup f__law_start = some ⟨oc__law_start, od__law_start, .func (PySem.W.fnOf "_law_start" "_law_start" (defArgs st__law_start) (defBody st__law_start) (defScope st__law_start) .none kV__law_start dc__law_start pm__law_start an__law_start cd__law_start ct__law_start), sl__law_start⟩)
    (c__law_start : PySem.W.codeIn K cd__law_start "_law_start" = true)
    (k__law_start : PySem.W.keepIn K (.ref f__law_start) = true)
    (a_alike_parts : PySem.W.nsIn K mainGlobals "alike_parts" = some (some (.ref f_alike_parts)))
    (l_alike_parts : K.lookup f_alike_parts = some ⟨oc_alike_parts, od_alike_parts, .func (PySem.W.fnOf "alike_parts" "alike_parts" (defArgs st_alike_parts) (defBody st_alike_parts) (defScope st_alike_parts) .none kV_alike_parts dc_alike_parts pm_alike_parts an_alike_parts cd_alike_parts ct_alike_parts), sl_alike_parts⟩)
    (c_alike_parts : PySem.W.codeIn K cd_alike_parts "alike_parts" = true)
    (k_alike_parts : PySem.W.keepIn K (.ref f_alike_parts) = true)
    (a__law_with : PySem.W.nsIn K mainGlobals "_law_with" = some (some (.ref f__law_with)))
    (l__law_with : K.lookup f__law_with = some ⟨oc__law_with, od__law_with, .func (PySem.W.fnOf "_law_with" "_law_with" (defArgs st__law_with) (defBody st__law_with) (defScope st__law_with) .none kV__law_with dc__law_with pm__law_with an__law_with cd__law_with ct__law_with), sl__law_with⟩)
    (c__law_with : PySem.W.codeIn K cd__law_with "_law_with" = true)
    (k__law_with : PySem.W.keepIn K (.ref f__law_with) = true)
    (a__law_filled : PySem.W.nsIn K mainGlobals "_law_filled" = some (some (.ref f__law_filled)))
    (l__law_filled : K.lookup f__law_filled = some ⟨oc__law_filled, od__law_filled, .func (PySem.W.fnOf "_law_filled" "_law_filled" (defArgs st__law_filled) (defBody st__law_filled) (defScope st__law_filled) .none kV__law_filled dc__law_filled pm__law_filled an__law_filled cd__law_filled ct__law_filled), sl__law_filled⟩)
    (c__law_filled : PySem.W.codeIn K cd__law_filled "_law_filled" = true)
    (k__law_filled : PySem.W.keepIn K (.ref f__law_filled) = true)
    (a__law_expression : PySem.W.nsIn K mainGlobals "_law_expression" = some (some (.ref f__law_expression)))
    (l__law_expression : K.lookup f__law_expression = some ⟨oc__law_expression, od__law_expression, .func (PySem.W.fnOf "_law_expression" "_law_expression" (defArgs st__law_expression) (defBody st__law_expression) (defScope st__law_expression) .none kV__law_expression dc__law_expression pm__law_expression an__law_expression cd__law_expression ct__law_expression), sl__law_expression⟩)
    (c__law_expression : PySem.W.codeIn K cd__law_expression "_law_expression" = true)
    (k__law_expression : PySem.W.keepIn K (.ref f__law_expression) = true)
    (a__law_free : PySem.W.nsIn K mainGlobals "_law_free" = some (some (.ref f__law_free)))
    (l__law_free : K.lookup f__law_free = some ⟨oc__law_free, od__law_free, .func (PySem.W.fnOf "_law_free" "_law_free" (defArgs st__law_free) (defBody st__law_free) (defScope st__law_free) .none kV__law_free dc__law_free pm__law_free an__law_free cd__law_free ct__law_free), sl__law_free⟩)
    (c__law_free : PySem.W.codeIn K cd__law_free "_law_free" = true)
    (k__law_free : PySem.W.keepIn K (.ref f__law_free) = true)
    (a__law_fits : PySem.W.nsIn K mainGlobals "_law_fits" = some (some (.ref f__law_fits)))
    (l__law_fits : K.lookup f__law_fits = some ⟨oc__law_fits, od__law_fits, .func (PySem.W.fnOf "_law_fits" "_law_fits" (defArgs st__law_fits) (defBody st__law_fits) (defScope st__law_fits) .none kV__law_fits dc__law_fits pm__law_fits an__law_fits cd__law_fits ct__law_fits), sl__law_fits⟩)
    (c__law_fits : PySem.W.codeIn K cd__law_fits "_law_fits" = true)
    (k__law_fits : PySem.W.keepIn K (.ref f__law_fits) = true)
    (a__law_put : PySem.W.nsIn K mainGlobals "_law_put" = some (some (.ref f__law_put)))
    (l__law_put : K.lookup f__law_put = some ⟨oc__law_put, od__law_put, .func (PySem.W.fnOf "_law_put" "_law_put" (defArgs st__law_put) (defBody st__law_put) (defScope st__law_put) .none kV__law_put dc__law_put pm__law_put an__law_put cd__law_put ct__law_put), sl__law_put⟩)
    (c__law_put : PySem.W.codeIn K cd__law_put "_law_put" = true)
    (k__law_put : PySem.W.keepIn K (.ref f__law_put) = true)
    (a__law_other_leaf : PySem.W.nsIn K mainGlobals "_law_other_leaf" = some (some (.ref f__law_other_leaf)))
    (l__law_other_leaf : K.lookup f__law_other_leaf = some ⟨oc__law_other_leaf, od__law_other_leaf, .func (PySem.W.fnOf "_law_other_leaf" "_law_other_leaf" (defArgs st__law_other_leaf) (defBody st__law_other_leaf) (defScope st__law_other_leaf) .none kV__law_other_leaf dc__law_other_leaf pm__law_other_leaf an__law_other_leaf cd__law_other_leaf ct__law_other_leaf), sl__law_other_leaf⟩)
    (c__law_other_leaf : PySem.W.codeIn K cd__law_other_leaf "_law_other_leaf" = true)
    (k__law_other_leaf : PySem.W.keepIn K (.ref f__law_other_leaf) = true)
    (a__law_leaves : PySem.W.nsIn K mainGlobals "_law_leaves" = some (some (.ref f__law_leaves)))
    (l__law_leaves : K.lookup f__law_leaves = some ⟨oc__law_leaves, od__law_leaves, .func (PySem.W.fnOf "_law_leaves" "_law_leaves" (defArgs st__law_leaves) (defBody st__law_leaves) (defScope st__law_leaves) .none kV__law_leaves dc__law_leaves pm__law_leaves an__law_leaves cd__law_leaves ct__law_leaves), sl__law_leaves⟩)
    (c__law_leaves : PySem.W.codeIn K cd__law_leaves "_law_leaves" = true)
    (k__law_leaves : PySem.W.keepIn K (.ref f__law_leaves) = true)
    (a_alike_expressions : PySem.W.nsIn K mainGlobals "alike_expressions" = some (some (.ref f_alike_expressions)))
    (l_alike_expressions : K.lookup f_alike_expressions = some ⟨oc_alike_expressions, od_alike_expressions, .func (PySem.W.fnOf "alike_expressions" "alike_expressions" (defArgs st_alike_expressions) (defBody st_alike_expressions) (defScope st_alike_expressions) .none kV_alike_expressions dc_alike_expressions pm_alike_expressions an_alike_expressions cd_alike_expressions ct_alike_expressions), sl_alike_expressions⟩)
    (c_alike_expressions : PySem.W.codeIn K cd_alike_expressions "alike_expressions" = true)
    (k_alike_expressions : PySem.W.keepIn K (.ref f_alike_expressions) = true)
    (a__law_rebuilt : PySem.W.nsIn K mainGlobals "_law_rebuilt" = some (some (.ref f__law_rebuilt)))
    (l__law_rebuilt : K.lookup f__law_rebuilt = some ⟨oc__law_rebuilt, od__law_rebuilt, .func (PySem.W.fnOf "_law_rebuilt" "_law_rebuilt" (defArgs st__law_rebuilt) (defBody st__law_rebuilt) (defScope st__law_rebuilt) .none kV__law_rebuilt dc__law_rebuilt pm__law_rebuilt an__law_rebuilt cd__law_rebuilt ct__law_rebuilt), sl__law_rebuilt⟩)
    (c__law_rebuilt : PySem.W.codeIn K cd__law_rebuilt "_law_rebuilt" = true)
    (k__law_rebuilt : PySem.W.keepIn K (.ref f__law_rebuilt) = true)
    (a__law_items : PySem.W.nsIn K mainGlobals "_law_items" = some (some (.ref f__law_items)))
    (l__law_items : K.lookup f__law_items = some ⟨oc__law_items, od__law_items, .func (PySem.W.fnOf "_law_items" "_law_items" (defArgs st__law_items) (defBody st__law_items) (defScope st__law_items) .none kV__law_items dc__law_items pm__law_items an__law_items cd__law_items ct__law_items), sl__law_items⟩)
    (c__law_items : PySem.W.codeIn K cd__law_items "_law_items" = true)
    (k__law_items : PySem.W.keepIn K (.ref f__law_items) = true)
    (a__law_number : PySem.W.nsIn K mainGlobals "_law_number" = some (some (.ref f__law_number)))
    (l__law_number : K.lookup f__law_number = some ⟨oc__law_number, od__law_number, .func (PySem.W.fnOf "_law_number" "_law_number" (defArgs st__law_number) (defBody st__law_number) (defScope st__law_number) .none kV__law_number dc__law_number pm__law_number an__law_number cd__law_number ct__law_number), sl__law_number⟩)
    (c__law_number : PySem.W.codeIn K cd__law_number "_law_number" = true)
    (k__law_number : PySem.W.keepIn K (.ref f__law_number) = true)
    (a__law_words : PySem.W.nsIn K mainGlobals "_law_words" = some (some (.ref f__law_words)))
    (l__law_words : K.lookup f__law_words = some ⟨oc__law_words, od__law_words, .func (PySem.W.fnOf "_law_words" "_law_words" (defArgs st__law_words) (defBody st__law_words) (defScope st__law_words) .none kV__law_words dc__law_words pm__law_words an__law_words cd__law_words ct__law_words), sl__law_words⟩)
    (c__law_words : PySem.W.codeIn K cd__law_words "_law_words" = true)
    (k__law_words : PySem.W.keepIn K (.ref f__law_words) = true)
    (a__law_uses : PySem.W.nsIn K mainGlobals "_law_uses" = some (some (.ref f__law_uses)))
    (l__law_uses : K.lookup f__law_uses = some ⟨oc__law_uses, od__law_uses, .func (PySem.W.fnOf "_law_uses" "_law_uses" (defArgs st__law_uses) (defBody st__law_uses) (defScope st__law_uses) .none kV__law_uses dc__law_uses pm__law_uses an__law_uses cd__law_uses ct__law_uses), sl__law_uses⟩)
    (c__law_uses : PySem.W.codeIn K cd__law_uses "_law_uses" = true)
    (k__law_uses : PySem.W.keepIn K (.ref f__law_uses) = true)
    (a_inner_end : PySem.W.nsIn K mainGlobals "inner_end" = some (some (.ref f_inner_end)))
    (l_inner_end : K.lookup f_inner_end = some ⟨oc_inner_end, od_inner_end, .func (PySem.W.fnOf "inner_end" "inner_end" (defArgs st_inner_end) (defBody st_inner_end) (defScope st_inner_end) .none kV_inner_end dc_inner_end pm_inner_end an_inner_end cd_inner_end ct_inner_end), sl_inner_end⟩)
    (c_inner_end : PySem.W.codeIn K cd_inner_end "inner_end" = true)
    (k_inner_end : PySem.W.keepIn K (.ref f_inner_end) = true)
    (a_items_start : PySem.W.nsIn K mainGlobals "items_start" = some (some (.ref f_items_start)))
    (l_items_start : K.lookup f_items_start = some ⟨oc_items_start, od_items_start, .func (PySem.W.fnOf "items_start" "items_start" (defArgs st_items_start) (defBody st_items_start) (defScope st_items_start) .none kV_items_start dc_items_start pm_items_start an_items_start cd_items_start ct_items_start), sl_items_start⟩)
    (c_items_start : PySem.W.codeIn K cd_items_start "items_start" = true)
    (k_items_start : PySem.W.keepIn K (.ref f_items_start) = true)
    (a_same_words : PySem.W.nsIn K mainGlobals "same_words" = some (some (.ref f_same_words)))
    (l_same_words : K.lookup f_same_words = some ⟨oc_same_words, od_same_words, .func (PySem.W.fnOf "same_words" "same_words" (defArgs st_same_words) (defBody st_same_words) (defScope st_same_words) .none kV_same_words dc_same_words pm_same_words an_same_words cd_same_words ct_same_words), sl_same_words⟩)
    (c_same_words : PySem.W.codeIn K cd_same_words "same_words" = true)
    (k_same_words : PySem.W.keepIn K (.ref f_same_words) = true)
    (a__law_uses_in : PySem.W.nsIn K mainGlobals "_law_uses_in" = some (some (.ref f__law_uses_in)))
    (l__law_uses_in : K.lookup f__law_uses_in = some ⟨oc__law_uses_in, od__law_uses_in, .func (PySem.W.fnOf "_law_uses_in" "_law_uses_in" (defArgs st__law_uses_in) (defBody st__law_uses_in) (defScope st__law_uses_in) .none kV__law_uses_in dc__law_uses_in pm__law_uses_in an__law_uses_in cd__law_uses_in ct__law_uses_in), sl__law_uses_in⟩)
    (c__law_uses_in : PySem.W.codeIn K cd__law_uses_in "_law_uses_in" = true)
    (k__law_uses_in : PySem.W.keepIn K (.ref f__law_uses_in) = true)
    (zz_all : PySem.W.nsIn K mainGlobals "all" = some none)
    (zz_bool : PySem.W.nsIn K mainGlobals "bool" = some none)
    (zz_int : PySem.W.nsIn K mainGlobals "int" = some none)
    (zz_isinstance : PySem.W.nsIn K mainGlobals "isinstance" = some none)
    (zz_len : PySem.W.nsIn K mainGlobals "len" = some none)
    (zz_list : PySem.W.nsIn K mainGlobals "list" = some none)
    (zz_max : PySem.W.nsIn K mainGlobals "max" = some none)
    (zz_min : PySem.W.nsIn K mainGlobals "min" = some none)
    (zz_range : PySem.W.nsIn K mainGlobals "range" = some none)
    (zz_sorted : PySem.W.nsIn K mainGlobals "sorted" = some none)
    (zz_str : PySem.W.nsIn K mainGlobals "str" = some none)
    (zz_tuple : PySem.W.nsIn K mainGlobals "tuple" = some none)
    (kg_BOUND_KINDS : PySem.W.nsIn K mainGlobals "BOUND_KINDS" = some (some (.ref KD_BOUND_KINDS)))
    (kl_BOUND_KINDS : K.lookup KD_BOUND_KINDS = some ⟨.type "dict", none, .dict ke_BOUND_KINDS kn_BOUND_KINDS, #[]⟩)
    (kw_BOUND_KINDS : (KD_BOUND_KINDS == sysModules) = false)
    (kt_BOUND_KINDS : PySem.W.KeysLit w.params ke_BOUND_KINDS.toList)
    (ku_BOUND_KINDS : EntsOk [("all", (.int (0))), ("some", (.int (0))), ("allbelow", (.int (0))), ("somebelow", (.int (0))), ("allrow", (.int (1))), ("somerow", (.int (1)))] ke_BOUND_KINDS.toList)
    : Facts w K mg where
  c_law := ⟨_, _, (fun_mk (st := st_law) l_law c_law k_law), PySem.W.mg_of X G a_law, (Fun.binds (fun_mk (st := st_law) l_law c_law k_law) (ps := ["script"]) fun _ _ _ _ _ _ us hl => match us, hl with | [_], _ => rfl)⟩
  c__law_same := ⟨_, _, (fun_mk (st := st__law_same) l__law_same c__law_same k__law_same), PySem.W.mg_of X G a__law_same, (Fun.binds (fun_mk (st := st__law_same) l__law_same c__law_same k__law_same) (ps := ["actual", "due"]) fun _ _ _ _ _ _ us hl => match us, hl with | [_, _], _ => rfl)⟩
  c_are_alike := ⟨_, _, (fun_mk (st := st_are_alike) l_are_alike c_are_alike k_are_alike), PySem.W.mg_of X G a_are_alike, (Fun.binds (fun_mk (st := st_are_alike) l_are_alike c_are_alike k_are_alike) (ps := ["first", "second"]) fun _ _ _ _ _ _ us hl => match us, hl with | [_, _], _ => rfl)⟩
  c__law_plain := ⟨_, _, (fun_mk (st := st__law_plain) l__law_plain c__law_plain k__law_plain), PySem.W.mg_of X G a__law_plain, (Fun.binds (fun_mk (st := st__law_plain) l__law_plain c__law_plain k__law_plain) (ps := ["s", "env", "depth"]) fun _ _ _ _ _ _ us hl => match us, hl with | [_, _, _], _ => rfl)⟩
  c__law_met := ⟨_, _, (fun_mk (st := st__law_met) l__law_met c__law_met k__law_met), PySem.W.mg_of X G a__law_met, (Fun.binds (fun_mk (st := st__law_met) l__law_met c__law_met k__law_met) (ps := ["state", "names", "functions", "levels", "room"]) fun _ _ _ _ _ _ us hl => match us, hl with | [_, _, _, _, _], _ => rfl)⟩
  c__law_pick := ⟨_, _, (fun_mk (st := st__law_pick) l__law_pick c__law_pick k__law_pick), PySem.W.mg_of X G a__law_pick, (Fun.binds (fun_mk (st := st__law_pick) l__law_pick c__law_pick k__law_pick) (ps := ["state", "limit"]) fun _ _ _ _ _ _ us hl => match us, hl with | [_, _], _ => rfl)⟩
  c__law_renamed := ⟨_, _, (fun_mk (st := st__law_renamed) l__law_renamed c__law_renamed k__law_renamed), PySem.W.mg_of X G a__law_renamed, (Fun.binds (fun_mk (st := st__law_renamed) l__law_renamed c__law_renamed k__law_renamed) (ps := ["state", "s", "env", "words"]) fun _ _ _ _ _ _ us hl => match us, hl with | [_, _, _, _], _ => rfl)⟩
  c__law_changed := ⟨_, _, (fun_mk (st := st__law_changed) l__law_changed c__law_changed k__law_changed), PySem.W.mg_of X G a__law_changed, (Fun.binds (fun_mk (st := st__law_changed) l__law_changed c__law_changed k__law_changed) (ps := ["state", "s", "words"]) fun _ _ _ _ _ _ us hl => match us, hl with | [_, _, _], _ => rfl)⟩
  c__law_tower := ⟨_, _, (fun_mk (st := st__law_tower) l__law_tower c__law_tower k__law_tower), PySem.W.mg_of X G a__law_tower, (Fun.binds (fun_mk (st := st__law_tower) l__law_tower c__law_tower k__law_tower) (ps := ["state", "names", "functions"]) fun _ _ _ _ _ _ us hl => match us, hl with | [_, _, _], _ => rfl)⟩
  c__law_new := ⟨_, _, (fun_mk (st := st__law_new) l__law_new c__law_new k__law_new), PySem.W.mg_of X G a__law_new, (Fun.binds (fun_mk (st := st__law_new) l__law_new c__law_new k__law_new) (ps := ["state", "used"]) fun _ _ _ _ _ _ us hl => match us, hl with | [_, _], _ => rfl)⟩
  c__law_names := ⟨_, _, (fun_mk (st := st__law_names) l__law_names c__law_names k__law_names), PySem.W.mg_of X G a__law_names, (Fun.binds (fun_mk (st := st__law_names) l__law_names c__law_names k__law_names) (ps := ["state", "used", "many"]) fun _ _ _ _ _ _ us hl => match us, hl with | [_, _, _], _ => rfl)⟩
  c__law_start := ⟨_, _, (fun_mk (st := st__law_start) l__law_start c__law_start k__law_start), PySem.W.mg_of X G a__law_start, (Fun.binds (fun_mk (st := st__law_start) l__law_start c__law_start k__law_start) (ps := ["script"]) fun _ _ _ _ _ _ us hl => match us, hl with | [_], _ => rfl)⟩
  c_alike_parts := ⟨_, _, (fun_mk (st := st_alike_parts) l_alike_parts c_alike_parts k_alike_parts), PySem.W.mg_of X G a_alike_parts, (Fun.binds (fun_mk (st := st_alike_parts) l_alike_parts c_alike_parts k_alike_parts) (ps := ["first", "second", "ones", "others", "depth"]) fun _ _ _ _ _ _ us hl => match us, hl with | [_, _, _, _, _], _ => rfl)⟩
  c__law_with := ⟨_, _, (fun_mk (st := st__law_with) l__law_with c__law_with k__law_with), PySem.W.mg_of X G a__law_with, (Fun.binds (fun_mk (st := st__law_with) l__law_with c__law_with k__law_with) (ps := ["env", "name", "worth"]) fun _ _ _ _ _ _ us hl => match us, hl with | [_, _, _], _ => rfl)⟩
  c__law_filled := ⟨_, _, (fun_mk (st := st__law_filled) l__law_filled c__law_filled k__law_filled), PySem.W.mg_of X G a__law_filled, (Fun.binds (fun_mk (st := st__law_filled) l__law_filled c__law_filled k__law_filled) (ps := ["e", "env"]) fun _ _ _ _ _ _ us hl => match us, hl with | [_, _], _ => rfl)⟩
  c__law_expression := ⟨_, _, (fun_mk (st := st__law_expression) l__law_expression c__law_expression k__law_expression), PySem.W.mg_of X G a__law_expression, (Fun.binds (fun_mk (st := st__law_expression) l__law_expression c__law_expression k__law_expression) (ps := ["state", "numbers", "rows", "functions", "levels"]) fun _ _ _ _ _ _ us hl => match us, hl with | [_, _, _, _, _], _ => rfl)⟩
  c__law_free := ⟨_, _, (fun_mk (st := st__law_free) l__law_free c__law_free k__law_free), PySem.W.mg_of X G a__law_free, (Fun.binds (fun_mk (st := st__law_free) l__law_free c__law_free k__law_free) (ps := ["s"]) fun _ _ _ _ _ _ us hl => match us, hl with | [_], _ => rfl)⟩
  c__law_fits := ⟨_, _, (fun_mk (st := st__law_fits) l__law_fits c__law_fits k__law_fits), PySem.W.mg_of X G a__law_fits, (Fun.binds (fun_mk (st := st__law_fits) l__law_fits c__law_fits k__law_fits) (ps := ["s"]) fun _ _ _ _ _ _ us hl => match us, hl with | [_], _ => rfl)⟩
  c__law_put := ⟨_, _, (fun_mk (st := st__law_put) l__law_put c__law_put k__law_put), PySem.W.mg_of X G a__law_put, (Fun.binds (fun_mk (st := st__law_put) l__law_put c__law_put k__law_put) (ps := ["term", "path", "part"]) fun _ _ _ _ _ _ us hl => match us, hl with | [_, _, _], _ => rfl)⟩
  c__law_other_leaf := ⟨_, _, (fun_mk (st := st__law_other_leaf) l__law_other_leaf c__law_other_leaf k__law_other_leaf), PySem.W.mg_of X G a__law_other_leaf, (Fun.binds (fun_mk (st := st__law_other_leaf) l__law_other_leaf c__law_other_leaf k__law_other_leaf) (ps := ["state", "leaf", "path", "words"]) fun _ _ _ _ _ _ us hl => match us, hl with | [_, _, _, _], _ => rfl)⟩
  c__law_leaves := ⟨_, _, (fun_mk (st := st__law_leaves) l__law_leaves c__law_leaves k__law_leaves), PySem.W.mg_of X G a__law_leaves, (Fun.binds (fun_mk (st := st__law_leaves) l__law_leaves c__law_leaves k__law_leaves) (ps := ["term", "path"]) fun _ _ _ _ _ _ us hl => match us, hl with | [_, _], _ => rfl)⟩
  c_alike_expressions := ⟨_, _, (fun_mk (st := st_alike_expressions) l_alike_expressions c_alike_expressions k_alike_expressions), PySem.W.mg_of X G a_alike_expressions, (Fun.binds (fun_mk (st := st_alike_expressions) l_alike_expressions c_alike_expressions k_alike_expressions) (ps := ["first", "second", "ones", "others"]) fun _ _ _ _ _ _ us hl => match us, hl with | [_, _, _, _], _ => rfl)⟩
  c__law_rebuilt := ⟨_, _, (fun_mk (st := st__law_rebuilt) l__law_rebuilt c__law_rebuilt k__law_rebuilt), PySem.W.mg_of X G a__law_rebuilt, (Fun.binds (fun_mk (st := st__law_rebuilt) l__law_rebuilt c__law_rebuilt k__law_rebuilt) (ps := ["e", "items"]) fun _ _ _ _ _ _ us hl => match us, hl with | [_, _], _ => rfl)⟩
  c__law_items := ⟨_, _, (fun_mk (st := st__law_items) l__law_items c__law_items k__law_items), PySem.W.mg_of X G a__law_items, (Fun.binds (fun_mk (st := st__law_items) l__law_items c__law_items k__law_items) (ps := ["e"]) fun _ _ _ _ _ _ us hl => match us, hl with | [_], _ => rfl)⟩
  c__law_number := ⟨_, _, (fun_mk (st := st__law_number) l__law_number c__law_number k__law_number), PySem.W.mg_of X G a__law_number, (Fun.binds (fun_mk (st := st__law_number) l__law_number c__law_number k__law_number) (ps := ["state"]) fun _ _ _ _ _ _ us hl => match us, hl with | [_], _ => rfl)⟩
  c__law_words := ⟨_, _, (fun_mk (st := st__law_words) l__law_words c__law_words k__law_words), PySem.W.mg_of X G a__law_words, (Fun.binds (fun_mk (st := st__law_words) l__law_words c__law_words k__law_words) (ps := ["e"]) fun _ _ _ _ _ _ us hl => match us, hl with | [_], _ => rfl)⟩
  c__law_uses := ⟨_, _, (fun_mk (st := st__law_uses) l__law_uses c__law_uses k__law_uses), PySem.W.mg_of X G a__law_uses, (Fun.binds (fun_mk (st := st__law_uses) l__law_uses c__law_uses k__law_uses) (ps := ["s"]) fun _ _ _ _ _ _ us hl => match us, hl with | [_], _ => rfl)⟩
  c_inner_end := ⟨_, _, (fun_mk (st := st_inner_end) l_inner_end c_inner_end k_inner_end), PySem.W.mg_of X G a_inner_end, (Fun.binds (fun_mk (st := st_inner_end) l_inner_end c_inner_end k_inner_end) (ps := ["expression"]) fun _ _ _ _ _ _ us hl => match us, hl with | [_], _ => rfl)⟩
  c_items_start := ⟨_, _, (fun_mk (st := st_items_start) l_items_start c_items_start k_items_start), PySem.W.mg_of X G a_items_start, (Fun.binds (fun_mk (st := st_items_start) l_items_start c_items_start k_items_start) (ps := ["expression"]) fun _ _ _ _ _ _ us hl => match us, hl with | [_], _ => rfl)⟩
  c_same_words := ⟨_, _, (fun_mk (st := st_same_words) l_same_words c_same_words k_same_words), PySem.W.mg_of X G a_same_words, (Fun.binds (fun_mk (st := st_same_words) l_same_words c_same_words k_same_words) (ps := ["first", "second", "ones", "others"]) fun _ _ _ _ _ _ us hl => match us, hl with | [_, _, _, _], _ => rfl)⟩
  c__law_uses_in := ⟨_, _, (fun_mk (st := st__law_uses_in) l__law_uses_in c__law_uses_in k__law_uses_in), PySem.W.mg_of X G a__law_uses_in, (Fun.binds (fun_mk (st := st__law_uses_in) l__law_uses_in c__law_uses_in k__law_uses_in) (ps := ["e"]) fun _ _ _ _ _ _ us hl => match us, hl with | [_], _ => rfl)⟩
  z_all := PySem.W.mg_none_of X G zz_all
  z_bool := PySem.W.mg_none_of X G zz_bool
  z_int := PySem.W.mg_none_of X G zz_int
  z_isinstance := PySem.W.mg_none_of X G zz_isinstance
  z_len := PySem.W.mg_none_of X G zz_len
  z_list := PySem.W.mg_none_of X G zz_list
  z_max := PySem.W.mg_none_of X G zz_max
  z_min := PySem.W.mg_none_of X G zz_min
  z_range := PySem.W.mg_none_of X G zz_range
  z_sorted := PySem.W.mg_none_of X G zz_sorted
  z_str := PySem.W.mg_none_of X G zz_str
  z_tuple := PySem.W.mg_none_of X G zz_tuple
  kd_BOUND_KINDS := ⟨_, _, _, PySem.W.mg_of X G kg_BOUND_KINDS, ⟨kl_BOUND_KINDS, kt_BOUND_KINDS, kw_BOUND_KINDS⟩, ku_BOUND_KINDS⟩
theorem law_mk {P : Program} {w : World} {K : PySem.W.Frag} {mg : Str → Option Value} {fa : Addr} (F : Facts w K mg) (hfa : mg "law" = some (.ref fa)) :
    ∃ fd : FuncData, (∀ (s : Shared) (v : Value), BindsTo s fd ⟨[v], []⟩ [("script", v)]) ∧ ∀ base : Heap, K.In base → base.Ns mainGlobals mg → FnOk P w K mg base (L2.CX P w) (LV + 2) fa fd ["script"] (spLaw K) :=
  law_fn F.c_law hfa sc_law rfl (fun _ _ _ _ _ _ _ => rfl) (fun base => ok_law F (cals_all F (LV + 1)) (cals_all F LV)) law_true
end K06
open PySem PySem.W PyProof.Rows
set_option maxRecDepth 100000 in
set_option maxHeartbeats 0 in
theorem PySem.Challenge.cw_pathschosen_k06_sentences_alike_holds : PySem.Challenge.rw_pathschosen_k06_sentences_alike.Holds := by
  w_on; o_law; k_head; (case hw => w_witness2)
  k_fill
  refine G.law_walk (l := PySem.Challenge.rw_pathschosen_k06_sentences_alike) (k := K06.LV + 2) rfl rfl ⟨rfl, by decide, by decide⟩ (fun w h Y => PySem.W.kIn_of Y) ?F
  case F =>
    intro w mg fa h KX G hmg
    refine K06.law_mk ?FF hmg
    refine' K06.facts_mk KX G ?a_law ?l_law ?c_law ?k_law ?a__law_same ?l__law_same ?c__law_same ?k__law_same ?a_are_alike ?l_are_alike ?c_are_alike ?k_are_alike ?a__law_plain ?l__law_plain ?c__law_plain ?k__law_plain ?a__law_met ?l__law_met ?c__law_met ?k__law_met ?a__law_pick ?l__law_pick ?c__law_pick ?k__law_pick ?a__law_renamed ?l__law_renamed ?c__law_renamed ?k__law_renamed ?a__law_changed ?l__law_changed ?c__law_changed ?k__law_changed ?a__law_tower ?l__law_tower ?c__law_tower ?k__law_tower ?a__law_new ?l__law_new ?c__law_new ?k__law_new ?a__law_names ?l__law_names ?c__law_names ?k__law_names ?a__law_start ?l__law_start ?c__law_start ?k__law_start ?a_alike_parts ?l_alike_parts ?c_alike_parts ?k_alike_parts ?a__law_with ?l__law_with ?c__law_with ?k__law_with ?a__law_filled ?l__law_filled ?c__law_filled ?k__law_filled ?a__law_expression ?l__law_expression ?c__law_expression ?k__law_expression ?a__law_free ?l__law_free ?c__law_free ?k__law_free ?a__law_fits ?l__law_fits ?c__law_fits ?k__law_fits ?a__law_put ?l__law_put ?c__law_put ?k__law_put ?a__law_other_leaf ?l__law_other_leaf ?c__law_other_leaf ?k__law_other_leaf ?a__law_leaves ?l__law_leaves ?c__law_leaves ?k__law_leaves ?a_alike_expressions ?l_alike_expressions ?c_alike_expressions ?k_alike_expressions ?a__law_rebuilt ?l__law_rebuilt ?c__law_rebuilt ?k__law_rebuilt ?a__law_items ?l__law_items ?c__law_items ?k__law_items ?a__law_number ?l__law_number ?c__law_number ?k__law_number ?a__law_words ?l__law_words ?c__law_words ?k__law_words ?a__law_uses ?l__law_uses ?c__law_uses ?k__law_uses ?a_inner_end ?l_inner_end ?c_inner_end ?k_inner_end ?a_items_start ?l_items_start ?c_items_start ?k_items_start ?a_same_words ?l_same_words ?c_same_words ?k_same_words ?a__law_uses_in ?l__law_uses_in ?c__law_uses_in ?k__law_uses_in ?zz_all ?zz_bool ?zz_int ?zz_isinstance ?zz_len ?zz_list ?zz_max ?zz_min ?zz_range ?zz_sorted ?zz_str ?zz_tuple ?kg_BOUND_KINDS ?kl_BOUND_KINDS ?kw_BOUND_KINDS ?kt_BOUND_KINDS ?ku_BOUND_KINDS
    (case a_law => k_is)
    (case l_law => k_is)
    (case c_law => k_is)
    (case k_law => k_is)
    (case a__law_same => k_is)
    (case l__law_same => k_is)
    (case c__law_same => k_is)
    (case k__law_same => k_is)
    (case a_are_alike => k_is)
    (case l_are_alike => k_is)
    (case c_are_alike => k_is)
    (case k_are_alike => k_is)
    (case a__law_plain => k_is)
    (case l__law_plain => k_is)
    (case c__law_plain => k_is)
    (case k__law_plain => k_is)
    (case a__law_met => k_is)
    (case l__law_met => k_is)
    (case c__law_met => k_is)
    (case k__law_met => k_is)
    (case a__law_pick => k_is)
    (case l__law_pick => k_is)
    (case c__law_pick => k_is)
    (case k__law_pick => k_is)
    (case a__law_renamed => k_is)
    (case l__law_renamed => k_is)
    (case c__law_renamed => k_is)
    (case k__law_renamed => k_is)
    (case a__law_changed => k_is)
    (case l__law_changed => k_is)
    (case c__law_changed => k_is)
    (case k__law_changed => k_is)
    (case a__law_tower => k_is)
    (case l__law_tower => k_is)
    (case c__law_tower => k_is)
    (case k__law_tower => k_is)
    (case a__law_new => k_is)
    (case l__law_new => k_is)
    (case c__law_new => k_is)
    (case k__law_new => k_is)
    (case a__law_names => k_is)
    (case l__law_names => k_is)
    (case c__law_names => k_is)
    (case k__law_names => k_is)
    (case a__law_start => k_is)
    (case l__law_start => k_is)
    (case c__law_start => k_is)
    (case k__law_start => k_is)
    (case a_alike_parts => k_is)
    (case l_alike_parts => k_is)
    (case c_alike_parts => k_is)
    (case k_alike_parts => k_is)
    (case a__law_with => k_is)
    (case l__law_with => k_is)
    (case c__law_with => k_is)
    (case k__law_with => k_is)
    (case a__law_filled => k_is)
    (case l__law_filled => k_is)
    (case c__law_filled => k_is)
    (case k__law_filled => k_is)
    (case a__law_expression => k_is)
    (case l__law_expression => k_is)
    (case c__law_expression => k_is)
    (case k__law_expression => k_is)
    (case a__law_free => k_is)
    (case l__law_free => k_is)
    (case c__law_free => k_is)
    (case k__law_free => k_is)
    (case a__law_fits => k_is)
    (case l__law_fits => k_is)
    (case c__law_fits => k_is)
    (case k__law_fits => k_is)
    (case a__law_put => k_is)
    (case l__law_put => k_is)
    (case c__law_put => k_is)
    (case k__law_put => k_is)
    (case a__law_other_leaf => k_is)
    (case l__law_other_leaf => k_is)
    (case c__law_other_leaf => k_is)
    (case k__law_other_leaf => k_is)
    (case a__law_leaves => k_is)
    (case l__law_leaves => k_is)
    (case c__law_leaves => k_is)
    (case k__law_leaves => k_is)
    (case a_alike_expressions => k_is)
    (case l_alike_expressions => k_is)
    (case c_alike_expressions => k_is)
    (case k_alike_expressions => k_is)
    (case a__law_rebuilt => k_is)
    (case l__law_rebuilt => k_is)
    (case c__law_rebuilt => k_is)
    (case k__law_rebuilt => k_is)
    (case a__law_items => k_is)
    (case l__law_items => k_is)
    (case c__law_items => k_is)
    (case k__law_items => k_is)
    (case a__law_number => k_is)
    (case l__law_number => k_is)
    (case c__law_number => k_is)
    (case k__law_number => k_is)
    (case a__law_words => k_is)
    (case l__law_words => k_is)
    (case c__law_words => k_is)
    (case k__law_words => k_is)
    (case a__law_uses => k_is)
    (case l__law_uses => k_is)
    (case c__law_uses => k_is)
    (case k__law_uses => k_is)
    (case a_inner_end => k_is)
    (case l_inner_end => k_is)
    (case c_inner_end => k_is)
    (case k_inner_end => k_is)
    (case a_items_start => k_is)
    (case l_items_start => k_is)
    (case c_items_start => k_is)
    (case k_items_start => k_is)
    (case a_same_words => k_is)
    (case l_same_words => k_is)
    (case c_same_words => k_is)
    (case k_same_words => k_is)
    (case a__law_uses_in => k_is)
    (case l__law_uses_in => k_is)
    (case c__law_uses_in => k_is)
    (case k__law_uses_in => k_is)
    (case zz_all => k_is)
    (case zz_bool => k_is)
    (case zz_int => k_is)
    (case zz_isinstance => k_is)
    (case zz_len => k_is)
    (case zz_list => k_is)
    (case zz_max => k_is)
    (case zz_min => k_is)
    (case zz_range => k_is)
    (case zz_sorted => k_is)
    (case zz_str => k_is)
    (case zz_tuple => k_is)
    (case kg_BOUND_KINDS => k_is)
    (case kl_BOUND_KINDS => k_is)
    (case kw_BOUND_KINDS => decide)
    (case kt_BOUND_KINDS => exact ⟨⟨_, _, rfl, rfl⟩, ⟨⟨_, _, rfl, rfl⟩, ⟨⟨_, _, rfl, rfl⟩, ⟨⟨_, _, rfl, rfl⟩, ⟨⟨_, _, rfl, rfl⟩, ⟨⟨_, _, rfl, rfl⟩, trivial⟩⟩⟩⟩⟩⟩)
    (case ku_BOUND_KINDS => exact (.cons ⟨⟨_, rfl⟩, ⟨_, rfl⟩⟩ (.cons ⟨⟨_, rfl⟩, ⟨_, rfl⟩⟩ (.cons ⟨⟨_, rfl⟩, ⟨_, rfl⟩⟩ (.cons ⟨⟨_, rfl⟩, ⟨_, rfl⟩⟩ (.cons ⟨⟨_, rfl⟩, ⟨_, rfl⟩⟩ (.cons ⟨⟨_, rfl⟩, ⟨_, rfl⟩⟩ Paired.nil)))))))

