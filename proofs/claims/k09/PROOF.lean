import PyProof.Rows.All
import Wide.All
import OpenK.AllK
import Wide.FinOn
import HandS.ForMost
import HandS.NoneIn
import HandS.TupAny
import HandS.IsInst
import HandS.HeadEnd
import HandS.HeadHook1
import HandS.HeadHook2
import HandS.TupLe
import PyProof.TupleOfStr
import PyProof.ListStr
import HandS.More
import HandS.Text
import HandS.Defaults
import HandS.Head0
import HandS.Head1
import HandS.Head2
import HandS.WordsExc
import PySem.Challenge.RW_sparecount_k09_words
set_option Elab.async false
set_option linter.all false
set_option maxRecDepth 100000
set_option maxHeartbeats 4000000
/-! DLa: deep values over the hand layer: tuples and lists that nobody changes are values; what may change stands in a store M. -/
namespace DL
open PySem PySem.Spec PyProof.Rows L2

/-- deep values -/
inductive D where
  | non | bl (b : Bool) | int (i : Int) | str (s : Str) | ref (a : Addr) | ty (n : String)
  | tup (xs : List D) | kt (xs : List D) | rl (xs : List D) | lst (xs : List D) | dk (kvs : List (Key × D)) | dt (kvs : List (List Key × D))

/-- what stands in the store -/
inductive MO where
  | lst (xs : List D) | dk (kvs : List (Key × D)) | dt (kvs : List (List Key × D)) | ins (C : Addr) (fs : List (Str × D)) | hid

abbrev DM := Addr → Option MO
def up (M : DM) (a : Addr) (o : MO) : DM := fun b => if b = a then some o else M b
theorem up_same {M : DM} {a : Addr} {o : MO} : up M a o a = some o := by unfold up; rw [if_pos rfl]
theorem up_ne {M : DM} {a b : Addr} {o : MO} (h : b ≠ a) : up M a o b = M b := by unfold up; rw [if_neg h]
theorem up_up {M : DM} {a : Addr} {o u : MO} : up (up M a o) a u = up M a u := by funext b; unfold up; split <;> rfl
theorem up_comm {M : DM} {a b : Addr} {o u : MO} (h : a ≠ b) : up (up M a o) b u = up (up M b u) a o := by
  funext c; unfold up
  by_cases h1 : c = b
  · subst h1; rw [if_pos rfl, if_neg (Ne.symm h), if_pos rfl]
  · by_cases h2 : c = a
    · subst h2; rw [if_neg h1, if_pos rfl, if_pos rfl]
    · rw [if_neg h1, if_neg h2, if_neg h2, if_neg h1]
/-- the store as the readings see it: without what a comprehension is making -/
def vis (M : DM) : DM := fun a => match M a with | some .hid => none | o => o
theorem up_id {M : DM} {a : Addr} {o : MO} (h : M a = some o) : up M a o = M := by
  funext b; unfold up; split
  · rename_i e; subst e; exact h.symm
  · rfl

section
variable (K : PySem.W.Frag)
/-- a list (tuple, dict) that nobody changes any more: not in the store -/
def KpT (a : Addr) (xs : List V) : Prop := ∃ (o : Obj) (its : Array Value) (n : Nat), K.lookup a = some o ∧ o.cls = .type "tuple" ∧ o.data = .seq its n ∧ its.size ≤ sizeLine ∧ Vals xs its.toList
def FrL (H : Hp) (M : DM) (a : Addr) (vs : List V) : Prop := H a = some (.lst vs) ∧ M a = none
def KpL (a : Addr) (xs : List V) : Prop := ∃ (o : Obj) (its : Array Value) (n : Nat), K.lookup a = some o ∧ o.cls = .type "list" ∧ o.dict = none ∧ o.data = .seq its n ∧ its.size ≤ sizeLine ∧ Vals xs its.toList
def FrR (H : Hp) (M : DM) (a : Addr) (vs : List V) : Prop := (Rd H a (.lst vs) ∧ M a = none) ∨ KpL K a vs
def FrT (H : Hp) (M : DM) (a : Addr) (vs : List V) : Prop := H a = some (.tup vs) ∧ M a = none
mutual
def Is (H : Hp) (M : DM) : D → V → Prop
  | .non, v => v = .non
  | .bl b, v => v = .bl b
  | .int i, v => v = .int i
  | .str s, v => v = .str s
  | .ref a, v => v = .ref a
  | .ty n, v => v = .ty n
  | .tup ds, v => ∃ a vs, v = .ref a ∧ FrT H M a vs ∧ IsL H M ds vs
  | .kt ds, v => ∃ a vs, v = .ref a ∧ KpT K a vs ∧ IsL H M ds vs
  | .rl ds, v => ∃ a vs, v = .ref a ∧ FrR K H M a vs ∧ IsL H M ds vs
  | .lst ds, v => ∃ a vs, v = .ref a ∧ FrL H M a vs ∧ IsL H M ds vs
  | .dk kvs, v => ∃ a vs, v = .ref a ∧ Rd H a (.dK vs) ∧ M a = none ∧ IsK H M kvs vs
  | .dt kvs, v => ∃ a vs, v = .ref a ∧ Rd H a (.dT vs) ∧ M a = none ∧ IsT H M kvs vs
def IsL (H : Hp) (M : DM) : List D → List V → Prop
  | [], vs => vs = []
  | d :: ds, vs => ∃ v r, vs = v :: r ∧ Is H M d v ∧ IsL H M ds r
def IsK (H : Hp) (M : DM) : List (Key × D) → List (Key × V) → Prop
  | [], vs => vs = []
  | (k, d) :: ds, vs => ∃ v r, vs = (k, v) :: r ∧ Is H M d v ∧ IsK H M ds r
def IsT (H : Hp) (M : DM) : List (List Key × D) → List (List Key × V) → Prop
  | [], vs => vs = []
  | (k, d) :: ds, vs => ∃ v r, vs = (k, v) :: r ∧ Is H M d v ∧ IsT H M ds r
end
def IsF (H : Hp) (M : DM) : List (Str × D) → List (Str × V) → Prop
  | [], vs => vs = []
  | (k, d) :: ds, vs => ∃ v r, vs = (k, v) :: r ∧ Is K H M d v ∧ IsF H M ds r
/-- the store's object at a -/
def MOIs (H : Hp) (M : DM) (a : Addr) : MO → Prop
  | .lst ds => ∃ vs, H a = some (.lst vs) ∧ IsL K H M ds vs
  | .dk kvs => ∃ vs, H a = some (.dK vs) ∧ IsK K H M kvs vs
  | .dt kvs => ∃ vs, H a = some (.dT vs) ∧ IsT K H M kvs vs
  | .ins C fs => ∃ dx vs, H a = some (.ins C dx vs) ∧ H dx = some (.own a) ∧ M dx = none ∧ IsF K H M fs vs
  | .hid => ∃ o, H a = some o
def StR (H : Hp) (M : DM) : Prop := ∀ a o, M a = some o → MOIs K H M a o
end

def isDct : HO → Bool
  | .dK _ => true
  | .dT _ => true
  | _ => false
/-- from one state to a later one: what was there and not in the store is as it was (a dict may be locked), what is being made likewise -/
def Go (M M' : DM) (H H' : Hp) : Prop :=
  (∀ a o, H a = some o → M a = none → M' a = none ∧ (H' a = some o ∨ (isDct o = true ∧ ∃ ob, H' a = some (.frz ob o)))) ∧ (∀ a, M a = some .hid → M' a = some .hid ∧ H' a = H a) ∧ ∀ a o, H a = some o → ∃ o', H' a = some o'

section
variable {K : PySem.W.Frag} {M M' M'' : DM} {H H' H'' : Hp}
theorem Rd.ex {a : Addr} {u : HO} (r : Rd H a u) : ∃ o, H a = some o := by
  rcases r with r | ⟨o, r⟩ <;> exact ⟨_, r⟩
theorem Go.refl : Go M M H H := ⟨fun _ _ e h => ⟨h, .inl e⟩, fun _ h => ⟨h, rfl⟩, fun _ o h => ⟨o, h⟩⟩
theorem Go.trans (a : Go M M' H H') (b : Go M' M'' H' H'') : Go M M'' H H'' := by
  refine ⟨fun x o e n => ?_, fun x e => ?_, fun x o e => ?_⟩
  · obtain ⟨n1, h | ⟨hd, ob, h⟩⟩ := a.1 x o e n
    · exact b.1 x o h n1
    · obtain ⟨n2, h2 | ⟨hd2, _⟩⟩ := b.1 x _ h n1
      · exact ⟨n2, .inr ⟨hd, ob, h2⟩⟩
      · exact absurd hd2 Bool.false_ne_true
  · obtain ⟨e1, h1⟩ := a.2.1 x e
    obtain ⟨e2, h2⟩ := b.2.1 x e1
    exact ⟨e2, h2.trans h1⟩
  · obtain ⟨o1, h1⟩ := a.2.2 x o e
    exact b.2.2 x o1 h1
theorem Go.back (g : Go M M' H H') {a : Addr} (n : H' a = none) : H a = none := by
  cases e : H a with
  | none => rfl
  | some o =>
    obtain ⟨o', e'⟩ := g.2.2 a o e
    rw [n] at e'; cases e'
theorem Go.rd (g : Go M M' H H') {a : Addr} {u : HO} (r : Rd H a u) (n : M a = none) : Rd H' a u ∧ M' a = none := by
  rcases r with r | ⟨o, r⟩
  · obtain ⟨n1, h | ⟨_, ob, h⟩⟩ := g.1 a u r n
    · exact ⟨.inl h, n1⟩
    · exact ⟨.inr ⟨ob, h⟩, n1⟩
  · obtain ⟨n1, h | ⟨hd, _⟩⟩ := g.1 a _ r n
    · exact ⟨.inr ⟨o, h⟩, n1⟩
    · exact absurd hd Bool.false_ne_true
theorem Go.off (g : Go M M' H H') {a : Addr} {u : HO} (r : Rd H a u) (n : M a = none) : M' a = none := (g.rd r n).2

/-- kept states: what values lean on -/
structure Kp (K : PySem.W.Frag) (M M' : DM) (H H' : Hp) : Prop where
  l : ∀ a vs, FrL H M a vs → FrL H' M' a vs
  t : ∀ a vs, FrT H M a vs → FrT H' M' a vs
  r : ∀ a vs, FrR K H M a vs → FrR K H' M' a vs
  dk : ∀ a vs, Rd H a (.dK vs) → M a = none → Rd H' a (.dK vs) ∧ M' a = none
  dt : ∀ a vs, Rd H a (.dT vs) → M a = none → Rd H' a (.dT vs) ∧ M' a = none
mutual
theorem Is.mono (k : Kp K M M' H H') : ∀ {d : D} {v : V}, Is K H M d v → Is K H' M' d v
  | .non, _, h => h
  | .bl _, _, h => h
  | .int _, _, h => h
  | .str _, _, h => h
  | .ref _, _, h => h
  | .ty _, _, h => h
  | .tup _, _, h => by
    unfold Is at h ⊢
    obtain ⟨a, vs, e, f, r⟩ := h
    exact ⟨a, vs, e, k.t a vs f, IsL.mono k r⟩
  | .kt _, _, h => by
    unfold Is at h ⊢
    obtain ⟨a, vs, e, f, r⟩ := h
    exact ⟨a, vs, e, f, IsL.mono k r⟩
  | .rl _, _, h => by
    unfold Is at h ⊢
    obtain ⟨a, vs, e, f, r⟩ := h
    exact ⟨a, vs, e, k.r a vs f, IsL.mono k r⟩
  | .lst _, _, h => by
    unfold Is at h ⊢
    obtain ⟨a, vs, e, f, r⟩ := h
    exact ⟨a, vs, e, k.l a vs f, IsL.mono k r⟩
  | .dk _, _, h => by
    unfold Is at h ⊢
    obtain ⟨a, vs, e, f, n, r⟩ := h
    exact ⟨a, vs, e, (k.dk a vs f n).1, (k.dk a vs f n).2, IsK.mono k r⟩
  | .dt _, _, h => by
    unfold Is at h ⊢
    obtain ⟨a, vs, e, f, n, r⟩ := h
    exact ⟨a, vs, e, (k.dt a vs f n).1, (k.dt a vs f n).2, IsT.mono k r⟩
theorem IsL.mono (k : Kp K M M' H H') : ∀ {ds : List D} {vs : List V}, IsL K H M ds vs → IsL K H' M' ds vs
  | [], _, h => h
  | d :: ds, _, h => by
    unfold IsL at h ⊢
    obtain ⟨v, r, e, a, b⟩ := h
    exact ⟨v, r, e, Is.mono k a, IsL.mono k b⟩
theorem IsK.mono (k : Kp K M M' H H') : ∀ {ds : List (Key × D)} {vs : List (Key × V)}, IsK K H M ds vs → IsK K H' M' ds vs
  | [], _, h => h
  | (q, d) :: ds, _, h => by
    unfold IsK at h ⊢
    obtain ⟨v, r, e, a, b⟩ := h
    exact ⟨v, r, e, Is.mono k a, IsK.mono k b⟩
theorem IsT.mono (k : Kp K M M' H H') : ∀ {ds : List (List Key × D)} {vs : List (List Key × V)}, IsT K H M ds vs → IsT K H' M' ds vs
  | [], _, h => h
  | (q, d) :: ds, _, h => by
    unfold IsT at h ⊢
    obtain ⟨v, r, e, a, b⟩ := h
    exact ⟨v, r, e, Is.mono k a, IsT.mono k b⟩
end
theorem IsF.mono (k : Kp K M M' H H') : ∀ {ds : List (Str × D)} {vs : List (Str × V)}, IsF K H M ds vs → IsF K H' M' ds vs
  | [], _, h => h
  | (q, d) :: ds, _, h => by
    unfold IsF at h ⊢
    obtain ⟨v, r, e, a, b⟩ := h
    exact ⟨v, r, e, Is.mono k a, IsF.mono k b⟩
end

section
variable {K : PySem.W.Frag} {M M' M'' : DM} {H H' H'' : Hp} {p : Addr} {o : HO} {mo : MO}
theorem FrL.sq {a : Addr} {vs : List V} (f : FrL H M a vs) : SqL K H a vs := .inl (.inl f.1)
theorem FrR.sq {a : Addr} {vs : List V} (f : FrR K H M a vs) : SqL K H a vs := f.elim (fun q => .inl q.1) .inr
theorem FrT.sq {a : Addr} {vs : List V} (f : FrT H M a vs) : SqT K H a vs := .inl (.inl f.1)
theorem KpT.sq {a : Addr} {vs : List V} (f : KpT K a vs) : SqT K H a vs := .inr f
theorem Go.tp (g : Go M M' H H') {a : Addr} {vs : List V} (f : FrT H M a vs) : FrT H' M' a vs := by
  obtain ⟨n1, h | ⟨hd, _⟩⟩ := g.1 a _ f.1 f.2
  · exact ⟨h, n1⟩
  · exact absurd hd Bool.false_ne_true
theorem Go.ls (g : Go M M' H H') {a : Addr} {vs : List V} (f : FrL H M a vs) : FrL H' M' a vs := by
  obtain ⟨n1, h | ⟨hd, _⟩⟩ := g.1 a _ f.1 f.2
  · exact ⟨h, n1⟩
  · exact absurd hd Bool.false_ne_true
theorem Go.kp (g : Go M M' H H') : Kp K M M' H H' :=
  ⟨fun a vs f => g.ls f, fun a vs f => g.tp f, fun a vs f => f.elim (fun q => .inl (g.rd q.1 q.2)) .inr, fun a vs r n => g.rd r n, fun a vs r n => g.rd r n⟩
/-- a part of a store -/
def Sub (M' M : DM) : Prop := ∀ a o, M' a = some o → M a = some o
theorem Sub.no (s : Sub M' M) {a : Addr} (n : M a = none) : M' a = none := by
  cases e : M' a with
  | none => rfl
  | some o => rw [s a o e] at n; cases n
theorem Sub.refl : Sub M M := fun _ _ h => h
theorem Sub.trans (a : Sub M' M) (b : Sub M'' M') : Sub M'' M := fun x o e => a x o (b x o e)
theorem Sub.kp (s : Sub M' M) : Kp K M M' H H :=
  ⟨fun a vs f => ⟨f.1, s.no f.2⟩, fun a vs f => ⟨f.1, s.no f.2⟩, fun a vs f => f.elim (fun q => .inl ⟨q.1, s.no q.2⟩) .inr, fun a vs r n => ⟨r, s.no n⟩, fun a vs r n => ⟨r, s.no n⟩⟩
theorem Sub.go (s : Sub M' M) (h : ∀ a, M a = some .hid → M' a = some .hid) : Go M M' H H := ⟨fun _ _ e n => ⟨s.no n, .inl e⟩, fun a e => ⟨h a e, rfl⟩, fun _ o h => ⟨o, h⟩⟩
theorem MOIs.ex {a : Addr} (h : MOIs K H M a mo) : ∃ o, H a = some o := by
  cases mo with
  | lst _ => obtain ⟨_, e, _⟩ := h; exact ⟨_, e⟩
  | dk _ => obtain ⟨_, e, _⟩ := h; exact ⟨_, e⟩
  | dt _ => obtain ⟨_, e, _⟩ := h; exact ⟨_, e⟩
  | ins _ _ => obtain ⟨_, _, e, _⟩ := h; exact ⟨_, e⟩
  | hid => exact h
/-- an object of the store, carried over -/
theorem MOIs.carry {a : Addr} (k : Kp K M M' H H') (ow : ∀ b x, H b = some (.own x) → M b = none → H' b = some (.own x) ∧ M' b = none) (e : H' a = H a) (h : MOIs K H M a mo) : MOIs K H' M' a mo := by
  cases mo with
  | lst _ => obtain ⟨vs, q, r⟩ := h; exact ⟨vs, e.trans q, IsL.mono k r⟩
  | dk _ => obtain ⟨vs, q, r⟩ := h; exact ⟨vs, e.trans q, IsK.mono k r⟩
  | dt _ => obtain ⟨vs, q, r⟩ := h; exact ⟨vs, e.trans q, IsT.mono k r⟩
  | ins _ _ => obtain ⟨dx, vs, q, o, n, r⟩ := h; exact ⟨dx, vs, e.trans q, (ow dx _ o n).1, (ow dx _ o n).2, IsF.mono k r⟩
  | hid => obtain ⟨o, q⟩ := h; exact ⟨o, e.trans q⟩
theorem Go.own (g : Go M M' H H') : ∀ b x, H b = some (.own x) → M b = none → H' b = some (.own x) ∧ M' b = none := fun b x e n => by
  obtain ⟨n1, h | ⟨hd, _⟩⟩ := g.1 b _ e n
  · exact ⟨h, n1⟩
  · exact absurd hd Bool.false_ne_true
theorem MOIs.mono {a : Addr} (g : Go M M' H H') (e : H' a = H a) (h : MOIs K H M a mo) : MOIs K H' M' a mo := MOIs.carry g.kp g.own e h
theorem StR.ex (s : StR K H M) {a : Addr} (e : M a = some mo) : ∃ o, H a = some o := MOIs.ex (s a mo e)
theorem StR.no (s : StR K H M) (n : H p = none) : M p = none := by
  cases e : M p with
  | none => rfl
  | some mo =>
    obtain ⟨o, q⟩ := s.ex e
    rw [n] at q; cases q
theorem StR.sub (s : StR K H M) (u : Sub M' M) : StR K H M' := fun a mo e => MOIs.carry u.kp (fun _ _ e n => ⟨e, u.no n⟩) rfl (s a mo (u a mo e))
theorem Rd.upd_new {a : Addr} {u : HO} (n : H p = none) (r : Rd H a u) : Rd (upd H p o) a u := by
  rcases r with r | ⟨o', r⟩
  · exact .inl (by rw [upd_ne (ne_of_none r n)]; exact r)
  · exact .inr ⟨o', by rw [upd_ne (ne_of_none r n)]; exact r⟩
/-- a new object beside the store -/
theorem Go.new (s : StR K H M) (n : H p = none) : Go M M H (upd H p o) :=
  ⟨fun a u e m => ⟨m, .inl (by rw [upd_ne (ne_of_none e n)]; exact e)⟩, fun a e => ⟨e, by
    obtain ⟨u, q⟩ := s.ex e
    exact upd_ne (ne_of_none q n)⟩, fun a o e => ⟨o, by rw [upd_ne (ne_of_none e n)]; exact e⟩⟩
theorem StR.new (s : StR K H M) (n : H p = none) : StR K (upd H p o) M := fun a mo e => by
  obtain ⟨u, q⟩ := s.ex e
  exact MOIs.mono (Go.new s n) (upd_ne (ne_of_none q n)) (s a mo e)
/-- a new object in the store -/
theorem Go.newS (s : StR K H M) (n : H p = none) : Go M (up M p mo) H (upd H p o) :=
  ⟨fun a u e m => by rw [up_ne (ne_of_none e n), upd_ne (ne_of_none e n)]; exact ⟨m, .inl e⟩, fun a e => by
    obtain ⟨u, q⟩ := s.ex e
    rw [up_ne (ne_of_none q n), upd_ne (ne_of_none q n)]; exact ⟨e, rfl⟩, fun a o e => ⟨o, by rw [upd_ne (ne_of_none e n)]; exact e⟩⟩
theorem StR.newS (s : StR K H M) (n : H p = none) (h : MOIs K (upd H p o) (up M p mo) p mo) : StR K (upd H p o) (up M p mo) := fun a m e => by
  by_cases ha : a = p
  · subst ha; rw [up_same] at e; cases e; exact h
  · rw [up_ne ha] at e
    exact MOIs.mono (Go.newS s n) (upd_ne ha) (s a m e)
/-- an object of the store written -/
theorem Go.write {m0 : MO} (e : M p = some m0) (h0 : m0 ≠ .hid) : Go M (up M p mo) H (upd H p o) := by
  have hn : ∀ a, M a = none → a ≠ p := fun a n z => by subst z; rw [e] at n; cases n
  have hh : ∀ a, M a = some .hid → a ≠ p := fun a n z => by subst z; rw [e] at n; cases n; exact h0 rfl
  exact ⟨fun a u q m => by rw [up_ne (hn a m), upd_ne (hn a m)]; exact ⟨m, .inl q⟩, fun a q => by rw [up_ne (hh a q), upd_ne (hh a q)]; exact ⟨q, rfl⟩, fun a u q => by
    by_cases ha : a = p
    · subst ha; exact ⟨o, upd_same⟩
    · exact ⟨u, by rw [upd_ne ha]; exact q⟩⟩
theorem StR.write {m0 : MO} (s : StR K H M) (e : M p = some m0) (h0 : m0 ≠ .hid) (h : MOIs K (upd H p o) (up M p mo) p mo) : StR K (upd H p o) (up M p mo) := fun a m q => by
  by_cases ha : a = p
  · subst ha; rw [up_same] at q; cases q; exact h
  · rw [up_ne ha] at q
    exact MOIs.mono (Go.write e h0) (upd_ne ha) (s a m q)
/-- what is being made, written by its maker -/
theorem kp_owner (e : M p = some .hid) : Kp K M M H (upd H p o) := by
  have hn : ∀ a, M a = none → a ≠ p := fun a n z => by subst z; rw [e] at n; cases n
  have hr : ∀ a u, Rd H a u → M a = none → Rd (upd H p o) a u := fun a u r n => by
    rcases r with r | ⟨o', r⟩
    · exact .inl (by rw [upd_ne (hn a n)]; exact r)
    · exact .inr ⟨o', by rw [upd_ne (hn a n)]; exact r⟩
  exact ⟨fun a vs f => ⟨by rw [upd_ne (hn a f.2)]; exact f.1, f.2⟩, fun a vs f => ⟨by rw [upd_ne (hn a f.2)]; exact f.1, f.2⟩, fun a vs f => f.elim (fun q => .inl ⟨hr _ _ q.1 q.2, q.2⟩) .inr, fun a vs r n => ⟨hr _ _ r n, n⟩, fun a vs r n => ⟨hr _ _ r n, n⟩⟩
theorem StR.owner (s : StR K H M) (e : M p = some .hid) : StR K (upd H p o) M := fun a m q => by
  have hn : ∀ a, M a = none → a ≠ p := fun a n z => by subst z; rw [e] at n; cases n
  by_cases ha : a = p
  · subst ha; rw [e] at q; cases q; exact ⟨o, upd_same⟩
  · exact MOIs.carry (kp_owner e) (fun b x h n => ⟨by rw [upd_ne (hn b n)]; exact h, n⟩) (upd_ne ha) (s a m q)
theorem Go.scratch (g : Go M M' H H') (n : H p = none) (m : M p = none) : Go M M' H (upd H' p o) :=
  ⟨fun a u e q => by rw [upd_ne (ne_of_none e n)]; exact g.1 a u e q, fun a e => by
    have ha : a ≠ p := fun z => by subst z; rw [m] at e; cases e
    rw [upd_ne ha]; exact g.2.1 a e, fun a u e => by rw [upd_ne (ne_of_none e n)]; exact g.2.2 a u e⟩
/-- what the readings see -/
theorem vis_some {a : Addr} {m : MO} (h : vis M a = some m) : M a = some m ∧ m ≠ .hid := by
  unfold vis at h
  cases e : M a with
  | none => rw [e] at h; cases h
  | some x => rw [e] at h; cases x <;> first | (cases h; exact ⟨rfl, by intro z; cases z⟩) | cases h
theorem vis_none {a : Addr} (h : M a = none) : vis M a = none := by unfold vis; rw [h]
theorem vis_up {a : Addr} {m : MO} (h : m ≠ .hid) : vis (up M a m) = up (vis M) a m := by
  funext b; unfold vis up
  by_cases e : b = a
  · subst e; rw [if_pos rfl, if_pos rfl]; cases m <;> first | rfl | exact absurd rfl h
  · rw [if_neg e, if_neg e]
theorem vis_hid {a : Addr} (h : M a = none) : vis (up M a .hid) = vis M := by
  funext b; unfold vis up
  by_cases e : b = a
  · subst e; rw [if_pos rfl, h]
  · rw [if_neg e]
/-- fewer objects told -/
def cutTo (N : DM) (M : DM) : DM := fun a => match N a with | some .hid => some .hid | _ => M a
theorem cutTo_vis {N : DM} (s : Sub M (vis N)) : vis (cutTo N M) = M := by
  funext a
  have key : N a = some .hid → M a = none := fun e => s.no (by unfold vis; rw [e])
  have key2 : M a ≠ some .hid := fun e => (vis_some (s a _ e)).2 rfl
  unfold vis cutTo
  cases e : N a with
  | none => dsimp only; cases q : M a with
    | none => rfl
    | some x => cases x <;> first | rfl | exact absurd q key2
  | some y => cases y <;> first | (dsimp only; rw [key e]) | (dsimp only; cases q : M a with
    | none => rfl
    | some x => cases x <;> first | rfl | exact absurd q key2)
theorem cutTo_sub {N : DM} (s : Sub M (vis N)) : Sub (cutTo N M) N := fun a o e => by
  unfold cutTo at e
  cases q : N a with
  | none => rw [q] at e; exact absurd (s a o e) (by rw [vis_none q]; intro z; cases z)
  | some y =>
    rw [q] at e
    cases y <;> first | exact e | (have h := (vis_some (s a o e)).1; rw [q] at h; exact h)
theorem cutTo_go {N : DM} (s : Sub M (vis N)) : Go N (cutTo N M) H H := Sub.go (cutTo_sub s) fun a e => by unfold cutTo; rw [e]

/-! ### lists of values -/
theorem IsL.length : ∀ {ds : List D} {vs : List V}, IsL K H M ds vs → ds.length = vs.length
  | [], _, h => by unfold IsL at h; subst h; rfl
  | d :: ds, _, h => by
    unfold IsL at h
    obtain ⟨v, r, rfl, _, q⟩ := h
    rw [List.length_cons, List.length_cons, IsL.length q]
theorem IsL.nil : IsL K H M [] [] := by unfold IsL; rfl
theorem IsL.cons {d : D} {v : V} {ds : List D} {vs : List V} (a : Is K H M d v) (b : IsL K H M ds vs) : IsL K H M (d :: ds) (v :: vs) := by
  unfold IsL; exact ⟨v, vs, rfl, a, b⟩
theorem IsL.get : ∀ {ds : List D} {vs : List V} {i : Nat} {d : D}, IsL K H M ds vs → ds[i]? = some d → ∃ v, vs[i]? = some v ∧ Is K H M d v
  | [], _, i, d, _, e => by simp at e
  | x :: ds, _, 0, d, h, e => by
    unfold IsL at h
    obtain ⟨v, r, rfl, a, b⟩ := h
    simp at e; subst e
    exact ⟨v, rfl, a⟩
  | x :: ds, _, i + 1, d, h, e => by
    unfold IsL at h
    obtain ⟨v, r, rfl, a, b⟩ := h
    obtain ⟨u, e1, e2⟩ := IsL.get (i := i) b (by simpa using e)
    exact ⟨u, by simpa using e1, e2⟩
theorem IsL.append : ∀ {ds es : List D} {vs us : List V}, IsL K H M ds vs → IsL K H M es us → IsL K H M (ds ++ es) (vs ++ us)
  | [], _, _, _, h, q => by unfold IsL at h; subst h; exact q
  | d :: ds, _, _, _, h, q => by
    unfold IsL at h
    obtain ⟨v, r, rfl, a, b⟩ := h
    exact IsL.cons a (IsL.append b q)
theorem IsL.take : ∀ {ds : List D} {vs : List V} (n : Nat), IsL K H M ds vs → IsL K H M (ds.take n) (vs.take n)
  | _, _, 0, _ => by simp; exact IsL.nil
  | [], _, n + 1, h => by unfold IsL at h; subst h; exact IsL.nil
  | d :: ds, _, n + 1, h => by
    unfold IsL at h
    obtain ⟨v, r, rfl, a, b⟩ := h
    exact IsL.cons a (IsL.take n b)
theorem IsL.drop : ∀ {ds : List D} {vs : List V} (n : Nat), IsL K H M ds vs → IsL K H M (ds.drop n) (vs.drop n)
  | _, _, 0, h => h
  | [], _, n + 1, h => by unfold IsL at h; subst h; exact IsL.nil
  | d :: ds, _, n + 1, h => by
    unfold IsL at h
    obtain ⟨v, r, rfl, a, b⟩ := h
    exact IsL.drop n b
theorem IsL.set : ∀ {ds : List D} {vs : List V} {d : D} {v : V} (n : Nat), IsL K H M ds vs → Is K H M d v → IsL K H M (ds.set n d) (vs.set n v)
  | [], _, _, _, _, h, _ => by unfold IsL at h; subst h; exact IsL.nil
  | d :: ds, _, _, _, 0, h, q => by
    unfold IsL at h
    obtain ⟨v, r, rfl, a, b⟩ := h
    exact IsL.cons q b
  | d :: ds, _, _, _, n + 1, h, q => by
    unfold IsL at h
    obtain ⟨v, r, rfl, a, b⟩ := h
    exact IsL.cons a (IsL.set n b q)
theorem IsL.reverse : ∀ {ds : List D} {vs : List V}, IsL K H M ds vs → IsL K H M ds.reverse vs.reverse
  | [], _, h => by unfold IsL at h; subst h; exact IsL.nil
  | d :: ds, _, h => by
    unfold IsL at h
    obtain ⟨v, r, rfl, a, b⟩ := h
    rw [List.reverse_cons, List.reverse_cons]
    exact IsL.append (IsL.reverse b) (IsL.cons a IsL.nil)

/-! ### slots -/
abbrev DEnv := List (Option D)
def EnvR (K : PySem.W.Frag) (H : Hp) (M : DM) (E : DEnv) (σ : L2.St) : Prop := E.length = σ.length ∧ ∀ (i : Nat) (d : D), E[i]? = some (some d) → ∃ v, σ[i]? = some (some v) ∧ Is K H M d v
theorem EnvR.mono {E : DEnv} {σ : L2.St} (k : Kp K M M' H H') (r : EnvR K H M E σ) : EnvR K H' M' E σ :=
  ⟨r.1, fun i d e => let ⟨v, h, q⟩ := r.2 i d e; ⟨v, h, Is.mono k q⟩⟩
theorem EnvR.set {E : DEnv} {σ : L2.St} {d : D} {v : V} (r : EnvR K H M E σ) (q : Is K H M d v) (i : Nat) : EnvR K H M (E.set i (some d)) (σ.set i (some v)) := by
  refine ⟨by simpa using r.1, fun j x e => ?_⟩
  by_cases hj : i = j
  · subst hj
    rw [List.getElem?_set] at e ⊢
    simp only [if_true] at e ⊢
    have hl := r.1
    by_cases hi : i < E.length
    · rw [if_pos hi] at e; cases e
      rw [if_pos (by omega)]
      exact ⟨v, rfl, q⟩
    · rw [if_neg hi] at e; cases e
  · rw [List.getElem?_set_ne hj] at e ⊢
    exact r.2 j x e
/-- fewer slots known -/
def ELe (E' E : DEnv) : Prop := E'.length = E.length ∧ ∀ (i : Nat) (d : D), E'[i]? = some (some d) → E[i]? = some (some d)
theorem ELe.refl {E : DEnv} : ELe E E := ⟨rfl, fun _ _ h => h⟩
theorem EnvR.le {E E' : DEnv} {σ : L2.St} (r : EnvR K H M E σ) (l : ELe E' E) : EnvR K H M E' σ := ⟨l.1.trans r.1, fun i d e => r.2 i d (l.2 i d e)⟩
def wipeD (E : DEnv) : List Nat → DEnv
  | [] => E
  | v :: vs => (wipeD E vs).set v none
theorem EnvR.wipe {E : DEnv} {σ : L2.St} (r : EnvR K H M E σ) : ∀ vs : List Nat, EnvR K H M (wipeD E vs) (L2.wipe σ vs)
  | [] => r
  | v :: vs => by
    have q := EnvR.wipe r vs
    unfold wipeD L2.wipe
    refine ⟨by simpa using q.1, fun j x e => ?_⟩
    by_cases hj : v = j
    · subst hj
      rw [List.getElem?_set] at e
      simp at e
    · rw [List.getElem?_set_ne hj] at e ⊢
      exact q.2 j x e
end
end DL

set_option Elab.async false
set_option linter.all false
set_option maxRecDepth 100000
set_option maxHeartbeats 4000000
/-! DLb: readings over deep values, lifted to the hand layer's. -/
namespace DL
open PySem PySem.Spec PyProof.Rows L2

abbrev DE := DEnv → DM → (D → DM → Prop) → Prop
abbrev DT := DEnv → DM → (Bool → DM → Prop) → Prop
abbrev DA := DEnv → DM → (List D → DM → Prop) → Prop
structure DEnds where
  nx : DEnv → DM → Prop
  rt : D → DM → Prop
  bk : DEnv → DM → Prop := fun _ _ => False
  ct : DEnv → DM → Prop := fun _ _ => False
abbrev DS := DEnds → DEnv → DM → Prop
abbrev DG := D → DEnv → DM → (DEnv → DM → Prop) → Prop

section
variable (K : PySem.W.Frag)
def liftE (de : DE) : TE := fun σ H Q => ∃ E M P, EnvR K H M E σ ∧ StR K H M ∧ de E (vis M) P ∧ ∀ d M' v H', P d (vis M') → Go M M' H H' → StR K H' M' → Is K H' M' d v → Q v H'
def liftT (dt : DT) : TT := fun σ H Q => ∃ E M P, EnvR K H M E σ ∧ StR K H M ∧ dt E (vis M) P ∧ ∀ b M' H', P b (vis M') → Go M M' H H' → StR K H' M' → Q b H'
def liftA (da : DA) : TA := fun σ H Q => ∃ E M P, EnvR K H M E σ ∧ StR K H M ∧ da E (vis M) P ∧ ∀ ds M' vs H', P ds (vis M') → Go M M' H H' → StR K H' M' → IsL K H' M' ds vs → Q vs H'
structure EndsR (M : DM) (H : Hp) (DD : DEnds) (D : Ends) : Prop where
  nx : ∀ E' M' σ' H', DD.nx E' (vis M') → Go M M' H H' → StR K H' M' → EnvR K H' M' E' σ' → D.nx σ' H'
  rt : ∀ d M' v H', DD.rt d (vis M') → Go M M' H H' → StR K H' M' → Is K H' M' d v → D.rt v H'
  bk : ∀ E' M' σ' H', DD.bk E' (vis M') → Go M M' H H' → StR K H' M' → EnvR K H' M' E' σ' → D.bk σ' H'
  ct : ∀ E' M' σ' H', DD.ct E' (vis M') → Go M M' H H' → StR K H' M' → EnvR K H' M' E' σ' → D.ct σ' H'
def liftS (ds : DS) : TS := fun D σ H => ∃ E M DD, EnvR K H M E σ ∧ StR K H M ∧ ds DD E (vis M) ∧ EndsR K M H DD D
def liftG (dg : DG) : TG := fun v σ H Q => ∃ d E M P, Is K H M d v ∧ EnvR K H M E σ ∧ StR K H M ∧ dg d E (vis M) P ∧ ∀ E' M' σ' H', P E' (vis M') → Go M M' H H' → StR K H' M' → EnvR K H' M' E' σ' → Q σ' H'
end
section
variable {K : PySem.W.Frag} {M M' : DM} {H H' : Hp}
theorem EndsR.go {DD : DEnds} {D : Ends} (e : EndsR K M H DD D) (g : Go M M' H H') : EndsR K M' H' DD D :=
  ⟨fun E1 M1 σ1 H1 p q => e.nx E1 M1 σ1 H1 p (g.trans q), fun d M1 v H1 p q => e.rt d M1 v H1 p (g.trans q), fun E1 M1 σ1 H1 p q => e.bk E1 M1 σ1 H1 p (g.trans q), fun E1 M1 σ1 H1 p q => e.ct E1 M1 σ1 H1 p (g.trans q)⟩
theorem PE.imp {X : Cx} {e : Expr} {t t' : TE} (h : PE X e t) (w : ∀ σ H Q, t' σ H Q → t σ H Q) : PE X e t' := ⟨fun pins s σ H Q I q => h.run pins s σ H Q I (w σ H Q q)⟩
theorem PT.imp {X : Cx} {e : Expr} {t t' : TT} (h : PT X e t) (w : ∀ σ H Q, t' σ H Q → t σ H Q) : PT X e t' := ⟨fun pins s σ H Q I q => h.run pins s σ H Q I (w σ H Q q)⟩
theorem PW.imp {X : Cx} {e : Expr} {t t' : TT} (h : PW X e t) (w : ∀ σ H Q, t' σ H Q → t σ H Q) : PW X e t' := ⟨fun wh pins s σ H Q I q => h.run wh pins s σ H Q I (w σ H Q q)⟩
theorem PA.imp {X : Cx} {es : List Expr} {t t' : TA} (h : PA X es t) (w : ∀ σ H Q, t' σ H Q → t σ H Q) : PA X es t' := ⟨fun pos pins s σ H Q I q => h.run pos pins s σ H Q I (w σ H Q q)⟩
theorem PS.imp {X : Cx} {st : Stmt} {t t' : TS} (h : PS X st t) (w : ∀ D σ H, t' D σ H → t D σ H) : PS X st t' := ⟨fun pins s σ H D I q => h.run pins s σ H D I (w D σ H q)⟩
theorem PSs.imp {X : Cx} {st : List Stmt} {t t' : TS} (h : PSs X st t) (w : ∀ D σ H, t' D σ H → t D σ H) : PSs X st t' := ⟨fun pins s σ H D I q => h.run pins s σ H D I (w D σ H q)⟩
end

/-! ### the judgements -/
abbrev PDE (X : Cx) (e : Expr) (de : DE) : Prop := PE X e (liftE X.K de)
abbrev PDT (X : Cx) (e : Expr) (dt : DT) : Prop := PT X e (liftT X.K dt)
abbrev PDW (X : Cx) (e : Expr) (dt : DT) : Prop := PW X e (liftT X.K dt)
abbrev PDA (X : Cx) (es : List Expr) (da : DA) : Prop := PA X es (liftA X.K da)
abbrev PDS (X : Cx) (st : Stmt) (ds : DS) : Prop := PS X st (liftS X.K ds)
abbrev PDSs (X : Cx) (st : List Stmt) (ds : DS) : Prop := PSs X st (liftS X.K ds)
abbrev PDG (X : Cx) (tg : Expr) (dg : DG) : Prop := PG X tg (liftG X.K dg)
section
variable {X : Cx} {e : Expr} {es : List Expr}
theorem PDE.wk {de de' : DE} (h : PDE X e de) (w : ∀ E M Q, de' E M Q → de E M Q) : PDE X e de' :=
  PE.imp h fun _ _ _ ⟨E, M, P, r, s, q, k⟩ => ⟨E, M, P, r, s, w E (vis M) P q, k⟩
theorem PDT.wk {dt dt' : DT} (h : PDT X e dt) (w : ∀ E M Q, dt' E M Q → dt E M Q) : PDT X e dt' :=
  PT.imp h fun _ _ _ ⟨E, M, P, r, s, q, k⟩ => ⟨E, M, P, r, s, w E (vis M) P q, k⟩
theorem PDW.wk {dt dt' : DT} (h : PDW X e dt) (w : ∀ E M Q, dt' E M Q → dt E M Q) : PDW X e dt' :=
  PW.imp h fun _ _ _ ⟨E, M, P, r, s, q, k⟩ => ⟨E, M, P, r, s, w E (vis M) P q, k⟩
theorem PDA.wk {da da' : DA} (h : PDA X es da) (w : ∀ E M Q, da' E M Q → da E M Q) : PDA X es da' :=
  PA.imp h fun _ _ _ ⟨E, M, P, r, s, q, k⟩ => ⟨E, M, P, r, s, w E (vis M) P q, k⟩
end

/-! ### values that nothing changes -/
abbrev PF := DEnv → DM → Option D
abbrev BF := DEnv → DM → Option Bool
abbrev LF := DEnv → DM → Option (List D)
def dP (f : PF) : DE := fun E M Q => ∃ d, f E M = some d ∧ Q d M
def dTP (f : BF) : DT := fun E M Q => ∃ b, f E M = some b ∧ Q b M
def dAP (f : LF) : DA := fun E M Q => ∃ ds, f E M = some ds ∧ Q ds M
def pVar (i : Nat) : PF := fun E _ => (E[i]?).join
def pC (d : D) : PF := fun _ _ => some d

section
variable {X : Cx} {a b : Expr} {pos : Pos} {da db : DE} {f g : PF}
theorem pd_var (i : Nat) {x : Str} (h : PE X (.Name x pos) (tVar i)) : PDE X (.Name x pos) (dP (pVar i)) :=
  PE.imp h fun σ H Q ⟨E, M, P, r, s, ⟨d, e, q⟩, k⟩ => by
    have e' : E[i]? = some (some d) := by
      unfold pVar at e
      cases h : E[i]? with
      | none => rw [h] at e; cases e
      | some o => rw [h] at e; exact congrArg some e
    obtain ⟨v, e1, e2⟩ := r.2 i d e'
    exact ⟨v, e1, k d M v H q Go.refl s e2⟩
theorem pd_const {v : V} {d : D} {e : Expr} (h : PE X e (tC v)) (r : ∀ H M, Is X.K H M d v) : PDE X e (dP (pC d)) :=
  PE.imp h fun σ H Q ⟨E, M, P, _, s, ⟨x, e, q⟩, k⟩ => by
    cases e
    exact k d M v H q Go.refl s (r H M)
theorem is_int {K : PySem.W.Frag} {H : Hp} {M : DM} {i : Int} : Is K H M (.int i) (.int i) := by unfold Is; rfl
theorem is_bl {K : PySem.W.Frag} {H : Hp} {M : DM} {i : Bool} : Is K H M (.bl i) (.bl i) := by unfold Is; rfl
theorem is_str {K : PySem.W.Frag} {H : Hp} {M : DM} {i : Str} : Is K H M (.str i) (.str i) := by unfold Is; rfl
theorem is_non {K : PySem.W.Frag} {H : Hp} {M : DM} : Is K H M .non .non := by unfold Is; rfl
theorem is_ref {K : PySem.W.Frag} {H : Hp} {M : DM} {a : Addr} : Is K H M (.ref a) (.ref a) := by unfold Is; rfl
theorem is_ty {K : PySem.W.Frag} {H : Hp} {M : DM} {a : String} : Is K H M (.ty a) (.ty a) := by unfold Is; rfl
theorem pd_int {i : Int} {j pos} : PDE X (.Constant (.int i) j pos) (dP (pC (.int i))) := pd_const pe_int fun _ _ => is_int
theorem pd_bl {i : Bool} {j pos} : PDE X (.Constant (.bool i) j pos) (dP (pC (.bl i))) := pd_const pe_bl fun _ _ => is_bl
theorem pd_non {j pos} : PDE X (.Constant .none j pos) (dP (pC .non)) := pd_const pe_non fun _ _ => is_non
theorem pd_str {i : Str} {j pos} : PDE X (.Constant (.str i) j pos) (dP (pC (.str i))) := pd_const pe_str fun _ _ => is_str

/-! ### operators -/
abbrev Op2 := DM → D → D → Option D
def OpD (K : PySem.W.Frag) (r : R2) (op : Op2) : Prop := ∀ M H x y z v u Q, StR K H M → op (vis M) x y = some z → Is K H M x v → Is K H M y u → (∀ w H', Go M M H H' → StR K H' M → Is K H' M z w → Q w H') → r v u H Q
def dBin (op : Op2) (da db : DE) : DE := fun E M Q => da E M fun x M1 => db E M1 fun y M2 => ∃ z, op M2 x y = some z ∧ Q z M2
def pBin (op : Op2) (f g : PF) : PF := fun E M => (f E M).bind fun x => (g E M).bind fun y => op M x y
theorem lift_bin {r : R2} {op : Op2} (hop : OpD X.K r op) {σ : L2.St} {H : Hp} {Q : VK} (h : liftE X.K (dBin op da db) σ H Q) : tOp r (liftE X.K da) (liftE X.K db) σ H Q := by
  obtain ⟨E, M, P, re, s, q, k⟩ := h
  refine ⟨E, M, _, re, s, q, fun x M1 v H1 q1 g1 s1 i1 => ?_⟩
  refine ⟨E, M1, _, re.mono g1.kp, s1, q1, fun y M2 u H2 ⟨z, ez, q2⟩ g2 s2 i2 => ?_⟩
  exact hop M2 H2 x y z v u Q s2 ez (Is.mono g2.kp i1) i2 fun w H3 g3 s3 i3 => k z M2 w H3 q2 ((g1.trans g2).trans g3) s3 i3
theorem pd_bin {o : Operator} {r : R2} {op : Op2} (ho : OpR X (binaryOp o) r) (hop : OpD X.K r op) (ha : PDE X a da) (hb : PDE X b db) : PDE X (.BinOp a o b pos) (dBin op da db) :=
  PE.imp (pe_op ho ha hb) fun _ _ _ h => lift_bin hop h
theorem dBin_P {op : Op2} {E : DEnv} {M : DM} {Q : D → DM → Prop} (h : dP (pBin op f g) E M Q) : dBin op (dP f) (dP g) E M Q := by
  obtain ⟨d, e, q⟩ := h
  unfold pBin at e
  cases ef : f E M with
  | none => rw [ef] at e; cases e
  | some x =>
    cases eg : g E M with
    | none => rw [ef, eg] at e; cases e
    | some y =>
      rw [ef, eg] at e
      exact ⟨x, ef, y, eg, d, e, q⟩
theorem pd_binP {o : Operator} {r : R2} {op : Op2} (ho : OpR X (binaryOp o) r) (hop : OpD X.K r op) (ha : PDE X a (dP f)) (hb : PDE X b (dP g)) : PDE X (.BinOp a o b pos) (dP (pBin op f g)) :=
  (pd_bin ho hop ha hb).wk fun _ _ _ h => dBin_P h
/-- comparisons as values and tests -/
theorem pd_cmp {o : CmpOp} {r : R2} {op : Op2} (ho : OpR X (compareOp o) r) (hm : behindInMarks o b = false) (hop : OpD X.K r op) (ha : PDE X a da) (hb : PDE X b db) : PDE X (.Compare a [o] [b] pos) (dBin op da db) :=
  PE.imp (pe_cmpR ho ha hb hm) fun _ _ _ h => lift_bin hop h
theorem pd_cmpP {o : CmpOp} {r : R2} {op : Op2} (ho : OpR X (compareOp o) r) (hm : behindInMarks o b = false) (hop : OpD X.K r op) (ha : PDE X a (dP f)) (hb : PDE X b (dP g)) : PDE X (.Compare a [o] [b] pos) (dP (pBin op f g)) :=
  (pd_cmp ho hm hop ha hb).wk fun _ _ _ h => dBin_P h
def dTest (de : DE) : DT := fun E M Q => de E M fun d M1 => ∃ b, d = .bl b ∧ Q b M1
def asB : Option D → Option Bool
  | some (.bl b) => some b
  | _ => none
def pTest (f : PF) : BF := fun E M => asB (f E M)
theorem asB_some {o : Option D} {b : Bool} (h : asB o = some b) : o = some (.bl b) := by
  cases o with
  | none => cases h
  | some d => cases d <;> first | (cases h; rfl) | cases h
theorem dTest_P {E : DEnv} {M : DM} {Q : Bool → DM → Prop} (h : dTP (pTest f) E M Q) : dTest (dP f) E M Q := by
  obtain ⟨b, e, q⟩ := h
  exact ⟨.bl b, asB_some e, b, rfl, q⟩
theorem lift_test {de : DE} {σ : L2.St} {H : Hp} {Q : Bool → Hp → Prop} (h : liftT X.K (dTest de) σ H Q) : liftE X.K de σ H fun x H1 => ∃ c, x = V.bl c ∧ Q c H1 := by
  obtain ⟨E, M, P, re, s, q, k⟩ := h
  refine ⟨E, M, _, re, s, q, fun d M1 v H1 ⟨b, e, q1⟩ g s1 i => ?_⟩
  subst e
  unfold Is at i
  exact ⟨b, i, k b M1 H1 q1 g s1⟩
theorem pt_cmpD {o : CmpOp} {r : R2} {op : Op2} (ho : OpR X (compareOp o) r) (hm : behindInMarks o b = false) (hop : OpD X.K r op) (ha : PDE X a da) (hb : PDE X b db) : PDT X (.Compare a [o] [b] pos) (dTest (dBin op da db)) :=
  PT.imp (pt_cmpR ho ha hb hm) fun σ H Q h => by
    have h' := lift_test h
    exact lift_bin hop h'
theorem pt_cmpP {o : CmpOp} {r : R2} {op : Op2} (ho : OpR X (compareOp o) r) (hm : behindInMarks o b = false) (hop : OpD X.K r op) (ha : PDE X a (dP f)) (hb : PDE X b (dP g)) : PDT X (.Compare a [o] [b] pos) (dTP (pTest (pBin op f g))) :=
  PDT.wk (pt_cmpD ho hm hop ha hb) fun E M Q h => by
    obtain ⟨d, e, q⟩ := dTest_P h
    exact dBin_P ⟨d, e, q⟩
theorem pt_valD {e : Expr} {de : DE} (h : PDE X e de) (he : ∀ whole, isTrue e X.env whole = (do let v ← whole; standAt e.pos; holding [v] (truthy v)) := by intro _; rfl) : PDT X e (dTest de) :=
  PT.imp (pt_val h he) fun _ _ _ h => lift_test h
theorem pt_valP {e : Expr} (h : PDE X e (dP f)) (he : ∀ whole, isTrue e X.env whole = (do let v ← whole; standAt e.pos; holding [v] (truthy v)) := by intro _; rfl) : PDT X e (dTP (pTest f)) :=
  PDT.wk (pt_valD h he) fun _ _ _ h => dTest_P h

/-! ### and, or, not -/
variable {dt du : DT} {rest : List Expr} {bf bg : BF}
def dAnd (t u : DT) : DT := fun E M Q => t E M fun c M1 => if c = true then u E M1 Q else Q false M1
def dOr (t u : DT) : DT := fun E M Q => t E M fun c M1 => if c = true then Q true M1 else u E M1 Q
def dNot (t : DT) : DT := fun E M Q => t E M fun c M1 => Q (!c) M1
def bAnd (f g : BF) : BF := fun E M => (f E M).bind fun c => if c = true then g E M else some false
def bOr (f g : BF) : BF := fun E M => (f E M).bind fun c => if c = true then some true else g E M
def bNot (f : BF) : BF := fun E M => (f E M).map (!·)
theorem pw_and1D (ha : PDT X a dt) : PDW X (.BoolOp .And [a] pos) dt := pw_and1 ha
theorem pw_or1D (ha : PDT X a dt) : PDW X (.BoolOp .Or [a] pos) dt := pw_or1 ha
theorem pw_andD (ha : PDT X a dt) (hb : PDW X (.BoolOp .And (b :: rest) pos) du) : PDW X (.BoolOp .And (a :: b :: rest) pos) (dAnd dt du) :=
  PW.imp (pw_and ha hb) fun σ H Q ⟨E, M, P, re, s, q, k⟩ => ⟨E, M, _, re, s, q, fun c M1 H1 q1 g1 s1 => by
    cases c with
    | true => exact ⟨E, M1, P, re.mono g1.kp, s1, q1, fun c M2 H2 q2 g2 s2 => k c M2 H2 q2 (g1.trans g2) s2⟩
    | false => exact k false M1 H1 q1 g1 s1⟩
theorem pw_orD (ha : PDT X a dt) (hb : PDW X (.BoolOp .Or (b :: rest) pos) du) : PDW X (.BoolOp .Or (a :: b :: rest) pos) (dOr dt du) :=
  PW.imp (pw_or ha hb) fun σ H Q ⟨E, M, P, re, s, q, k⟩ => ⟨E, M, _, re, s, q, fun c M1 H1 q1 g1 s1 => by
    cases c with
    | false => exact ⟨E, M1, P, re.mono g1.kp, s1, q1, fun c M2 H2 q2 g2 s2 => k c M2 H2 q2 (g1.trans g2) s2⟩
    | true => exact k true M1 H1 q1 g1 s1⟩
theorem pt_notD (ha : PDT X a dt) : PDT X (.UnaryOp .Not a pos) (dNot dt) :=
  PT.imp (pt_not ha) fun σ H Q ⟨E, M, P, re, s, q, k⟩ => ⟨E, M, _, re, s, q, fun c M1 H1 q1 g1 s1 => k (!c) M1 H1 q1 g1 s1⟩
theorem dAnd_P {E : DEnv} {M : DM} {Q : Bool → DM → Prop} (h : dTP (bAnd bf bg) E M Q) : dAnd (dTP bf) (dTP bg) E M Q := by
  obtain ⟨b, e, q⟩ := h
  unfold bAnd at e
  cases ef : bf E M with
  | none => rw [ef] at e; cases e
  | some c =>
    rw [ef] at e
    refine ⟨c, ef, ?_⟩
    cases c with
    | true => exact ⟨b, e, q⟩
    | false => cases e; exact q
theorem dOr_P {E : DEnv} {M : DM} {Q : Bool → DM → Prop} (h : dTP (bOr bf bg) E M Q) : dOr (dTP bf) (dTP bg) E M Q := by
  obtain ⟨b, e, q⟩ := h
  unfold bOr at e
  cases ef : bf E M with
  | none => rw [ef] at e; cases e
  | some c =>
    rw [ef] at e
    refine ⟨c, ef, ?_⟩
    cases c with
    | false => exact ⟨b, e, q⟩
    | true => cases e; exact q
theorem dNot_P {E : DEnv} {M : DM} {Q : Bool → DM → Prop} (h : dTP (bNot bf) E M Q) : dNot (dTP bf) E M Q := by
  obtain ⟨b, e, q⟩ := h
  unfold bNot at e
  cases ef : bf E M with
  | none => rw [ef] at e; cases e
  | some c => rw [ef] at e; cases e; exact ⟨c, ef, q⟩
theorem pw_andP (ha : PDT X a (dTP bf)) (hb : PDW X (.BoolOp .And (b :: rest) pos) (dTP bg)) : PDW X (.BoolOp .And (a :: b :: rest) pos) (dTP (bAnd bf bg)) := PDW.wk (pw_andD ha hb) fun _ _ _ h => dAnd_P h
theorem pw_orP (ha : PDT X a (dTP bf)) (hb : PDW X (.BoolOp .Or (b :: rest) pos) (dTP bg)) : PDW X (.BoolOp .Or (a :: b :: rest) pos) (dTP (bOr bf bg)) := PDW.wk (pw_orD ha hb) fun _ _ _ h => dOr_P h
theorem pt_notP (ha : PDT X a (dTP bf)) : PDT X (.UnaryOp .Not a pos) (dTP (bNot bf)) := PDT.wk (pt_notD ha) fun _ _ _ h => dNot_P h
/-- as values (bools) -/
def dAndV (da db : DE) : DE := fun E M Q => da E M fun x M1 => ∃ c, x = .bl c ∧ if c = true then db E M1 Q else Q (.bl false) M1
def dOrV (da db : DE) : DE := fun E M Q => da E M fun x M1 => ∃ c, x = .bl c ∧ if c = true then Q (.bl true) M1 else db E M1 Q
def dNotV (da : DE) : DE := fun E M Q => da E M fun x M1 => ∃ c, x = .bl c ∧ Q (.bl (!c)) M1
def pAndV (f g : PF) : PF := fun E M => (asB (f E M)).bind fun c => if c = true then g E M else some (.bl false)
def pOrV (f g : PF) : PF := fun E M => (asB (f E M)).bind fun c => if c = true then some (.bl true) else g E M
def pNotV (f : PF) : PF := fun E M => (asB (f E M)).map fun c => .bl (!c)
theorem pd_one {op} (h : PDE X a da) : PDE X (.BoolOp op [a] pos) da := pe_one h
theorem pd_and (ha : PDE X a da) (hb : PDE X (.BoolOp .And (b :: rest) pos) db) : PDE X (.BoolOp .And (a :: b :: rest) pos) (dAndV da db) :=
  PE.imp (pe_and ha hb) fun σ H Q ⟨E, M, P, re, s, q, k⟩ => ⟨E, M, _, re, s, q, fun d M1 v H1 ⟨c, e, q1⟩ g1 s1 i1 => by
    subst e
    unfold Is at i1
    refine ⟨c, i1, ?_⟩
    cases c with
    | true => exact ⟨E, M1, P, re.mono g1.kp, s1, q1, fun d M2 v H2 q2 g2 s2 i2 => k d M2 v H2 q2 (g1.trans g2) s2 i2⟩
    | false => exact k _ M1 _ H1 q1 g1 s1 is_bl⟩
theorem pd_or (ha : PDE X a da) (hb : PDE X (.BoolOp .Or (b :: rest) pos) db) : PDE X (.BoolOp .Or (a :: b :: rest) pos) (dOrV da db) :=
  PE.imp (pe_or ha hb) fun σ H Q ⟨E, M, P, re, s, q, k⟩ => ⟨E, M, _, re, s, q, fun d M1 v H1 ⟨c, e, q1⟩ g1 s1 i1 => by
    subst e
    unfold Is at i1
    refine ⟨c, i1, ?_⟩
    cases c with
    | false => exact ⟨E, M1, P, re.mono g1.kp, s1, q1, fun d M2 v H2 q2 g2 s2 i2 => k d M2 v H2 q2 (g1.trans g2) s2 i2⟩
    | true => exact k _ M1 _ H1 q1 g1 s1 is_bl⟩
theorem pd_not (ha : PDE X a da) : PDE X (.UnaryOp .Not a pos) (dNotV da) :=
  PE.imp (pe_not ha) fun σ H Q ⟨E, M, P, re, s, q, k⟩ => ⟨E, M, _, re, s, q, fun d M1 v H1 ⟨c, e, q1⟩ g1 s1 i1 => by
    subst e
    unfold Is at i1
    exact ⟨c, i1, k _ M1 _ H1 q1 g1 s1 is_bl⟩⟩
theorem pd_andP (ha : PDE X a (dP f)) (hb : PDE X (.BoolOp .And (b :: rest) pos) (dP g)) : PDE X (.BoolOp .And (a :: b :: rest) pos) (dP (pAndV f g)) :=
  PDE.wk (pd_and ha hb) fun E M Q ⟨d, e, q⟩ => by
    unfold pAndV at e
    cases ef : asB (f E M) with
    | none => rw [ef] at e; cases e
    | some c =>
      rw [ef] at e
      refine ⟨.bl c, asB_some ef, c, rfl, ?_⟩
      cases c with
      | true => exact ⟨d, e, q⟩
      | false => cases e; exact q
theorem pd_orP (ha : PDE X a (dP f)) (hb : PDE X (.BoolOp .Or (b :: rest) pos) (dP g)) : PDE X (.BoolOp .Or (a :: b :: rest) pos) (dP (pOrV f g)) :=
  PDE.wk (pd_or ha hb) fun E M Q ⟨d, e, q⟩ => by
    unfold pOrV at e
    cases ef : asB (f E M) with
    | none => rw [ef] at e; cases e
    | some c =>
      rw [ef] at e
      refine ⟨.bl c, asB_some ef, c, rfl, ?_⟩
      cases c with
      | false => exact ⟨d, e, q⟩
      | true => cases e; exact q
theorem pd_notP (ha : PDE X a (dP f)) : PDE X (.UnaryOp .Not a pos) (dP (pNotV f)) :=
  PDE.wk (pd_not ha) fun E M Q ⟨d, e, q⟩ => by
    unfold pNotV at e
    cases ef : asB (f E M) with
    | none => rw [ef] at e; cases e
    | some c => rw [ef] at e; cases e; exact ⟨.bl c, asB_some ef, c, rfl, q⟩
/-- a if t else b -/
def dIte (t : DT) (da db : DE) : DE := fun E M Q => t E M fun c M1 => if c = true then da E M1 Q else db E M1 Q
def pIte (t : BF) (f g : PF) : PF := fun E M => (t E M).bind fun c => if c = true then f E M else g E M
theorem pd_ite {c : Expr} (hc : PDT X c dt) (ha : PDE X a da) (hb : PDE X b db) : PDE X (.IfExp c a b pos) (dIte dt da db) :=
  PE.imp (pe_ifExp hc ha hb) fun σ H Q ⟨E, M, P, re, s, q, k⟩ => ⟨E, M, _, re, s, q, fun c M1 H1 q1 g1 s1 => by
    cases c with
    | true => exact ⟨E, M1, P, re.mono g1.kp, s1, q1, fun d M2 v H2 q2 g2 s2 i2 => k d M2 v H2 q2 (g1.trans g2) s2 i2⟩
    | false => exact ⟨E, M1, P, re.mono g1.kp, s1, q1, fun d M2 v H2 q2 g2 s2 i2 => k d M2 v H2 q2 (g1.trans g2) s2 i2⟩⟩
theorem pd_iteP {c : Expr} (hc : PDT X c (dTP bf)) (ha : PDE X a (dP f)) (hb : PDE X b (dP g)) : PDE X (.IfExp c a b pos) (dP (pIte bf f g)) :=
  PDE.wk (pd_ite hc ha hb) fun E M Q ⟨d, e, q⟩ => by
    unfold pIte at e
    cases ef : bf E M with
    | none => rw [ef] at e; cases e
    | some c =>
      rw [ef] at e
      refine ⟨c, ef, ?_⟩
      cases c with
      | true => exact ⟨d, e, q⟩
      | false => exact ⟨d, e, q⟩
end

/-! ### arguments, displays -/
section
variable {X : Cx} {e : Expr} {es : List Expr} {de : DE} {da : DA} {f : PF} {fs : LF} {pos : Pos}
def dNil : DA := fun _ M Q => Q [] M
def dCons (de : DE) (da : DA) : DA := fun E M Q => de E M fun x M1 => da E M1 fun xs M2 => Q (x :: xs) M2
def pNil : LF := fun _ _ => some []
def pCons (f : PF) (fs : LF) : LF := fun E M => (f E M).bind fun x => (fs E M).map fun xs => x :: xs
theorem pa_nilD : PDA X [] dNil := PA.imp pa_nil fun σ H Q ⟨E, M, P, re, s, q, k⟩ => k [] M [] H q Go.refl s IsL.nil
theorem pa_consD (h : PDE X e de) (hs : PDA X es da) (hq : starEach (e :: es) X.env = (false, eval e X.env) :: starEach es X.env := by rfl) : PDA X (e :: es) (dCons de da) :=
  PA.imp (pa_cons h hs hq) fun σ H Q ⟨E, M, P, re, s, q, k⟩ => ⟨E, M, _, re, s, q, fun x M1 v H1 q1 g1 s1 i1 =>
    ⟨E, M1, _, re.mono g1.kp, s1, q1, fun xs M2 vs H2 q2 g2 s2 i2 => k (x :: xs) M2 (v :: vs) H2 q2 (g1.trans g2) s2 (IsL.cons (Is.mono g2.kp i1) i2)⟩⟩
theorem pa_nilP : PDA X [] (dAP pNil) := PDA.wk pa_nilD fun _ _ _ ⟨d, e, q⟩ => by cases e; exact q
theorem pa_consP (h : PDE X e (dP f)) (hs : PDA X es (dAP fs)) (hq : starEach (e :: es) X.env = (false, eval e X.env) :: starEach es X.env := by rfl) : PDA X (e :: es) (dAP (pCons f fs)) :=
  PDA.wk (pa_consD h hs hq) fun E M Q ⟨d, e, q⟩ => by
    unfold pCons at e
    cases ef : f E M with
    | none => rw [ef] at e; cases e
    | some x =>
      cases eg : fs E M with
      | none => rw [ef, eg] at e; cases e
      | some xs =>
        rw [ef, eg] at e
        cases e
        exact ⟨x, ef, xs, eg, q⟩
/-- what is made of arguments at once, nothing changed -/
def dFun (F : DM → List D → Option D) (da : DA) : DE := fun E M Q => da E M fun ds M1 => ∃ z, F M1 ds = some z ∧ Q z M1
def pFun (F : DM → List D → Option D) (fs : LF) : PF := fun E M => (fs E M).bind fun ds => F M ds
theorem dFun_P {F : DM → List D → Option D} {E : DEnv} {M : DM} {Q : D → DM → Prop} (h : dP (pFun F fs) E M Q) : dFun F (dAP fs) E M Q := by
  obtain ⟨d, e, q⟩ := h
  unfold pFun at e
  cases ef : fs E M with
  | none => rw [ef] at e; cases e
  | some x => rw [ef] at e; exact ⟨x, ef, d, e, q⟩
def fTup : DM → List D → Option D := fun _ ds => if ds.length ≤ sizeLine then some (.tup ds) else none
def fLst : DM → List D → Option D := fun _ ds => if ds.length ≤ sizeLine then some (.lst ds) else none
theorem is_tup_new {K : PySem.W.Frag} {H : Hp} {M : DM} {ds : List D} {vs : List V} {p : Addr} (s : StR K H M) (n : H p = none) (r : IsL K H M ds vs) : Is K (upd H p (.tup vs)) M (.tup ds) (.ref p) := by
  unfold Is
  exact ⟨p, vs, rfl, ⟨upd_same, s.no n⟩, IsL.mono (Go.new s n).kp r⟩
theorem is_lst_new {K : PySem.W.Frag} {H : Hp} {M : DM} {ds : List D} {vs : List V} {p : Addr} (s : StR K H M) (n : H p = none) (r : IsL K H M ds vs) : Is K (upd H p (.lst vs)) M (.lst ds) (.ref p) := by
  unfold Is
  exact ⟨p, vs, rfl, ⟨upd_same, s.no n⟩, IsL.mono (Go.new s n).kp r⟩
theorem pd_tup {k : Nat} (hs : PDA X es da) : PDE X (.Tuple es k pos) (dFun fTup da) :=
  PE.imp (pe_tup hs) fun σ H Q ⟨E, M, P, re, s, q, k⟩ => ⟨E, M, _, re, s, q, fun xs M1 vs H1 ⟨z, ez, q1⟩ g1 s1 i1 => by
    unfold fTup at ez
    by_cases hl : xs.length ≤ sizeLine
    · rw [if_pos hl] at ez; cases ez
      exact ⟨by rw [← i1.length]; exact hl, fun p hp => k _ M1 _ _ q1 (g1.trans (Go.new s1 hp)) (s1.new hp) (is_tup_new s1 hp i1)⟩
    · rw [if_neg hl] at ez; cases ez⟩
theorem pd_tupP {k : Nat} (hs : PDA X es (dAP fs)) : PDE X (.Tuple es k pos) (dP (pFun fTup fs)) := PDE.wk (pd_tup hs) fun _ _ _ h => dFun_P h
end
end DL

set_option Elab.async false
set_option linter.all false
set_option maxRecDepth 100000
set_option maxHeartbeats 4000000
/-! DLc: statements, targets, loops, comprehensions. -/
namespace DL
open PySem PySem.Spec PyProof.Rows L2
section
variable {X : Cx} {e : Expr} {de : DE} {dt : DT} {t u : DS} {st : Stmt} {rest : List Stmt} {pos : Pos} {f : PF} {bf : BF}
def dNext : DS := fun D E M => D.nx E M
def dBreak : DS := fun D E M => D.bk E M
def dCont : DS := fun D E M => D.ct E M
def dSeq (t u : DS) : DS := fun D E M => t { D with nx := u D } E M
def dIf (dt : DT) (t u : DS) : DS := fun D E M => dt E M fun b M1 => if b = true then t D E M1 else u D E M1
def dRet (de : DE) : DS := fun D E M => de E M D.rt
def dRetN : DS := fun D _ M => D.rt .non M
def dExp (de : DE) : DS := fun D E M => de E M fun _ M1 => D.nx E M1
def dNever : DS := fun _ _ _ => False
theorem pss_nilD : PDSs X [] dNext := PSs.imp pss_nil fun D σ H ⟨E, M, DD, re, s, q, k⟩ => k.nx E M σ H q Go.refl s re
theorem pss_oneD (h : PDS X st t) : PDSs X [st] t := pss_one h
theorem pss_consD (h : PDS X st t) (hs : PDSs X rest u) : PDSs X (st :: rest) (dSeq t u) :=
  PSs.imp (pss_cons h hs) fun D σ H ⟨E, M, DD, re, s, q, k⟩ => ⟨E, M, { DD with nx := u DD }, re, s, q,
    ⟨fun E' M' σ' H' p g s' re' => ⟨E', M', DD, re', s', p, k.go g⟩, k.rt, k.bk, k.ct⟩⟩
theorem ps_passD : PDS X (.Pass pos) dNext := PS.imp ps_pass fun D σ H ⟨E, M, DD, re, s, q, k⟩ => k.nx E M σ H q Go.refl s re
theorem ps_breakD : PDS X (.Break pos) dBreak := PS.imp ps_break fun D σ H ⟨E, M, DD, re, s, q, k⟩ => k.bk E M σ H q Go.refl s re
theorem ps_continueD : PDS X (.Continue pos) dCont := PS.imp ps_continue fun D σ H ⟨E, M, DD, re, s, q, k⟩ => k.ct E M σ H q Go.refl s re
theorem ps_docD {x : Str} {j : Nat} {p2 : Pos} : PDS X (.Expr (.Constant (.str x) j pos) p2) dNext := PS.imp ps_doc fun D σ H ⟨E, M, DD, re, s, q, k⟩ => k.nx E M σ H q Go.refl s re
theorem ps_neverD : PDS X st dNever := PS.imp ps_never fun D σ H ⟨E, M, DD, re, s, q, k⟩ => q
theorem ps_exprD (h : PDE X e de) (hs : swapsWith e none pos.line X.env = pure false := by rfl) : PDS X (.Expr e pos) (dExp de) :=
  PS.imp (ps_expr h hs) fun D σ H ⟨E, M, DD, re, s, q, k⟩ => ⟨E, M, _, re, s, q, fun d M1 v H1 q1 g1 s1 _ => k.nx E M1 σ H1 q1 g1 s1 (re.mono g1.kp)⟩
theorem ps_retD (h : PDE X e de) : PDS X (.Return (some e) pos) (dRet de) :=
  PS.imp (ps_ret h) fun D σ H ⟨E, M, DD, re, s, q, k⟩ => ⟨E, M, _, re, s, q, fun d M1 v H1 q1 g1 s1 i1 => k.rt d M1 v H1 q1 g1 s1 i1⟩
theorem ps_retND : PDS X (.Return none pos) dRetN := PS.imp ps_retN fun D σ H ⟨E, M, DD, re, s, q, k⟩ => k.rt .non M .non H q Go.refl s is_non
theorem ps_ifD {a b : List Stmt} (hc : PDT X e dt) (ha : PDSs X a t) (hb : PDSs X b u) : PDS X (.If e a b pos) (dIf dt t u) :=
  PS.imp (ps_if hc ha hb) fun D σ H ⟨E, M, DD, re, s, q, k⟩ => ⟨E, M, _, re, s, q, fun b M1 H1 q1 g1 s1 => by
    cases b with
    | true => exact ⟨E, M1, DD, re.mono g1.kp, s1, q1, k.go g1⟩
    | false => exact ⟨E, M1, DD, re.mono g1.kp, s1, q1, k.go g1⟩⟩

/-! ### targets -/
abbrev DGs := List D → DEnv → DM → (DEnv → DM → Prop) → Prop
def liftGs (K : PySem.W.Frag) (dg : DGs) : TGs := fun vs σ H Q => ∃ ds E M P, IsL K H M ds vs ∧ EnvR K H M E σ ∧ StR K H M ∧ dg ds E (vis M) P ∧ ∀ E' M' σ' H', P E' (vis M') → Go M M' H H' → StR K H' M' → EnvR K H' M' E' σ' → Q σ' H'
abbrev PDGs (X : Cx) (es : List Expr) (dg : DGs) : Prop := PGs X es (liftGs X.K dg)
theorem PG.imp {tg : Expr} {t t' : TG} (h : PG X tg t) (w : ∀ v σ H Q, t' v σ H Q → t v σ H Q) : PG X tg t' := ⟨fun pins s σ H v u Q I r q => h.run pins s σ H v u Q I r (w v σ H Q q)⟩
theorem PGs.imp {tg : List Expr} {t t' : TGs} (h : PGs X tg t) (w : ∀ v σ H Q, t' v σ H Q → t v σ H Q) : PGs X tg t' := ⟨fun pins s σ H v u Q I r q => h.run pins s σ H v u Q I r (w v σ H Q q)⟩
def dgName (i : Nat) : DG := fun d E M Q => Q (E.set i (some d)) M
def dgNil : DGs := fun ds E M Q => ds = [] ∧ Q E M
def dgCons (g : DG) (gs : DGs) : DGs := fun ds E M Q => ∃ d r, ds = d :: r ∧ g d E M fun E' M' => gs r E' M' Q
def dgTup (n : Nat) (gs : DGs) : DG := fun d E M Q => ∃ ds, d = .tup ds ∧ ds.length = n ∧ gs ds E M Q
/-- what a value holds in order, as a list -/
def lstOf (M : DM) : D → Option (List D)
  | .lst ds => some ds
  | .rl ds => some ds
  | .ref a => match M a with | some (.lst ds) => some ds | _ => none
  | _ => none
/-- a tuple or a list -/
def seqOf (M : DM) : D → Option (List D)
  | .tup ds => some ds
  | .kt ds => some ds
  | d => lstOf M d
def dgLst (n : Nat) (gs : DGs) : DG := fun d E M Q => ∃ ds, lstOf M d = some ds ∧ ds.length = n ∧ gs ds E M Q
theorem lstOf_is {K : PySem.W.Frag} {H : Hp} {M : DM} {d : D} {ds : List D} {v : V} (s : StR K H M) (h : lstOf (vis M) d = some ds) (i : Is K H M d v) : ∃ a vs, v = .ref a ∧ SqL K H a vs ∧ IsL K H M ds vs := by
  unfold lstOf at h
  cases d with
  | lst xs => cases h; unfold Is at i; obtain ⟨a, vs, e, f, r⟩ := i; exact ⟨a, vs, e, f.sq, r⟩
  | rl xs => cases h; unfold Is at i; obtain ⟨a, vs, e, f, r⟩ := i; exact ⟨a, vs, e, f.sq, r⟩
  | ref a =>
    dsimp only at h
    unfold Is at i
    cases e : vis M a with
    | none => rw [e] at h; cases h
    | some m =>
      rw [e] at h
      cases m with
      | lst xs =>
        cases h
        obtain ⟨vs, e1, e2⟩ := s a _ (vis_some e).1
        exact ⟨a, vs, i, SqL.of e1, e2⟩
      | _ => cases h
  | _ => cases h
theorem seqOf_is {K : PySem.W.Frag} {H : Hp} {M : DM} {d : D} {ds : List D} {v : V} (s : StR K H M) (h : seqOf (vis M) d = some ds) (i : Is K H M d v) : ∃ a vs, v = .ref a ∧ (SqL K H a vs ∨ SqT K H a vs) ∧ IsL K H M ds vs := by
  unfold seqOf at h
  cases d with
  | tup xs => cases h; unfold Is at i; obtain ⟨a, vs, e, f, r⟩ := i; exact ⟨a, vs, e, .inr f.sq, r⟩
  | kt xs => cases h; unfold Is at i; obtain ⟨a, vs, e, f, r⟩ := i; exact ⟨a, vs, e, .inr f.sq, r⟩
  | _ => obtain ⟨a, vs, e, f, r⟩ := lstOf_is s h i; exact ⟨a, vs, e, .inl f, r⟩
theorem pg_nameD {x : Str} {i : Nat} (h : PG X (.Name x pos) (gName i)) : PDG X (.Name x pos) (dgName i) :=
  PG.imp h fun v σ H Q ⟨d, E, M, P, i1, re, s, q, k⟩ => k _ M _ H q Go.refl s (re.set i1 i)
theorem pgs_nilD : PDGs X [] dgNil := PGs.imp pgs_nil fun v σ H Q ⟨ds, E, M, P, i1, re, s, ⟨e, q⟩, k⟩ => by
  subst e
  unfold IsL at i1
  exact ⟨i1, k E M σ H q Go.refl s re⟩
theorem pgs_consD {es : List Expr} {g : DG} {gs : DGs} (h : PDG X e g) (hs : PDGs X es gs) (hq : List.map (fun x => x.snd) (assignEach (e :: es) X.env) = assign e X.env :: List.map (fun x => x.snd) (assignEach es X.env) := by rfl) : PDGs X (e :: es) (dgCons g gs) := PGs.imp (pgs_cons h hs hq) fun v σ H Q ⟨ds, E, M, P, i1, re, s, ⟨d, r, ed, q⟩, k⟩ => by
  subst ed
  unfold IsL at i1
  obtain ⟨w, us, rfl, i2, i3⟩ := i1
  exact ⟨w, us, rfl, d, E, M, _, i2, re, s, q, fun E' M' σ' H' q' g' s' re' => ⟨r, E', M', P, IsL.mono g'.kp i3, re', s', q', fun E2 M2 σ2 H2 p2 g2 s2 r2 => k E2 M2 σ2 H2 p2 (g'.trans g2) s2 r2⟩⟩
theorem pg_tupD {es : List Expr} {kk n : Nat} {gs : DGs} (hc : X.calm = true) (hn : es.length = n) (hs : PDGs X es gs) (hg : PG X (.Tuple es kk pos) (gTup X.K n (liftGs X.K gs))) : PDG X (.Tuple es kk pos) (dgTup n gs) :=
  PG.imp hg fun v σ H Q ⟨d, E, M, P, i1, re, s, ⟨ds, ed, el, q⟩, k⟩ => by
    subst ed
    unfold Is at i1
    obtain ⟨a, vs, e, f, r⟩ := i1
    exact ⟨a, vs, e, f.sq, by rw [← r.length]; exact el, ds, E, M, P, r, re, s, q, k⟩
theorem pg_lstD {es : List Expr} {kk n : Nat} {gs : DGs} (hg : PG X (.Tuple es kk pos) (gUnl X.K n (liftGs X.K gs))) : PDG X (.Tuple es kk pos) (dgLst n gs) :=
  PG.imp hg fun v σ H Q ⟨d, E, M, P, i1, re, s, ⟨ds, ed, el, q⟩, k⟩ => by
    obtain ⟨a, vs, e, f, r⟩ := lstOf_is s ed i1
    exact ⟨a, vs, e, f, by rw [← r.length]; exact el, ds, E, M, P, r, re, s, q, k⟩
def dAsg (de : DE) (g : DG) : DS := fun D E M => de E M fun d M1 => g d E M1 D.nx
theorem ps_asgD {tg : Expr} {g : DG} (h : PDE X e de) (hg : PDG X tg g) (hp : PS X (.Assign [tg] e pos) (tAsg (liftE X.K de) (liftG X.K g))) : PDS X (.Assign [tg] e pos) (dAsg de g) :=
  PS.imp hp fun D σ H ⟨E, M, DD, re, s, q, k⟩ => ⟨E, M, _, re, s, q, fun d M1 v H1 q1 g1 s1 i1 => ⟨d, E, M1, DD.nx, i1, re.mono g1.kp, s1, q1, fun E' M' σ' H' p' g' s' re' => k.nx E' M' σ' H' p' (g1.trans g') s' re'⟩⟩
def dSet (i : Nat) (de : DE) : DS := fun D E M => de E M fun d M1 => D.nx (E.set i (some d)) M1
theorem ps_setD {x : Str} {i : Nat} {p2 : Pos} (h : PDE X e de) (hp : PS X (.Assign [.Name x p2] e pos) (tAsg (liftE X.K de) (gName i))) : PDS X (.Assign [.Name x p2] e pos) (dSet i de) :=
  PS.imp hp fun D σ H ⟨E, M, DD, re, s, q, k⟩ => ⟨E, M, _, re, s, q, fun d M1 v H1 q1 g1 s1 i1 => k.nx _ M1 _ H1 q1 g1 s1 ((re.mono g1.kp).set i1 i)⟩
end

/-! ### loops -/
/-- behind a turn: fewer slots, fewer objects may be told -/
def dWeak (k : DEnv → DM → Prop) : DEnv → DM → Prop := fun E M => ∃ E' M', ELe E' E ∧ Sub M' M ∧ k E' M'
theorem dWeak.of {k : DEnv → DM → Prop} {E : DEnv} {M : DM} (h : k E M) : dWeak k E M := ⟨E, M, ELe.refl, Sub.refl, h⟩
section
variable {X : Cx} {e : Expr} {dt : DT} {t : DS} {pos : Pos}
def dWhileN (dt : DT) (t : DS) : Nat → DS
  | 0, _, _, _ => False
  | n + 1, D, E, M => dt E M fun c M1 => if c = true then t { D with nx := dWeak (dWhileN dt t n D), ct := dWeak (dWhileN dt t n D), bk := D.nx } E M1 else D.nx E M1
def dWhile (dt : DT) (t : DS) : DS := fun D E M => ∃ n, dWhileN dt t n D E M
theorem weak_out {K : PySem.W.Frag} {M : DM} {H : Hp} {E : DEnv} {σ : L2.St} {k : DEnv → DM → Prop} (h : dWeak k E (vis M)) (s : StR K H M) (r : EnvR K H M E σ) : ∃ E' N', k E' (vis N') ∧ Go M N' H H ∧ StR K H N' ∧ EnvR K H N' E' σ := by
  obtain ⟨E', M', hl, hs, q⟩ := h
  refine ⟨E', cutTo M M', by rw [cutTo_vis hs]; exact q, cutTo_go hs, s.sub (cutTo_sub hs), (r.le hl).mono (Sub.kp (cutTo_sub hs))⟩
theorem ps_whileD {body : List Stmt} (hc : PDT X e dt) (hb : PDSs X body t) (hp : PassesOwn (model X.prog X.w) X.A X.env X.xe) : PDS X (.While e body [] pos) (dWhile dt t) :=
  PS.imp (ps_while hp hc hb) fun D σ H ⟨E, M, DD, re, s, ⟨n, q⟩, k⟩ => by
    refine ⟨fun m σ' H' => ∃ E' M', Go M M' H H' ∧ StR X.K H' M' ∧ EnvR X.K H' M' E' σ' ∧ dWhileN dt t m DD E' (vis M'), ⟨n, E, M, Go.refl, s, re, q⟩, ?_⟩
    rintro m σ1 H1 ⟨E1, M1, g1, s1, r1, q1⟩
    cases m with
    | zero => exact q1.elim
    | succ m =>
      refine ⟨E1, M1, _, r1, s1, q1, fun c M2 H2 q2 g2 s2 => ?_⟩
      cases c with
      | false => exact k.nx E1 M2 σ1 H2 q2 (g1.trans g2) s2 (r1.mono g2.kp)
      | true =>
        refine ⟨fun σ' H' => ∃ E' M', Go M M' H H' ∧ StR X.K H' M' ∧ EnvR X.K H' M' E' σ' ∧ dWhileN dt t m DD E' (vis M'), fun σ' H' h => ⟨m, Nat.lt_succ_self m, h⟩, ?_⟩
        refine ⟨E1, M2, _, r1.mono g2.kp, s2, q2, ⟨fun E' M' σ' H' p g s' r' => ?_, fun d M' v H' p g s' i => k.rt d M' v H' p ((g1.trans g2).trans g) s' i, fun E' M' σ' H' p g s' r' => k.nx E' M' σ' H' p ((g1.trans g2).trans g) s' r', fun E' M' σ' H' p g s' r' => ?_⟩⟩
        · obtain ⟨E3, M3, q3, g3, s3, r3⟩ := weak_out p s' r'
          exact ⟨E3, M3, ((g1.trans g2).trans g).trans g3, s3, r3, q3⟩
        · obtain ⟨E3, M3, q3, g3, s3, r3⟩ := weak_out p s' r'
          exact ⟨E3, M3, ((g1.trans g2).trans g).trans g3, s3, r3, q3⟩
end
/-- what a for walks: its things, and what has to be so at each turn -/
structure DIt where
  items : List D
  chk : DM → Prop
abbrev DI := DEnv → DM → (DIt → DM → Prop) → Prop
def ItR (K : PySem.W.Frag) (it : DIt) (J : It) (H0 : Hp) (M0 : DM) : Prop := ∀ M H, Go M0 M H0 H → StR K H M → it.chk (vis M) → ∀ i, (it.items.length ≤ i → J.stop i H) ∧
  ∀ d, it.items[i]? = some d → J.go i H ∧ ∀ x H', J.yld i H x H' → Go M M H H' ∧ StR K H' M ∧ Is K H' M d x
def liftI (K : PySem.W.Frag) (di : DI) : TI := fun σ H R => ∃ E M P, EnvR K H M E σ ∧ StR K H M ∧ di E (vis M) P ∧ ∀ it M' J H', P it (vis M') → Go M M' H H' → StR K H' M' → ItR K it J H' M' → R J H'
abbrev PDI (X : Cx) (tg iter : Expr) (di : DI) : Prop := PI X tg iter (liftI X.K di)
section
variable {X : Cx} {tg iter : Expr} {di : DI} {g : DG} {t : DS} {pos : Pos}
theorem PI.imp {t t' : TI} (h : PI X tg iter t) (w : ∀ σ H R, t' σ H R → t σ H R) : PI X tg iter t' := ⟨fun pins s σ H R I q => h.run pins s σ H R I (w σ H R q)⟩
def dForGo (chk : DM → Prop) (g : DG) (t : DS) : List D → DS
  | [], D, E, M => chk M ∧ D.nx E M
  | d :: ds, D, E, M => chk M ∧ g d E M fun E1 M1 => t { D with nx := dWeak (dForGo chk g t ds D), ct := dWeak (dForGo chk g t ds D), bk := D.nx } E1 M1
def dFor (di : DI) (g : DG) (t : DS) : DS := fun D E M => di E M fun it M1 => dForGo it.chk g t it.items D E M1
theorem ps_forD {body : List Stmt} (hi : PDI X tg iter di) (hg : PDG X tg g) (hb : PDSs X body t) (hp : PassesOwn (model X.prog X.w) X.A X.env X.xe) (hc : X.calm = true)
    (hs : ∀ x, foldedSetIterable iter X.env x = pure x := by intro _; rfl) : PDS X (.For tg iter body [] pos) (dFor di g t) :=
  PS.imp (ps_for hp hc hi hg hb hs) fun D σ H ⟨E, M, DD, re, s, q, k⟩ => ⟨E, M, _, re, s, q, fun it M1 J H1 q1 g1 s1 J1 => by
    have k1 := k.go g1
    have re1 : EnvR X.K H1 M1 E σ := re.mono g1.kp
    refine ⟨fun i m σ' H' => m = it.items.length - i ∧ i ≤ it.items.length ∧ ∃ E' M', Go M1 M' H1 H' ∧ StR X.K H' M' ∧ EnvR X.K H' M' E' σ' ∧ dForGo it.chk g t (it.items.drop i) DD E' (vis M'),
      ⟨it.items.length, by simp, Nat.zero_le _, E, M1, Go.refl, s1, re1, by simpa using q1⟩, ?_⟩
    rintro i m σ2 H2 ⟨rfl, hi, E2, M2, g2, s2, r2, q2⟩
    by_cases hlt : i < it.items.length
    · have ed : it.items.drop i = it.items[i] :: it.items.drop (i + 1) := List.drop_eq_getElem_cons hlt
      rw [ed] at q2
      obtain ⟨c2, q2⟩ := q2
      have e2 : it.items[i]? = some it.items[i] := by simp [hlt]
      obtain ⟨go, yl⟩ := (J1 M2 H2 g2 s2 c2 i).2 _ e2
      refine .inr ⟨go, fun σ' H' => ∃ E' M', Go M1 M' H1 H' ∧ StR X.K H' M' ∧ EnvR X.K H' M' E' σ' ∧ dForGo it.chk g t (it.items.drop (i + 1)) DD E' (vis M'), fun σ' H' h => ⟨it.items.length - (i + 1), by omega, rfl, hlt, h⟩, fun x H3 y3 => ?_⟩
      obtain ⟨g3, s3, i3⟩ := yl x H3 y3
      refine ⟨_, E2, M2, _, i3, r2.mono g3.kp, s3, q2, fun E4 M4 σ4 H4 q4 g4 s4 r4 => ?_⟩
      have g04 := (g2.trans g3).trans g4
      refine ⟨E4, M4, _, r4, s4, q4, ⟨fun E' M' σ' H' p g s' r' => ?_, fun d M' v H' p g s' i => k1.rt d M' v H' p (g04.trans g) s' i, fun E' M' σ' H' p g s' r' => k1.nx E' M' σ' H' p (g04.trans g) s' r', fun E' M' σ' H' p g s' r' => ?_⟩⟩
      · obtain ⟨E5, M5, q5, g5, s5, r5⟩ := weak_out p s' r'
        exact ⟨E5, M5, (g04.trans g).trans g5, s5, r5, q5⟩
      · obtain ⟨E5, M5, q5, g5, s5, r5⟩ := weak_out p s' r'
        exact ⟨E5, M5, (g04.trans g).trans g5, s5, r5, q5⟩
    · have ed : it.items.drop i = [] := List.drop_eq_nil_of_le (by omega)
      rw [ed] at q2
      obtain ⟨c2, q2⟩ := q2
      exact .inl ⟨(J1 M2 H2 g2 s2 c2 i).1 (by omega), k1.nx E2 M2 σ2 H2 q2 g2 s2 r2⟩⟩

/-! ### what is walked -/
def diSeq (de : DE) : DI := fun E M R => de E M fun d M1 => ∃ ds, lstOf M1 d = some ds ∧ R ⟨ds, fun M' => lstOf M' d = some ds⟩ M1
def diTup (de : DE) : DI := fun E M R => de E M fun d M1 => ∃ ds, d = .tup ds ∧ R ⟨ds, fun _ => True⟩ M1
theorem pi_listD {de : DE} (h : PDE X iter de) : PDI X tg iter (diSeq de) :=
  PI.imp (pi_list h) fun σ H R ⟨E, M, P, re, s, q, k⟩ => ⟨E, M, _, re, s, q, fun d M1 v H1 ⟨ds, ed, q1⟩ g1 s1 i1 => by
    obtain ⟨a, vs, rfl, f1, l1⟩ := lstOf_is s1 ed i1
    refine ⟨a, rfl, ⟨vs, f1⟩, k _ M1 _ H1 q1 g1 s1 fun M2 H2 g2 s2 c2 i => ?_⟩
    obtain ⟨a', vs', e', f2, l2⟩ := lstOf_is s2 c2 (Is.mono g2.kp i1)
    cases e'
    refine ⟨fun hl => ⟨vs', f2, by rw [← l2.length]; exact hl⟩, fun d hd => ?_⟩
    obtain ⟨x, hx, ix⟩ := l2.get hd
    refine ⟨⟨vs', x, f2, hx⟩, fun y H' ⟨e, hy⟩ => ?_⟩
    subst e
    have e2 := hy vs' f2
    rw [hx] at e2; cases e2
    exact ⟨Go.refl, s2, ix⟩⟩
theorem pi_tupD {de : DE} (h : PDE X iter de) : PDI X tg iter (diTup de) :=
  PI.imp (pi_tup h) fun σ H R ⟨E, M, P, re, s, q, k⟩ => ⟨E, M, _, re, s, q, fun d M1 v H1 ⟨ds, ed, q1⟩ g1 s1 i1 => by
    subst ed
    unfold Is at i1
    obtain ⟨a, vs, rfl, f1, l1⟩ := i1
    refine ⟨a, rfl, ⟨vs, f1.sq⟩, k _ M1 _ H1 q1 g1 s1 fun M2 H2 g2 s2 c2 i => ?_⟩
    have f2 := g2.tp f1
    have l2 := IsL.mono g2.kp l1
    refine ⟨fun hl => ⟨vs, f2.sq, by rw [← l2.length]; exact hl⟩, fun d hd => ?_⟩
    obtain ⟨x, hx, ix⟩ := l2.get hd
    refine ⟨⟨vs, x, f2.sq, hx⟩, fun y H' ⟨e, hy⟩ => ?_⟩
    subst e
    have e2 := hy vs f2.sq
    rw [hx] at e2; cases e2
    exact ⟨Go.refl, s2, ix⟩⟩
def rngD (lo : Int) (n : Nat) : List D := (List.range n).map fun (i : Nat) => D.int (lo + (i : Int))
theorem rngD_get {lo : Int} {n i : Nat} {d : D} (h : (rngD lo n)[i]? = some d) : i < n ∧ d = .int (lo + (i : Int)) := by
  unfold rngD at h
  rw [List.getElem?_map] at h
  by_cases hi : i < n
  · rw [List.getElem?_range hi] at h
    exact ⟨hi, (Option.some.inj h).symm⟩
  · rw [List.getElem?_eq_none (by simp; omega)] at h; cases h
theorem rngD_length {lo : Int} {n : Nat} : (rngD lo n).length = n := by unfold rngD; simp
theorem itr_rng {K : PySem.W.Frag} {lo : Int} {n : Nat} {H : Hp} {M : DM} : ItR K ⟨rngD lo n, fun _ => True⟩ (Itr lo n) H M := fun M2 H2 g2 s2 _ i => by
  refine ⟨fun hl => by rw [rngD_length] at hl; exact hl, fun d hd => ?_⟩
  obtain ⟨h1, h2⟩ := rngD_get hd
  subst h2
  exact ⟨h1, fun x H' ⟨e1, e2⟩ => by subst e1 e2; exact ⟨Go.refl, s2, is_int⟩⟩
def diRng1 (da : DA) : DI := fun E M R => da E M fun ds M1 => ∃ j : Int, ds = [.int j] ∧ (-(2 ^ 62) ≤ j ∧ j < 2 ^ 62) ∧ R ⟨rngD 0 j.toNat, fun _ => True⟩ M1
def diRng2 (da : DA) : DI := fun E M R => da E M fun ds M1 => ∃ i j : Int, ds = [.int i, .int j] ∧ (-(2 ^ 62) ≤ i ∧ i < 2 ^ 62 ∧ -(2 ^ 62) ≤ j ∧ j < 2 ^ 62) ∧ R ⟨rngD i (j - i).toNat, fun _ => True⟩ M1
theorem isl_one {K : PySem.W.Frag} {H : Hp} {M : DM} {d : D} {vs : List V} (h : IsL K H M [d] vs) : ∃ v, vs = [v] ∧ Is K H M d v := by
  unfold IsL at h
  obtain ⟨v, r, rfl, a, b⟩ := h
  unfold IsL at b; subst b
  exact ⟨v, rfl, a⟩
theorem isl_two {K : PySem.W.Frag} {H : Hp} {M : DM} {d d' : D} {vs : List V} (h : IsL K H M [d, d'] vs) : ∃ v v', vs = [v, v'] ∧ Is K H M d v ∧ Is K H M d' v' := by
  unfold IsL at h
  obtain ⟨v, r, rfl, a, b⟩ := h
  obtain ⟨v', rfl, c⟩ := isl_one b
  exact ⟨v, v', rfl, a, c⟩
theorem pi_range1D {a : Expr} {da : DA} {p : Pos} (hg : Gl X "range") (hm : X.mg "range" = none) (ha : PDA X [a] da) (hs : starEach [a] X.env = [(false, eval a X.env)] := by rfl) : PDI X tg (.Call (.Name "range" p) [a] [] pos) (diRng1 da) :=
  PI.imp (pi_range1 hg hm ha hs) fun σ H R ⟨E, M, P, re, s, q, k⟩ => ⟨E, M, _, re, s, q, fun ds M1 vs H1 ⟨j, ed, ⟨h1, h2⟩, q1⟩ g1 s1 i1 => by
    subst ed
    obtain ⟨v, rfl, iv⟩ := isl_one i1
    unfold Is at iv; subst iv
    exact ⟨j, rfl, h1, h2, k _ M1 _ H1 q1 g1 s1 itr_rng⟩⟩
theorem pi_range2D {a b : Expr} {da : DA} {p : Pos} (ha : PDA X [a, b] da) (hp : PI X tg (.Call (.Name "range" p) [a, b] [] pos) (iRng2 (liftA X.K da))) : PDI X tg (.Call (.Name "range" p) [a, b] [] pos) (diRng2 da) :=
  PI.imp hp fun σ H R ⟨E, M, P, re, s, q, k⟩ => ⟨E, M, _, re, s, q, fun ds M1 vs H1 ⟨i, j, ed, hb, q1⟩ g1 s1 i1 => by
    subst ed
    obtain ⟨v, v', rfl, iv, iv'⟩ := isl_two i1
    unfold Is at iv iv'; subst iv iv'
    exact ⟨i, j, rfl, hb, k _ M1 _ H1 q1 g1 s1 itr_rng⟩⟩
end
end DL

set_option Elab.async false
set_option linter.all false
set_option maxRecDepth 100000
set_option maxHeartbeats 4000000
/-! DLd: fresh objects, comprehensions, subscripts, slices, operators. -/
namespace DL
open PySem PySem.Spec PyProof.Rows L2
/-- what makes a new list or dict -/
abbrev DN := DEnv → DM → (MO → DM → Prop) → Prop
abbrev NF := DEnv → DM → Option MO
def liftN (K : PySem.W.Frag) (dn : DN) : TE := fun σ H Q => ∃ E M P, EnvR K H M E σ ∧ StR K H M ∧ dn E (vis M) P ∧
  ∀ mo M' p H', P mo (vis M') → mo ≠ .hid → Go M M' H H' → StR K H' M' → H p = none → M' p = some .hid → MOIs K H' M' p mo → Q (.ref p) H'
abbrev PDN (X : Cx) (e : Expr) (dn : DN) : Prop := PE X e (liftN X.K dn)
def frzMO : MO → Option D
  | .lst ds => some (.lst ds)
  | .dk kvs => some (.dk kvs)
  | .dt kvs => some (.dt kvs)
  | _ => none
/-- kept as a value that nothing changes; laid in the store -/
def dFz (dn : DN) : DE := fun E M Q => dn E M fun mo M' => ∃ d, frzMO mo = some d ∧ Q d M'
def dNew (dn : DN) : DE := fun E M Q => dn E M fun mo M' => ∀ p, M' p = none → Q (.ref p) (up M' p mo)
def dNP (f : NF) : DN := fun E M P => ∃ mo, f E M = some mo ∧ P mo M
def rm (M : DM) (p : Addr) : DM := fun a => if a = p then none else M a
section
variable {K : PySem.W.Frag} {M M' : DM} {H H' : Hp} {p : Addr} {mo : MO} {X : Cx} {e : Expr}
theorem rm_same : rm M p p = none := by unfold rm; rw [if_pos rfl]
theorem rm_sub : Sub (rm M p) M := fun a o e => by
  unfold rm at e
  by_cases h : a = p
  · rw [if_pos h] at e; cases e
  · rw [if_neg h] at e; exact e
theorem rm_vis (h : M p = some .hid) : vis (rm M p) = vis M := by
  funext a; unfold vis rm
  by_cases e : a = p
  · subst e; rw [if_pos rfl, h]
  · rw [if_neg e]
theorem go_rm (g : Go M M' H H') (s : StR K H M) (n : H p = none) : Go M (rm M' p) H H' := by
  have hp : ∀ a, M a = some .hid → a ≠ p := fun a e z => by
    obtain ⟨o, q⟩ := s.ex e
    rw [z, n] at q; cases q
  refine ⟨fun a o e m => ⟨rm_sub.no (g.1 a o e m).1, (g.1 a o e m).2⟩, fun a e => ⟨?_, (g.2.1 a e).2⟩, g.2.2⟩
  unfold rm
  rw [if_neg (hp a e)]
  exact (g.2.1 a e).1
theorem go_track (g : Go M M' H H') (s : StR K H M) (n : H p = none) : Go M (up M' p mo) H H' := by
  have hp : ∀ a, M a = some .hid → a ≠ p := fun a e z => by
    obtain ⟨o, q⟩ := s.ex e
    rw [z, n] at q; cases q
  refine ⟨fun a o e m => ⟨?_, (g.1 a o e m).2⟩, fun a e => ⟨?_, (g.2.1 a e).2⟩, g.2.2⟩
  · rw [up_ne (ne_of_none e n)]; exact (g.1 a o e m).1
  · rw [up_ne (hp a e)]; exact (g.2.1 a e).1
theorem kp_track (h : M p = some .hid) : Kp K M (up M p mo) H H := by
  have hn : ∀ a, M a = none → up M p mo a = none := fun a n => by rw [up_ne (fun z => by subst z; rw [h] at n; cases n)]; exact n
  exact ⟨fun a vs f => ⟨f.1, hn a f.2⟩, fun a vs f => ⟨f.1, hn a f.2⟩, fun a vs f => f.elim (fun q => .inl ⟨q.1, hn a q.2⟩) .inr, fun a vs r n => ⟨r, hn a n⟩, fun a vs r n => ⟨r, hn a n⟩⟩
theorem str_track (s : StR K H M) (h : M p = some .hid) (q : MOIs K H M p mo) : StR K H (up M p mo) := fun a m e => by
  have ow : ∀ b x, H b = some (.own x) → M b = none → H b = some (.own x) ∧ up M p mo b = none := fun b x e n => ⟨e, by rw [up_ne (fun z => by subst z; rw [h] at n; cases n)]; exact n⟩
  by_cases ha : a = p
  · subst ha; rw [up_same] at e; cases e
    exact MOIs.carry (kp_track h) ow rfl q
  · rw [up_ne ha] at e
    exact MOIs.carry (kp_track h) ow rfl (s a m e)
theorem is_frz {d : D} (s : StR K H M) (h : M p = some .hid) (q : MOIs K H M p mo) (e : frzMO mo = some d) : Is K H (rm M p) d (.ref p) := by
  have k : Kp K M (rm M p) H H := Sub.kp rm_sub
  cases mo with
  | lst ds =>
    cases e
    obtain ⟨vs, e1, e2⟩ := q
    unfold Is
    exact ⟨p, vs, rfl, ⟨e1, rm_same⟩, IsL.mono k e2⟩
  | dk ds =>
    cases e
    obtain ⟨vs, e1, e2⟩ := q
    unfold Is
    exact ⟨p, vs, rfl, .inl e1, rm_same, IsK.mono k e2⟩
  | dt ds =>
    cases e
    obtain ⟨vs, e1, e2⟩ := q
    unfold Is
    exact ⟨p, vs, rfl, .inl e1, rm_same, IsT.mono k e2⟩
  | _ => cases e
theorem PDN.fz {dn : DN} (h : PDN X e dn) : PDE X e (dFz dn) :=
  PE.imp h fun σ H Q ⟨E, M, P, re, s, q, k⟩ => ⟨E, M, _, re, s, q, fun mo M' p H' ⟨d, ed, q'⟩ _ g s' n m i => k d (rm M' p) (.ref p) H' (by rw [rm_vis m]; exact q') (go_rm g s n) (s'.sub rm_sub) (is_frz s' m i ed)⟩
theorem PDN.new {dn : DN} (h : PDN X e dn) : PDE X e (dNew dn) :=
  PE.imp h fun σ H Q ⟨E, M, P, re, s, q, k⟩ => ⟨E, M, _, re, s, q, fun mo M' p H' q' nh g s' n m i => by
    have hv : vis M' p = none := by unfold vis; rw [m]
    exact k (.ref p) (up M' p mo) (.ref p) H' (by rw [vis_up nh]; exact q' p hv) (go_track g s n) (str_track s' m i) is_ref⟩
theorem PDN.wk {dn dn' : DN} (h : PDN X e dn) (w : ∀ E M Q, dn' E M Q → dn E M Q) : PDN X e dn' :=
  PE.imp h fun _ _ _ ⟨E, M, P, r, s, q, k⟩ => ⟨E, M, P, r, s, w E (vis M) P q, k⟩
def pFz (f : NF) : PF := fun E M => (f E M).bind frzMO
theorem PDN.fzP {f : NF} (h : PDN X e (dNP f)) : PDE X e (dP (pFz f)) :=
  PDE.wk h.fz fun E M Q ⟨d, ed, q⟩ => by
    unfold pFz at ed
    cases ef : f E M with
    | none => rw [ef] at ed; cases ed
    | some mo => rw [ef] at ed; exact ⟨mo, ef, d, ed, q⟩
/-- a new object laid at once -/
theorem fresh_laid {o : HO} (s : StR K H M) (n : H p = none) (q : MOIs K (upd H p o) (up M p .hid) p mo) :
    vis (up M p .hid) = vis M ∧ Go M (up M p .hid) H (upd H p o) ∧ StR K (upd H p o) (up M p .hid) ∧ (up M p MO.hid) p = some .hid ∧ MOIs K (upd H p o) (up M p .hid) p mo :=
  ⟨vis_hid (s.no n), Go.newS s n, s.newS n ⟨o, upd_same⟩, up_same, q⟩
theorem mois_lst_new {ds : List D} {vs : List V} (s : StR K H M) (n : H p = none) (r : IsL K H M ds vs) : MOIs K (upd H p (.lst vs)) (up M p .hid) p (.lst ds) :=
  ⟨vs, upd_same, IsL.mono (Go.newS s n).kp r⟩
/-- the rules' way: a new list at any free place -/
theorem fresh_lst {Q : VK} {P : MO → DM → Prop} {H0 : Hp} {M0 : DM} {ds : List D} {vs : List V} (q : P (.lst ds) (vis M)) (g : Go M0 M H0 H) (s0 : StR K H0 M0) (s : StR K H M) (r : IsL K H M ds vs)
    (k : ∀ mo M' p H', P mo (vis M') → mo ≠ .hid → Go M0 M' H0 H' → StR K H' M' → H0 p = none → M' p = some .hid → MOIs K H' M' p mo → Q (.ref p) H') :
    ∀ p, H p = none → Q (.ref p) (upd H p (.lst vs)) := fun p n => by
  obtain ⟨e1, e2, e3, e4, e5⟩ := fresh_laid (mo := .lst ds) s n (mois_lst_new s n r)
  exact k (.lst ds) _ p _ (by rw [e1]; exact q) (by intro z; cases z) (g.trans e2) e3 (g.back n) e4 e5
end
end DL

set_option Elab.async false
set_option linter.all false
set_option maxRecDepth 100000
set_option maxHeartbeats 4000000
/-! DLe: displays, comprehensions, subscripts, slices, operators, methods, builtins. -/
namespace DL
open PySem PySem.Spec PyProof.Rows L2
section
variable {X : Cx} {e a b : Expr} {es : List Expr} {de da db : DE} {das : DA} {f g : PF} {fs : LF} {pos : Pos}
/-! ### list display -/
def dLst (das : DA) : DN := fun E M P => das E M fun ds M1 => ds.length ≤ sizeLine ∧ P (.lst ds) M1
def nLst (fs : LF) : NF := fun E M => (fs E M).bind fun ds => if ds.length ≤ sizeLine then some (.lst ds) else none
theorem pn_lst (h : PDA X es das) : PDN X (.List es pos) (dLst das) :=
  PE.imp (pe_lst h) fun σ H Q ⟨E, M, P, re, s, q, k⟩ => ⟨E, M, _, re, s, q, fun xs M1 vs H1 ⟨hl, q1⟩ g1 s1 i1 => ⟨by rw [← i1.length]; exact hl, fresh_lst q1 g1 s s1 i1 k⟩⟩
theorem pn_lstP (h : PDA X es (dAP fs)) : PDN X (.List es pos) (dNP (nLst fs)) := PDN.wk (pn_lst h) fun E M Q ⟨mo, e, q⟩ => by
  unfold nLst at e
  cases ef : fs E M with
  | none => rw [ef] at e; cases e
  | some ds =>
    rw [ef] at e
    dsimp only [Option.bind_some] at e
    by_cases hl : ds.length ≤ sizeLine
    · rw [if_pos hl] at e; cases e; exact ⟨ds, ef, hl, q⟩
    · rw [if_neg hl] at e; cases e

/-! ### comprehensions -/
theorem wipe_set {α : Type} {vs : List Nat} {i : Nat} (h : i ∈ vs) (σ : List (Option α)) (x : Option α) (w : List (Option α) → List Nat → List (Option α)) (w0 : ∀ s, w s [] = s) (w1 : ∀ s v r, w s (v :: r) = (w s r).set v none) : w (σ.set i x) vs = w σ vs := by
  induction vs with
  | nil => cases h
  | cons v r ih =>
    rw [w1, w1]
    by_cases hv : v = i
    · subst hv
      by_cases hr : v ∈ r
      · rw [ih hr]
      · have key : ∀ r : List Nat, v ∉ r → w (σ.set v x) r = (w σ r).set v x := by
          intro r
          induction r with
          | nil => intro _; rw [w0, w0]
          | cons u r ih2 =>
            intro hu
            rw [w1, w1, ih2 (fun z => hu (List.mem_cons_of_mem _ z))]
            exact List.set_comm _ _ (fun z => hu (by rw [z]; exact List.mem_cons_self))
        rw [key r hr, List.set_set]
    · rw [ih ((List.mem_cons.mp h).resolve_left (fun z => hv z.symm))]
theorem L2wipe_set {vs : List Nat} {i : Nat} (h : i ∈ vs) (σ : L2.St) (x : Option V) : L2.wipe (σ.set i x) vs = L2.wipe σ vs := wipe_set h σ x L2.wipe (fun _ => rfl) (fun _ _ _ => rfl)
theorem L2wipe_wipe (vs : List Nat) (σ : L2.St) : L2.wipe (L2.wipe σ vs) vs = L2.wipe σ vs := by
  have key : ∀ us, (∀ i ∈ us, i ∈ vs) → L2.wipe (L2.wipe σ us) vs = L2.wipe σ vs := by
    intro us
    induction us with
    | nil => intro _; rfl
    | cons u r ih =>
      intro h
      show L2.wipe ((L2.wipe σ r).set u none) vs = _
      rw [L2wipe_set (h u List.mem_cons_self)]
      exact ih fun i hi => h i (List.mem_cons_of_mem _ hi)
  exact key vs fun _ h => h
/-- targets whose names are the block's own -/
def liftGw (K : PySem.W.Frag) (ws : List Nat) (dg : DG) : TG := fun v σ H Q => ∃ d E M P, Is K H M d v ∧ EnvR K H M E σ ∧ StR K H M ∧ dg d E (vis M) P ∧ ∀ E' M' σ' H', P E' (vis M') → Go M M' H H' → StR K H' M' → EnvR K H' M' E' σ' → L2.wipe σ' ws = L2.wipe σ ws → Q σ' H'
def liftGsw (K : PySem.W.Frag) (ws : List Nat) (dg : DGs) : TGs := fun vs σ H Q => ∃ ds E M P, IsL K H M ds vs ∧ EnvR K H M E σ ∧ StR K H M ∧ dg ds E (vis M) P ∧ ∀ E' M' σ' H', P E' (vis M') → Go M M' H H' → StR K H' M' → EnvR K H' M' E' σ' → L2.wipe σ' ws = L2.wipe σ ws → Q σ' H'
abbrev PDGw (X : Cx) (ws : List Nat) (tg : Expr) (dg : DG) : Prop := PG X tg (liftGw X.K ws dg)
abbrev PDGsw (X : Cx) (ws : List Nat) (es : List Expr) (dg : DGs) : Prop := PGs X es (liftGsw X.K ws dg)
theorem pg_nameW {ws : List Nat} {x : Str} {i : Nat} (h : PG X (.Name x pos) (gName i)) (hi : i ∈ ws) : PDGw X ws (.Name x pos) (dgName i) :=
  PG.imp h fun v σ H Q ⟨d, E, M, P, i1, re, s, q, k⟩ => k _ M _ H q Go.refl s (re.set i1 i) (L2wipe_set hi σ _)
theorem pgs_nilW {ws : List Nat} : PDGsw X ws [] dgNil := PGs.imp pgs_nil fun v σ H Q ⟨ds, E, M, P, i1, re, s, ⟨e, q⟩, k⟩ => by
  subst e
  unfold IsL at i1
  exact ⟨i1, k E M σ H q Go.refl s re rfl⟩
theorem pgs_consW {ws : List Nat} {g : DG} {gs : DGs} (h : PDGw X ws e g) (hs : PDGsw X ws es gs) (hq : List.map (fun x => x.snd) (assignEach (e :: es) X.env) = assign e X.env :: List.map (fun x => x.snd) (assignEach es X.env) := by rfl) : PDGsw X ws (e :: es) (dgCons g gs) := PGs.imp (pgs_cons h hs hq) fun v σ H Q ⟨ds, E, M, P, i1, re, s, ⟨d, r, ed, q⟩, k⟩ => by
  subst ed
  unfold IsL at i1
  obtain ⟨w, us, rfl, i2, i3⟩ := i1
  exact ⟨w, us, rfl, d, E, M, _, i2, re, s, q, fun E' M' σ' H' q' g' s' re' w' => ⟨r, E', M', P, IsL.mono g'.kp i3, re', s', q', fun E2 M2 σ2 H2 p2 g2 s2 r2 w2 => k E2 M2 σ2 H2 p2 (g'.trans g2) s2 r2 (w2.trans w')⟩⟩
theorem pg_tupW {ws : List Nat} {kk n : Nat} {gs : DGs} (hg : PG X (.Tuple es kk pos) (gTup X.K n (liftGsw X.K ws gs))) : PDGw X ws (.Tuple es kk pos) (dgTup n gs) :=
  PG.imp hg fun v σ H Q ⟨d, E, M, P, i1, re, s, ⟨ds, ed, el, q⟩, k⟩ => by
    subst ed
    unfold Is at i1
    obtain ⟨a, vs, e, f, r⟩ := i1
    exact ⟨a, vs, e, f.sq, by rw [← r.length]; exact el, ds, E, M, P, r, re, s, q, k⟩
def dYes : DT := fun _ M Q => Q true M
abbrev PDTs (X : Cx) (ifs : List Expr) (dt : DT) : Prop := PTs X ifs (liftT X.K dt)
theorem PTs.imp {ifs : List Expr} {t t' : TT} (h : PTs X ifs t) (w : ∀ σ H Q, t' σ H Q → t σ H Q) : PTs X ifs t' := ⟨fun pins s σ H Q I q => h.run pins s σ H Q I (w σ H Q q)⟩
theorem pts_nilD : PDTs X [] dYes := PTs.imp pts_nil fun σ H Q ⟨E, M, P, re, s, q, k⟩ => k true M H q Go.refl s
theorem pts_oneD {c : Expr} {dt : DT} (h : PDT X c dt) : PDTs X [c] dt := pts_one h
def dLcGo (chk : DM → Prop) (g : DG) (tt : DT) (te : DE) (E : DEnv) (P : MO → DM → Prop) : List D → List D → DM → Prop
  | [], acc, M => chk M ∧ P (.lst acc) M
  | d :: ds, acc, M => chk M ∧ g d E M fun E1 M1 => tt E1 M1 fun c M2 => if c = true then te E1 M2 fun y M3 => acc.length < sizeLine ∧ dLcGo chk g tt te E P ds (acc ++ [y]) M3 else dLcGo chk g tt te E P ds acc M2
def dLc (di : DI) (g : DG) (tt : DT) (te : DE) (ws : List Nat) : DN := fun E M P => di E M fun it M1 => dLcGo it.chk g tt te (wipeD E ws) P it.items [] M1
theorem lift_lc {di : DI} {g : DG} {tt : DT} {te : DE} {ws : List Nat} {σ : L2.St} {H : Hp} {Q : VK} (h : liftN X.K (dLc di g tt te ws) σ H Q) : tLc (liftI X.K di) (liftGw X.K ws g) (liftT X.K tt) (liftE X.K te) ws σ H Q := by
  obtain ⟨E, M, P, re, s, q, k⟩ := h
  refine ⟨E, M, _, re, s, q, fun it M1 J H1 q1 g1 s1 J1 => ?_⟩
  intro Dl nD
  have nM : M1 Dl = none := s1.no nD
  have hw : EnvR X.K H1 M1 (wipeD E ws) (L2.wipe σ ws) := (re.mono g1.kp).wipe ws
  -- the state between two turns
  refine ⟨fun i m H' => m = it.items.length - i ∧ i ≤ it.items.length ∧ ∃ (acc : List D) (vs : List V) (M' : DM), Go M1 M' H1 H' ∧ StR X.K H' M' ∧ M' Dl = some .hid ∧ H' Dl = some (.lst vs) ∧ IsL X.K H' M' acc vs ∧ dLcGo it.chk g tt te (wipeD E ws) P (it.items.drop i) acc (vis M'),
    ⟨it.items.length, by simp, Nat.zero_le _, [], [], up M1 Dl .hid, Go.newS s1 nD, s1.newS nD ⟨_, upd_same⟩, up_same, upd_same, IsL.nil, by rw [vis_hid nM]; simpa using q1⟩, ?_⟩
  rintro i m H2 ⟨rfl, hi, acc, vs, M2, g2, s2, h2, e2, a2, q2⟩
  by_cases hlt : i < it.items.length
  · have ed : it.items.drop i = it.items[i] :: it.items.drop (i + 1) := List.drop_eq_getElem_cons hlt
    rw [ed] at q2
    obtain ⟨c2, q2⟩ := q2
    have ei : it.items[i]? = some it.items[i] := by simp [hlt]
    obtain ⟨go, yl⟩ := (J1 M2 H2 g2 s2 c2 i).2 _ ei
    refine .inr ⟨go, fun H' => ∃ (acc : List D) (vs : List V) (M' : DM), Go M1 M' H1 H' ∧ StR X.K H' M' ∧ M' Dl = some .hid ∧ H' Dl = some (.lst vs) ∧ IsL X.K H' M' acc vs ∧ dLcGo it.chk g tt te (wipeD E ws) P (it.items.drop (i + 1)) acc (vis M'),
      fun H' h => ⟨it.items.length - (i + 1), by omega, rfl, hlt, h⟩, fun x H3 y3 => ?_⟩
    obtain ⟨g3, s3, i3⟩ := yl x H3 y3
    have r3 : EnvR X.K H3 M2 (wipeD E ws) (L2.wipe σ ws) := hw.mono ((g2.trans g3).kp)
    refine ⟨_, _, M2, _, i3, r3, s3, q2, fun E4 M4 σ4 H4 q4 g4 s4 r4 w4 => ⟨w4.trans (L2wipe_wipe ws σ), ?_⟩⟩
    refine ⟨E4, M4, _, r4, s4, q4, fun c M5 H5 q5 g5 s5 => ?_⟩
    have g25 := (g3.trans g4).trans g5
    cases c with
    | false =>
      obtain ⟨x1, x2⟩ := g25.2.1 Dl h2
      exact ⟨acc, vs, M5, g2.trans g25, s5, x1, x2.trans e2, IsL.mono g25.kp a2, q5⟩
    | true =>
      refine ⟨E4, M5, _, r4.mono g5.kp, s5, q5, fun y M6 v H6 ⟨hl, q6⟩ g6 s6 i6 => ?_⟩
      have g26 := g25.trans g6
      obtain ⟨x1, x2⟩ := g26.2.1 Dl h2
      refine ⟨vs, x2.trans e2, by rw [← a2.length]; exact hl, acc ++ [y], vs ++ [v], M6, (g2.trans g26).scratch nD nM, s6.owner x1, x1, upd_same, ?_, q6⟩
      exact IsL.mono (kp_owner x1) (IsL.append (IsL.mono g26.kp a2) (IsL.cons i6 IsL.nil))
  · have ed : it.items.drop i = [] := List.drop_eq_nil_of_le (by omega)
    rw [ed] at q2
    obtain ⟨c2, q2⟩ := q2
    exact .inl ⟨(J1 M2 H2 g2 s2 c2 i).1 (by omega), k (.lst acc) M2 Dl H2 q2 (by intro z; cases z) (g1.trans g2) s2 (g1.back nD) h2 ⟨vs, e2, a2⟩⟩

/-! ### pure comprehensions: nothing changes -/
abbrev IF := DEnv → DM → Option (List D)
def diP (f : IF) : DI := fun E M R => ∃ ds, f E M = some ds ∧ R ⟨ds, fun M' => M' = M⟩ M
abbrev GF := D → DEnv → Option DEnv
def dgP (g : GF) : DG := fun d E M Q => ∃ E', g d E = some E' ∧ Q E' M
def pLcGo (g : GF) (tt : BF) (te : PF) (E : DEnv) (M : DM) : List D → Option (List D)
  | [] => some []
  | d :: ds => (g d E).bind fun E1 => (tt E1 M).bind fun c => if c = true then (te E1 M).bind fun y => (pLcGo g tt te E M ds).map fun r => y :: r else pLcGo g tt te E M ds
def nLc (fi : IF) (g : GF) (tt : BF) (te : PF) (ws : List Nat) : NF := fun E M => (fi E M).bind fun ds => if ds.length ≤ sizeLine then (pLcGo g tt te (wipeD E ws) M ds).map .lst else none
theorem pLc_go {M : DM} {g : GF} {tt : BF} {te : PF} {E : DEnv} {P : MO → DM → Prop} : ∀ {ds acc out : List D}, pLcGo g tt te E M ds = some out → acc.length + ds.length ≤ sizeLine → P (.lst (acc ++ out)) M → dLcGo (fun M' => M' = M) (dgP g) (dTP tt) (dP te) E P ds acc M
  | [], acc, out, h, _, q => by
    cases h
    rw [List.append_nil] at q
    exact ⟨rfl, q⟩
  | d :: ds, acc, out, h, hl, q => by
    unfold pLcGo at h
    rw [List.length_cons] at hl
    refine ⟨rfl, ?_⟩
    cases e1 : g d E with
    | none => rw [e1] at h; cases h
    | some E1 =>
      refine ⟨E1, e1, ?_⟩
      rw [e1] at h
      dsimp only [Option.bind_some] at h
      cases e2 : tt E1 M with
      | none => rw [e2] at h; cases h
      | some c =>
        refine ⟨c, e2, ?_⟩
        rw [e2] at h
        dsimp only [Option.bind_some] at h
        cases c with
        | false => exact pLc_go h (by omega) q
        | true =>
          rw [if_pos rfl] at h ⊢
          cases e3 : te E1 M with
          | none => rw [e3] at h; cases h
          | some y =>
            rw [e3] at h
            dsimp only [Option.bind_some] at h
            cases e4 : pLcGo g tt te E M ds with
            | none => rw [e4] at h; cases h
            | some r =>
              rw [e4] at h
              cases h
              refine ⟨y, e3, by omega, pLc_go e4 (by rw [List.length_append]; simp; omega) (by rw [List.append_assoc]; exact q)⟩
theorem dLc_P {fi : IF} {g : GF} {tt : BF} {te : PF} {ws : List Nat} {E : DEnv} {M : DM} {Q : MO → DM → Prop} (h : dNP (nLc fi g tt te ws) E M Q) : dLc (diP fi) (dgP g) (dTP tt) (dP te) ws E M Q := by
  obtain ⟨mo, e, q⟩ := h
  unfold nLc at e
  cases ef : fi E M with
  | none => rw [ef] at e; cases e
  | some ds =>
    rw [ef] at e
    dsimp only [Option.bind_some] at e
    by_cases hl : ds.length ≤ sizeLine
    · rw [if_pos hl] at e
      cases e2 : pLcGo g tt te (wipeD E ws) M ds with
      | none => rw [e2] at e; cases e
      | some out =>
        rw [e2] at e
        cases e
        exact ⟨ds, ef, pLc_go e2 (by simpa using hl) (by simpa using q)⟩
    · rw [if_neg hl] at e; cases e
end
end DL

set_option Elab.async false
set_option linter.all false
set_option maxRecDepth 100000
set_option maxHeartbeats 4000000
/-! DLq: equality of deep values. -/
namespace DL
open PySem PySem.Spec PyProof.Rows L2
/-! data without dicts -/
mutual
def ndP : PyData → Bool
  | .list xs => ndPs xs
  | .tuple xs => ndPs xs
  | .dict _ => false
  | _ => true
def ndPs : List PyData → Bool
  | [] => true
  | x :: xs => ndP x && ndPs xs
end
section
variable {h : Heap} {s : Shared} {A : Around}
theorem ndPs_cons {x : PyData} {xs : List PyData} (q : ndPs (x :: xs) = true) : ndP x = true ∧ ndPs xs = true := by
  unfold ndPs at q
  exact Bool.and_eq_true_iff.mp q
mutual
/-- one value read twice -/
theorem rd_one : ∀ (x y : PyData) (v : Value) (as bs : List Addr), ndP x = true → Reads h v x as → Reads h v y bs → x = y
  | .none, y, v, as, bs, _, r, q => by cases r; cases q; rfl
  | .bool b, y, v, as, bs, _, r, q => by cases r; cases q; rfl
  | .int i, y, v, as, bs, _, r, q => by cases r; cases q; rfl
  | .str z, y, v, as, bs, _, r, q => by cases r; cases q; rfl
  | .list xs, y, v, as, bs, n, r, q => by
    unfold ndP at n
    cases r with
    | list a1 a2 a3 a4 =>
      cases q with
      | list b1 b2 b3 b4 =>
        rw [a1] at b1; cases b1; rw [a3] at b3; cases b3
        rw [rd_ones _ _ _ _ _ n a4 b4]
      | tuple b1 b2 b3 b4 => rw [a1] at b1; cases b1; rw [a2] at b2; simp at b2
      | dict b1 b2 b3 b4 b5 => rw [a1] at b1; cases b1; rw [a2] at b2; simp at b2
  | .tuple xs, y, v, as, bs, n, r, q => by
    unfold ndP at n
    cases r with
    | tuple a1 a2 a3 a4 =>
      cases q with
      | tuple b1 b2 b3 b4 =>
        rw [a1] at b1; cases b1; rw [a3] at b3; cases b3
        rw [rd_ones _ _ _ _ _ n a4 b4]
      | list b1 b2 b3 b4 => rw [a1] at b1; cases b1; rw [a2] at b2; simp at b2
      | dict b1 b2 b3 b4 b5 => rw [a1] at b1; cases b1; rw [a2] at b2; simp at b2
  | .dict _, _, _, _, _, n, _, _ => by cases n
theorem rd_ones : ∀ (xs ys : List PyData) (vs : List Value) (as bs : List Addr), ndPs xs = true → ReadsAll h vs xs as → ReadsAll h vs ys bs → xs = ys
  | [], ys, vs, as, bs, _, r, q => by cases r; cases q; rfl
  | x :: xs, ys, vs, as, bs, n, r, q => by
    obtain ⟨n1, n2⟩ := ndPs_cons n
    cases r with
    | cons a1 a2 =>
      cases q with
      | cons b1 b2 => rw [rd_one _ _ _ _ _ n1 a1 b1, rd_ones _ _ _ _ _ n2 a2 b2]
end
mutual
theorem eqv_nd : ∀ (x : PyData), ndP x = true → PyData.eqv x x = true
  | .none, _ => rfl
  | .bool b, _ => by simp [PyData.eqv]
  | .int i, _ => by simp [PyData.eqv]
  | .str z, _ => by simp [PyData.eqv]
  | .list xs, n => by unfold ndP at n; rw [PyData.eqv]; exact eqv_nds xs n
  | .tuple xs, n => by unfold ndP at n; rw [PyData.eqv]; exact eqv_nds xs n
  | .dict _, n => by cases n
theorem eqv_nds : ∀ (xs : List PyData), ndPs xs = true → PyData.eqvAll xs xs = true
  | [], _ => rfl
  | x :: xs, n => by
    obtain ⟨n1, n2⟩ := ndPs_cons n
    rw [PyData.eqvAll, eqv_nd x n1, eqv_nds xs n2]; rfl
end
theorem eqv_one (x y : PyData) (v : Value) (as bs : List Addr) (n : ndP x = true) (r : Reads h v x as) (q : Reads h v y bs) : PyData.eqv x y = true := by
  have e := rd_one x y v as bs n r q
  subst e
  exact eqv_nd x n
/-- from richCompare to eqBool: what is the same is equal -/
theorem EqAt_of_rc {a b : Value} {k : Bool} (r : SeqAt.RcAt A s a b k) (hs : a = b → k = true) (hf : ∀ x t, a ≠ .float x t) : SeqAt.EqAt A s a b k := fun prog w E Q hq => by
  by_cases e : a = b
  · have hk := hs e
    subst e; subst hk
    exact SeqAt.EqAt.same a prog w E Q hq
  · unfold eqBool
    refine wpAny_holding (wpAny_ite_split (fun z => absurd (eq_of_beq z) e) fun _ => ?_)
    cases a <;> first | exact absurd rfl (hf _ _) | exact wpAny_bind (r prog w E _ (wpAny_truthy_bool hq))
theorem reads_nf {v : Value} {x : PyData} {as : List Addr} (r : Reads h v x as) : ∀ z t, v ≠ .float z t := fun z t e => by
  subst e; cases r
theorem ra_len {vs : List Value} {xs : List PyData} {as : List Addr} (r : ReadsAll h vs xs as) : vs.length = xs.length := SeqAt.ReadsAll.length _ _ _ r
mutual
theorem rc_of : ∀ (x y : PyData) (A : Around) (a b : Value) (as bs : List Addr), Reads s.heap a x as → Reads s.heap b y bs → ndP x = true → ndP y = true → A.units + min x.depth y.depth < cLine → SeqAt.RcAt A s a b (PyData.eqv x y)
  | .none, y, A, a, b, as, bs, ra, rb, nx, ny, hu => by
    have hu0 : A.units < cLine := Nat.lt_of_le_of_lt (Nat.le_add_right _ _) hu
    cases ra with
    | none =>
      cases rb with
      | none => exact SeqAt.RcAt.none_none
      | bool c => exact SeqAt.RcAt.none_bool c
      | int c t => exact SeqAt.RcAt.none_int c t
      | str c t => exact SeqAt.RcAt.none_str c t
      | list b1 b2 b3 b4 => exact SeqAt.RcAt.none_list ⟨_, b1, b2, _, b3⟩ hu0
      | tuple b1 b2 b3 b4 => exact SeqAt.RcAt.none_tuple ⟨_, b1, b2, _, b3⟩ hu0
      | dict => cases ny
  | .bool z, y, A, a, b, as, bs, ra, rb, nx, ny, hu => by
    have hu0 : A.units < cLine := Nat.lt_of_le_of_lt (Nat.le_add_right _ _) hu
    cases ra with
    | bool =>
      cases rb with
      | none => exact SeqAt.RcAt.bool_none z
      | bool c => exact SeqAt.RcAt.bool_bool z c
      | int c t => exact SeqAt.RcAt.bool_int z c t
      | str c t => exact SeqAt.RcAt.bool_str z c t
      | list b1 b2 b3 b4 => exact SeqAt.RcAt.bool_list z ⟨_, b1, b2, _, b3⟩ hu0
      | tuple b1 b2 b3 b4 => exact SeqAt.RcAt.bool_tuple z ⟨_, b1, b2, _, b3⟩ hu0
      | dict => cases ny
  | .int z, y, A, a, b, as, bs, ra, rb, nx, ny, hu => by
    have hu0 : A.units < cLine := Nat.lt_of_le_of_lt (Nat.le_add_right _ _) hu
    cases ra with
    | int _ t0 =>
      cases rb with
      | none => exact SeqAt.RcAt.int_none z t0
      | bool c => exact SeqAt.RcAt.int_bool z t0 c
      | int c t => exact SeqAt.RcAt.int_int z t0 c t
      | str c t => exact SeqAt.RcAt.int_str z t0 c t
      | list b1 b2 b3 b4 => exact SeqAt.RcAt.int_list z t0 ⟨_, b1, b2, _, b3⟩ hu0
      | tuple b1 b2 b3 b4 => exact SeqAt.RcAt.int_tuple z t0 ⟨_, b1, b2, _, b3⟩ hu0
      | dict => cases ny
  | .str z, y, A, a, b, as, bs, ra, rb, nx, ny, hu => by
    have hu0 : A.units < cLine := Nat.lt_of_le_of_lt (Nat.le_add_right _ _) hu
    cases ra with
    | str _ t0 =>
      cases rb with
      | none => exact SeqAt.RcAt.str_none z t0
      | bool c => exact SeqAt.RcAt.str_bool z t0 c
      | int c t => exact SeqAt.RcAt.str_int z t0 c t
      | str c t => exact SeqAt.RcAt.str_str z t0 c t
      | list b1 b2 b3 b4 => exact SeqAt.RcAt.str_list z t0 ⟨_, b1, b2, _, b3⟩ hu0
      | tuple b1 b2 b3 b4 => exact SeqAt.RcAt.str_tuple z t0 ⟨_, b1, b2, _, b3⟩ hu0
      | dict => cases ny
  | .list xs, y, A, a, b, as, bs, ra, rb, nx, ny, hu => by
    have hu0 : A.units < cLine := Nat.lt_of_le_of_lt (Nat.le_add_right _ _) hu
    cases ra with
    | @list l o vs n _ as' a1 a2 a3 a4 =>
      have hl : s.heap.IsList l vs := ⟨_, a1, a2, _, a3⟩
      cases rb with
      | none => exact SeqAt.RcAt.list_none hl hu0
      | bool c => exact SeqAt.RcAt.list_bool c hl hu0
      | int c t => exact SeqAt.RcAt.list_int c t hl hu0
      | str c t => exact SeqAt.RcAt.list_str c t hl hu0
      | tuple b1 b2 b3 b4 => exact SeqAt.RcAt.list_tuple hl ⟨_, b1, b2, _, b3⟩ hu0
      | @list l' o' vs' n' ys bs' b1 b2 b3 b4 =>
        unfold ndP at nx ny
        have l1 := ra_len a4
        have l2 := ra_len b4
        simp only [Array.length_toList] at l1 l2
        have key := fun j j1 j2 => eq_of xs ys A.in1 vs.toList vs'.toList _ _ a4 b4 nx ny (SeqAt.room_in hu) j j1 j2
        rw [PyData.eqv]
        by_cases hz : vs.size = vs'.size
        · rw [← SeqAt.eqvAll_same_length (by omega : xs.length = ys.length), ← l1]
          exact SeqAt.RcAt.lists hl ⟨_, b1, b2, _, b3⟩ hz hu0 fun j j1 j2 => key j j1 j2
        · rw [SeqAt.eqvAll_other_length (by omega : xs.length ≠ ys.length)]
          exact SeqAt.RcAt.lists_lengths hl ⟨_, b1, b2, _, b3⟩ (by simpa using hz) hu0
      | dict => cases ny
  | .tuple xs, y, A, a, b, as, bs, ra, rb, nx, ny, hu => by
    have hu0 : A.units < cLine := Nat.lt_of_le_of_lt (Nat.le_add_right _ _) hu
    cases ra with
    | @tuple l o vs n _ as' a1 a2 a3 a4 =>
      have hl : s.heap.IsTuple l vs := ⟨_, a1, a2, _, a3⟩
      cases rb with
      | none => exact SeqAt.RcAt.tuple_none hl hu0
      | bool c => exact SeqAt.RcAt.tuple_bool c hl hu0
      | int c t => exact SeqAt.RcAt.tuple_int c t hl hu0
      | str c t => exact SeqAt.RcAt.tuple_str c t hl hu0
      | list b1 b2 b3 b4 => exact SeqAt.RcAt.tuple_list hl ⟨_, b1, b2, _, b3⟩ hu0
      | @tuple l' o' vs' n' ys bs' b1 b2 b3 b4 =>
        unfold ndP at nx ny
        have l1 := ra_len a4
        have l2 := ra_len b4
        simp only [Array.length_toList] at l1 l2
        have key := fun j j1 j2 => eq_of xs ys A.in1 vs.toList vs'.toList _ _ a4 b4 nx ny (SeqAt.room_in hu) j j1 j2
        rw [PyData.eqv, ← SeqAt.eqvAll_eq xs ys, ← l1, ← l2]
        exact SeqAt.RcAt.tuples hl ⟨_, b1, b2, _, b3⟩ hu0 fun j j1 j2 => key j j1 j2
      | dict => cases ny
  | .dict _, y, A, a, b, as, bs, ra, rb, nx, ny, hu => by
    have hu0 : A.units < cLine := Nat.lt_of_le_of_lt (Nat.le_add_right _ _) hu
    cases nx
theorem eq_of : ∀ (xs ys : List PyData) (A : Around) (vs us : List Value) (as bs : List Addr), ReadsAll s.heap vs xs as → ReadsAll s.heap us ys bs → ndPs xs = true → ndPs ys = true →
    A.units + min (PyData.depthAll xs) (PyData.depthAll ys) < cLine → ∀ j (h1 : j < vs.length) (h2 : j < us.length), SeqAt.EqAt A s vs[j] us[j] (SeqAt.pairEq xs ys j)
  | [], ys, A, vs, us, as, bs, ra, rb, _, _, _, j, h1, h2 => by cases ra; exact absurd h1 (Nat.not_lt_zero _)
  | x :: xs, [], A, vs, us, as, bs, ra, rb, _, _, _, j, h1, h2 => by cases rb; exact absurd h2 (Nat.not_lt_zero _)
  | x :: xs, y :: ys, A, vs, us, as, bs, ra, rb, nx, ny, hu, j, h1, h2 => by
    obtain ⟨n1, n2⟩ := ndPs_cons nx
    obtain ⟨m1, m2⟩ := ndPs_cons ny
    cases ra with
    | cons r rs =>
      cases rb with
      | cons q qs =>
        cases j with
        | zero =>
          simp only [List.getElem_cons_zero]
          exact EqAt_of_rc (rc_of x y A _ _ _ _ r q n1 m1 (SeqAt.room_head hu)) (fun e => eqv_one x y _ _ _ n1 r (by rw [e]; exact q)) (reads_nf r)
        | succ j => exact eq_of xs ys A _ _ _ _ rs qs n2 m2 (SeqAt.room_tail hu) j (Nat.lt_of_succ_lt_succ h1) (Nat.lt_of_succ_lt_succ h2)
end
theorem rc_ne : ∀ (x y : PyData) (A : Around) (a b : Value) (as bs : List Addr), Reads s.heap a x as → Reads s.heap b y bs → ndP x = true → ndP y = true → A.units + min x.depth y.depth < cLine → SeqAt.RcNeAt A s a b (!PyData.eqv x y)
  | .none, y, A, a, b, as, bs, ra, rb, nx, ny, hu => by
    have hu0 : A.units < cLine := Nat.lt_of_le_of_lt (Nat.le_add_right _ _) hu
    cases ra with
    | none =>
      cases rb with
      | none => exact SeqAt.RcNeAt.none_none
      | bool c => exact SeqAt.RcNeAt.none_bool c
      | int c t => exact SeqAt.RcNeAt.none_int c t
      | str c t => exact SeqAt.RcNeAt.none_str c t
      | list b1 b2 b3 b4 => exact SeqAt.RcNeAt.none_list ⟨_, b1, b2, _, b3⟩ hu0
      | tuple b1 b2 b3 b4 => exact SeqAt.RcNeAt.none_tuple ⟨_, b1, b2, _, b3⟩ hu0
      | dict => cases ny
  | .bool z, y, A, a, b, as, bs, ra, rb, nx, ny, hu => by
    have hu0 : A.units < cLine := Nat.lt_of_le_of_lt (Nat.le_add_right _ _) hu
    cases ra with
    | bool =>
      cases rb with
      | none => exact SeqAt.RcNeAt.bool_none z
      | bool c => exact SeqAt.RcNeAt.bool_bool z c
      | int c t => exact SeqAt.RcNeAt.bool_int z c t
      | str c t => exact SeqAt.RcNeAt.bool_str z c t
      | list b1 b2 b3 b4 => exact SeqAt.RcNeAt.bool_list z ⟨_, b1, b2, _, b3⟩ hu0
      | tuple b1 b2 b3 b4 => exact SeqAt.RcNeAt.bool_tuple z ⟨_, b1, b2, _, b3⟩ hu0
      | dict => cases ny
  | .int z, y, A, a, b, as, bs, ra, rb, nx, ny, hu => by
    have hu0 : A.units < cLine := Nat.lt_of_le_of_lt (Nat.le_add_right _ _) hu
    cases ra with
    | int _ t0 =>
      cases rb with
      | none => exact SeqAt.RcNeAt.int_none z t0
      | bool c => exact SeqAt.RcNeAt.int_bool z t0 c
      | int c t => exact SeqAt.RcNeAt.int_int z t0 c t
      | str c t => exact SeqAt.RcNeAt.int_str z t0 c t
      | list b1 b2 b3 b4 => exact SeqAt.RcNeAt.int_list z t0 ⟨_, b1, b2, _, b3⟩ hu0
      | tuple b1 b2 b3 b4 => exact SeqAt.RcNeAt.int_tuple z t0 ⟨_, b1, b2, _, b3⟩ hu0
      | dict => cases ny
  | .str z, y, A, a, b, as, bs, ra, rb, nx, ny, hu => by
    have hu0 : A.units < cLine := Nat.lt_of_le_of_lt (Nat.le_add_right _ _) hu
    cases ra with
    | str _ t0 =>
      cases rb with
      | none => exact SeqAt.RcNeAt.str_none z t0
      | bool c => exact SeqAt.RcNeAt.str_bool z t0 c
      | int c t => exact SeqAt.RcNeAt.str_int z t0 c t
      | str c t => exact SeqAt.RcNeAt.str_str z t0 c t
      | list b1 b2 b3 b4 => exact SeqAt.RcNeAt.str_list z t0 ⟨_, b1, b2, _, b3⟩ hu0
      | tuple b1 b2 b3 b4 => exact SeqAt.RcNeAt.str_tuple z t0 ⟨_, b1, b2, _, b3⟩ hu0
      | dict => cases ny
  | .list xs, y, A, a, b, as, bs, ra, rb, nx, ny, hu => by
    have hu0 : A.units < cLine := Nat.lt_of_le_of_lt (Nat.le_add_right _ _) hu
    cases ra with
    | @list l o vs n _ as' a1 a2 a3 a4 =>
      have hl : s.heap.IsList l vs := ⟨_, a1, a2, _, a3⟩
      cases rb with
      | none => exact SeqAt.RcNeAt.list_none hl hu0
      | bool c => exact SeqAt.RcNeAt.list_bool c hl hu0
      | int c t => exact SeqAt.RcNeAt.list_int c t hl hu0
      | str c t => exact SeqAt.RcNeAt.list_str c t hl hu0
      | tuple b1 b2 b3 b4 => exact SeqAt.RcNeAt.list_tuple hl ⟨_, b1, b2, _, b3⟩ hu0
      | @list l' o' vs' n' ys bs' b1 b2 b3 b4 =>
        unfold ndP at nx ny
        have l1 := ra_len a4
        have l2 := ra_len b4
        simp only [Array.length_toList] at l1 l2
        have key := fun j j1 j2 => eq_of xs ys A.in1 vs.toList vs'.toList _ _ a4 b4 nx ny (SeqAt.room_in hu) j j1 j2
        show SeqAt.RcNeAt A s (.ref l) (.ref l') (!PyData.eqvAll xs ys)
        by_cases hz : vs.size = vs'.size
        · rw [← SeqAt.eqvAll_same_length (by omega : xs.length = ys.length), ← l1]
          exact SeqAt.RcNeAt.lists hl ⟨_, b1, b2, _, b3⟩ hz hu0 fun j j1 j2 => key j j1 j2
        · rw [SeqAt.eqvAll_other_length (by omega : xs.length ≠ ys.length)]
          exact SeqAt.RcNeAt.lists_lengths hl ⟨_, b1, b2, _, b3⟩ (by simpa using hz) hu0
      | dict => cases ny
  | .tuple xs, y, A, a, b, as, bs, ra, rb, nx, ny, hu => by
    have hu0 : A.units < cLine := Nat.lt_of_le_of_lt (Nat.le_add_right _ _) hu
    cases ra with
    | @tuple l o vs n _ as' a1 a2 a3 a4 =>
      have hl : s.heap.IsTuple l vs := ⟨_, a1, a2, _, a3⟩
      cases rb with
      | none => exact SeqAt.RcNeAt.tuple_none hl hu0
      | bool c => exact SeqAt.RcNeAt.tuple_bool c hl hu0
      | int c t => exact SeqAt.RcNeAt.tuple_int c t hl hu0
      | str c t => exact SeqAt.RcNeAt.tuple_str c t hl hu0
      | list b1 b2 b3 b4 => exact SeqAt.RcNeAt.tuple_list hl ⟨_, b1, b2, _, b3⟩ hu0
      | @tuple l' o' vs' n' ys bs' b1 b2 b3 b4 =>
        unfold ndP at nx ny
        have l1 := ra_len a4
        have l2 := ra_len b4
        simp only [Array.length_toList] at l1 l2
        have key := fun j j1 j2 => eq_of xs ys A.in1 vs.toList vs'.toList _ _ a4 b4 nx ny (SeqAt.room_in hu) j j1 j2
        show SeqAt.RcNeAt A s (.ref l) (.ref l') (!PyData.eqvAll xs ys)
        rw [← SeqAt.eqvAll_eq xs ys, ← l1, ← l2]
        exact SeqAt.RcNeAt.tuples hl ⟨_, b1, b2, _, b3⟩ hu0 fun j j1 j2 => key j j1 j2
      | dict => cases ny
  | .dict _, y, A, a, b, as, bs, ra, rb, nx, ny, hu => by
    have hu0 : A.units < cLine := Nat.lt_of_le_of_lt (Nat.le_add_right _ _) hu
    cases nx

end

/-! ### deep values as data -/
mutual
def toPD : D → PyData
  | .non => .none
  | .bl b => .bool b
  | .int i => .int i
  | .str x => .str x
  | .tup xs => .tuple (toPDs xs)
  | .kt xs => .tuple (toPDs xs)
  | .lst xs => .list (toPDs xs)
  | .rl xs => .list (toPDs xs)
  | _ => .dict []
def toPDs : List D → List PyData
  | [] => []
  | d :: ds => toPD d :: toPDs ds
end
section
variable {X : Cx} {pins : List (Addr × Obj)} {σ : L2.St} {H : Hp} {s : Shared} {M : DM}
mutual
theorem reads_of (I : Inv X pins σ H s) : ∀ {d : D} {v : V} {u : Value}, ndP (toPD d) = true → Is X.K H M d v → RelV v u → ∃ as, Reads s.heap u (toPD d) as
  | .non, _, _, _, i, r => by unfold Is at i; subst i; cases r; exact ⟨_, Reads.none⟩
  | .bl b, _, _, _, i, r => by unfold Is at i; subst i; cases r; exact ⟨_, Reads.bool b⟩
  | .int z, _, _, _, i, r => by unfold Is at i; subst i; obtain ⟨t, rfl⟩ := r; exact ⟨_, Reads.int z t⟩
  | .str z, _, _, _, i, r => by unfold Is at i; subst i; obtain ⟨t, rfl⟩ := r; exact ⟨_, Reads.str z t⟩
  | .ref _, _, _, n, _, _ => by unfold toPD ndP at n; cases n
  | .ty _, _, _, n, _, _ => by unfold toPD ndP at n; cases n
  | .dk _, _, _, n, _, _ => by unfold toPD ndP at n; cases n
  | .dt _, _, _, n, _, _ => by unfold toPD ndP at n; cases n
  | .tup ds, _, _, n, i, r => by
    unfold toPD ndP at n
    unfold Is at i
    obtain ⟨a, vs, rfl, f, l⟩ := i
    cases r
    obtain ⟨its, rv, ⟨o, e1, e2, m, e3⟩, _⟩ := I.tuple f.sq
    obtain ⟨as, q⟩ := readss_of I n l rv
    exact ⟨as, Reads.tuple e1 e2 e3 (by simpa using q)⟩
  | .kt ds, _, _, n, i, r => by
    unfold toPD ndP at n
    unfold Is at i
    obtain ⟨a, vs, rfl, f, l⟩ := i
    cases r
    obtain ⟨its, rv, ⟨o, e1, e2, m, e3⟩, _⟩ := I.tuple f.sq
    obtain ⟨as, q⟩ := readss_of I n l rv
    exact ⟨as, Reads.tuple e1 e2 e3 (by simpa using q)⟩
  | .lst ds, _, _, n, i, r => by
    unfold toPD ndP at n
    unfold Is at i
    obtain ⟨a, vs, rfl, f, l⟩ := i
    cases r
    obtain ⟨its, rv, ⟨o, m, e1, e2, _, e3⟩, _⟩ := I.list f.sq
    obtain ⟨as, q⟩ := readss_of I n l rv
    exact ⟨_, Reads.list e1 e2 e3 (by simpa using q)⟩
  | .rl ds, _, _, n, i, r => by
    unfold toPD ndP at n
    unfold Is at i
    obtain ⟨a, vs, rfl, f, l⟩ := i
    cases r
    obtain ⟨its, rv, ⟨o, m, e1, e2, _, e3⟩, _⟩ := I.list f.sq
    obtain ⟨as, q⟩ := readss_of I n l rv
    exact ⟨_, Reads.list e1 e2 e3 (by simpa using q)⟩
theorem readss_of (I : Inv X pins σ H s) : ∀ {ds : List D} {vs : List V} {us : List Value}, ndPs (toPDs ds) = true → IsL X.K H M ds vs → Vals vs us → ∃ as, ReadsAll s.heap us (toPDs ds) as
  | [], _, _, _, i, r => by unfold IsL at i; subst i; cases r; exact ⟨_, ReadsAll.nil⟩
  | d :: ds, _, _, n, i, r => by
    unfold toPDs at n
    obtain ⟨n1, n2⟩ := ndPs_cons n
    unfold IsL at i
    obtain ⟨v, w, rfl, i1, i2⟩ := i
    cases r with
    | cons r1 r2 =>
      obtain ⟨a1, q1⟩ := reads_of I n1 i1 r1
      obtain ⟨a2, q2⟩ := readss_of I n2 i2 r2
      exact ⟨_, ReadsAll.cons q1 q2⟩
end
/-- a list of the store, as a value -/
def deref (M : DM) (d : D) : D := match d with
  | .ref a => match M a with | some (.lst ds) => .lst ds | _ => .ref a
  | d => d
theorem reads_deref (I : Inv X pins σ H s) (S : StR X.K H M) {d : D} {v : V} {u : Value} (n : ndP (toPD (deref (vis M) d)) = true) (i : Is X.K H M d v) (r : RelV v u) : ∃ as, Reads s.heap u (toPD (deref (vis M) d)) as := by
  cases d with
  | ref a =>
    unfold deref at n ⊢
    dsimp only at n ⊢
    generalize e : vis M a = om at n ⊢
    cases om with
    | none => unfold toPD ndP at n; cases n
    | some m =>
      cases m with
      | lst ds =>
        dsimp only at n ⊢
        unfold toPD ndP at n
        unfold Is at i
        subst i
        cases r
        obtain ⟨vs, e1, e2⟩ := S a _ (vis_some e).1
        obtain ⟨its, rv, ⟨o, m, e1, e2', _, e3⟩, _⟩ := I.list (SqL.of (K := X.K) e1)
        obtain ⟨as, q⟩ := readss_of I n e2 rv
        exact ⟨_, Reads.list e1 e2' e3 (by simpa using q)⟩
      | _ => dsimp only at n; unfold toPD ndP at n; cases n
  | _ => exact reads_of I n i r
/-- x == y -/
def dEqB (N : Nat) (M : DM) (x y : D) : Option Bool :=
  if ndP (toPD (deref M x)) && ndP (toPD (deref M y)) && decide ((toPD (deref M x)).depth ≤ N ∨ (toPD (deref M y)).depth ≤ N) then some (PyData.eqv (toPD (deref M x)) (toPD (deref M y))) else none
/-- x in t -/
def dInB (N : Nat) (M : DM) (x : D) (ds : List D) : Option Bool :=
  match ds with
  | [] => some false
  | d :: r => (dEqB N M d x).bind fun b => (dInB N M x r).map fun c => b || c
theorem dEqB_ok {N : Nat} {x y : D} {b : Bool} (h : dEqB N M x y = some b) : ndP (toPD (deref M x)) = true ∧ ndP (toPD (deref M y)) = true ∧ min (toPD (deref M x)).depth (toPD (deref M y)).depth ≤ N ∧ b = PyData.eqv (toPD (deref M x)) (toPD (deref M y)) := by
  unfold dEqB at h
  by_cases c : (ndP (toPD (deref M x)) && ndP (toPD (deref M y)) && decide ((toPD (deref M x)).depth ≤ N ∨ (toPD (deref M y)).depth ≤ N)) = true
  · rw [if_pos c] at h
    rw [Bool.and_eq_true, Bool.and_eq_true] at c
    refine ⟨c.1.1, c.1.2, ?_, (Option.some.inj h).symm⟩
    rcases of_decide_eq_true c.2 with z | z
    · exact Nat.le_trans (Nat.min_le_left _ _) z
    · exact Nat.le_trans (Nat.min_le_right _ _) z
  · rw [if_neg c] at h; cases h
/-- by values -/
def rEqQ (K : PySem.W.Frag) (N : Nat) (neg : Bool) : R2 := fun x y H Q => ∃ M d e b, StR K H M ∧ Is K H M d x ∧ Is K H M e y ∧ dEqB N (vis M) d e = some b ∧ Q (.bl (neg ^^ b)) H
theorem op_eqQ {N : Nat} (hu : X.A.units + N < cLine) : OpR X (compareOp .Eq) (rEqQ X.K N false) := by
  intro pins s σ H x y v u Q I rx ry ⟨M, d, e, b, S, i1, i2, eb, q⟩
  obtain ⟨n1, n2, n3, rfl⟩ := dEqB_ok eb
  obtain ⟨as, ra⟩ := reads_deref I S n1 i1 rx
  obtain ⟨bs, rb⟩ := reads_deref I S n2 i2 ry
  refine rc_of _ _ X.A v u as bs ra rb n1 n2 (by omega) X.prog X.w _ _ ⟨.bl _, H, I, rfl, ?_⟩
  rw [Bool.false_xor] at q
  exact q
theorem op_neQ {N : Nat} (hu : X.A.units + N < cLine) : OpR X (compareOp .NotEq) (rEqQ X.K N true) := by
  intro pins s σ H x y v u Q I rx ry ⟨M, d, e, b, S, i1, i2, eb, q⟩
  obtain ⟨n1, n2, n3, rfl⟩ := dEqB_ok eb
  obtain ⟨as, ra⟩ := reads_deref I S n1 i1 rx
  obtain ⟨bs, rb⟩ := reads_deref I S n2 i2 ry
  refine rc_ne _ _ X.A v u as bs ra rb n1 n2 (by omega) X.prog X.w _ _ ⟨.bl _, H, I, rfl, ?_⟩
  rw [Bool.true_xor] at q
  exact q
def dEq (N : Nat) : Op2 := fun M x y => (dEqB N M x y).map .bl
def dNe (N : Nat) : Op2 := fun M x y => (dEqB N M x y).map fun b => .bl (!b)
theorem opd_eq {K : PySem.W.Frag} {N : Nat} : OpD K (rEqQ K N false) (dEq N) := fun M H x y z v u Q S e i1 i2 k => by
  unfold dEq at e
  cases h : dEqB N (vis M) x y with
  | none => rw [h] at e; cases e
  | some b =>
    rw [h] at e; cases e
    refine ⟨M, x, y, b, S, i1, i2, h, ?_⟩
    rw [Bool.false_xor]
    exact k _ H Go.refl S is_bl
theorem opd_ne {K : PySem.W.Frag} {N : Nat} : OpD K (rEqQ K N true) (dNe N) := fun M H x y z v u Q S e i1 i2 k => by
  unfold dNe at e
  cases h : dEqB N (vis M) x y with
  | none => rw [h] at e; cases e
  | some b =>
    rw [h] at e; cases e
    refine ⟨M, x, y, b, S, i1, i2, h, ?_⟩
    rw [Bool.true_xor]
    exact k _ H Go.refl S is_bl
/-- x in t, x not in t: a list or a tuple -/
def rInQ (K : PySem.W.Frag) (N : Nat) (neg : Bool) : R2 := fun x y H Q => ∃ M d e ds b, StR K H M ∧ Is K H M d x ∧ Is K H M e y ∧ seqOf (vis M) e = some ds ∧ dInB N (vis M) d ds = some b ∧ Q (.bl (neg ^^ b)) H
theorem eqs_of (I : Inv X pins σ H s) (S : StR X.K H M) {N : Nat} {A : Around} (hu : A.units + N < cLine) {x : D} {v : V} {u : Value} (i : Is X.K H M x v) (r : RelV v u) (e : Value → Bool)
    (hd : ∀ y z as, Reads s.heap y z as → ndP z = true → e y = PyData.eqv z (toPD (deref (vis M) x))) : ∀ {ds : List D} {vs : List V} {us : List Value} {b : Bool}, dInB N (vis M) x ds = some b → IsL X.K H M ds vs → Vals vs us →
    (∀ y, y ∈ us → SeqAt.EqAt A s y u (e y)) ∧ us.any e = b
  | [], _, _, b, h, l, rv => by
    unfold IsL at l; subst l; cases rv; cases h
    exact ⟨(fun y hy => by cases hy), rfl⟩
  | d :: ds, _, us, b, h, l, rv => by
    unfold IsL at l
    obtain ⟨w, r2, rfl, i2, l2⟩ := l
    cases rv with
    | @cons _ u2 _ us2 q1 q2 =>
      unfold dInB at h
      cases h1 : dEqB N (vis M) d x with
      | none => rw [h1] at h; cases h
      | some b1 =>
        rw [h1] at h
        dsimp only [Option.bind_some] at h
        cases h2 : dInB N (vis M) x ds with
        | none => rw [h2] at h; cases h
        | some b2 =>
          rw [h2] at h
          cases h
          obtain ⟨he, ea⟩ := eqs_of I S hu i r e hd h2 l2 q2
          obtain ⟨n1, n2, n3, rfl⟩ := dEqB_ok h1
          obtain ⟨as, ra⟩ := reads_deref I S n1 i2 q1
          obtain ⟨bs, rb⟩ := reads_deref I S n2 i r
          have key : SeqAt.EqAt A s u2 u (PyData.eqv (toPD (deref (vis M) d)) (toPD (deref (vis M) x))) :=
            EqAt_of_rc (rc_of _ _ A _ _ _ _ ra rb n1 n2 (by omega)) (fun z => eqv_one _ _ _ _ _ n1 ra (by rw [z]; exact rb)) (reads_nf ra)
          have e2 := hd u2 _ as ra n1
          refine ⟨fun y hy => ?_, ?_⟩
          · rcases List.mem_cons.mp hy with z | hy
            · rw [z, e2]; exact key
            · exact he y hy
          · rw [List.any_cons, ea, e2]
theorem eqs_ex (x : PyData) : ∃ e : Value → Bool, ∀ y z as, Reads s.heap y z as → ndP z = true → e y = PyData.eqv z x := by
  classical
  refine ⟨fun y => decide (∃ z as, Reads s.heap y z as ∧ ndP z = true ∧ PyData.eqv z x = true), fun y z as r n => ?_⟩
  by_cases h : PyData.eqv z x = true
  · rw [h]; exact decide_eq_true ⟨z, as, r, n, h⟩
  · have h' : PyData.eqv z x = false := by simpa using h
    rw [h']
    refine decide_eq_false fun ⟨z', as', r', n', q⟩ => h ?_
    rw [rd_one z z' y as as' n r r']; exact q
theorem op_inQ {N : Nat} (hu : X.A.units + N + 1 < cLine) : OpR X (compareOp .In) (rInQ X.K N false) := by
  intro pins s σ H x y v u Q I rx ry ⟨M, d, e, ds, b, S, i1, i2, es, eb, q⟩
  rw [Bool.false_xor] at q
  obtain ⟨a, vs, rfl, hs, l⟩ := seqOf_is S es i2
  cases ry
  obtain ⟨f, hf⟩ := eqs_ex (s := s) (toPD (deref (vis M) d))
  rcases hs with hs | hs
  · obtain ⟨its, rv, p, _⟩ := I.list hs
    obtain ⟨h1, h2⟩ := eqs_of I S (A := X.A.in1) (N := N) (by show X.A.units + 1 + N < cLine; omega) i1 rx f hf eb l rv
    refine SeqAt.in_listAt f p.isList (fun y hy => h1 y (by simpa using hy)) ⟨.bl b, H, I, ?_, q⟩
    rw [← h2, ← List.any_toArray]; rfl
  · obtain ⟨its, rv, p, _⟩ := I.tuple hs
    obtain ⟨h1, h2⟩ := eqs_of I S (A := X.A.in1) (N := N) (by show X.A.units + 1 + N < cLine; omega) i1 rx f hf eb l rv
    refine SeqAt.in_tupleAt f p (fun y hy => h1 y (by simpa using hy)) ⟨.bl b, H, I, ?_, q⟩
    rw [← h2, ← List.any_toArray]; rfl
theorem op_notInQ {N : Nat} (hu : X.A.units + N + 1 < cLine) : OpR X (compareOp .NotIn) (rInQ X.K N true) := by
  intro pins s σ H x y v u Q I rx ry ⟨M, d, e, ds, b, S, i1, i2, es, eb, q⟩
  rw [Bool.true_xor] at q
  obtain ⟨a, vs, rfl, hs, l⟩ := seqOf_is S es i2
  cases ry
  obtain ⟨f, hf⟩ := eqs_ex (s := s) (toPD (deref (vis M) d))
  rcases hs with hs | hs
  · obtain ⟨its, rv, p, _⟩ := I.list hs
    obtain ⟨h1, h2⟩ := eqs_of I S (A := X.A.in1) (N := N) (by show X.A.units + 1 + N < cLine; omega) i1 rx f hf eb l rv
    refine SeqAt.notIn_listAt f p.isList (fun y hy => h1 y (by simpa using hy)) ⟨.bl (!b), H, I, ?_, q⟩
    rw [← h2, ← List.any_toArray]; rfl
  · obtain ⟨its, rv, p, _⟩ := I.tuple hs
    obtain ⟨h1, h2⟩ := eqs_of I S (A := X.A.in1) (N := N) (by show X.A.units + 1 + N < cLine; omega) i1 rx f hf eb l rv
    refine SeqAt.notIn_tupleAt f p (fun y hy => h1 y (by simpa using hy)) ⟨.bl (!b), H, I, ?_, q⟩
    rw [← h2, ← List.any_toArray]; rfl
def dIn (N : Nat) : Op2 := fun M x y => (seqOf M y).bind fun ds => (dInB N M x ds).map .bl
def dNotIn (N : Nat) : Op2 := fun M x y => (seqOf M y).bind fun ds => (dInB N M x ds).map fun b => .bl (!b)
theorem opd_in {K : PySem.W.Frag} {N : Nat} : OpD K (rInQ K N false) (dIn N) := fun M H x y z v u Q S e i1 i2 k => by
  unfold dIn at e
  cases h : seqOf (vis M) y with
  | none => rw [h] at e; cases e
  | some ds =>
    rw [h] at e
    dsimp only [Option.bind_some] at e
    cases h2 : dInB N (vis M) x ds with
    | none => rw [h2] at e; cases e
    | some b => rw [h2] at e; cases e; exact ⟨M, x, y, ds, b, S, i1, i2, h, h2, by rw [Bool.false_xor]; exact k _ H Go.refl S is_bl⟩
theorem opd_notIn {K : PySem.W.Frag} {N : Nat} : OpD K (rInQ K N true) (dNotIn N) := fun M H x y z v u Q S e i1 i2 k => by
  unfold dNotIn at e
  cases h : seqOf (vis M) y with
  | none => rw [h] at e; cases e
  | some ds =>
    rw [h] at e
    dsimp only [Option.bind_some] at e
    cases h2 : dInB N (vis M) x ds with
    | none => rw [h2] at e; cases e
    | some b => rw [h2] at e; cases e; exact ⟨M, x, y, ds, b, S, i1, i2, h, h2, by rw [Bool.true_xor]; exact k _ H Go.refl S is_bl⟩
end
end DL

set_option Elab.async false
set_option linter.all false
set_option maxRecDepth 100000
set_option maxHeartbeats 4000000
/-! DLf: operators, subscripts, slices, builtins, methods over deep values. -/
namespace DL
open PySem PySem.Spec PyProof.Rows L2
/-- a list that is no locked one -/
def lst0 (M : DM) : D → Option (List D)
  | .lst ds => some ds
  | .ref a => match M a with | some (.lst ds) => some ds | _ => none
  | _ => none
section
variable {X : Cx} {K : PySem.W.Frag} {H : Hp} {M : DM}
theorem lst0_is {d : D} {ds : List D} {v : V} (s : StR K H M) (h : lst0 (vis M) d = some ds) (i : Is K H M d v) : ∃ a vs, v = .ref a ∧ H a = some (.lst vs) ∧ IsL K H M ds vs := by
  unfold lst0 at h
  cases d with
  | lst xs => cases h; unfold Is at i; obtain ⟨a, vs, e, f, r⟩ := i; exact ⟨a, vs, e, f.1, r⟩
  | ref a =>
    dsimp only at h
    unfold Is at i
    cases e : vis M a with
    | none => rw [e] at h; cases h
    | some m =>
      rw [e] at h
      cases m with
      | lst xs =>
        cases h
        obtain ⟨vs, e1, e2⟩ := s a _ (vis_some e).1
        exact ⟨a, vs, i, e1, e2⟩
      | _ => cases h
  | _ => cases h
theorem lst0_lstOf {d : D} {ds : List D} (h : lst0 M d = some ds) : lstOf M d = some ds := by
  cases d <;> first | exact h | cases h

/-! ### operators -/
def dAdd : Op2 := fun M x y => match x, y with
  | .int i, .int j => some (.int (i + j))
  | .str s, .str t => if s.length + t.length ≤ sizeLine then some (.str (s ++ t)) else none
  | .tup a, .tup b => if a.length + b.length ≤ sizeLine then some (.tup (a ++ b)) else none
  | x, y => (lst0 M x).bind fun a => (lst0 M y).bind fun b => if a.length + b.length ≤ sizeLine then some (.lst (a ++ b)) else none
def rAddQ (K : PySem.W.Frag) : R2 := fun x y H Q => rI0 (fun i j => V.int (i + j)) x y H Q ∨ ((∃ i j, x = .str i ∧ y = .str j ∧ i.length + j.length ≤ sizeLine ∧ Q (.str (i ++ j)) H) ∨ (rCatA K x y H Q ∨ rCat x y H Q))
theorem op_addQ : OpR X (binaryOp .Add) (rAddQ X.K) := op_add.or (op_add_str.or (op_catA.or op_cat))
theorem opd_add : OpD K (rAddQ K) dAdd := fun M H x y z v u Q S e i1 i2 k => by
  unfold dAdd at e
  split at e
  · cases e; unfold Is at i1 i2; subst i1 i2
    exact .inl ⟨_, _, rfl, rfl, k _ H Go.refl S is_int⟩
  · rename_i s t
    by_cases hl : s.length + t.length ≤ sizeLine
    · rw [if_pos hl] at e; cases e; unfold Is at i1 i2; subst i1 i2
      exact .inr (.inl ⟨_, _, rfl, rfl, hl, k _ H Go.refl S is_str⟩)
    · rw [if_neg hl] at e; cases e
  · rename_i a b
    by_cases hl : a.length + b.length ≤ sizeLine
    · rw [if_pos hl] at e; cases e; unfold Is at i1 i2
      obtain ⟨p, vs, rfl, f1, l1⟩ := i1
      obtain ⟨q, us, rfl, f2, l2⟩ := i2
      refine .inr (.inr (.inl ⟨p, q, vs, us, rfl, rfl, f1.sq, f2.sq, by rw [← l1.length, ← l2.length]; exact hl, fun h0 => ?_, fun h1 h2 => ?_, fun h1 h2 r hr => ?_⟩))
      · subst h0
        have : a = [] := List.eq_nil_of_length_eq_zero l1.length
        subst this
        refine k _ H Go.refl S ?_
        unfold Is; exact ⟨q, us, rfl, f2, l2⟩
      · subst h2
        have : b = [] := List.eq_nil_of_length_eq_zero l2.length
        subst this
        refine k _ H Go.refl S ?_
        rw [List.append_nil]
        unfold Is; exact ⟨p, vs, rfl, f1, l1⟩
      · exact k _ _ (Go.new S hr) (S.new hr) (is_tup_new S hr (l1.append l2))
    · rw [if_neg hl] at e; cases e
  · cases h1 : lst0 (vis M) x with
    | none => rw [h1] at e; cases e
    | some a =>
      cases h2 : lst0 (vis M) y with
      | none => rw [h1, h2] at e; cases e
      | some b =>
        rw [h1, h2] at e
        dsimp only [Option.bind_some] at e
        by_cases hl : a.length + b.length ≤ sizeLine
        · rw [if_pos hl] at e; cases e
          obtain ⟨p, vs, rfl, f1, l1⟩ := lst0_is S h1 i1
          obtain ⟨q, us, rfl, f2, l2⟩ := lst0_is S h2 i2
          exact .inr (.inr (.inr ⟨p, q, vs, us, rfl, rfl, f1, f2, by rw [← l1.length, ← l2.length]; exact hl, fun r hr => k _ _ (Go.new S hr) (S.new hr) (is_lst_new S hr (l1.append l2))⟩))
        · rw [if_neg hl] at e; cases e
/-- two ints -/
def dII (C : Int → Int → Bool) (f : Int → Int → D) : Op2 := fun _ x y => match x, y with
  | .int i, .int j => if C i j = true then some (f i j) else none
  | _, _ => none
theorem opd_ii {P : Int → Int → Prop} {C : Int → Int → Bool} {g : Int → Int → V} {f : Int → Int → D} (hc : ∀ i j, C i j = true → P i j) (hf : ∀ H M i j, Is K H M (f i j) (g i j)) : OpD K (rI P g) (dII C f) := fun M H x y z v u Q S e i1 i2 k => by
  unfold dII at e
  split at e
  · rename_i i j
    by_cases h : C i j = true
    · rw [if_pos h] at e; cases e; unfold Is at i1 i2; subst i1 i2
      exact ⟨_, _, rfl, rfl, hc i j h, k _ H Go.refl S (hf H M i j)⟩
    · rw [if_neg h] at e; cases e
  · cases e
theorem opd_ii0 {g : Int → Int → V} {f : Int → Int → D} (hf : ∀ H M i j, Is K H M (f i j) (g i j)) : OpD K (rI0 g) (dII (fun _ _ => true) f) := fun M H x y z v u Q S e i1 i2 k => by
  unfold dII at e
  split at e
  · cases e; unfold Is at i1 i2; subst i1 i2
    exact ⟨_, _, rfl, rfl, k _ H Go.refl S (hf H M _ _)⟩
  · cases e
def dSub : Op2 := dII (fun _ _ => true) fun i j => .int (i - j)
theorem opd_sub : OpD K (rI0 fun i j => .int (i - j)) dSub := opd_ii0 fun _ _ _ _ => is_int
def dMod : Op2 := dII (fun _ j => decide (j ≠ 0)) fun i j => .int (i.fmod j)
theorem opd_mod : OpD K (rI (fun _ j => j ≠ 0) fun i j => .int (i.fmod j)) dMod := opd_ii (fun _ _ h => of_decide_eq_true h) fun _ _ _ _ => is_int
def dFdiv : Op2 := dII (fun _ j => decide (j ≠ 0 ∧ j.natAbs < 1073741824)) fun i j => .int (i.fdiv j)
theorem opd_fdiv : OpD K (rI CDivN fun i j => .int (i.fdiv j)) dFdiv := opd_ii (fun _ _ h => by have h' := of_decide_eq_true h; exact h') fun _ _ _ _ => is_int
def dPow : Op2 := dII (fun i j => decide (0 ≤ j ∧ j ≤ 1000000 ∧ i.natAbs < 2 ^ 64)) fun i j => .int (i ^ j.toNat)
theorem opd_pow : OpD K (rI CPow fun i j => .int (i ^ j.toNat)) dPow := opd_ii (fun _ _ h => by have h' := of_decide_eq_true h; exact h') fun _ _ _ _ => is_int
def dLt : Op2 := dII (fun _ _ => true) fun i j => .bl (decide (i < j))
def dLe : Op2 := dII (fun _ _ => true) fun i j => .bl (decide (i ≤ j))
def dGt : Op2 := dII (fun _ _ => true) fun i j => .bl (decide (j < i))
def dGe : Op2 := dII (fun _ _ => true) fun i j => .bl (decide (j ≤ i))
theorem opd_lt : OpD K (rI0 fun i j => .bl (decide (i < j))) dLt := opd_ii0 fun _ _ _ _ => is_bl
theorem opd_le : OpD K (rI0 fun i j => .bl (decide (i ≤ j))) dLe := opd_ii0 fun _ _ _ _ => is_bl
theorem opd_gt : OpD K (rI0 fun i j => .bl (decide (j < i))) dGt := opd_ii0 fun _ _ _ _ => is_bl
theorem opd_ge : OpD K (rI0 fun i j => .bl (decide (j ≤ i))) dGe := opd_ii0 fun _ _ _ _ => is_bl
/-- ints; a text so many times; a list so many times -/
def bMul (i j : Int) : Bool := decide ((-(2 ^ 64) < i ∧ i < 2 ^ 64) ∨ (-(2 ^ 64) < j ∧ j < 2 ^ 64))
def dMul : Op2 := fun M x y => match x, y with
  | .int i, .int j => if bMul i j = true then some (.int (i * j)) else none
  | .str s, .int n => if s.length ≤ 100 ∧ -1000 ≤ n ∧ n ≤ 1000 then some (.str (Txt.mul s n)) else none
  | .int n, y => (lst0 M y).bind fun a => if n = 0 ∧ a = [] then none else none
  | x, .int n => (lst0 M x).bind fun a => if -(2 ^ 63) ≤ n ∧ n < 2 ^ 63 ∧ a.length * n.toNat ≤ sizeLine then some (.lst (List.replicate n.toNat a).flatten) else none
  | _, _ => none
def rMulS : R2 := fun x y H Q => ∃ s n, x = .str s ∧ y = .int n ∧ (s.length ≤ 100 ∧ -1000 ≤ n ∧ n ≤ 1000) ∧ Q (.str (Txt.mul s n)) H
theorem op_mulS : OpR X (binaryOp .Mult) rMulS := by
  intro pins s σ H x y v u Q I rx ry ⟨z, n, e1, e2, ⟨h1, h2, h3⟩, q⟩
  subst e1 e2
  obtain ⟨t, rfl⟩ := rx
  obtain ⟨t', rfl⟩ := ry
  refine SB.mul (mulOk_of 100 1000 h1 h3 (by omega) (by decide) (by decide)) fun t1 k1 => ⟨.str _, H, I.tok k1, ⟨t1, rfl⟩, q⟩
theorem is_lst_rep {vs : List V} {ds : List D} (l : IsL K H M ds vs) : ∀ n, IsL K H M (List.replicate n ds).flatten (List.replicate n vs).flatten
  | 0 => by simp; exact IsL.nil
  | n + 1 => by
    rw [List.replicate_succ, List.replicate_succ, List.flatten_cons, List.flatten_cons]
    exact l.append (is_lst_rep l n)
def rMulQ : R2 := fun x y H Q => rI CMul (fun i j => V.int (i * j)) x y H Q ∨ (rMulS x y H Q ∨ rRep x y H Q)
theorem op_mulQ : OpR X (binaryOp .Mult) rMulQ := op_mul.or (op_mulS.or op_rep)
theorem opd_mul : OpD K rMulQ dMul := fun M H x y z v u Q S e i1 i2 k => by
  unfold dMul at e
  split at e
  · rename_i i j
    by_cases h : bMul i j = true
    · rw [if_pos h] at e; cases e; unfold Is at i1 i2; subst i1 i2
      exact .inl ⟨_, _, rfl, rfl, (by have h' := of_decide_eq_true h; exact h'), k _ H Go.refl S is_int⟩
    · rw [if_neg h] at e; cases e
  · rename_i s n
    by_cases h : s.length ≤ 100 ∧ -1000 ≤ n ∧ n ≤ 1000
    · rw [if_pos h] at e; cases e; unfold Is at i1 i2; subst i1 i2
      exact .inr (.inl ⟨_, _, rfl, rfl, h, k _ H Go.refl S is_str⟩)
    · rw [if_neg h] at e; cases e
  · rename_i n y' _
    cases h1 : lst0 (vis M) y with
    | none => rw [h1] at e; cases e
    | some a => rw [h1] at e; dsimp only [Option.bind_some] at e; split at e <;> cases e
  · rename_i n _ _
    cases h1 : lst0 (vis M) x with
    | none => rw [h1] at e; cases e
    | some a =>
      rw [h1] at e
      dsimp only [Option.bind_some] at e
      by_cases h : -(2 ^ 63) ≤ n ∧ n < 2 ^ 63 ∧ a.length * n.toNat ≤ sizeLine
      · rw [if_pos h] at e; cases e
        obtain ⟨p, vs, rfl, f1, l1⟩ := lst0_is S h1 i1
        unfold Is at i2; subst i2
        exact .inr (.inr ⟨p, n, vs, rfl, rfl, f1, h.1, h.2.1, by rw [← l1.length]; exact h.2.2, fun r hr => k _ _ (Go.new S hr) (S.new hr) (is_lst_new S hr (is_lst_rep l1 _))⟩)
      · rw [if_neg h] at e; cases e
  · cases e
/-- text in text -/
def dInS (neg : Bool) : Op2 := fun _ x y => match x, y with
  | .str a, .str b => some (.bl (neg ^^ (!(Builtin.Str.occurrences b a 0 b.length 1).isEmpty)))
  | _, _ => none
theorem opd_inS : OpD K (fun x y H Q => ∃ i j, x = .str i ∧ y = .str j ∧ Q (.bl (!(Builtin.Str.occurrences j i 0 j.length 1).isEmpty)) H) (dInS false) := fun M H x y z v u Q S e i1 i2 k => by
  unfold dInS at e
  split at e
  · cases e; unfold Is at i1 i2; subst i1 i2
    refine ⟨_, _, rfl, rfl, ?_⟩
    have := k (.bl (!(Builtin.Str.occurrences _ _ 0 _ 1).isEmpty)) H Go.refl S (by rw [Bool.false_xor]; exact is_bl)
    exact this
  · cases e
theorem opd_notInS : OpD K (fun x y H Q => ∃ i j, x = .str i ∧ y = .str j ∧ Q (.bl (!(!(Builtin.Str.occurrences j i 0 j.length 1).isEmpty))) H) (dInS true) := fun M H x y z v u Q S e i1 i2 k => by
  unfold dInS at e
  split at e
  · cases e; unfold Is at i1 i2; subst i1 i2
    refine ⟨_, _, rfl, rfl, ?_⟩
    have := k (.bl (!(!(Builtin.Str.occurrences _ _ 0 _ 1).isEmpty))) H Go.refl S (by rw [Bool.true_xor]; exact is_bl)
    exact this
  · cases e
/-- is None, is not None -/
def isNon : D → Bool
  | .non => true
  | _ => false
def dIsN (neg : Bool) : Op2 := fun _ x y => match y with
  | .non => some (.bl (neg ^^ isNon x))
  | _ => none
theorem isNon_is {d : D} {v : V} (i : Is K H M d v) : decide (v = .non) = isNon d := by
  cases d <;> unfold Is at i <;> first | (subst i; rfl) | (obtain ⟨a, vs, rfl, _⟩ := i; rfl)
theorem opd_isN : OpD K (fun x y H Q => y = .non ∧ Q (.bl (decide (x = .non))) H) (dIsN false) := fun M H x y z v u Q S e i1 i2 k => by
  unfold dIsN at e
  split at e
  · cases e; unfold Is at i2
    refine ⟨i2, ?_⟩
    rw [isNon_is i1]
    exact k _ H Go.refl S (by rw [Bool.false_xor]; exact is_bl)
  · cases e
theorem opd_notN : OpD K (fun x y H Q => y = .non ∧ Q (.bl (!decide (x = .non))) H) (dIsN true) := fun M H x y z v u Q S e i1 i2 k => by
  unfold dIsN at e
  split at e
  · cases e; unfold Is at i2
    refine ⟨i2, ?_⟩
    rw [isNon_is i1]
    exact k _ H Go.refl S (by rw [Bool.true_xor]; exact is_bl)
  · cases e
/-- is True, is not False of truths -/
def dIsB (neg : Bool) : Op2 := fun _ x y => match x, y with
  | .bl a, .bl b => some (.bl (neg ^^ decide (a = b)))
  | _, _ => none
end
end DL

set_option Elab.async false
set_option linter.all false
set_option maxRecDepth 100000
set_option maxHeartbeats 4000000
/-! DLg: subscripts, slices, builtins, methods over deep values. -/
namespace DL
open PySem PySem.Spec PyProof.Rows L2
section
variable {X : Cx} {K : PySem.W.Frag} {H : Hp} {M : DM} {e a b : Expr} {es : List Expr} {da db : DE} {das : DA} {f g : PF} {fs : LF} {pos : Pos}
/-! ### comprehensions, the rule -/
theorem pn_lc {elt tg iter : Expr} {ifs : List Expr} {scope : Scope} {own : List (Str × Nat)} {di : DI} {g : DG} {tt : DT} {te : DE}
    (h : PE X (.ListComp elt [⟨tg, iter, ifs, 0⟩] scope pos) (tLc (liftI X.K di) (liftGw X.K (own.map (·.2)) g) (liftT X.K tt) (liftE X.K te) (own.map (·.2)))) :
    PDN X (.ListComp elt [⟨tg, iter, ifs, 0⟩] scope pos) (dLc di g tt te (own.map (·.2))) := PE.imp h fun _ _ _ q => lift_lc q
/-- name = [..] on one line -/
theorem ps_setT {x : Str} {i : Nat} {p2 : Pos} {t : TE} {de : DE} (w : ∀ σ H Q, liftE X.K de σ H Q → t σ H Q) (hp : PS X (.Assign [.Name x p2] e pos) (tAsg t (gName i))) : PDS X (.Assign [.Name x p2] e pos) (dSet i de) :=
  PS.imp hp fun D σ H ⟨E, M, DD, re, s, q, k⟩ => w _ _ _ ⟨E, M, _, re, s, q, fun d M1 v H1 q1 g1 s1 i1 => k.nx _ M1 _ H1 q1 g1 s1 ((re.mono g1.kp).set i1 i)⟩
theorem fz_lift {dn : DN} {σ : L2.St} {H : Hp} {Q : VK} (h : liftE X.K (dFz dn) σ H Q) : liftN X.K dn σ H Q := by
  obtain ⟨E, M, P, re, s, q, k⟩ := h
  exact ⟨E, M, _, re, s, q, fun mo M' p H' ⟨d, ed, q'⟩ _ g s' n m i => k d (rm M' p) (.ref p) H' (by rw [rm_vis m]; exact q') (go_rm g s n) (s'.sub rm_sub) (is_frz s' m i ed)⟩
theorem new_lift {dn : DN} {σ : L2.St} {H : Hp} {Q : VK} (h : liftE X.K (dNew dn) σ H Q) : liftN X.K dn σ H Q := by
  obtain ⟨E, M, P, re, s, q, k⟩ := h
  refine ⟨E, M, _, re, s, q, fun mo M' p H' q' nh g s' n m i => ?_⟩
  have hv : vis M' p = none := by unfold vis; rw [m]
  exact k (.ref p) (up M' p mo) (.ref p) H' (by rw [vis_up nh]; exact q' p hv) (go_track g s n) (str_track s' m i) is_ref
theorem fzP_lift {f : NF} {σ : L2.St} {H : Hp} {Q : VK} (h : liftE X.K (dP (pFz f)) σ H Q) : liftN X.K (dNP f) σ H Q := by
  refine fz_lift ?_
  obtain ⟨E, M, P, re, s, ⟨d, ed, q⟩, k⟩ := h
  refine ⟨E, M, P, re, s, ?_, k⟩
  unfold pFz at ed
  cases ef : f E (vis M) with
  | none => rw [ef] at ed; cases ed
  | some mo => rw [ef] at ed; exact ⟨mo, ef, d, ed, q⟩

/-! ### what is walked: anything that is a list, a tuple, a text -/
def itemsOf (M : DM) : D → Option (List D)
  | .str z => some (z.cps.toList.map fun c => D.str ⟨#[c]⟩)
  | d => seqOf M d
def diAny (de : DE) : DI := fun E M R => de E M fun d M1 => ∃ ds, itemsOf M1 d = some ds ∧ R ⟨ds, fun M' => itemsOf M' d = some ds⟩ M1
def iAny (K : PySem.W.Frag) (te : TE) : TI := fun σ H R => te σ H fun x H1 => (∃ a, x = .ref a ∧ (∃ xs, SqL K H1 a xs) ∧ R (Itl K a) H1) ∨ (∃ a, x = .ref a ∧ (∃ xs, SqT K H1 a xs) ∧ R (Itt K a) H1) ∨ ∃ z, x = .str z ∧ R (Its z) H1
theorem pi_any {tg : Expr} {te : TE} (h : PE X e te) : PI X tg e (iAny X.K te) := by
  refine ⟨fun pins s σ H R I q => ?_⟩
  refine thn (h.run pins s σ H _ I q) fun v s1 ⟨x, H1, I1, r1, q1⟩ => ?_
  rcases q1 with ⟨a, rfl, ⟨xs, hq⟩, q⟩ | ⟨a, rfl, ⟨xs, hq⟩, q⟩ | ⟨z, rfl, q⟩
  · cases r1
    obtain ⟨its, rv, p, _⟩ := I1.list hq
    exact wpAny_pyIter_list p.isList (pi_one (tk := s1.toks) I1 _ (turn_list a _) ⟨_, Heap.get?_push_size _ rfl, rfl, rfl⟩ q)
  · cases r1
    obtain ⟨its, rv, p, _⟩ := I1.tuple hq
    exact wpAny_pyIter_tuple (show s1.heap.IsTuple a its.toArray from p) (pi_one (tk := s1.toks) I1 _ (turn_tuple a _) ⟨_, Heap.get?_push_size _ rfl, rfl, rfl⟩ q)
  · obtain ⟨t, rfl⟩ := r1
    by_cases ha : z.cps.all (· < 128) = true
    · exact wpAny_pyIter_ascii ha (pi_one (tk := s1.toks) I1 _ (turn_str _ z t "str_ascii_iterator" (.inl rfl)) ⟨_, Heap.get?_push_size _ rfl, rfl, rfl⟩ q)
    · exact wpAny_pyIter_wide (by simpa using ha) (pi_one (tk := s1.toks) I1 _ (turn_str _ z t "str_iterator" (.inr rfl)) ⟨_, Heap.get?_push_size _ rfl, rfl, rfl⟩ q)
def tupOf : D → Option (List D)
  | .tup ds => some ds
  | .kt ds => some ds
  | _ => none
theorem seq_kind {d : D} {ds : List D} (h : seqOf M d = some ds) : tupOf d = some ds ∨ lstOf M d = some ds := by
  cases d <;> first | exact .inl h | exact .inr h
theorem tupOf_is {d : D} {ds : List D} {v : V} (h : tupOf d = some ds) (i : Is K H M d v) : ∃ a vs, v = .ref a ∧ ∀ M' H', Go M M' H H' → SqT K H' a vs ∧ IsL K H' M' ds vs := by
  cases d <;> first | cases h | skip
  all_goals
    unfold Is at i
    obtain ⟨a, vs, e, f, r⟩ := i
  · exact ⟨a, vs, e, fun M' H' g => ⟨(g.tp f).sq, IsL.mono g.kp r⟩⟩
  · exact ⟨a, vs, e, fun M' H' g => ⟨f.sq, IsL.mono g.kp r⟩⟩
theorem itl_list {d : D} {ds : List D} {a : Addr} {chk : DM → Prop} (hc : ∀ M, chk M → lstOf M d = some ds) (i1 : Is K H M d (.ref a)) : ItR K ⟨ds, chk⟩ (Itl K a) H M := fun M2 H2 g2 s2 c2 i => by
  obtain ⟨a', vs, e', f2, l2⟩ := lstOf_is s2 (hc _ c2) (Is.mono g2.kp i1)
  cases e'
  refine ⟨fun hl => ⟨vs, f2, by rw [← l2.length]; exact hl⟩, fun d hd => ?_⟩
  obtain ⟨x, hx, ix⟩ := l2.get hd
  refine ⟨⟨vs, x, f2, hx⟩, fun y H' ⟨e, hy⟩ => ?_⟩
  subst e
  have e2 := hy vs f2
  rw [hx] at e2; cases e2
  exact ⟨Go.refl, s2, ix⟩
theorem itl_tup {ds : List D} {a : Addr} {vs : List V} {chk : DM → Prop} (hd : ∀ M' H', Go M M' H H' → SqT K H' a vs ∧ IsL K H' M' ds vs) : ItR K ⟨ds, chk⟩ (Itt K a) H M := fun M2 H2 g2 s2 c2 i => by
  obtain ⟨f2, l2⟩ := hd M2 H2 g2
  refine ⟨fun hl => ⟨vs, f2, by rw [← l2.length]; exact hl⟩, fun d hd => ?_⟩
  obtain ⟨x, hx, ix⟩ := l2.get hd
  refine ⟨⟨vs, x, f2, hx⟩, fun y H' ⟨e, hy⟩ => ?_⟩
  subst e
  have e2 := hy vs f2
  rw [hx] at e2; cases e2
  exact ⟨Go.refl, s2, ix⟩
theorem itl_str {z : Str} {chk : DM → Prop} : ItR K ⟨z.cps.toList.map fun c => D.str ⟨#[c]⟩, chk⟩ (Its z) H M := fun M2 H2 g2 s2 c2 i => by
  have sz : (z.cps.toList.map fun c => D.str ⟨#[c]⟩).length = z.cps.size := by simp
  refine ⟨fun hl => by rw [sz] at hl; exact hl, fun d hd => ?_⟩
  have hd' : (z.cps.toList.map fun c => D.str ⟨#[c]⟩)[i]? = some d := hd
  rw [List.getElem?_map] at hd'
  cases hc : z.cps.toList[i]? with
  | none => rw [hc] at hd'; cases hd'
  | some c =>
    rw [hc] at hd'; cases hd'
    have hi : i < z.cps.size := by
      have := (List.getElem?_eq_some_iff.mp hc).1
      simpa using this
    refine ⟨hi, fun y H' ⟨e, c', hc', hy⟩ => ?_⟩
    subst e hy
    have : c' = c := by
      have h2 : z.cps[i]? = some c := by simpa using hc
      rw [h2] at hc'; exact (Option.some.inj hc').symm
    subst this
    exact ⟨Go.refl, s2, is_str⟩
theorem pi_anyD {tg : Expr} {de : DE} (h : PDE X e de) : PDI X tg e (diAny de) :=
  PI.imp (pi_any h) fun σ H R ⟨E, M, P, re, s, q, k⟩ => ⟨E, M, _, re, s, q, fun d M1 v H1 ⟨ds, ed, q1⟩ g1 s1 i1 => by
    by_cases hz : ∃ z, d = .str z
    · obtain ⟨z, rfl⟩ := hz
      unfold Is at i1
      cases ed
      exact .inr (.inr ⟨z, i1, k _ M1 _ H1 q1 g1 s1 itl_str⟩)
    · have hs : ∀ M, itemsOf M d = seqOf M d := fun M => by cases d <;> first | rfl | exact absurd ⟨_, rfl⟩ hz
      rw [hs] at ed
      rcases seq_kind ed with h | h
      · obtain ⟨a, vs, rfl, f⟩ := tupOf_is h i1
        exact .inr (.inl ⟨a, rfl, ⟨vs, (f M1 H1 Go.refl).1⟩, k _ M1 _ H1 q1 g1 s1 (itl_tup f)⟩)
      · obtain ⟨a, vs, rfl, f, l⟩ := lstOf_is s1 h i1
        refine .inl ⟨a, rfl, ⟨vs, f⟩, k _ M1 _ H1 q1 g1 s1 (itl_list (d := d) (fun M c => ?_) i1)⟩
        have c' : itemsOf M d = some ds := c
        rw [hs] at c'
        cases d <;> first | exact c' | cases h⟩
/-- where nothing changes -/
theorem PDI.pure {tg : Expr} {di : DI} {fi : IF} (h : PDI X tg e di) (w : ∀ E M R, diP fi E M R → di E M fun it M' => M' = M ∧ ∃ chk, it = ⟨it.items, chk⟩ ∧ chk M ∧ R ⟨it.items, fun M2 => M2 = M⟩ M) : PDI X tg e (diP fi) :=
  PI.imp h fun σ H R ⟨E, M, P, re, s, q, k⟩ => ⟨E, M, _, re, s, w _ _ _ q, fun it M' J H' ⟨e1, chk, e2, c, q2⟩ g s' r => by
    refine k ⟨it.items, fun M2 => M2 = vis M⟩ M' J H' (by rw [e1]; exact q2) g s' fun M2 H2 g2 s2 c2 i => ?_
    have c2' : vis M2 = vis M := c2
    exact r M2 H2 g2 s2 (by rw [c2', e2]; exact c) i⟩
def iAnyP (f : PF) : IF := fun E M => (f E M).bind fun d => itemsOf M d
theorem pi_anyP {tg : Expr} (h : PDE X e (dP f)) : PDI X tg e (diP (iAnyP f)) := (pi_anyD h).pure fun E M R ⟨ds, ed, q⟩ => by
  unfold iAnyP at ed
  cases ef : f E M with
  | none => rw [ef] at ed; cases ed
  | some d => rw [ef] at ed; exact ⟨d, ef, ds, ed, rfl, _, rfl, ed, q⟩
def iRng1P (fs : LF) : IF := fun E M => (fs E M).bind fun ds => match ds with
  | [.int j] => if -(2 ^ 62) ≤ j ∧ j < 2 ^ 62 then some (rngD 0 j.toNat) else none
  | _ => none
theorem pi_range1P {tg : Expr} (h : PDI X tg e (diRng1 (dAP fs))) : PDI X tg e (diP (iRng1P fs)) := h.pure fun E M R ⟨ds, ed, q⟩ => by
  unfold iRng1P at ed
  cases ef : fs E M with
  | none => rw [ef] at ed; cases ed
  | some ys =>
    rw [ef] at ed
    dsimp only [Option.bind_some] at ed
    split at ed
    · rename_i j
      by_cases hb : -(2 ^ 62) ≤ j ∧ j < 2 ^ 62
      · rw [if_pos hb] at ed; cases ed
        exact ⟨_, ef, j, rfl, hb, rfl, _, rfl, trivial, q⟩
      · rw [if_neg hb] at ed; cases ed
    · cases ed
def iRng2P (fs : LF) : IF := fun E M => (fs E M).bind fun ds => match ds with
  | [.int i, .int j] => if -(2 ^ 62) ≤ i ∧ i < 2 ^ 62 ∧ -(2 ^ 62) ≤ j ∧ j < 2 ^ 62 then some (rngD i (j - i).toNat) else none
  | _ => none
theorem pi_range2P {tg : Expr} (h : PDI X tg e (diRng2 (dAP fs))) : PDI X tg e (diP (iRng2P fs)) := h.pure fun E M R ⟨ds, ed, q⟩ => by
  unfold iRng2P at ed
  cases ef : fs E M with
  | none => rw [ef] at ed; cases ed
  | some ys =>
    rw [ef] at ed
    dsimp only [Option.bind_some] at ed
    split at ed
    · rename_i i j
      by_cases hb : -(2 ^ 62) ≤ i ∧ i < 2 ^ 62 ∧ -(2 ^ 62) ≤ j ∧ j < 2 ^ 62
      · rw [if_pos hb] at ed; cases ed
        exact ⟨_, ef, i, j, rfl, hb, rfl, _, rfl, trivial, q⟩
      · rw [if_neg hb] at ed; cases ed
    · cases ed

/-! ### subscripts -/
def dIx : Op2 := fun M x y => match x, y with
  | .str z, .int i => if z.length ≤ sizeLine then (atI z.cps.toList i).map fun c => .str ⟨#[c]⟩ else none
  | x, .int i => (seqOf M x).bind fun ds => atI ds i
  | _, _ => none
theorem atI_is {ds : List D} {vs : List V} {i : Int} {d : D} (l : IsL K H M ds vs) (h : atI ds i = some d) : ∃ v, atI vs i = some v ∧ Is K H M d v := by
  unfold atI at h ⊢
  rw [← l.length]
  cases e : ixN ds.length i with
  | none => rw [e] at h; cases h
  | some j => rw [e] at h; exact l.get h
theorem opd_ix : OpD K (rIx K) dIx := fun M H x y z v u Q S e i1 i2 k => by
  unfold dIx at e
  split at e
  · rename_i z i
    by_cases hl : z.length ≤ sizeLine
    · rw [if_pos hl] at e
      cases h : atI z.cps.toList i with
      | none => rw [h] at e; cases e
      | some c =>
        rw [h] at e; cases e; unfold Is at i1 i2; subst i1 i2
        exact .inr (.inr ⟨z, i, c, rfl, rfl, hl, h, k _ H Go.refl S is_str⟩)
    · rw [if_neg hl] at e; cases e
  · rename_i i _
    cases h : seqOf (vis M) x with
    | none => rw [h] at e; cases e
    | some ds =>
      rw [h] at e
      unfold Is at i2; subst i2
      obtain ⟨a, vs, rfl, f, l⟩ := seqOf_is S h i1
      obtain ⟨w, h1, h2⟩ := atI_is l e
      rcases f with f | f
      · exact .inl ⟨a, vs, i, w, rfl, rfl, f, h1, k _ H Go.refl S h2⟩
      · exact .inr (.inl ⟨a, vs, i, w, rfl, rfl, f, h1, k _ H Go.refl S h2⟩)
  · cases e
theorem pd_ix (ha : PDE X a da) (hb : PDE X b db) (hs : PlainIx b) : PDE X (.Subscript a b pos) (dBin dIx da db) :=
  PE.imp (pe_ix ix_seq ha hb hs) fun _ _ _ h => lift_bin opd_ix h
theorem pd_ixP (ha : PDE X a (dP f)) (hb : PDE X b (dP g)) (hs : PlainIx b) : PDE X (.Subscript a b pos) (dP (pBin dIx f g)) :=
  (pd_ix ha hb hs).wk fun _ _ _ h => dBin_P h

/-! ### slices -/
abbrev DO := DEnv → DM → (Option Int → DM → Prop) → Prop
abbrev OF := DEnv → DM → Option (Option Int)
def liftO (K : PySem.W.Frag) (dt : DO) : L2.TO := fun σ H Q => ∃ E M P, EnvR K H M E σ ∧ StR K H M ∧ dt E (vis M) P ∧ ∀ b M' H', P b (vis M') → Go M M' H H' → StR K H' M' → Q b H'
def dOP (f : OF) : DO := fun E M Q => ∃ o, f E M = some o ∧ Q o M
def oNone : OF := fun _ _ => some none
def oSome (f : PF) : OF := fun E M => (f E M).bind fun d => match d with | .int i => some (some i) | _ => none
abbrev PDO (X : Cx) (e : Option Expr) (dt : DO) : Prop := PO X e (liftO X.K dt)
theorem PO.imp {e : Option Expr} {t t' : L2.TO} (h : PO X e t) (w : ∀ σ H Q, t' σ H Q → t σ H Q) : PO X e t' := ⟨fun pins s σ H Q I q => h.run pins s σ H Q I (w σ H Q q)⟩
theorem po_noneD : PDO X none (dOP oNone) := PO.imp po_none fun σ H Q ⟨E, M, P, re, s, ⟨o, e, q⟩, k⟩ => by
  cases e; exact k none M H q Go.refl s
def dPart (de : DE) : DO := fun E M Q => de E M fun d M1 => ∃ i, d = .int i ∧ Q (some i) M1
theorem po_someE {de : DE} (h : PDE X e de) : PDO X (some e) (dPart de) := PO.imp (po_some h) fun σ H Q ⟨E, M, P, re, s, q, k⟩ => ⟨E, M, _, re, s, q, fun d M1 v H1 ⟨i, e, q1⟩ g1 s1 i1 => by
  subst e; unfold Is at i1; exact ⟨i, i1, k _ M1 H1 q1 g1 s1⟩⟩
theorem po_someD (h : PDE X e (dP f)) : PDO X (some e) (dOP (oSome f)) := PO.imp (po_someE h) fun σ H Q ⟨E, M, P, re, s, ⟨o, e, q⟩, k⟩ => by
  refine ⟨E, M, P, re, s, ?_, k⟩
  unfold oSome at e
  cases ef : f E (vis M) with
  | none => rw [ef] at e; cases e
  | some d =>
    rw [ef] at e
    cases d <;> first | (cases e; exact ⟨_, ef, _, rfl, q⟩) | cases e
def cutD (xs : List D) (lo hi : Option Int) : List D := (xs.drop (HT.sIx xs.length 0 lo)).take (HT.sIx xs.length xs.length hi - HT.sIx xs.length 0 lo)
/-- a[lo:hi]: of a tuple, a text; of a list a new one, as a value -/
def dSl (M : DM) (d : D) (lo hi : Option Int) : Option D := match d with
  | .str z => if z.length ≤ sizeLine then some (.str (cutS z lo hi)) else none
  | .tup ds => some (.tup (cutD ds lo hi))
  | d => (lstOf M d).map fun ds => .lst (cutD ds lo hi)
theorem is_cut {ds : List D} {vs : List V} {lo hi : Option Int} (l : IsL K H M ds vs) : IsL K H M (cutD ds lo hi) (cutV vs lo hi) := by
  unfold cutD cutV
  rw [l.length]
  exact (l.drop _).take _
theorem cut_all {xs : List D} {lo hi : Option Int} (h1 : HT.sIx xs.length 0 lo = 0) (h2 : HT.sIx xs.length xs.length hi = xs.length) : cutD xs lo hi = xs := by
  unfold cutD; rw [h1, h2]; simp
def rSlQ (K : PySem.W.Frag) : V → Option Int → Option Int → Hp → VK → Prop := fun x lo hi H Q => rSlS x lo hi H Q ∨ (rSlA K x lo hi H Q ∨ rSlL K x lo hi H Q)
theorem sl_q : SlR X (rSlQ X.K) := sl_str.or (sl_tupA.or sl_list)
theorem sl_is {d z : D} {lo hi : Option Int} {v : V} {Q : VK} (S : StR K H M) (i : Is K H M d v) (e : dSl (vis M) d lo hi = some z) (k : ∀ w H', Go M M H H' → StR K H' M → Is K H' M z w → Q w H') : rSlQ K v lo hi H Q := by
  unfold dSl at e
  split at e
  · rename_i z
    by_cases hl : z.length ≤ sizeLine
    · rw [if_pos hl] at e; cases e; unfold Is at i
      exact .inl ⟨z, i, hl, k _ H Go.refl S is_str⟩
    · rw [if_neg hl] at e; cases e
  · cases e
    unfold Is at i
    obtain ⟨a, vs, rfl, f, l⟩ := i
    refine .inr (.inl ⟨a, vs, rfl, f.sq, fun ⟨h1, h2⟩ => k _ H Go.refl S ?_, fun _ p hp => k _ _ (Go.new S hp) (S.new hp) (is_tup_new S hp (is_cut l))⟩)
    rw [cut_all (by rw [l.length]; exact h1) (by rw [l.length]; exact h2)]
    unfold Is; exact ⟨a, vs, rfl, f, l⟩
  · cases h : lstOf (vis M) d with
    | none => rw [h] at e; cases e
    | some ds =>
      rw [h] at e; cases e
      obtain ⟨a, vs, rfl, f, l⟩ := lstOf_is S h i
      exact .inr (.inr ⟨a, vs, rfl, f, fun p hp => k _ _ (Go.new S hp) (S.new hp) (is_lst_new S hp (is_cut l))⟩)
def dSlice (de : DE) (lo hi : DO) : DE := fun E M Q => de E M fun d M1 => lo E M1 fun l M2 => hi E M2 fun h M3 => ∃ z, dSl M3 d l h = some z ∧ Q z M3
def pSlice (f : PF) (lo hi : OF) : PF := fun E M => (f E M).bind fun d => (lo E M).bind fun l => (hi E M).bind fun h => dSl M d l h
theorem pd_slice {lo hi : Option Expr} {p2 : Pos} {dl dh : DO} (he : PDE X e da) (hl : PDO X lo dl) (hu : PDO X hi dh) (hp : PE X (.Subscript e (.Slice lo hi none p2) pos) (tSl (rSlQ X.K) (liftE X.K da) (liftO X.K dl) (liftO X.K dh))) : PDE X (.Subscript e (.Slice lo hi none p2) pos) (dSlice da dl dh) :=
  PE.imp hp fun σ H Q ⟨E, M, P, re, s, q, k⟩ => ⟨E, M, _, re, s, q, fun d M1 v H1 q1 g1 s1 i1 => ⟨E, M1, _, re.mono g1.kp, s1, q1, fun l M2 H2 q2 g2 s2 => ⟨E, M2, _, re.mono (g1.trans g2).kp, s2, q2, fun h M3 H3 ⟨z, ez, q3⟩ g3 s3 =>
    sl_is s3 (Is.mono (g2.trans g3).kp i1) ez fun w H' g4 s4 i4 => k z M3 w H' q3 (((g1.trans g2).trans g3).trans g4) s4 i4⟩⟩⟩
theorem pd_sliceP {lo hi : Option Expr} {p2 : Pos} {l h : OF} (hp : PDE X (.Subscript e (.Slice lo hi none p2) pos) (dSlice (dP f) (dOP l) (dOP h))) : PDE X (.Subscript e (.Slice lo hi none p2) pos) (dP (pSlice f l h)) :=
  hp.wk fun E M Q ⟨d, ed, q⟩ => by
    unfold pSlice at ed
    cases e1 : f E M with
    | none => rw [e1] at ed; cases ed
    | some x =>
      cases e2 : l E M with
      | none => rw [e1, e2] at ed; cases ed
      | some y =>
        cases e3 : h E M with
        | none => rw [e1, e2, e3] at ed; cases ed
        | some z => rw [e1, e2, e3] at ed; exact ⟨x, e1, y, e2, z, e3, d, ed, q⟩
end
end DL

set_option Elab.async false
set_option linter.all false
set_option maxRecDepth 100000
set_option maxHeartbeats 4000000
/-! DLh: builtins, methods of lists and texts, defs, instances. -/
namespace DL
open PySem PySem.Spec PyProof.Rows L2
section
variable {X : Cx} {K : PySem.W.Frag} {H : Hp} {M : DM} {e a b : Expr} {es : List Expr} {da db : DE} {das : DA} {f g : PF} {fs : LF} {pos : Pos}
/-! ### builtins -/
abbrev FD := DM → List D → Option D
def CallD (K : PySem.W.Frag) (r : List V → Hp → VK → Prop) (F : FD) : Prop := ∀ M H ds z vs Q, StR K H M → F (vis M) ds = some z → IsL K H M ds vs → (∀ w H', Go M M H H' → StR K H' M → Is K H' M z w → Q w H') → r vs H Q
theorem pd_cb {r : List V → Hp → VK → Prop} {F : FD} (hF : CallD X.K r F) (h : PE X e (tCB r (liftA X.K das))) : PDE X e (dFun F das) :=
  PE.imp h fun σ H Q ⟨E, M, P, re, s, q, k⟩ => ⟨E, M, _, re, s, q, fun ds M1 vs H1 ⟨z, ez, q1⟩ g1 s1 i1 => hF M1 H1 ds z vs Q s1 ez i1 fun w H' g2 s2 i2 => k z M1 w H' q1 (g1.trans g2) s2 i2⟩
theorem pd_cbP {r : List V → Hp → VK → Prop} {F : FD} (hF : CallD X.K r F) (h : PE X e (tCB r (liftA X.K (dAP fs)))) : PDE X e (dP (pFun F fs)) := (pd_cb hF h).wk fun _ _ _ h => dFun_P h
def one1 {α : Type} (F : DM → D → Option α) : DM → List D → Option α := fun M ds => match ds with | [d] => F M d | _ => none
theorem one1_some {α : Type} {F : DM → D → Option α} {ds : List D} {z : α} (h : one1 F M ds = some z) : ∃ d, ds = [d] ∧ F M d = some z := by
  unfold one1 at h
  split at h
  · exact ⟨_, rfl, h⟩
  · cases h
def fLen : FD := one1 fun M d => match d with
  | .str z => if z.length ≤ sizeLine then some (.int z.length) else none
  | d => (seqOf M d).map fun ds => .int ds.length
theorem cd_len : CallD K (fun xs H Q => ∃ x n, xs = [x] ∧ LenV K x H n ∧ Q (.int n) H) fLen := fun M H ds z vs Q S e l k => by
  obtain ⟨d, rfl, e2⟩ := one1_some e
  replace e := e2
  clear e2
  obtain ⟨v, rfl, i⟩ := isl_one l
  split at e
  · rename_i z
    by_cases hl : z.length ≤ sizeLine
    · rw [if_pos hl] at e; cases e; unfold Is at i; subst i
      exact ⟨_, _, rfl, ⟨hl, rfl⟩, k _ H Go.refl S is_int⟩
    · rw [if_neg hl] at e; cases e
  · cases h : seqOf (vis M) d with
    | none => rw [h] at e; cases e
    | some ds =>
      rw [h] at e; cases e
      obtain ⟨a, us, rfl, f, l⟩ := seqOf_is S h i
      refine ⟨_, us.length, rfl, ?_, by have := k (.int us.length) H Go.refl S (by rw [← l.length]; exact is_int); exact this⟩
      rcases f with f | f
      · exact .inl ⟨us, f, rfl⟩
      · exact .inr ⟨us, f, rfl⟩
def fAbs : FD := one1 fun _ d => match d with | .int i => some (.int (if i < 0 then -i else i)) | _ => none
theorem cd_abs : CallD K (fun xs H Q => ∃ i, xs = [.int i] ∧ Q (.int (if i < 0 then -i else i)) H) fAbs := fun M H ds z vs Q S e l k => by
  obtain ⟨d, rfl, e2⟩ := one1_some e
  replace e := e2
  clear e2
  obtain ⟨v, rfl, i⟩ := isl_one l
  split at e
  · cases e; unfold Is at i; subst i
    exact ⟨_, rfl, k _ H Go.refl S is_int⟩
  · cases e
def fInt : FD := one1 fun _ d => match d with | .int i => some (.int i) | .bl k => some (.int (if k then 1 else 0)) | _ => none
theorem cd_int : CallD K (fun xs H Q => (∃ i, xs = [.int i] ∧ Q (.int i) H) ∨ ∃ k, xs = [.bl k] ∧ Q (.int (if k then 1 else 0)) H) fInt := fun M H ds z vs Q S e l k => by
  obtain ⟨d, rfl, e2⟩ := one1_some e
  replace e := e2
  clear e2
  obtain ⟨v, rfl, i⟩ := isl_one l
  split at e
  · cases e; unfold Is at i; subst i
    exact .inl ⟨_, rfl, k _ H Go.refl S is_int⟩
  · cases e; unfold Is at i; subst i
    exact .inr ⟨_, rfl, k _ H Go.refl S is_int⟩
  · cases e
def fMax2 : FD := fun _ ds => match ds with | [.int i, .int j] => some (.int (if j > i then j else i)) | _ => none
def fMin2 : FD := fun _ ds => match ds with | [.int i, .int j] => some (.int (if j < i then j else i)) | _ => none
theorem cd_max2 : CallD K (fun xs H Q => ∃ i j, xs = [.int i, .int j] ∧ Q (.int (if j > i then j else i)) H) fMax2 := fun M H ds z vs Q S e l k => by
  unfold fMax2 at e
  split at e
  · cases e
    obtain ⟨v, w, rfl, i1, i2⟩ := isl_two l
    unfold Is at i1 i2; subst i1 i2
    exact ⟨_, _, rfl, k _ H Go.refl S is_int⟩
  · cases e
theorem cd_min2 : CallD K (fun xs H Q => ∃ i j, xs = [.int i, .int j] ∧ Q (.int (if j < i then j else i)) H) fMin2 := fun M H ds z vs Q S e l k => by
  unfold fMin2 at e
  split at e
  · cases e
    obtain ⟨v, w, rfl, i1, i2⟩ := isl_two l
    unfold Is at i1 i2; subst i1 i2
    exact ⟨_, _, rfl, k _ H Go.refl S is_int⟩
  · cases e
/-- a list of ints, of truths -/
def asInts : List D → Option (List Int)
  | [] => some []
  | .int i :: r => (asInts r).map (i :: ·)
  | _ => none
def asBls : List D → Option (List Bool)
  | [] => some []
  | .bl i :: r => (asBls r).map (i :: ·)
  | _ => none
theorem asInts_is : ∀ {ds : List D} {ns : List Int} {vs : List V}, asInts ds = some ns → IsL K H M ds vs → vs = ns.map V.int
  | [], ns, vs, h, l => by cases h; unfold IsL at l; subst l; rfl
  | d :: ds, ns, vs, h, l => by
    cases d <;> first | cases h | skip
    rename_i i
    unfold asInts at h
    cases e : asInts ds with
    | none => rw [e] at h; cases h
    | some ms =>
      rw [e] at h; cases h
      unfold IsL at l
      obtain ⟨v, r, rfl, i1, l1⟩ := l
      unfold Is at i1; subst i1
      rw [asInts_is e l1]; rfl
theorem asBls_is : ∀ {ds : List D} {ns : List Bool} {vs : List V}, asBls ds = some ns → IsL K H M ds vs → vs = ns.map V.bl
  | [], ns, vs, h, l => by cases h; unfold IsL at l; subst l; rfl
  | d :: ds, ns, vs, h, l => by
    cases d <;> first | cases h | skip
    rename_i i
    unfold asBls at h
    cases e : asBls ds with
    | none => rw [e] at h; cases h
    | some ms =>
      rw [e] at h; cases h
      unfold IsL at l
      obtain ⟨v, r, rfl, i1, l1⟩ := l
      unfold Is at i1; subst i1
      rw [asBls_is e l1]; rfl
def fLsts {α : Type} (cv : List D → Option (List α)) (F : List α → Option D) : FD := one1 fun M d => (lstOf M d).bind fun ds => (cv ds).bind F
theorem cd_lsts {α : Type} {cv : List D → Option (List α)} {F : List α → Option D} {c : α → V} {r : List V → Hp → VK → Prop} (hcv : ∀ H M ds ns vs, cv ds = some ns → IsL K H M ds vs → vs = ns.map c)
    (hr : ∀ M H a ns z Q, SqL K H a (ns.map c) → F ns = some z → StR K H M → (∀ w, Is K H M z w → Q w H) → r [.ref a] H Q) : CallD K r (fLsts cv F) := fun M H ds z vs Q S e l k => by
  obtain ⟨d, rfl, e2⟩ := one1_some e
  replace e := e2
  clear e2
  obtain ⟨v, rfl, i⟩ := isl_one l
  cases h1 : lstOf (vis M) d with
  | none => rw [h1] at e; cases e
  | some xs =>
    cases h2 : cv xs with
    | none => rw [h1] at e; dsimp only [Option.bind_some] at e; rw [h2] at e; cases e
    | some ns =>
      rw [h1] at e; dsimp only [Option.bind_some] at e; rw [h2] at e
      obtain ⟨a, us, rfl, f, l2⟩ := lstOf_is S h1 i
      rw [hcv H M _ _ _ h2 l2] at f
      exact hr M H a ns z Q f e S fun w iw => k w H Go.refl S iw
def fSum : FD := fLsts asInts fun ns => some (.int ns.sum)
def fAll : FD := fLsts asBls fun bs => some (.bl (bs.all id))
def fAny : FD := fLsts asBls fun bs => some (.bl (bs.any id))
theorem cd_sum : CallD K (rSum K) fSum := cd_lsts (fun _ _ _ _ _ => asInts_is) fun M H a ns z Q f e S k => by cases e; exact ⟨a, ns, rfl, f, k _ is_int⟩
theorem cd_all : CallD K (rAll K) fAll := cd_lsts (fun _ _ _ _ _ => asBls_is) fun M H a ns z Q f e S k => by cases e; exact ⟨a, ns, rfl, f, k _ is_bl⟩
theorem cd_any : CallD K (rAny K) fAny := cd_lsts (fun _ _ _ _ _ => asBls_is) fun M H a ns z Q f e S k => by cases e; exact ⟨a, ns, rfl, f, k _ is_bl⟩
/-- the greatest, the least -/
def maxL : List Int → Option Int
  | [] => none
  | x :: r => some (r.foldl max x)
def minL : List Int → Option Int
  | [] => none
  | x :: r => some (r.foldl min x)
theorem foldl_max : ∀ (r : List Int) (x : Int), (r.foldl max x = x ∨ r.foldl max x ∈ r) ∧ x ≤ r.foldl max x ∧ ∀ y ∈ r, y ≤ r.foldl max x
  | [], x => ⟨.inl rfl, Int.le_refl _, fun y hy => by cases hy⟩
  | z :: r, x => by
    obtain ⟨h1, h2, h3⟩ := foldl_max r (max x z)
    have hx : x ≤ max x z := Int.le_max_left _ _
    have hz : z ≤ max x z := Int.le_max_right _ _
    refine ⟨?_, Int.le_trans hx h2, fun y hy => ?_⟩
    · rcases h1 with h1 | h1
      · rw [List.foldl_cons, h1]
        rcases Int.le_total x z with q | q
        · right; rw [Int.max_eq_right q]; exact List.mem_cons_self
        · left; rw [Int.max_eq_left q]
      · right; exact List.mem_cons_of_mem _ h1
    · rcases List.mem_cons.mp hy with rfl | hy
      · exact Int.le_trans hz h2
      · exact h3 y hy
theorem foldl_min : ∀ (r : List Int) (x : Int), (r.foldl min x = x ∨ r.foldl min x ∈ r) ∧ r.foldl min x ≤ x ∧ ∀ y ∈ r, r.foldl min x ≤ y
  | [], x => ⟨.inl rfl, Int.le_refl _, fun y hy => by cases hy⟩
  | z :: r, x => by
    obtain ⟨h1, h2, h3⟩ := foldl_min r (min x z)
    have hx : min x z ≤ x := Int.min_le_left _ _
    have hz : min x z ≤ z := Int.min_le_right _ _
    refine ⟨?_, Int.le_trans h2 hx, fun y hy => ?_⟩
    · rcases h1 with h1 | h1
      · rw [List.foldl_cons, h1]
        rcases Int.le_total x z with q | q
        · left; rw [Int.min_eq_left q]
        · right; rw [Int.min_eq_right q]; exact List.mem_cons_self
      · right; exact List.mem_cons_of_mem _ h1
    · rcases List.mem_cons.mp hy with rfl | hy
      · exact Int.le_trans h2 hz
      · exact h3 y hy
def fMaxL : FD := fLsts asInts fun ns => (maxL ns).map .int
def fMinL : FD := fLsts asInts fun ns => (minL ns).map .int
theorem cd_maxL : CallD K (rMax K) fMaxL := cd_lsts (fun _ _ _ _ _ => asInts_is) fun M H a ns z Q f e S k => by
  cases ns with
  | nil => cases e
  | cons x r =>
    cases e
    obtain ⟨h1, h2, h3⟩ := foldl_max r x
    refine ⟨a, x :: r, rfl, f, Nat.succ_pos _, fun m hm hle => ?_⟩
    have e1 : m = r.foldl max x := by
      refine Int.le_antisymm ?_ ?_
      · rcases List.mem_cons.mp hm with rfl | hm
        · exact h2
        · exact h3 m hm
      · rcases h1 with h1 | h1
        · rw [h1]; exact hle x List.mem_cons_self
        · exact hle _ (List.mem_cons_of_mem _ h1)
    exact k _ (by rw [e1]; exact is_int)
theorem cd_minL : CallD K (rMin K) fMinL := cd_lsts (fun _ _ _ _ _ => asInts_is) fun M H a ns z Q f e S k => by
  cases ns with
  | nil => cases e
  | cons x r =>
    cases e
    obtain ⟨h1, h2, h3⟩ := foldl_min r x
    refine ⟨a, x :: r, rfl, f, Nat.succ_pos _, fun m hm hle => ?_⟩
    have e1 : m = r.foldl min x := by
      refine Int.le_antisymm ?_ ?_
      · rcases h1 with h1 | h1
        · rw [h1]; exact hle x List.mem_cons_self
        · exact hle _ (List.mem_cons_of_mem _ h1)
      · rcases List.mem_cons.mp hm with rfl | hm
        · exact h2
        · exact h3 m hm
    exact k _ (by rw [e1]; exact is_int)
/-- list(x), tuple(x), kept as values -/
def fList : FD := one1 fun M d => (seqOf M d).map .lst
theorem cd_list : CallD K (fun xs H Q => ∃ p ys, xs = [.ref p] ∧ (SqL K H p ys ∨ SqT K H p ys) ∧ ∀ l, H l = none → Q (.ref l) (upd H l (.lst ys))) fList := fun M H ds z vs Q S e l k => by
  obtain ⟨d, rfl, e2⟩ := one1_some e
  replace e := e2
  clear e2
  obtain ⟨v, rfl, i⟩ := isl_one l
  cases h1 : seqOf (vis M) d with
  | none => rw [h1] at e; cases e
  | some xs =>
    rw [h1] at e; cases e
    obtain ⟨a, us, rfl, f, l2⟩ := seqOf_is S h1 i
    exact ⟨a, us, rfl, f, fun p hp => k _ _ (Go.new S hp) (S.new hp) (is_lst_new S hp l2)⟩
def fTuple : FD := one1 fun M d => match d with
  | .tup ds => some (.tup ds)
  | d => (lstOf M d).map .tup
theorem cd_tuple : CallD K (fun xs H Q => ∃ p ys, xs = [.ref p] ∧ ((SqL K H p ys ∧ ∀ l, H l = none → Q (.ref l) (upd H l (.tup ys))) ∨ (SqT K H p ys ∧ Q (.ref p) H))) fTuple := fun M H ds z vs Q S e l k => by
  obtain ⟨d, rfl, e2⟩ := one1_some e
  replace e := e2
  clear e2
  obtain ⟨v, rfl, i⟩ := isl_one l
  split at e
  · cases e
    unfold Is at i
    obtain ⟨a, us, rfl, f, l2⟩ := i
    refine ⟨a, us, rfl, .inr ⟨f.sq, k _ H Go.refl S ?_⟩⟩
    unfold Is; exact ⟨a, us, rfl, f, l2⟩
  · cases h1 : lstOf (vis M) d with
    | none => rw [h1] at e; cases e
    | some xs =>
      rw [h1] at e; cases e
      obtain ⟨a, us, rfl, f, l2⟩ := lstOf_is S h1 i
      exact ⟨a, us, rfl, .inl ⟨f, fun p hp => k _ _ (Go.new S hp) (S.new hp) (is_tup_new S hp l2)⟩⟩
/-- the same, new in the store -/
abbrev FN := DM → List D → Option MO
def CallN (K : PySem.W.Frag) (r : List V → Hp → VK → Prop) (F : FN) : Prop := ∀ M H ds mo vs Q, StR K H M → F (vis M) ds = some mo → IsL K H M ds vs →
  (∀ M' p H', vis M' = vis M → mo ≠ .hid → Go M M' H H' → StR K H' M' → H p = none → M' p = some .hid → MOIs K H' M' p mo → Q (.ref p) H') → r vs H Q
def dFunN (F : FN) (das : DA) : DN := fun E M P => das E M fun ds M1 => ∃ mo, F M1 ds = some mo ∧ P mo M1
theorem pn_cb {r : List V → Hp → VK → Prop} {F : FN} (hF : CallN X.K r F) (h : PE X e (tCB r (liftA X.K das))) : PDN X e (dFunN F das) :=
  PE.imp h fun σ H Q ⟨E, M, P, re, s, q, k⟩ => ⟨E, M, _, re, s, q, fun ds M1 vs H1 ⟨z, ez, q1⟩ g1 s1 i1 => hF M1 H1 ds z vs Q s1 ez i1 fun M' p H' hv nh g2 s2 n m i2 => k z M' p H' (by rw [hv]; exact q1) nh (g1.trans g2) s2 (g1.back n) m i2⟩
def nList : FN := one1 fun M d => (seqOf M d).map .lst
theorem cn_list : CallN K (fun xs H Q => ∃ p ys, xs = [.ref p] ∧ (SqL K H p ys ∨ SqT K H p ys) ∧ ∀ l, H l = none → Q (.ref l) (upd H l (.lst ys))) nList := fun M H ds z vs Q S e l k => by
  obtain ⟨d, rfl, e2⟩ := one1_some e
  replace e := e2
  clear e2
  obtain ⟨v, rfl, i⟩ := isl_one l
  cases h1 : seqOf (vis M) d with
  | none => rw [h1] at e; cases e
  | some xs =>
    rw [h1] at e; cases e
    obtain ⟨a, us, rfl, f, l2⟩ := seqOf_is S h1 i
    refine ⟨a, us, rfl, f, fun p hp => ?_⟩
    obtain ⟨e1, e2, e3, e4, e5⟩ := fresh_laid (mo := .lst xs) S hp (mois_lst_new S hp l2)
    exact k _ p _ e1 (by intro z; cases z) e2 e3 hp e4 e5
/-- isinstance(x, T), T a built-in class -/
def tyName (M : DM) : D → Option String
  | .non => some "NoneType"
  | .bl _ => some "bool"
  | .int _ => some "int"
  | .str _ => some "str"
  | .tup _ => some "tuple"
  | .kt _ => some "tuple"
  | .lst _ => some "list"
  | .rl _ => some "list"
  | .dk _ => some "dict"
  | .ref a => match M a with
    | some (.lst _) => some "list"
    | some (.dk _) => some "dict"
    | some (.dt _) => some "dict"
    | _ => none
  | _ => none
def isiB (a b : String) : Option Bool := kitB a b
theorem tyName_is {d : D} {n : String} {v : V} (S : StR K H M) (h : tyName (vis M) d = some n) (i : Is K H M d v) : TyX K H v (.type n) := by
  cases d with
  | ref a =>
    unfold tyName at h
    dsimp only at h
    unfold Is at i; subst i
    generalize e : vis M a = om at h
    cases om with
    | none => cases h
    | some m =>
      have e1 := (vis_some e).1
      cases m with
      | lst xs => cases h; obtain ⟨vs, q, _⟩ := S a _ e1; exact .base (.lst q)
      | dk xs => cases h; obtain ⟨vs, q, _⟩ := S a _ e1; exact .base (.dK q)
      | dt xs => cases h; obtain ⟨vs, q, _⟩ := S a _ e1; exact .base (.dT q)
      | _ => cases h
  | tup ds => cases h; unfold Is at i; obtain ⟨a, vs, rfl, f, _⟩ := i; exact .base (.tup f.1)
  | kt ds => cases h; unfold Is at i; obtain ⟨a, vs, rfl, ⟨o, _, _, q, c, _⟩, _⟩ := i; exact .kTuple q c
  | lst ds => cases h; unfold Is at i; obtain ⟨a, vs, rfl, f, _⟩ := i; exact .base (.lst f.1)
  | non => cases h; unfold Is at i; subst i; exact .base .non
  | bl _ => cases h; unfold Is at i; subst i; exact .base (.bl _)
  | int _ => cases h; unfold Is at i; subst i; exact .base (.int _)
  | str _ => cases h; unfold Is at i; subst i; exact .base (.str _)
  | rl ds =>
    cases h; unfold Is at i
    obtain ⟨a, vs, rfl, ⟨f | ⟨o, f⟩, _⟩ | ⟨o, _, _, q, c, _⟩, _⟩ := i
    · exact .base (.lst f)
    · exact .base (.frz f)
    · exact .kList q c
  | dk ds =>
    cases h; unfold Is at i
    obtain ⟨a, vs, rfl, f | ⟨o, f⟩, _⟩ := i
    · exact .base (.dK f)
    · exact .fDict f
  | _ => cases h
def fIsi : FD := fun M ds => match ds with
  | [d, .ty n] => (tyName M d).bind fun t => (kitB t n).map .bl
  | _ => none
theorem cd_isi : CallD K (rIsi K) fIsi := fun M H ds z vs Q S e l k => by
  unfold fIsi at e
  split at e
  · rename_i d n
    cases h1 : tyName (vis M) d with
    | none => rw [h1] at e; cases e
    | some t =>
      rw [h1] at e
      dsimp only [Option.bind_some] at e
      cases h2 : kitB t n with
      | none => rw [h2] at e; cases e
      | some b =>
        rw [h2] at e; cases e
        obtain ⟨v, w, rfl, i1, i2⟩ := isl_two l
        unfold Is at i2; subst i2
        exact ⟨v, .ty n, .type t, .type n, b, rfl, .ty n, tyName_is S h1 i1, kit_ty h2, k _ H Go.refl S is_bl⟩
  · cases e
theorem pd_ty {n : String} {x : Str} (h : PE X (.Name x pos) (tC (.ty n))) : PDE X (.Name x pos) (dP (pC (.ty n))) := pd_const h fun _ _ => is_ty

/-! ### methods of built-in types -/
abbrev MF := DM → D → List D → Option (D × DM)
def dMth (ok : DM → D → Bool) (F : MF) (da : DE) (das : DA) : DE := fun E M Q => da E M fun x M1 => ok M1 x = true ∧ das E M1 fun ds M2 => ∃ z M3, F M2 x ds = some (z, M3) ∧ Q z M3
def MthD (K : PySem.W.Frag) (r : V → List V → Hp → VK → Prop) (F : MF) : Prop := ∀ M H x ds z Mv v vs Q, StR K H M → F (vis M) x ds = some (z, Mv) → Is K H M x v → IsL K H M ds vs →
  (∀ w M' H', vis M' = Mv → Go M M' H H' → StR K H' M' → Is K H' M' z w → Q w H') → r v vs H Q
def TyOk (K : PySem.W.Frag) (T : String) (ok : DM → D → Bool) : Prop := ∀ M H x v, StR K H M → ok (vis M) x = true → Is K H M x v → tyV K T v H
theorem pd_mth {T : String} {r : V → List V → Hp → VK → Prop} {ok : DM → D → Bool} {F : MF} (ht : TyOk X.K T ok) (hF : MthD X.K r F) (h : PE X e (tBM X.K T r (liftE X.K da) (liftA X.K das))) : PDE X e (dMth ok F da das) :=
  PE.imp h fun σ H Q ⟨E, M, P, re, s, q, k⟩ => ⟨E, M, _, re, s, q, fun x M1 v H1 ⟨h1, q1⟩ g1 s1 i1 => ⟨ht M1 H1 x v s1 h1 i1, E, M1, _, re.mono g1.kp, s1, q1, fun ds M2 vs H2 ⟨z, Mv, ez, q2⟩ g2 s2 i2 =>
    hF M2 H2 x ds z Mv v vs Q s2 ez (Is.mono g2.kp i1) i2 fun w M3 H3 hv g3 s3 i3 => k z M3 w H3 (by rw [hv]; exact q2) ((g1.trans g2).trans g3) s3 i3⟩⟩
theorem pd_mth0 {T : String} {r : V → List V → Hp → VK → Prop} {ok : DM → D → Bool} {F : MF} (ht : TyOk X.K T ok) (hF : MthD X.K r F) (h : PE X e (tBM0 X.K T r (liftE X.K da))) : PDE X e (dMth ok F da dNil) :=
  PE.imp h fun σ H Q ⟨E, M, P, re, s, q, k⟩ => ⟨E, M, _, re, s, q, fun x M1 v H1 ⟨h1, z, Mv, ez, q2⟩ g1 s1 i1 => ⟨ht M1 H1 x v s1 h1 i1, hF M1 H1 x [] z Mv v [] Q s1 ez i1 IsL.nil fun w M3 H3 hv g3 s3 i3 => k z M3 w H3 (by rw [hv]; exact q2) (g1.trans g3) s3 i3⟩⟩
def okLst (M : DM) (d : D) : Bool := (lstOf M d).isSome
theorem ty_lst : TyOk K "list" okLst := fun M H x v S h i => by
  unfold okLst at h
  cases e : lstOf (vis M) x with
  | none => rw [e] at h; cases h
  | some ds =>
    obtain ⟨a, vs, rfl, f, _⟩ := lstOf_is S e i
    exact .inl ⟨rfl, vs, f⟩
def okStr (_ : DM) : D → Bool
  | .str _ => true
  | _ => false
theorem ty_str : TyOk K "str" okStr := fun M H x v S h i => by
  cases x <;> first | (unfold Is at i; subst i; rfl) | cases h
/-- a list of the store -/
def mLst (M : DM) : D → Option (Addr × List D)
  | .ref a => match M a with | some (.lst ds) => some (a, ds) | _ => none
  | _ => none
theorem mLst_is {d : D} {a : Addr} {ds : List D} {v : V} (S : StR K H M) (h : mLst (vis M) d = some (a, ds)) (i : Is K H M d v) : v = .ref a ∧ d = .ref a ∧ M a = some (.lst ds) ∧ ∃ vs, H a = some (.lst vs) ∧ IsL K H M ds vs := by
  unfold mLst at h
  cases d with
  | ref b =>
    dsimp only at h
    unfold Is at i
    generalize e : vis M b = om at h
    cases om with
    | none => cases h
    | some m =>
      cases m with
      | lst xs => cases h; have e1 := (vis_some e).1; exact ⟨i, rfl, e1, S a _ e1⟩
      | _ => cases h
  | _ => cases h
theorem lst_write {a : Addr} {ds ds' : List D} {vs' : List V} (S : StR K H M) (e : M a = some (.lst ds)) (l : IsL K H M ds' vs') :
    vis (up M a (.lst ds')) = up (vis M) a (.lst ds') ∧ Go M (up M a (.lst ds')) H (upd H a (.lst vs')) ∧ StR K (upd H a (.lst vs')) (up M a (.lst ds')) := by
  have h0 : MO.lst ds ≠ .hid := by intro z; cases z
  have g : Go M (up M a (.lst ds')) H (upd H a (.lst vs')) := Go.write e h0
  exact ⟨vis_up (by intro z; cases z), g, S.write e h0 ⟨vs', upd_same, IsL.mono g.kp l⟩⟩
def fAppend : MF := fun M x ds => match ds with
  | [d] => (mLst M x).bind fun p => if p.2.length < sizeLine then some (.non, up M p.1 (.lst (p.2 ++ [d]))) else none
  | _ => none
theorem md_append : MthD K rAppend fAppend := fun M H x ds z Mv v vs Q S e i1 i2 k => by
  unfold fAppend at e
  split at e
  · rename_i d
    cases h : mLst (vis M) x with
    | none => rw [h] at e; cases e
    | some p =>
      obtain ⟨a, xs⟩ := p
      rw [h] at e
      dsimp only [Option.bind_some] at e
      by_cases hl : xs.length < sizeLine
      · rw [if_pos hl] at e; cases e
        obtain ⟨rfl, rfl, em, us, eh, l⟩ := mLst_is S h i1
        obtain ⟨w, rfl, iw⟩ := isl_one i2
        obtain ⟨e1, e2, e3⟩ := lst_write S em (l.append (IsL.cons iw IsL.nil))
        exact ⟨a, us, w, rfl, rfl, eh, by rw [← l.length]; exact hl, k _ _ _ e1 e2 e3 is_non⟩
      · rw [if_neg hl] at e; cases e
  · cases e
def fExtend : MF := fun M x ds => match ds with
  | [d] => (mLst M x).bind fun p => (lst0 M d).bind fun ys => if p.2.length + ys.length ≤ sizeLine then some (.non, up M p.1 (.lst (p.2 ++ ys))) else none
  | _ => none
theorem md_extend : MthD K rExtend fExtend := fun M H x ds z Mv v vs Q S e i1 i2 k => by
  unfold fExtend at e
  split at e
  · rename_i d
    cases h : mLst (vis M) x with
    | none => rw [h] at e; cases e
    | some p =>
      obtain ⟨a, xs⟩ := p
      cases h2 : lst0 (vis M) d with
      | none => rw [h] at e; dsimp only [Option.bind_some] at e; rw [h2] at e; cases e
      | some ys =>
        rw [h] at e
        dsimp only [Option.bind_some] at e
        rw [h2] at e
        dsimp only [Option.bind_some] at e
        by_cases hl : xs.length + ys.length ≤ sizeLine
        · rw [if_pos hl] at e; cases e
          obtain ⟨rfl, rfl, em, us, eh, l⟩ := mLst_is S h i1
          obtain ⟨w, rfl, iw⟩ := isl_one i2
          obtain ⟨b, ws, rfl, eb, l2⟩ := lst0_is S h2 iw
          obtain ⟨e1, e2, e3⟩ := lst_write S em (l.append l2)
          exact ⟨a, b, us, ws, rfl, rfl, eh, eb, by rw [← l.length, ← l2.length]; exact hl, k _ _ _ e1 e2 e3 is_non⟩
        · rw [if_neg hl] at e; cases e
  · cases e
def fPop : MF := fun M x ds => match ds with
  | [] => (mLst M x).bind fun p => (p.2[p.2.length - 1]?).map fun d => (d, up M p.1 (.lst p.2.dropLast))
  | _ => none
theorem isl_dropLast : ∀ {ds : List D} {vs : List V}, IsL K H M ds vs → IsL K H M ds.dropLast vs.dropLast := fun {ds vs} l => by
  rw [List.dropLast_eq_take, List.dropLast_eq_take, l.length]
  exact l.take _
theorem md_pop : MthD K rPop fPop := fun M H x ds z Mv v vs Q S e i1 i2 k => by
  unfold fPop at e
  split at e
  · cases h : mLst (vis M) x with
    | none => rw [h] at e; cases e
    | some p =>
      obtain ⟨a, xs⟩ := p
      rw [h] at e
      dsimp only [Option.bind_some] at e
      cases h2 : xs[xs.length - 1]? with
      | none => rw [h2] at e; cases e
      | some d =>
        rw [h2] at e; cases e
        obtain ⟨rfl, rfl, em, us, eh, l⟩ := mLst_is S h i1
        unfold IsL at i2; subst i2
        obtain ⟨w, hw, iw⟩ := l.get h2
        obtain ⟨e1, e2, e3⟩ := lst_write S em (isl_dropLast l)
        exact ⟨a, us, w, rfl, rfl, eh, by rw [← l.length]; exact hw, k _ _ _ e1 e2 e3 (Is.mono e2.kp iw)⟩
  · cases e
/-- xs[i] = v -/
def dgSub (da db : DE) : DG := fun d E M Q => da E M fun x M1 => db E M1 fun y M2 => ∃ a ds k j, mLst M2 x = some (a, ds) ∧ y = .int k ∧ ixN ds.length k = some j ∧ Q E (up M2 a (.lst (ds.set j d)))
theorem pg_subD (ha : PDE X a da) (hb : PDE X b db) (hp : PG X (.Subscript a b pos) (gSub (liftE X.K da) (liftE X.K db) rSetL)) : PDG X (.Subscript a b pos) (dgSub da db) :=
  PG.imp hp fun v σ H Q ⟨d, E, M, P, i0, re, s, q, k⟩ => ⟨E, M, _, re, s, q, fun x M1 u H1 q1 g1 s1 i1 => ⟨E, M1, _, re.mono g1.kp, s1, q1, fun y M2 w H2 ⟨a, ds, kk, j, h1, ey, hj, q2⟩ g2 s2 i2 => by
    subst ey
    unfold Is at i2
    obtain ⟨rfl, rfl, em, us, eh, l⟩ := mLst_is s2 h1 (Is.mono g2.kp i1)
    obtain ⟨e1, e2, e3⟩ := lst_write s2 em (l.set j (Is.mono (g1.trans g2).kp i0))
    exact ⟨a, us, kk, j, rfl, i2, eh, by rw [← l.length]; exact hj, k E _ σ _ (by rw [e1]; exact q2) ((g1.trans g2).trans e2) e3 (re.mono ((g1.trans g2).trans e2).kp)⟩⟩⟩
/-- text.split(sep) -/
def fSplit : MF := fun M x ds => match x, ds with
  | .str a, [.str b] => if (b.length == 0) = false ∧ a.length + 2 ≤ sizeLine then some (.lst ((Txt.split a b).map .str), M) else none
  | _, _ => none
theorem isl_strs : ∀ (xs : List Str), IsL K H M (xs.map D.str) (xs.map V.str)
  | [] => IsL.nil
  | x :: xs => IsL.cons is_str (isl_strs xs)
theorem md_split : MthD K (fun x xs H Q => ∃ a b, x = .str a ∧ xs = [.str b] ∧ (b.length == 0) = false ∧ a.length + 2 ≤ sizeLine ∧ rNewStrs (Txt.split a b) H Q) fSplit := fun M H x ds z Mv v vs Q S e i1 i2 k => by
  unfold fSplit at e
  split at e
  · rename_i a b
    by_cases h : (b.length == 0) = false ∧ a.length + 2 ≤ sizeLine
    · rw [if_pos h] at e; cases e
      unfold Is at i1; subst i1
      obtain ⟨w, rfl, iw⟩ := isl_one i2
      unfold Is at iw; subst iw
      exact ⟨a, b, rfl, rfl, h.1, h.2, fun p hp => k _ M _ rfl (Go.new S hp) (S.new hp) (is_lst_new S hp (isl_strs _))⟩
    · rw [if_neg h] at e; cases e
  · cases e
end
end DL

set_option Elab.async false
set_option linter.all false
set_option maxRecDepth 100000
set_option maxHeartbeats 4000000
/-! DLr: promises of defs where it is known besides that no repr is under way. -/
namespace DL
open PySem PySem.Spec PyProof.Rows L2
/-- the room, and no repr under way -/
structure RoomG (k : Nat) (A : Around) : Prop where
  rm : Room k A
  gd : A.guards = some []
theorem RoomG.less {i k : Nat} {A : Around} (z : RoomG k A) (h : i ≤ k) : RoomG i A := ⟨z.rm.mono h, z.gd⟩
theorem RoomG.into {k : Nat} {A : Around} (z : RoomG (k + 1) A) (e : Env) : RoomG k (A.deeper e) := ⟨z.rm.deeper e, z.gd⟩
theorem RoomG.made {k : Nat} {A : Around} (z : RoomG (k + 1) A) (C : Addr) (us : List Value) (kw : List (Str × Value)) : RoomG k (A.under (.builtin "type.__call__" ⟨.ref C :: us, kw⟩)) :=
  ⟨z.rm.make C us kw, by
    show pushGuards (Code.builtin "type.__call__" ⟨.ref C :: us, kw⟩).guards A.guards = some []
    rw [z.gd]; rfl⟩
/-- what a def promises -/
structure FnG (P : Program) (w : World) (K : PySem.W.Frag) (mg : Str → Option Value) (base : Heap) (CX : CXT) (k : Nat) (f : Addr) (fd : FuncData) (ps : List Str) (sp : Sp) : Prop where
  cnt : ∀ vs H Q E, sp vs H Q E → vs.length = ps.length
  goes : ∀ (A : Around) (ou : List Env) (s : Shared) (H : Hp) (az : Args) (us : List Value) (vs : List V) (Q : VK) (E : XK), RoomG k A → Env0 P w K mg base A ou s H → BindsTo s fd az (ps.zip us) → Vals vs us → sp vs H Q E →
    codeAny (model P w) A (.call (.ref f) az) (CR CX ou P w H s Q E) s
theorem FnG.more {P : Program} {w : World} {K : PySem.W.Frag} {mg : Str → Option Value} {base : Heap} {CX : CXT} {i k : Nat} {f : Addr} {fd : FuncData} {ps : List Str} {sp : Sp} (G : FnG P w K mg base CX i f fd ps sp) (h : i ≤ k) : FnG P w K mg base CX k f fd ps sp :=
  ⟨G.cnt, fun A ou s H az us vs Q E z => G.goes A ou s H az us vs Q E (z.less h)⟩
section
variable {P : Program} {w : World} {K : PySem.W.Frag} {mg : Str → Option Value} {base : Heap} {CX : CXT} {k : Nat} {f : Addr}
theorem fn_ofG {nm ql : Str} {pa : Arguments} {body : List Stmt} {sc : Scope} {dV kV doc pm cdv ct oc : Value} {an od : Option Addr} {osl : Array (Option Value)} {N ps : List Str} {sp : Sp}
    (lk : K.lookup f = some ⟨oc, od, .func (PySem.W.fnOf nm ql pa body sc dV kV doc pm an cdv ct), osl⟩) (hc : PySem.W.codeIn K cdv ql = true) (S : FnScope N ps sc) (cnt : ∀ vs H Q E, sp vs H Q E → vs.length = ps.length)
    (hb : ∀ (A : Around) (ou : List Env) (s : Shared) (H : Hp) (vs : List V) (Q : VK) (E : XK), RoomG k (A.deeper (envOfC ql sc s.heap.objs.size f cdv)) → sp vs H Q E →
      ∃ t, PSs (cxOf CX P w K mg base N ql sc f cdv A ou s H E) body t ∧ t { nx := fun _ H' => Q .non H', rt := Q } (start N vs) H) :
    FnG P w K mg base CX (k + 1) f (PySem.W.fnOf nm ql pa body sc dV kV doc pm an cdv ct) ps sp := by
  refine ⟨cnt, fun A ou s H az us vs Q E z e0 bd r q0 => ?_⟩
  have len1 := cnt _ _ _ _ q0
  have kin : K.In s.heap := e0.mod.kin.keeps fun b o e => (e0.bs b o e).1
  have nol : s.heap.NoLimit := e0.mod.nolimit.keeps fun b o e => (e0.bs b o e).1
  have kinds : ∀ y ∈ ps.zip us, sc.names.lookup y.1 = some .local ∨ (sc.names.lookup y.1 = some .cell ∧ ((cellsFrom (s.heap.objs.size + 1) sc.names []).lookup y.1).isSome = true) := fun y hy => by
    cases S.par y.1 (List.of_mem_zip (a := y.1) (b := y.2) hy).1 with
    | inl a => exact Or.inl a
    | inr a => exact Or.inr ⟨a, PySem.W.cellsFrom_some _ _ _ (Or.inl a)⟩
  refine codeAny_call_function z.rm.depth (kin _ _ lk) rfl S.co S.gen rfl (PySem.W.codeRec_of kin hc) (bd _ _ _ _ ?_)
  refine wpAny_newFunctionEnv_cells S.kind kinds fun en ee s1 x => ?_
  subst ee
  refine ⟨nol.keeps x.toInCall.keep, codeAny_func ?_⟩
  obtain ⟨t, ht, hq⟩ := hb A ou s H vs Q E (z.into _) q0
  have J := inv_start (E := E) (CX := CX) S z.rm.hd e0 len1 r x
  refine wpAny_mono (ht.run [] s1 (start N vs) H _ J hq) (fun fl s2 g => ?_) fun _ _ g => g
  cases fl with
  | ret u => obtain ⟨v, _, H2, I2, rv, q⟩ := g; exact ⟨v, H2, I2.os, I2.bare, I2.base, I2.hok, rv, q⟩
  | next => obtain ⟨_, H2, I2, q⟩ := g; exact ⟨.non, H2, I2.os, I2.bare, I2.base, I2.hok, rfl, q⟩
  | brk => obtain ⟨_, _, _, q⟩ := g; exact q.elim
  | cont => obtain ⟨_, _, _, q⟩ := g; exact q.elim
theorem fun_okG {x ql : Str} {st : Stmt} {fd : FuncData} {N ps : List Str} {sp : Sp} (F : Fun K x ql st f fd) (S : FnScope N ps (defScope st)) (cnt : ∀ vs H Q E, sp vs H Q E → vs.length = ps.length)
    (hb : ∀ (cdv : Value) (A : Around) (ou : List Env) (s : Shared) (H : Hp) (vs : List V) (Q : VK) (E : XK), RoomG k (A.deeper (envOfC ql (defScope st) s.heap.objs.size f cdv)) → sp vs H Q E →
      ∃ t, PSs (cxOf CX0 P w K mg base N ql (defScope st) f cdv A ou s H E).nox (defBody st) t ∧ t { nx := fun _ H' => Q .non H', rt := Q } (start N vs) H) : FnG P w K mg base CX0 (k + 1) f fd ps sp := by
  obtain ⟨oc, od, kV, doc, pm, an, cdv, ct, osl, e, lk, hc⟩ := F.ex
  subst e
  exact fn_ofG lk hc S cnt fun A ou s H vs Q E z q0 => by
    obtain ⟨t, ht, q⟩ := hb cdv A ou s H vs Q E z q0
    exact ⟨t, ht.nox, q⟩
end
section
variable {X : Cx} {CX : CXT} {k : Nat} {f C : Addr} {fd : FuncData} {ps : List Str} {sp : Sp} {dvs : List V} {ds : List Value} {E : XK} {x m : Str} {p pos apos : Pos} {e o : Expr} {es : List Expr} {ta : TE} {t : TA}
theorem run_fnG {pins : List (Addr × Obj)} {σ : L2.St} {H : Hp} {s : Shared} {Q : VK} {us : List Value} {vs : List V} (G : FnG X.prog X.w X.K X.mg X.base CX k f fd ps sp) (z : RoomG k X.A) (hb : Binds X.K fd ps ds) (hd : Vals dvs ds) (hx : Passes CX X E)
    (I : Inv X pins σ H s) (r : Vals vs us) (q0 : sp (vs ++ dvs) H Q E) : wpAny (model X.prog X.w) X.A (call (.ref f) us) (EP X pins σ Q) X.xe s := by
  have rr := r.append hd
  have len1 : (us ++ ds).length = ps.length := rr.length.symm.trans (G.cnt _ _ _ _ q0)
  have run := G.goes X.A X.stack s H ⟨us, []⟩ _ _ Q E z I.env0 (hb s us I.kIn len1) rr q0
  refine wpAny_call (codeAny_mono run fun res s2 g => ?_)
  cases res with
  | error er => exact hx _ _ _ _ _ _ I g
  | ok fl => cases fl <;> first | exact I.after g | exact False.elim g
theorem pe_callG (G : FnG X.prog X.w X.K X.mg X.base CX k f fd ps sp) (z : RoomG k X.A) (hg : Gl X x) (hm : X.mg x = some (.ref f)) (hk : PySem.W.keepIn X.K (.ref f) = true) (hb : Binds X.K fd ps ds) (hd : Vals dvs ds) (hx : Passes CX X E) (ha : PA X (e :: es) t)
    (hdb : (x == ("__debug__" : Str)) = false := by decide) (he : starEach (e :: es) X.env = (false, eval e X.env) :: starEach es X.env := by rfl) (hpl : (backTo pos (starEach es X.env)).any (·.1) = false := by rfl) : PE X (.Call (.Name x p) (e :: es) [] pos) (tCall sp dvs E t) :=
  ⟨fun pins s σ H Q I q => wpAny_Call_Name_kw (ld_glob I hg hm (PySem.W.callWith_K (h₀ := X.base) I.ok.mod.kin hk (thn (ha.run pos pins s σ H _ I q) fun _ _ ⟨_, _, J, r, q1⟩ => ⟨J.kIn, run_fnG G z hb hd hx J r q1⟩) he hpl) hdb)⟩
theorem pe_callG0 (G : FnG X.prog X.w X.K X.mg X.base CX k f fd ps sp) (z : RoomG k X.A) (hg : Gl X x) (hm : X.mg x = some (.ref f)) (hk : PySem.W.keepIn X.K (.ref f) = true) (hb : Binds X.K fd ps ds) (hd : Vals dvs ds) (hx : Passes CX X E)
    (hdb : (x == ("__debug__" : Str)) = false := by decide) : PE X (.Call (.Name x p) [] [] pos) (tCall sp dvs E tNil) :=
  ⟨fun pins s σ H Q I q => wpAny_Call_Name_kw (ld_glob I hg hm (PySem.W.callWith_K0 I.kIn hk (run_fnG (us := []) G z hb hd hx I .nil q)) hdb)⟩
/-- o.m(..) -/
theorem pe_methG {pl : Sem Bool} (he : PE X o ta) (c : Cls X.K C) (hm : Meth X.K C m f) (G : FnG X.prog X.w X.K X.mg X.base CX k f fd ps sp) (z : RoomG k X.A) (hb : Binds X.K fd ps ds) (hd : Vals dvs ds) (hx : Passes CX X E) (ha : PA X (e :: es) t)
    (hst : starEach (e :: es) X.env = (false, eval e X.env) :: starEach es X.env := by rfl) (hpl : (backTo pos (starEach es X.env)).any (·.1) = false := by rfl)
    (ht : eval (.Call (.Attribute o m apos) (e :: es) [] pos) X.env = (do
      let w0 ← eval o X.env
      standAt apos.atName
      let (g, first) ← holding [w0] (getMethod w0 m pl)
      callWith pos g first (backTo pos (starEach (e :: es) X.env)) (backToKw pos (keywordEach [] X.env))) := by rfl) : PE X (.Call (.Attribute o m apos) (e :: es) [] pos) (tMeth C m sp dvs E ta t) :=
  ⟨fun pins s σ H Q I q => PySem.W.methodCall_KW (pl := pl) (thn (he.run pins s σ H _ I q) fun u s1 ⟨v, H1, J, rv, a, dx, fs, ev, ea, l, q1⟩ => by
    subst ev
    obtain rfl : u = Value.ref a := rv
    exact getmeth_ok J ea c hm l (PySem.W.callWith_K (first := [.ref a]) (h₀ := X.base) J.ok.mod.kin hm.kp (thn (ha.run pos pins s1 σ H1 _ J q1) fun us _ ⟨vs, _, J2, r, q2⟩ =>
      ⟨J2.kIn, run_fnG (us := .ref a :: us) (vs := .ref a :: vs) G z hb hd hx J2 (.cons rfl r) q2⟩) hst hpl)) ht⟩
theorem pe_methG0 {pl : Sem Bool} (he : PE X o ta) (c : Cls X.K C) (hm : Meth X.K C m f) (G : FnG X.prog X.w X.K X.mg X.base CX k f fd ps sp) (z : RoomG k X.A) (hb : Binds X.K fd ps ds) (hd : Vals dvs ds) (hx : Passes CX X E)
    (ht : eval (.Call (.Attribute o m apos) [] [] pos) X.env = (do
      let w0 ← eval o X.env
      standAt apos.atName
      let (g, first) ← holding [w0] (getMethod w0 m pl)
      callWith pos g first (backTo pos (starEach [] X.env)) (backToKw pos (keywordEach [] X.env))) := by rfl) : PE X (.Call (.Attribute o m apos) [] [] pos) (tMeth C m sp dvs E ta tNil) :=
  ⟨fun pins s σ H Q I q => PySem.W.methodCall_KW (pl := pl) (thn (he.run pins s σ H _ I q) fun u s1 ⟨v, H1, J, rv, a, dx, fs, ev, ea, l, q1⟩ => by
    subst ev
    obtain rfl : u = Value.ref a := rv
    exact getmeth_ok J ea c hm l (PySem.W.callWith_K0 (first := [.ref a]) J.kIn hm.kp (run_fnG (us := [.ref a]) (vs := [.ref a]) G z hb hd hx J (.cons rfl .nil) q1))) ht⟩
/-- C(..) -/
theorem run_makeG {pins : List (Addr × Obj)} {σ : L2.St} {H : Hp} {s : Shared} {Q : VK} {us : List Value} {vs : List V} (M : Mk X.K C f) (G : FnG X.prog X.w X.K X.mg X.base CX k f fd ps sp) (z : RoomG (k + 1) X.A) (hb : Binds X.K fd ps ds) (hd : Vals dvs ds)
    (hx : Passes CX X E) (I : Inv X pins σ H s) (r : Vals vs us) (q0 : ∀ y dx, H y = none → H dx = none → dx ≠ y → sp (.ref y :: (vs ++ dvs)) (upd (upd H dx (.own y)) y (.ins C dx [])) (fun v H2 => v = .non ∧ Q (.ref y) H2) E) :
    wpAny (model X.prog X.w) X.A (call (.ref C) us) (EP X pins σ Q) X.xe s := by
  have q1 := q0 (s.heap.objs.size + 1) s.heap.objs.size (I.hok.fresh (Nat.le_succ _)) (I.hok.fresh (Nat.le_refl _)) (Nat.ne_of_lt (Nat.lt_succ_self _))
  have J := Inv.made (C := C) I
  have rr : Vals (V.ref (s.heap.objs.size + 1) :: (vs ++ dvs)) (Value.ref (s.heap.objs.size + 1) :: (us ++ ds)) := .cons rfl (r.append hd)
  have len1 : (Value.ref (s.heap.objs.size + 1) :: us ++ ds).length = ps.length := rr.length.symm.trans (G.cnt _ _ _ _ q1)
  have run := G.goes _ X.stack _ _ ⟨Value.ref (s.heap.objs.size + 1) :: us, []⟩ _ _ _ E (z.made C us []) (J.env0.make C us []) (hb _ (Value.ref (s.heap.objs.size + 1) :: us) J.kIn len1) rr q1
  refine wpAny_call (make_map (f := f) I.kIn M.makes M.init (beq_iff_eq.mp M.fn) (codeAny_mono run fun res s2 g => ?_))
  cases res with
  | error er => exact hx _ _ _ _ _ _ J g
  | ok fl =>
    cases fl with
    | ret u =>
      obtain ⟨v, H2, J2, rv, ev, q2⟩ := J.after g
      subst ev
      exact ⟨rv, V.ref (s.heap.objs.size + 1), H2, J2, rfl, q2⟩
    | next => exact False.elim g
    | brk => exact False.elim g
    | cont => exact False.elim g
theorem pe_makeG (M : Mk X.K C f) (G : FnG X.prog X.w X.K X.mg X.base CX k f fd ps sp) (z : RoomG (k + 1) X.A) (hg : Gl X x) (hm : X.mg x = some (.ref C)) (hb : Binds X.K fd ps ds) (hd : Vals dvs ds) (hx : Passes CX X E) (ha : PA X (e :: es) t)
    (hdb : (x == ("__debug__" : Str)) = false := by decide) (he : starEach (e :: es) X.env = (false, eval e X.env) :: starEach es X.env := by rfl) (hpl : (backTo pos (starEach es X.env)).any (·.1) = false := by rfl) : PE X (.Call (.Name x p) (e :: es) [] pos) (tMake C sp dvs E t) :=
  ⟨fun pins s σ H Q I q => wpAny_Call_Name_kw (ld_glob I hg hm (PySem.W.callWith_K (h₀ := X.base) I.ok.mod.kin M.kp (thn (ha.run pos pins s σ H _ I q) fun _ _ ⟨_, _, J, r, q1⟩ => ⟨J.kIn, run_makeG M G z hb hd hx J r q1⟩) he hpl) hdb)⟩
theorem pe_makeG0 (M : Mk X.K C f) (G : FnG X.prog X.w X.K X.mg X.base CX k f fd ps sp) (z : RoomG (k + 1) X.A) (hg : Gl X x) (hm : X.mg x = some (.ref C)) (hb : Binds X.K fd ps ds) (hd : Vals dvs ds) (hx : Passes CX X E)
    (hdb : (x == ("__debug__" : Str)) = false := by decide) : PE X (.Call (.Name x p) [] [] pos) (tMake C sp dvs E tNil) :=
  ⟨fun pins s σ H Q I q => wpAny_Call_Name_kw (ld_glob I hg hm (PySem.W.callWith_K0 I.kIn M.kp (run_makeG (us := []) M G z hb hd hx I .nil q)) hdb)⟩
end
/-! ### the end of a law -/
section
variable {P : Program} {w : World} {K : PySem.W.Frag} {CX : CXT} {k : Nat} {fa a : Addr} {fd : FuncData} {x : Str} {sp : Sp} {s1 : Shared} {vs : List Value} {ns : List Int}
def EndR (s1 : Shared) (r : Result) (s2 : Shared) : Prop := r = .ok (.ret (.bool true)) ∧ OldK s1.heap s2.heap ∧ s2.os = s1.os ∧ AllBare s2.gens
theorem end_one {mg mb : Str → Option Value} (KX : K.In s1.heap) (hns : s1.heap.Ns mainGlobals mg) (hb : s1.heap.Ns builtinsNs mb) (hbb : ∀ y : Str, y ≠ "__name__" → mb y = bootBuiltins y) (nol : s1.heap.NoLimit) (hg : s1.gens = #[])
    (ha : s1.heap.get? a = some { cls := .type "list", data := .seq vs.toArray }) (z : RoomG k callerA) (G : ∀ base : Heap, K.In base → base.Ns mainGlobals mg → FnG P w K mg base CX k fa fd [x] sp) (bd : ∀ (s : Shared) (u : Value), BindsTo s fd ⟨[u], []⟩ [(x, u)])
    (hCX : ∀ H e s', CX [] H s1 (fun _ _ _ => False) e s' → False) (H : Hp) (O : Only H) (hok : HOk P w H s1.heap) (one : ∀ b, H b ≠ none → b = a) (off : H a ≠ none → K.lookup a = none)
    (q0 : sp [.ref a] H (fun v _ => v = .bl true) fun _ _ _ => False) : codeAny (model P w) callerA (.call (.ref fa) ⟨[.ref a], []⟩) (EndR s1) s1 := by
  have isa : ∀ b u, H b = some u → b = a := fun b u e => one b fun n => by rw [n] at e; cases e
  have nd : ∀ {b : Addr} {o : Obj} {es : Array DictEntry} {ep : Nat}, s1.heap.get? b = some o → o.data = .dict es ep → H b = none := fun {b o es ep} e d => by
    cases q : H b with
    | none => rfl
    | some u =>
      have eb := isa b u q
      subst eb
      rw [ha] at e
      cases e
      cases (d : Data.seq vs.toArray _ = Data.dict es ep)
  have toB : ∀ {b : Addr} {m : Str → Option Value}, s1.heap.Ns b m → (hidT s1.heap H).Ns b m := fun {b m} n => by
    obtain ⟨o, es, ep, e, d, r⟩ := n
    exact ⟨o, es, ep, hidT_get e (nd e d), d, r⟩
  have kin : K.In (hidT s1.heap H) := fun b o e => hidT_get (KX b o e) (by
    cases q : H b with
    | none => rfl
    | some u =>
      have eb := isa b u q
      subst eb
      rw [off (by rw [q]; exact Option.some_ne_none u)] at e
      cases e)
  obtain ⟨mc, c1, c2⟩ := nol
  have e0 : Env0 P w K mg (hidT s1.heap H) callerA [] s1 H :=
    { frames := rfl, mod := ⟨kin, toB hns, ⟨mb, toB hb, hbb⟩, mc, toB c1, c2⟩, bs := fun b o e => of_hidT e, bsz := Nat.le_of_eq (hidT_size _ _), funs := trivial, frf := fun b hb => (List.not_mem_nil (show b ∈ ([] : List Addr) from hb)).elim, hok := hok, bare := .of_eq hg }
  refine codeAny_mono ((G _ kin (toB hns)).goes callerA [] s1 H ⟨[.ref a], []⟩ [.ref a] [.ref a] _ _ z e0 (bd s1 (.ref a)) (.cons rfl .nil) q0) fun r s2 g => ?_
  cases r with
  | error e => exact (hCX H e s2 g).elim
  | ok fl =>
    cases fl with
    | next => exact False.elim g
    | brk => exact False.elim g
    | cont => exact False.elim g
    | ret u =>
      obtain ⟨v, H2, e1, e2, un, hok2, rv, ev⟩ := g
      have ev' : v = .bl true := ev
      subst ev'
      obtain rfl : u = Value.bool true := rv
      refine ⟨rfl, OldK.of_keep fun b o e => ?_, e1, e2⟩
      cases q : H b with
      | none => exact un.keep b o e q (fun n => List.not_mem_nil (show b ∈ ([] : List Addr) from n)) (fun n => List.not_mem_nil n)
      | some u =>
        cases O b with
        | inl n => rw [q] at n; cases n
        | inr n =>
          obtain ⟨ob, xs, n⟩ := n
          have a1 := (hok b _ n).1
          have a2 := (hok2 b _ (un.frzs b ob _ n)).1
          rw [e] at a1
          cases a1
          exact a2
theorem end_all {mg mb : Str → Option Value} (KX : K.In s1.heap) (hns : s1.heap.Ns mainGlobals mg) (hb : s1.heap.Ns builtinsNs mb) (hbb : ∀ y : Str, y ≠ "__name__" → mb y = bootBuiltins y) (nol : s1.heap.NoLimit) (hg : s1.gens = #[])
    (ha : s1.heap.get? a = some { cls := .type "list", data := .seq vs.toArray }) (hi : IntsAre vs ns) (hl : ns.length ≤ sizeLine) (z : RoomG k callerA) (G : ∀ base : Heap, K.In base → base.Ns mainGlobals mg → FnG P w K mg base CX k fa fd [x] sp)
    (bd : ∀ (s : Shared) (u : Value), BindsTo s fd ⟨[u], []⟩ [(x, u)]) (hsp : ∀ H : Hp, Only H → SqL K H a (ns.map V.int) → sp [.ref a] H (fun v _ => v = .bl true) fun _ _ _ => False)
    (hCX : ∀ H e s', CX [] H s1 (fun _ _ _ => False) e s' → False) : codeAny (model P w) callerA (.call (.ref fa) ⟨[.ref a], []⟩) (EndR s1) s1 := by
  have rv := vals_ints hi
  cases q : K.lookup a with
  | some o =>
    have e := KX a o q
    rw [ha] at e
    cases e
    have S : SqL K (fun _ => none) a (ns.map V.int) := .inr ⟨_, vs.toArray, _, q, rfl, rfl, rfl, by rw [List.size_toArray, hi.length]; exact hl, by simpa using rv⟩
    exact end_one KX hns hb hbb nol hg ha z G bd hCX (fun _ => none) (fun _ => .inl rfl) (fun b u n => nomatch n) (fun b n => (n rfl).elim) (fun n => (n rfl).elim) (hsp _ (fun _ => .inl rfl) S)
  | none =>
    let H : Hp := fun b => if b = a then some (.frz { cls := .type "list", data := .seq vs.toArray } (.lst (ns.map V.int))) else none
    have Ha : H a = some (.frz { cls := .type "list", data := .seq vs.toArray } (.lst (ns.map V.int))) := if_pos rfl
    have Hn : ∀ b, b ≠ a → H b = none := fun b n => if_neg n
    have O : Only H := fun b => by
      by_cases e : b = a
      · subst e; exact .inr ⟨_, _, Ha⟩
      · exact .inl (Hn b e)
    refine end_one KX hns hb hbb nol hg ha z G bd hCX H O (fun b u n => ?_) (fun b n => ?_) (fun _ => q) (hsp H O (.inl (.inr ⟨_, Ha⟩)))
    · by_cases e : b = a
      · subst e
        rw [Ha] at n
        cases n
        exact ⟨ha, by rw [List.length_map]; exact hl, vs, _, rv, ha⟩
      · rw [Hn b e] at n; cases n
    · by_cases e : b = a
      · exact e
      · exact (n (Hn b e)).elim
end
theorem walk_ofG {l : PySem.W.OpenLaw} {n k : Nat} {q : Program} {loose : List Str} {XP : (Str → Option Value) → Heap → Prop} {YP : World → Heap → Prop} {d : DefRec} {CX : CXT} {x : Str} (hn : l.most = some n) (hn2 : n ≤ sizeLine) (hdf : d.params.defaults = []) (z : RoomG k callerA)
    (G : ∀ (w : World) (mg : Str → Option Value) (fa : Addr) (h : Heap), YP w h → h.Ns mainGlobals mg → mg d.name = some (.ref fa) →
      ∃ (K : PySem.W.Frag) (fd : FuncData) (sp : Sp), K.In h ∧ (∀ (s : Shared) (u : Value), BindsTo s fd ⟨[u], []⟩ [(x, u)]) ∧ (∀ (H : Hp) (a : Addr) (ns : List Int), ns.length ≤ n → Only H → SqL K H a (ns.map V.int) → sp [.ref a] H (fun v _ => v = .bl true) fun _ _ _ => False) ∧
        ∀ base : Heap, K.In base → base.Ns mainGlobals mg → FnG l.prog w K mg base CX k fa fd [x] sp)
    (hCX : ∀ (H : Hp) (s : Shared) (e : Value) (s' : Shared), CX [] H s (fun _ _ _ => False) e s' → False) : PySem.W.WalkO q loose XP YP l.row.toRowW d [] (fun f vs => PySem.call f vs) := by
  refine Att.attach_call hn hdf fun w s0 s1 mg mb fa o pm cd doc a vs ns T Y ho hd hcd hmg hobj hints hlen hg => ?_
  obtain ⟨K, fd, sp, KX, bd, hsp, hG⟩ := G w mg fa _ Y T.T.g hmg
  exact end_all KX T.T.g T.T.b T.T.builtins T.T.nolimit hg hobj hints (Nat.le_trans hlen hn2) z hG bd (fun H O S => hsp H a ns hlen O S) fun H e s' => hCX H s1 e s'
end DL

set_option Elab.async false
set_option linter.all false
set_option maxRecDepth 100000
set_option maxHeartbeats 4000000
/-! DLi: defs and their promises over deep values; instances. -/
namespace DL
open PySem PySem.Spec PyProof.Rows L2
/-- a def's promise: arguments, store, what follows -/
abbrev DSp := List D → DM → (D → DM → Prop) → Prop
def liftSp (K : PySem.W.Frag) (sp : DSp) : Sp := fun vs H Q _ => ∃ ds M P, IsL K H M ds vs ∧ StR K H M ∧ sp ds (vis M) P ∧ ∀ d M' v H', P d (vis M') → Go M M' H H' → StR K H' M' → Is K H' M' d v → Q v H'
/-! what is handed back, told as a value that nothing changes any more -/
mutual
inductive Fz (M M' : DM) : D → D → Prop
  | same (d : D) : Fz M M' d d
  | lst {p : Addr} {ds es : List D} : M p = some (.lst ds) → M' p = none → FzL M M' ds es → Fz M M' (.ref p) (.lst es)
  | dk {p : Addr} {ds : List (Key × D)} : M p = some (.dk ds) → M' p = none → Fz M M' (.ref p) (.dk ds)
  | dt {p : Addr} {ds : List (List Key × D)} : M p = some (.dt ds) → M' p = none → Fz M M' (.ref p) (.dt ds)
  | tup {ds es : List D} : FzL M M' ds es → Fz M M' (.tup ds) (.tup es)
inductive FzL (M M' : DM) : List D → List D → Prop
  | nil : FzL M M' [] []
  | cons {d e : D} {ds es : List D} : Fz M M' d e → FzL M M' ds es → FzL M M' (d :: ds) (e :: es)
end
theorem FzL.refl {M M' : DM} : ∀ ds, FzL M M' ds ds
  | [] => .nil
  | d :: ds => .cons (.same d) (FzL.refl ds)
/-- behind a def: fewer objects may be told -/
def retOf (P : D → DM → Prop) : D → DM → Prop := fun d M => ∃ d' M', Sub M' M ∧ Fz M M' d d' ∧ P d' M'
theorem retOf.of {P : D → DM → Prop} {d : D} {M : DM} (h : P d M) : retOf P d M := ⟨d, M, Sub.refl, .same d, h⟩
section
variable {K : PySem.W.Frag} {H : Hp} {N : DM} {M' : DM}
theorem cutTo_none {a : Addr} (h : vis N a ≠ none) (n : M' a = none) : cutTo N M' a = none := by
  unfold cutTo
  unfold vis at h
  generalize N a = o at h
  cases o with
  | none => exact n
  | some y => cases y <;> first | exact n | exact absurd rfl h
mutual
theorem fz_is (s : StR K H N) (u : Sub M' (vis N)) : ∀ {d d' : D} {v : V}, Fz (vis N) M' d d' → Is K H N d v → Is K H (cutTo N M') d' v
  | _, _, _, .same d, i => Is.mono (Sub.kp (cutTo_sub u)) i
  | _, _, _, .lst (p := p) e n l, i => by
    obtain ⟨vs, e1, l1⟩ := s p _ (vis_some e).1
    unfold Is at i ⊢
    exact ⟨p, vs, i, ⟨e1, cutTo_none (by rw [e]; intro z; cases z) n⟩, fzl_is s u l l1⟩
  | _, _, _, .dk (p := p) e n, i => by
    obtain ⟨vs, e1, l1⟩ := s p _ (vis_some e).1
    unfold Is at i ⊢
    exact ⟨p, vs, i, .inl e1, cutTo_none (by rw [e]; intro z; cases z) n, IsK.mono (Sub.kp (cutTo_sub u)) l1⟩
  | _, _, _, .dt (p := p) e n, i => by
    obtain ⟨vs, e1, l1⟩ := s p _ (vis_some e).1
    unfold Is at i ⊢
    exact ⟨p, vs, i, .inl e1, cutTo_none (by rw [e]; intro z; cases z) n, IsT.mono (Sub.kp (cutTo_sub u)) l1⟩
  | _, _, _, .tup l, i => by
    unfold Is at i ⊢
    obtain ⟨a, vs, e, f, r⟩ := i
    exact ⟨a, vs, e, ⟨f.1, (Sub.kp (K := K) (H := H) (cutTo_sub u)).t a vs f |>.2⟩, fzl_is s u l r⟩
theorem fzl_is (s : StR K H N) (u : Sub M' (vis N)) : ∀ {d d' : List D} {v : List V}, FzL (vis N) M' d d' → IsL K H N d v → IsL K H (cutTo N M') d' v
  | _, _, _, .nil, i => by unfold IsL at i ⊢; exact i
  | _, _, _, .cons a b, i => by
    unfold IsL at i ⊢
    obtain ⟨v, r, e, i1, i2⟩ := i
    exact ⟨v, r, e, fz_is s u a i1, fzl_is s u b i2⟩
end
end
/-- the slots at a def's entry -/
def startD (n : Nat) (ds : List D) : DEnv := ds.map some ++ List.replicate (n - ds.length) none
theorem startD_rel {K : PySem.W.Frag} {H : Hp} {M : DM} {N : List Str} {ds : List D} {vs : List V} (l : IsL K H M ds vs) : EnvR K H M (startD N.length ds) (L2.start N vs) := by
  unfold startD L2.start
  rw [l.length]
  refine ⟨by simp [l.length], fun i d e => ?_⟩
  by_cases hi : i < ds.length
  · rw [List.getElem?_append_left (by simpa using hi)] at e
    rw [List.getElem?_append_left (by rw [List.length_map, ← l.length]; exact hi)]
    rw [List.getElem?_map] at e ⊢
    cases h : ds[i]? with
    | none => rw [h] at e; cases e
    | some x =>
      rw [h] at e; cases e
      obtain ⟨v, hv, iv⟩ := l.get h
      exact ⟨v, by rw [hv]; rfl, iv⟩
  · rw [List.getElem?_append_right (by simpa using hi)] at e
    rw [List.getElem?_replicate] at e
    split at e <;> cases e
/-- what a body's reading promises -/
def closeSp (n m : Nat) (rd : DS) : DSp := fun ds M P => ds.length = n ∧ rd { nx := fun _ M' => retOf P .non M', rt := retOf P } (startD m ds) M
section
variable {P : Program} {w : World} {K : PySem.W.Frag} {mg : Str → Option Value} {base : Heap}
theorem fn_close {x qual : Str} {st : Stmt} {f : Addr} {fd : FuncData} {N ps : List Str} {k : Nat} {rd : DS} {sp : DSp} (F : Fun K x qual st f fd) (S : FnScope N ps (defScope st))
    (hbody : ∀ (cdv : Value) (A : Around) (outer : List Env) (s : Shared) (H : Hp) (E : XK), RoomG k (A.deeper (envOfC qual (defScope st) s.heap.objs.size f cdv)) →
      PDSs (cxOf CX0 P w K mg base N qual (defScope st) f cdv A outer s H E).nox (defBody st) rd)
    (hsp : ∀ ds M P, sp ds M P → closeSp ps.length N.length rd ds M P) : FnG P w K mg base CX0 (k + 1) f fd ps (liftSp K sp) := by
  refine fun_okG F S (fun vs H Q E ⟨ds, M, P, l, s, q, _⟩ => ?_) fun cdv A outer s H vs Q E hr ⟨ds, M, P, l, S', q, kq⟩ => ⟨_, hbody cdv A outer s H E hr, ?_⟩
  · rw [← l.length]; exact (hsp _ _ _ q).1
  · obtain ⟨_, q2⟩ := hsp _ _ _ q
    have fin : ∀ d (N' : DM) v H', retOf P d (vis N') → Go M N' H H' → StR K H' N' → Is K H' N' d v → Q v H' := fun d N' v H' ⟨d', M2, u, z, p⟩ g s' i =>
      kq d' (cutTo N' M2) v H' (by rw [cutTo_vis u]; exact p) (g.trans (cutTo_go u)) (s'.sub (cutTo_sub u)) (fz_is s' u z i)
    exact ⟨_, M, _, startD_rel l, S', q2, ⟨fun E' M' σ' H' p g s' _ => fin .non M' .non H' p g s' is_non, fun d M' v H' p g s' i => fin d M' v H' p g s' i, fun _ _ _ _ p => p.elim, fun _ _ _ _ p => p.elim⟩⟩
end
section
variable {X : Cx} {e : Expr} {das : DA} {da : DE} {sp : DSp} {E0 : XK}
/-! ### calls -/
def dCall (sp : DSp) (das : DA) : DE := fun E M Q => das E M fun ds M1 => sp ds M1 Q
theorem pd_call (h : PE X e (tCall (liftSp X.K sp) [] E0 (liftA X.K das))) : PDE X e (dCall sp das) :=
  PE.imp h fun σ H Q ⟨E, M, P, re, s, q, k⟩ => ⟨E, M, _, re, s, q, fun ds M1 vs H1 q1 g1 s1 i1 => ⟨ds, M1, P, by rw [List.append_nil]; exact i1, s1, q1, fun d M2 v H2 p2 g2 s2 i2 => k d M2 v H2 p2 (g1.trans g2) s2 i2⟩⟩
theorem pd_call0 (h : PE X e (tCall (liftSp X.K sp) [] E0 tNil)) : PDE X e (dCall sp dNil) :=
  PE.imp h fun σ H Q ⟨E, M, P, re, s, q, k⟩ => ⟨[], M, P, IsL.nil, s, q, fun d M2 v H2 p2 g2 s2 i2 => k d M2 v H2 p2 g2 s2 i2⟩
def dMeth (C : Addr) (m : Str) (sp : DSp) (da : DE) (das : DA) : DE := fun E M Q => da E M fun x M1 => ∃ a fs, x = .ref a ∧ M1 a = some (.ins C fs) ∧ fs.lookup m = none ∧ das E M1 fun ds M2 => sp (x :: ds) M2 Q
theorem isf_none {K : PySem.W.Frag} {H : Hp} {M : DM} {m : Str} : ∀ {fs : List (Str × D)} {vs : List (Str × V)}, IsF K H M fs vs → fs.lookup m = none → vs.lookup m = none
  | [], _, h, _ => by unfold IsF at h; subst h; rfl
  | (k, d) :: fs, _, h, n => by
    unfold IsF at h
    obtain ⟨v, r, rfl, i, l⟩ := h
    rw [List.lookup_cons] at n ⊢
    cases c : m == k with
    | true => rw [c] at n; cases n
    | false => rw [c] at n; exact isf_none l n
theorem isf_get {K : PySem.W.Frag} {H : Hp} {M : DM} {m : Str} {d : D} : ∀ {fs : List (Str × D)} {vs : List (Str × V)}, IsF K H M fs vs → fs.lookup m = some d → ∃ v, vs.lookup m = some v ∧ Is K H M d v
  | [], _, h, n => by cases n
  | (k, d') :: fs, _, h, n => by
    unfold IsF at h
    obtain ⟨v, r, rfl, i, l⟩ := h
    rw [List.lookup_cons] at n ⊢
    cases c : m == k with
    | true => rw [c] at n; cases n; exact ⟨v, rfl, i⟩
    | false => rw [c] at n; exact isf_get l n
def putD (f : Str) (v : D) : List (Str × D) → List (Str × D)
  | [] => [(f, v)]
  | (g, x) :: r => if g = f then (g, v) :: r else (g, x) :: putD f v r
theorem isf_put {K : PySem.W.Frag} {H : Hp} {M : DM} {f : Str} {d : D} {v : V} (i : Is K H M d v) : ∀ {fs : List (Str × D)} {vs : List (Str × V)}, IsF K H M fs vs → IsF K H M (putD f d fs) (putF f v vs)
  | [], _, h => by unfold IsF at h; subst h; exact ⟨v, [], rfl, i, rfl⟩
  | (k, x) :: fs, _, h => by
    unfold IsF at h
    obtain ⟨w, r, rfl, iw, l⟩ := h
    unfold putD putF
    by_cases c : k = f
    · rw [if_pos c, if_pos c]; exact ⟨v, r, rfl, i, l⟩
    · rw [if_neg c, if_neg c]; exact ⟨w, _, rfl, iw, isf_put i l⟩
theorem isf_len {K : PySem.W.Frag} {H : Hp} {M : DM} : ∀ {fs : List (Str × D)} {vs : List (Str × V)}, IsF K H M fs vs → fs.length = vs.length
  | [], _, h => by unfold IsF at h; subst h; rfl
  | (k, x) :: fs, _, h => by
    unfold IsF at h
    obtain ⟨w, r, rfl, iw, l⟩ := h
    rw [List.length_cons, List.length_cons, isf_len l]
theorem pd_meth {C : Addr} {m : Str} (h : PE X e (tMeth C m (liftSp X.K sp) [] E0 (liftE X.K da) (liftA X.K das))) : PDE X e (dMeth C m sp da das) :=
  PE.imp h fun σ H Q ⟨E, M, P, re, s, q, k⟩ => ⟨E, M, _, re, s, q, fun x M1 v H1 ⟨a, fs, ex, em, hn, q1⟩ g1 s1 i1 => by
    subst ex
    unfold Is at i1
    obtain ⟨dx, vs, e1, _, _, l⟩ := s1 a _ (vis_some em).1
    exact ⟨a, dx, vs, i1, e1, isf_none l hn, E, M1, _, re.mono g1.kp, s1, q1, fun ds M2 us H2 q2 g2 s2 i2 => ⟨.ref a :: ds, M2, P, by rw [List.append_nil]; exact IsL.cons (by unfold Is; exact i1) i2, s2, q2,
      fun d M3 v H3 p3 g3 s3 i3 => k d M3 v H3 p3 ((g1.trans g2).trans g3) s3 i3⟩⟩⟩
theorem pd_meth0 {C : Addr} {m : Str} (h : PE X e (tMeth C m (liftSp X.K sp) [] E0 (liftE X.K da) tNil)) : PDE X e (dMeth C m sp da dNil) :=
  PE.imp h fun σ H Q ⟨E, M, P, re, s, q, k⟩ => ⟨E, M, _, re, s, q, fun x M1 v H1 ⟨a, fs, ex, em, hn, q1⟩ g1 s1 i1 => by
    subst ex
    unfold Is at i1
    obtain ⟨dx, vs, e1, _, _, l⟩ := s1 a _ (vis_some em).1
    exact ⟨a, dx, vs, i1, e1, isf_none l hn, [.ref a], M1, P, IsL.cons (by unfold Is; exact i1) IsL.nil, s1, q1, fun d M3 v H3 p3 g3 s3 i3 => k d M3 v H3 p3 (g1.trans g3) s3 i3⟩⟩
/-! ### instances -/
def dMake (C : Addr) (sp : DSp) (das : DA) : DE := fun E M Q => das E M fun ds M1 => ∀ p, M1 p = none → sp (.ref p :: ds) (up M1 p (.ins C [])) fun d M2 => d = .non ∧ Q (.ref p) M2
theorem make_st {K : PySem.W.Frag} {H : Hp} {M : DM} {C x dx : Addr} (s : StR K H M) (hx : H x = none) (hd : H dx = none) (ne : dx ≠ x) :
    vis (up M x (.ins C [])) = up (vis M) x (.ins C []) ∧ Go M (up M x (.ins C [])) H (upd (upd H dx (.own x)) x (.ins C dx [])) ∧ StR K (upd (upd H dx (.own x)) x (.ins C dx [])) (up M x (.ins C [])) := by
  have hx1 : upd H dx (.own x) x = none := by rw [upd_ne (Ne.symm ne)]; exact hx
  have g1 : Go M M H (upd H dx (.own x)) := Go.new s hd
  have s1 : StR K (upd H dx (.own x)) M := s.new hd
  have g2 : Go M (up M x (.ins C [])) (upd H dx (.own x)) (upd (upd H dx (.own x)) x (.ins C dx [])) := Go.newS s1 hx1
  refine ⟨vis_up (by intro z; cases z), g1.trans g2, s1.newS hx1 ⟨dx, [], upd_same, by rw [upd_ne ne, upd_same], ?_, by unfold IsF; rfl⟩⟩
  rw [up_ne ne]; exact s.no hd
theorem pd_make {C : Addr} (h : PE X e (tMake C (liftSp X.K sp) [] E0 (liftA X.K das))) : PDE X e (dMake C sp das) :=
  PE.imp h fun σ H Q ⟨E, M, P, re, s, q, k⟩ => by
    refine ⟨E, M, _, re, s, q, fun ds M1 vs H1 q1 g1 s1 i1 => ?_⟩
    intro x dx hx hd ne
    obtain ⟨ev, g2, s2⟩ := make_st (C := C) s1 hx hd ne
    refine ⟨.ref x :: ds, up M1 x (.ins C []), fun d M2 => d = .non ∧ P (.ref x) M2, by rw [List.append_nil]; exact IsL.cons is_ref (IsL.mono g2.kp i1), s2, by rw [ev]; exact q1 x (vis_none (s1.no hx)), fun d M3 v H3 ⟨ed, p3⟩ g3 s3 i3 => ?_⟩
    subst ed
    unfold Is at i3
    exact ⟨i3, k (.ref x) M3 _ H3 p3 ((g1.trans g2).trans g3) s3 is_ref⟩
theorem pd_make0 {C : Addr} (h : PE X e (tMake C (liftSp X.K sp) [] E0 tNil)) : PDE X e (dMake C sp dNil) :=
  PE.imp h fun σ H Q ⟨E, M, P, re, s, q, k⟩ => by
    intro x dx hx hd ne
    obtain ⟨ev, g2, s2⟩ := make_st (C := C) s hx hd ne
    refine ⟨[.ref x], up M x (.ins C []), fun d M2 => d = .non ∧ P (.ref x) M2, IsL.cons is_ref IsL.nil, s2, by rw [ev]; exact q x (vis_none (s.no hx)), fun d M3 v H3 ⟨ed, p3⟩ g3 s3 i3 => ?_⟩
    subst ed
    unfold Is at i3
    exact ⟨i3, k (.ref x) M3 _ H3 p3 (g2.trans g3) s3 is_ref⟩
/-- o.f, o an instance of one of the classes at Cs -/
def dFld (Cs : List Addr) (f : Str) (da : DE) : DE := fun E M Q => da E M fun x M1 => ∃ a C fs d, x = .ref a ∧ M1 a = some (.ins C fs) ∧ C ∈ Cs ∧ fs.lookup f = some d ∧ Q d M1
def fldOf (Cs : List Addr) (f : Str) (M : DM) : D → Option D
  | .ref a => match M a with | some (.ins C fs) => if C ∈ Cs then fs.lookup f else none | _ => none
  | _ => none
def pFld (Cs : List Addr) (f : Str) (p : PF) : PF := fun E M => (p E M).bind (fldOf Cs f M)
theorem pd_fld {Cs : List Addr} {f : Str} {pos : Pos} (hC : ∀ C ∈ Cs, Cls X.K C ∧ NoAttr X.K C f) (h : PE X (.Attribute e f pos) (tFld X.K (liftE X.K da) f)) : PDE X (.Attribute e f pos) (dFld Cs f da) :=
  PE.imp h fun σ H Q ⟨E, M, P, re, s, q, k⟩ => ⟨E, M, _, re, s, q, fun x M1 v H1 ⟨a, C, fs, d, ex, em, hm, hl, q1⟩ g1 s1 i1 => by
    subst ex
    unfold Is at i1
    obtain ⟨dx, vs, e1, _, _, l⟩ := s1 a _ (vis_some em).1
    obtain ⟨w, hw, iw⟩ := isf_get l hl
    exact ⟨a, C, dx, vs, w, i1, e1, (hC C hm).1, (hC C hm).2, hw, k d M1 w H1 q1 g1 s1 iw⟩⟩
theorem pd_fldP {Cs : List Addr} {f : Str} {p : PF} {pos : Pos} (h : PDE X (.Attribute e f pos) (dFld Cs f (dP p))) : PDE X (.Attribute e f pos) (dP (pFld Cs f p)) := h.wk fun E M Q ⟨d, ed, q⟩ => by
  unfold pFld at ed
  cases e1 : p E M with
  | none => rw [e1] at ed; cases ed
  | some x =>
    rw [e1] at ed
    dsimp only [Option.bind_some] at ed
    unfold fldOf at ed
    split at ed
    · rename_i a
      generalize e2 : M a = om at ed
      cases om with
      | none => cases ed
      | some m =>
        cases m with
        | ins C fs =>
          dsimp only at ed
          by_cases hm : C ∈ Cs
          · rw [if_pos hm] at ed; exact ⟨.ref a, e1, a, C, fs, d, rfl, e2, hm, ed, q⟩
          · rw [if_neg hm] at ed; cases ed
        | _ => cases ed
    · cases ed
/-- o.f = e -/
def dStFld (Cs : List Addr) (f : Str) (da db : DE) : DS := fun D E M => db E M fun y M1 => da E M1 fun x M2 => ∃ a C fs, x = .ref a ∧ M2 a = some (.ins C fs) ∧ C ∈ Cs ∧ fs.length < 1000 ∧ D.nx E (up M2 a (.ins C (putD f y fs)))
theorem ps_fldD {Cs : List Addr} {f : Str} {value : Expr} {db : DE} {pos pos' : Pos} (hC : ∀ C ∈ Cs, Cls X.K C ∧ NoAttr X.K C f) (h : PS X (.Assign [.Attribute e f pos'] value pos) (sFld X.K (liftE X.K da) (liftE X.K db) f)) : PDS X (.Assign [.Attribute e f pos'] value pos) (dStFld Cs f da db) :=
  PS.imp h fun D σ H ⟨E, M, DD, re, s, q, k⟩ => ⟨E, M, _, re, s, q, fun y M1 w H1 q1 g1 s1 i1 => ⟨E, M1, _, re.mono g1.kp, s1, q1, fun x M2 v H2 ⟨a, C, fs, ex, em, hm, hl, q2⟩ g2 s2 i2 => by
    subst ex
    unfold Is at i2
    have em' := (vis_some em).1
    obtain ⟨dx, vs, e1, e2, e3, l⟩ := s2 a _ em'
    have h0 : MO.ins C fs ≠ .hid := by intro z; cases z
    have g3 : Go M2 (up M2 a (.ins C (putD f y fs))) H2 (upd H2 a (.ins C dx (putF f w vs))) := Go.write em' h0
    have ne : dx ≠ a := by intro z; subst z; rw [e2] at e1; cases e1
    refine ⟨a, C, dx, vs, i2, e1, (hC C hm).1, (hC C hm).2, by rw [← isf_len l]; exact hl, k.nx E _ σ _ (by rw [vis_up (by intro z; cases z)]; exact q2) ((g1.trans g2).trans g3) (s2.write em' h0 ⟨dx, _, upd_same, by rw [upd_ne ne]; exact e2, by rw [up_ne ne]; exact e3, IsF.mono g3.kp (isf_put (Is.mono g2.kp i1) l)⟩) (re.mono ((g1.trans g2).trans g3).kp)⟩⟩⟩
end
end DL

set_option Elab.async false
set_option linter.all false
set_option maxRecDepth 100000
set_option maxHeartbeats 4000000
/-! DLj: the rules in the form in which the printed terms use them. -/
namespace DL
open PySem PySem.Spec PyProof.Rows L2
section
variable {X : Cx} {K : PySem.W.Frag} {H : Hp} {M : DM} {e a b c : Expr} {es : List Expr} {de da db dc : DE} {das : DA} {f g h : PF} {fs : LF} {pos : Pos}
theorem ps_setQ {x : Str} {i : Nat} {p2 : Pos} (hp : PS X (.Assign [.Name x p2] e pos) (tAsg (liftE X.K de) (gName i))) : PDS X (.Assign [.Name x p2] e pos) (dSet i de) := ps_setT (fun _ _ _ h => h) hp
theorem ps_asgQ {tg : Expr} {g : DG} (hp : PS X (.Assign [tg] e pos) (tAsg (liftE X.K de) (liftG X.K g))) : PDS X (.Assign [tg] e pos) (dAsg de g) :=
  PS.imp hp fun D σ H ⟨E, M, DD, re, s, q, k⟩ => ⟨E, M, _, re, s, q, fun d M1 v H1 q1 g1 s1 i1 => ⟨d, E, M1, DD.nx, i1, re.mono g1.kp, s1, q1, fun E' M' σ' H' p' g' s' re' => k.nx E' M' σ' H' p' (g1.trans g') s' re'⟩⟩
/-- several names at once, of a tuple or a list -/
def dgSeq (n : Nat) (gs : DGs) : DG := fun d E M Q => ∃ ds, seqOf M d = some ds ∧ ds.length = n ∧ gs ds E M Q
theorem pg_or {tg : Expr} {t u : TG} (h : PG X tg t) (k : PG X tg u) : PG X tg (fun v σ H Q => t v σ H Q ∨ u v σ H Q) := ⟨fun pins s σ H v w Q I r q => q.elim (fun q => h.run pins s σ H v w Q I r q) fun q => k.run pins s σ H v w Q I r q⟩
theorem pg_seqQ {es : List Expr} {kk n : Nat} {gs : DGs} (h1 : PG X (.Tuple es kk pos) (gTup X.K n (liftGs X.K gs))) (h2 : PG X (.Tuple es kk pos) (gUnl X.K n (liftGs X.K gs))) : PDG X (.Tuple es kk pos) (dgSeq n gs) :=
  PG.imp (pg_or h1 h2) fun v σ H Q ⟨d, E, M, P, i1, re, s, ⟨ds, ed, el, q⟩, k⟩ => by
    obtain ⟨a, vs, rfl, f, r⟩ := seqOf_is s ed i1
    rcases f with f | f
    · exact .inr ⟨a, vs, rfl, f, by rw [← r.length]; exact el, ds, E, M, P, r, re, s, q, k⟩
    · exact .inl ⟨a, vs, rfl, f, by rw [← r.length]; exact el, ds, E, M, P, r, re, s, q, k⟩
theorem pg_tupQ {es : List Expr} {kk n : Nat} {gs : DGs} (hg : PG X (.Tuple es kk pos) (gTup X.K n (liftGs X.K gs))) : PDG X (.Tuple es kk pos) (dgTup n gs) :=
  PG.imp hg fun v σ H Q ⟨d, E, M, P, i1, re, s, ⟨ds, ed, el, q⟩, k⟩ => by
    subst ed
    unfold Is at i1
    obtain ⟨a, vs, e, f, r⟩ := i1
    exact ⟨a, vs, e, f.sq, by rw [← r.length]; exact el, ds, E, M, P, r, re, s, q, k⟩
theorem pg_seqW {ws : List Nat} {es : List Expr} {kk n : Nat} {gs : DGs} (h1 : PG X (.Tuple es kk pos) (gTup X.K n (liftGsw X.K ws gs))) (h2 : PG X (.Tuple es kk pos) (gUnl X.K n (liftGsw X.K ws gs))) : PDGw X ws (.Tuple es kk pos) (dgSeq n gs) :=
  PG.imp (pg_or h1 h2) fun v σ H Q ⟨d, E, M, P, i1, re, s, ⟨ds, ed, el, q⟩, k⟩ => by
    obtain ⟨a, vs, rfl, f, r⟩ := seqOf_is s ed i1
    rcases f with f | f
    · exact .inr ⟨a, vs, rfl, f, by rw [← r.length]; exact el, ds, E, M, P, r, re, s, q, k⟩
    · exact .inl ⟨a, vs, rfl, f, by rw [← r.length]; exact el, ds, E, M, P, r, re, s, q, k⟩
/-! pure targets of a comprehension -/
def gfName (i : Nat) : GF := fun d E => some (E.set i (some d))
abbrev GFs := List D → DEnv → Option DEnv
def gfNil : GFs := fun ds E => match ds with | [] => some E | _ => none
def gfCons (g : GF) (gs : GFs) : GFs := fun ds E => match ds with | d :: r => (g d E).bind fun E' => gs r E' | _ => none
def gfTup (gs : GFs) : GF := fun d E => match d with | .tup ds => gs ds E | _ => none
def dgsP (g : GFs) : DGs := fun ds E M Q => ∃ E', g ds E = some E' ∧ Q E' M
theorem PG.wkW {ws : List Nat} {tg : Expr} {dg dg' : DG} (h : PDGw X ws tg dg) (w : ∀ d E M Q, dg' d E M Q → dg d E M Q) : PDGw X ws tg dg' := PG.imp h fun v σ H Q ⟨d, E, M, P, i, re, s, q, k⟩ => ⟨d, E, M, P, i, re, s, w _ _ _ _ q, k⟩
theorem PGs.wkW {ws : List Nat} {tg : List Expr} {dg dg' : DGs} (h : PDGsw X ws tg dg) (w : ∀ d E M Q, dg' d E M Q → dg d E M Q) : PDGsw X ws tg dg' := PGs.imp h fun v σ H Q ⟨d, E, M, P, i, re, s, q, k⟩ => ⟨d, E, M, P, i, re, s, w _ _ _ _ q, k⟩
theorem pg_nameP {ws : List Nat} {x : Str} {i : Nat} (h : PG X (.Name x pos) (gName i)) (hi : i ∈ ws) : PDGw X ws (.Name x pos) (dgP (gfName i)) := PG.wkW (pg_nameW h hi) fun d E M Q ⟨E', e, q⟩ => by cases e; exact q
theorem pgs_nilP {ws : List Nat} : PDGsw X ws [] (dgsP gfNil) := PGs.wkW pgs_nilW fun ds E M Q ⟨E', e, q⟩ => by
  unfold gfNil at e
  cases ds with
  | nil => cases e; exact ⟨rfl, q⟩
  | cons _ _ => cases e
theorem pgs_consP {ws : List Nat} {g : GF} {gs : GFs} (h : PDGw X ws e (dgP g)) (hs : PDGsw X ws es (dgsP gs)) (hq : List.map (fun x => x.snd) (assignEach (e :: es) X.env) = assign e X.env :: List.map (fun x => x.snd) (assignEach es X.env) := by rfl) : PDGsw X ws (e :: es) (dgsP (gfCons g gs)) := PGs.wkW (pgs_consW h hs hq) fun ds E M Q ⟨E', e', q⟩ => by
  unfold gfCons at e'
  cases ds with
  | nil => cases e'
  | cons d r =>
    dsimp only at e'
    cases e1 : g d E with
    | none => rw [e1] at e'; cases e'
    | some E1 => rw [e1] at e'; exact ⟨d, r, rfl, E1, e1, E', e', q⟩
theorem pg_tupP {ws : List Nat} {kk n : Nat} {gs : GFs} (hn : ∀ ds E E', gs ds E = some E' → ds.length = n) (hg : PG X (.Tuple es kk pos) (gTup X.K n (liftGsw X.K ws (dgsP gs)))) : PDGw X ws (.Tuple es kk pos) (dgP (gfTup gs)) := PG.wkW (pg_tupW hg) fun d E M Q ⟨E', e', q⟩ => by
  unfold gfTup at e'
  cases d <;> first | exact ⟨_, rfl, hn _ _ _ e', E', e', q⟩ | cases e'
theorem gfs_len0 : ∀ ds E E', gfNil ds E = some E' → ds.length = 0 := fun ds E E' h => by cases ds <;> first | rfl | cases h
theorem gfs_lenS {g : GF} {gs : GFs} {n : Nat} (hn : ∀ ds E E', gs ds E = some E' → ds.length = n) : ∀ ds E E', gfCons g gs ds E = some E' → ds.length = n + 1 := fun ds E E' h => by
  cases ds with
  | nil => cases h
  | cons d r =>
    unfold gfCons at h
    dsimp only at h
    cases e1 : g d E with
    | none => rw [e1] at h; cases h
    | some E1 => rw [e1] at h; rw [List.length_cons, hn _ _ _ h]
def bYes : BF := fun _ _ => some true
theorem pts_nilP : PDTs X [] (dTP bYes) := PTs.imp pts_nil fun σ H Q ⟨E, M, P, re, s, ⟨b, e, q⟩, k⟩ => by cases e; exact k true M H q Go.refl s
/-- a comprehension in which nothing changes, as a value -/
theorem pn_lcP {elt tg iter : Expr} {ifs : List Expr} {scope : Scope} {own : List (Str × Nat)} {fi : IF} {g : GF} {tt : BF} {te : PF}
    (h : PE X (.ListComp elt [⟨tg, iter, ifs, 0⟩] scope pos) (tLc (liftI X.K (diP fi)) (liftGw X.K (own.map (·.2)) (dgP g)) (liftT X.K (dTP tt)) (liftE X.K (dP te)) (own.map (·.2)))) :
    PDN X (.ListComp elt [⟨tg, iter, ifs, 0⟩] scope pos) (dNP (nLc fi g tt te (own.map (·.2)))) := (pn_lc h).wk fun _ _ _ h => dLc_P h
theorem lcP_lift {di : IF} {g : GF} {tt : BF} {te : PF} {ws : List Nat} {σ : L2.St} {H : Hp} {Q : VK} (h : liftE X.K (dP (pFz (nLc di g tt te ws))) σ H Q) : tLc (liftI X.K (diP di)) (liftGw X.K ws (dgP g)) (liftT X.K (dTP tt)) (liftE X.K (dP te)) ws σ H Q := by
  obtain ⟨E, M, P, re, s, q, k⟩ := fzP_lift h
  exact lift_lc ⟨E, M, P, re, s, dLc_P q, k⟩
/-- -i -/
def dNeg : DM → D → Option D := fun _ d => match d with | .int i => some (.int (-i)) | _ => none
def pUn (F : DM → D → Option D) (f : PF) : PF := fun E M => (f E M).bind (F M)
def dUn (F : DM → D → Option D) (da : DE) : DE := fun E M Q => da E M fun x M1 => ∃ z, F M1 x = some z ∧ Q z M1
theorem dUn_P {F : DM → D → Option D} {E : DEnv} {M : DM} {Q : D → DM → Prop} (h : dP (pUn F f) E M Q) : dUn F (dP f) E M Q := by
  obtain ⟨d, e, q⟩ := h
  unfold pUn at e
  cases ef : f E M with
  | none => rw [ef] at e; cases e
  | some x => rw [ef] at e; exact ⟨x, ef, d, e, q⟩
theorem pd_neg (h : PDE X a da) : PDE X (.UnaryOp .USub a pos) (dUn dNeg da) :=
  PE.imp (pe_un un_neg h) fun σ H Q ⟨E, M, P, re, s, q, k⟩ => ⟨E, M, _, re, s, q, fun d M1 v H1 ⟨z, ez, q1⟩ g1 s1 i1 => by
    cases d <;> first | cases ez | skip
    unfold Is at i1; subst i1
    exact ⟨_, rfl, k _ M1 _ H1 q1 g1 s1 is_int⟩⟩
theorem pd_negP (h : PDE X a (dP f)) : PDE X (.UnaryOp .USub a pos) (dP (pUn dNeg f)) := (pd_neg h).wk fun _ _ _ h => dUn_P h
/-- a < b < c -/
def dChain (o1 o2 : Op2) (da db dc : DE) : DE := fun E M Q => da E M fun x M1 => db E M1 fun y M2 => ∃ k, o1 M2 x y = some (.bl k) ∧ if k = true then dc E M2 fun w M3 => ∃ z, o2 M3 y w = some z ∧ Q z M3 else Q (.bl false) M2
def pChain (o1 o2 : Op2) (f g h : PF) : PF := fun E M => (f E M).bind fun x => (g E M).bind fun y => (asB (o1 M x y)).bind fun k => if k = true then (h E M).bind fun w => o2 M y w else some (.bl false)
theorem lift_chain {r1 r2 : R2} {o1 o2 : Op2} (h1 : OpD X.K r1 o1) (h2 : OpD X.K r2 o2) {σ : L2.St} {H : Hp} {Q : VK} (h : liftE X.K (dChain o1 o2 da db dc) σ H Q) : tChain r1 r2 (liftE X.K da) (liftE X.K db) (liftE X.K dc) σ H Q := by
  obtain ⟨E, M, P, re, s, q, k⟩ := h
  refine ⟨E, M, _, re, s, q, fun x M1 v H1 q1 g1 s1 i1 => ⟨E, M1, _, re.mono g1.kp, s1, q1, fun y M2 u H2 ⟨c, ec, q2⟩ g2 s2 i2 => ?_⟩⟩
  refine h1 M2 H2 x y _ v u _ s2 ec (Is.mono g2.kp i1) i2 fun w H3 g3 s3 i3 => ?_
  unfold Is at i3
  refine ⟨c, i3, ?_⟩
  have g13 := (g1.trans g2).trans g3
  cases c with
  | false => exact k _ M2 _ H3 q2 g13 s3 is_bl
  | true =>
    refine ⟨E, M2, _, re.mono g13.kp, s3, q2, fun z M4 v4 H4 ⟨t, et, q4⟩ g4 s4 i4 => ?_⟩
    exact h2 M4 H4 y z t u v4 Q s4 et (Is.mono (g3.trans g4).kp i2) i4 fun w5 H5 g5 s5 i5 => k t M4 w5 H5 q4 ((g13.trans g4).trans g5) s5 i5
theorem dChain_P {o1 o2 : Op2} {E : DEnv} {M : DM} {Q : D → DM → Prop} (q : dP (pChain o1 o2 f g h) E M Q) : dChain o1 o2 (dP f) (dP g) (dP h) E M Q := by
  obtain ⟨d, e, q⟩ := q
  unfold pChain at e
  cases e1 : f E M with
  | none => rw [e1] at e; cases e
  | some x =>
    cases e2 : g E M with
    | none => rw [e1, e2] at e; cases e
    | some y =>
      rw [e1, e2] at e
      dsimp only [Option.bind_some] at e
      cases e3 : asB (o1 M x y) with
      | none => rw [e3] at e; cases e
      | some k =>
        rw [e3] at e
        dsimp only [Option.bind_some] at e
        refine ⟨x, e1, y, e2, k, asB_some e3, ?_⟩
        cases k with
        | false => cases e; exact q
        | true =>
          rw [if_pos rfl] at e ⊢
          cases e4 : h E M with
          | none => rw [e4] at e; cases e
          | some w => rw [e4] at e; exact ⟨w, e4, d, e, q⟩
theorem pd_chain {op op' : CmpOp} {r1 r2 : R2} {o1 o2 : Op2} (h1 : OpD X.K r1 o1) (h2 : OpD X.K r2 o2) (hp : PE X (.Compare a [op, op'] [b, c] pos) (tChain r1 r2 (liftE X.K da) (liftE X.K db) (liftE X.K dc))) : PDE X (.Compare a [op, op'] [b, c] pos) (dChain o1 o2 da db dc) :=
  PE.imp hp fun _ _ _ h => lift_chain h1 h2 h
theorem pd_chainP {op op' : CmpOp} {r1 r2 : R2} {o1 o2 : Op2} (h1 : OpD X.K r1 o1) (h2 : OpD X.K r2 o2) (hp : PE X (.Compare a [op, op'] [b, c] pos) (tChain r1 r2 (liftE X.K (dP f)) (liftE X.K (dP g)) (liftE X.K (dP h)))) : PDE X (.Compare a [op, op'] [b, c] pos) (dP (pChain o1 o2 f g h)) :=
  (pd_chain h1 h2 hp).wk fun _ _ _ h => dChain_P h
theorem pt_chainD {op op' : CmpOp} {r1 r2 : R2} {o1 o2 : Op2} (h1 : OpD X.K r1 o1) (h2 : OpD X.K r2 o2) (hp : PT X (.Compare a [op, op'] [b, c] pos) (tTest (tChain r1 r2 (liftE X.K da) (liftE X.K db) (liftE X.K dc)))) : PDT X (.Compare a [op, op'] [b, c] pos) (dTest (dChain o1 o2 da db dc)) :=
  PT.imp hp fun σ H Q h => lift_chain h1 h2 (lift_test h)
theorem pt_chainP {op op' : CmpOp} {r1 r2 : R2} {o1 o2 : Op2} (h1 : OpD X.K r1 o1) (h2 : OpD X.K r2 o2) (hp : PT X (.Compare a [op, op'] [b, c] pos) (tTest (tChain r1 r2 (liftE X.K (dP f)) (liftE X.K (dP g)) (liftE X.K (dP h))))) : PDT X (.Compare a [op, op'] [b, c] pos) (dTP (pTest (pChain o1 o2 f g h))) :=
  PDT.wk (pt_chainD h1 h2 hp) fun E M Q h => by
    obtain ⟨d, e, q⟩ := dTest_P h
    exact dChain_P ⟨d, e, q⟩
/-- in: a text in a text, else in a list or a tuple -/
def dInA (N : Nat) (neg : Bool) : Op2 := fun M x y => match y with
  | .str _ => dInS neg M x y
  | y => if neg then dNotIn N M x y else dIn N M x y
theorem op_inA {N : Nat} (hu : X.A.units + N + 1 < cLine) : OpR X (compareOp .In) (fun x y H Q => (∃ i j, x = .str i ∧ y = .str j ∧ Q (.bl (!(Builtin.Str.occurrences j i 0 j.length 1).isEmpty)) H) ∨ rInQ X.K N false x y H Q) := op_in_str.or (op_inQ hu)
theorem op_notInA {N : Nat} (hu : X.A.units + N + 1 < cLine) : OpR X (compareOp .NotIn) (fun x y H Q => (∃ i j, x = .str i ∧ y = .str j ∧ Q (.bl (!(!(Builtin.Str.occurrences j i 0 j.length 1).isEmpty))) H) ∨ rInQ X.K N true x y H Q) := L2.op_notIn_str.or (op_notInQ hu)
theorem opd_inA {N : Nat} : OpD K (fun x y H Q => (∃ i j, x = .str i ∧ y = .str j ∧ Q (.bl (!(Builtin.Str.occurrences j i 0 j.length 1).isEmpty)) H) ∨ rInQ K N false x y H Q) (dInA N false) := fun M H x y z v u Q S e i1 i2 k => by
  unfold dInA at e
  split at e
  · exact .inl (opd_inS M H _ _ z v u Q S e i1 i2 k)
  · exact .inr (opd_in M H _ _ z v u Q S e i1 i2 k)
theorem opd_notInA {N : Nat} : OpD K (fun x y H Q => (∃ i j, x = .str i ∧ y = .str j ∧ Q (.bl (!(!(Builtin.Str.occurrences j i 0 j.length 1).isEmpty))) H) ∨ rInQ K N true x y H Q) (dInA N true) := fun M H x y z v u Q S e i1 i2 k => by
  unfold dInA at e
  split at e
  · exact .inl (opd_notInS M H _ _ z v u Q S e i1 i2 k)
  · exact .inr (opd_notIn M H _ _ z v u Q S e i1 i2 k)
/-- is True, is not True .. -/
theorem opd_isB : OpD K (fun x y H Q => ∃ a b, x = .bl a ∧ y = .bl b ∧ Q (.bl (decide (a = b))) H) (dIsB false) := fun M H x y z v u Q S e i1 i2 k => by
  unfold dIsB at e
  split at e
  · cases e; unfold Is at i1 i2; subst i1 i2
    exact ⟨_, _, rfl, rfl, k _ H Go.refl S (by rw [Bool.false_xor]; exact is_bl)⟩
  · cases e
theorem opd_isnotB : OpD K (fun x y H Q => ∃ a b, x = .bl a ∧ y = .bl b ∧ Q (.bl (!decide (a = b))) H) (dIsB true) := fun M H x y z v u Q S e i1 i2 k => by
  unfold dIsB at e
  split at e
  · cases e; unfold Is at i1 i2; subst i1 i2
    exact ⟨_, _, rfl, rfl, k _ H Go.refl S (by rw [Bool.true_xor]; exact is_bl)⟩
  · cases e
/-- enumerate(list) -/
def enumD (k : Nat) : List D → List D
  | [] => []
  | d :: ds => .tup [.int (k : Int), d] :: enumD (k + 1) ds
theorem enumD_get : ∀ {ds : List D} {k i : Nat}, (enumD k ds)[i]? = (ds[i]?).map fun d => D.tup [.int ((k + i : Nat) : Int), d]
  | [], k, i => by simp [enumD]
  | d :: ds, k, 0 => by simp [enumD]
  | d :: ds, k, i + 1 => by
    unfold enumD
    rw [List.getElem?_cons_succ, List.getElem?_cons_succ, enumD_get]
    have e : k + 1 + i = k + (i + 1) := by omega
    rw [e]
theorem enumD_len : ∀ {ds : List D} {k : Nat}, (enumD k ds).length = ds.length
  | [], _ => rfl
  | d :: ds, k => by unfold enumD; rw [List.length_cons, List.length_cons, enumD_len]
def diEnumL (da : DA) : DI := fun E M R => da E M fun xs M1 => ∃ d ds, xs = [d] ∧ lstOf M1 d = some ds ∧ R ⟨enumD 0 ds, fun M' => lstOf M' d = some ds⟩ M1
theorem pair_new {p : Addr} {x y : D} {v w : V} (S : StR K H M) (n : H p = none) (i : Is K H M x v) (j : Is K H M y w) : Is K (upd H p (.tup [v, w])) M (.tup [x, y]) (.ref p) := is_tup_new S n (IsL.cons i (IsL.cons j IsL.nil))
theorem pi_enumL {elts : List Expr} {kk : Nat} {tpos p : Pos} (hp : PI X (.Tuple elts kk tpos) (.Call (.Name "enumerate" p) [e] [] pos) (iEnum X.K (liftA X.K das))) : PDI X (.Tuple elts kk tpos) (.Call (.Name "enumerate" p) [e] [] pos) (diEnumL das) :=
  PI.imp hp fun σ H R ⟨E, M, P, re, s, q, k⟩ => ⟨E, M, _, re, s, q, fun xs M1 vs H1 ⟨d, ds, ex, ed, q1⟩ g1 s1 i1 => by
    subst ex
    obtain ⟨v, rfl, iv⟩ := isl_one i1
    obtain ⟨a, us, rfl, f, l⟩ := lstOf_is s1 ed iv
    refine ⟨a, us, rfl, f, k _ M1 _ H1 q1 g1 s1 fun M2 H2 g2 s2 c2 i => ?_⟩
    obtain ⟨a', us', e', f2, l2⟩ := lstOf_is s2 c2 (Is.mono g2.kp iv)
    cases e'
    refine ⟨fun hl => ⟨us', f2, by rw [← l2.length]; rw [enumD_len] at hl; exact hl⟩, fun y hy => ?_⟩
    have hy' : (enumD 0 ds)[i]? = some y := hy
    rw [enumD_get] at hy'
    cases hd : ds[i]? with
    | none => rw [hd] at hy'; cases hy'
    | some z =>
      rw [hd] at hy'; cases hy'
      obtain ⟨x, hx, ix⟩ := l2.get hd
      refine ⟨⟨us', x, f2, hx⟩, fun w H' ⟨T, x', ew, hn, eh, hx'⟩ => ?_⟩
      subst ew eh
      have e2 := hx' us' f2
      rw [hx] at e2; cases e2
      refine ⟨Go.new s2 hn, s2.new hn, ?_⟩
      have e0 : ((0 + i : Nat) : Int) = (i : Int) := by omega
      rw [e0]
      exact pair_new s2 hn is_int ix⟩
def iEnumP (f : PF) : IF := fun E M => (f E M).bind fun d => (lstOf M d).map (enumD 0)
theorem pi_enumP {tg : Expr} {iter : Expr} (h : PDI X tg iter (diEnumL (dAP (pCons f pNil)))) : PDI X tg iter (diP (iEnumP f)) := h.pure fun E M R ⟨ds, ed, q⟩ => by
  unfold iEnumP at ed
  cases ef : f E M with
  | none => rw [ef] at ed; cases ed
  | some d =>
    rw [ef] at ed
    dsimp only [Option.bind_some] at ed
    cases el : lstOf M d with
    | none => rw [el] at ed; cases ed
    | some ys =>
      rw [el] at ed; cases ed
      refine ⟨[d], by unfold pCons pNil; rw [ef]; rfl, d, ys, rfl, el, rfl, _, rfl, el, q⟩
/-- a module's text, a module's tuple -/
theorem pd_gstr {x z : Str} (h : PE X (.Name x pos) (tC (.str z))) : PDE X (.Name x pos) (dP (pC (.str z))) := pd_const h fun _ _ => is_str
theorem pd_gint {x : Str} {z : Int} (h : PE X (.Name x pos) (tC (.int z))) : PDE X (.Name x pos) (dP (pC (.int z))) := pd_const h fun _ _ => is_int
end
end DL

set_option Elab.async false
set_option linter.all false
set_option maxRecDepth 100000
set_option maxHeartbeats 4000000
/-! DLk: small things for the printed walk. -/
namespace DL
open PySem PySem.Spec PyProof.Rows L2
theorem room_u {A : Around} {k N : Nat} (hr : RoomG k A) (h : N ≤ 198) : A.units + N < cLine := by have := hr.rm.un; omega
theorem room_v {A : Around} {k N : Nat} (hr : RoomG k A) (h : N ≤ 198) : A.units + N + 1 < cLine := by have := hr.rm.un; omega
theorem fn_bot {P : Program} {w : World} {K : PySem.W.Frag} {mg : Str → Option Value} {base : Heap} {CX : CXT} {k : Nat} {f : Addr} {fd : FuncData} {ps : List Str} :
    FnG P w K mg base CX k f fd ps (liftSp K fun _ _ _ => False) :=
  ⟨fun vs H Q E ⟨_, _, _, _, _, h, _⟩ => h.elim, fun A outer s H args us vs Q E hr he hb hv ⟨_, _, _, _, _, h, _⟩ => h.elim⟩
section
variable {X : Cx} {pos : Pos}
theorem lcN_lift {di : IF} {g : GF} {tt : BF} {te : PF} {ws : List Nat} {σ : L2.St} {H : Hp} {Q : VK} (h : liftE X.K (dNew (dNP (nLc di g tt te ws))) σ H Q) : tLc (liftI X.K (diP di)) (liftGw X.K ws (dgP g)) (liftT X.K (dTP tt)) (liftE X.K (dP te)) ws σ H Q := by
  obtain ⟨E, M, P, re, s, q, k⟩ := new_lift h
  exact lift_lc ⟨E, M, P, re, s, dLc_P q, k⟩
theorem pd_gtup {x : Str} {zs : List Str} (h : ∃ a, X.mg x = some (.ref a) ∧ KpT X.K a (zs.map .str)) (hg : Gl X x) (hd : (x == ("__debug__" : Str)) = false := by decide) : PDE X (.Name x pos) (dP (pC (.kt (zs.map .str)))) := by
  obtain ⟨a, hm, hk⟩ := h
  exact pd_const (v := .ref a) (pe_glob hg hm rfl hd) fun H M => by unfold Is; exact ⟨a, _, rfl, hk, isl_strs zs⟩
end
end DL

set_option Elab.async false
set_option linter.all false
set_option maxRecDepth 100000
set_option maxHeartbeats 4000000
/-! DLt: repr of deep values. -/
namespace DL
open PySem PySem.Spec PyProof.Rows L2
def keyP : Key → PyData
  | .inl i => .int i
  | .inr x => .str x
mutual
def toPR : D → Option PyData
  | .non => some .none
  | .bl b => some (.bool b)
  | .int i => some (.int i)
  | .str x => some (.str x)
  | .tup xs => (toPRs xs).map .tuple
  | .kt xs => (toPRs xs).map .tuple
  | .lst xs => (toPRs xs).map .list
  | .dk kvs => (toPRk kvs).map .dict
  | .dt kvs => (toPRt kvs).map .dict
  | .ref _ => none
  | .ty _ => none
  | .rl _ => none
def toPRs : List D → Option (List PyData)
  | [] => some []
  | d :: ds => (toPR d).bind fun p => (toPRs ds).map fun q => p :: q
def toPRk : List (Key × D) → Option (List (PyData × PyData))
  | [] => some []
  | (k, d) :: ds => (toPR d).bind fun p => (toPRk ds).map fun q => (keyP k, p) :: q
def toPRt : List (List Key × D) → Option (List (PyData × PyData))
  | [] => some []
  | (k, d) :: ds => (toPR d).bind fun p => (toPRt ds).map fun q => (.tuple (k.map keyP), p) :: q
end
theorem omap_some {α β : Type} {o : Option α} {f : α → β} {b : β} (h : o.map f = some b) : ∃ a, o = some a ∧ f a = b := by
  cases o with
  | none => cases h
  | some a => exact ⟨a, rfl, Option.some.inj h⟩
theorem obind_some {α β : Type} {o : Option α} {f : α → Option β} {b : β} (h : o.bind f = some b) : ∃ a, o = some a ∧ f a = some b := by
  cases o with
  | none => cases h
  | some a => exact ⟨a, rfl, h⟩
section
variable {X : Cx} {pins : List (Addr × Obj)} {σ : L2.St} {H : Hp} {s : Shared} {M : DM}
theorem key_reads {h : Heap} {k : Key} {u : Value} (e : keyIs k u = true) : Reads h u (keyP k) [] := by
  rcases keyIs_shape e with ⟨i, t, rfl, rfl⟩ | ⟨x, t, rfl, rfl⟩
  · exact Reads.int i t
  · exact Reads.str x t
theorem no_sys (I : Inv X pins σ H s) (hS : ∃ o, X.K.lookup sysModules = some o) : H sysModules = none := by
  obtain ⟨o, e⟩ := hS
  exact (I.bs _ _ (I.ok.mod.kin _ _ e)).2
theorem ne_sys (I : Inv X pins σ H s) (hS : ∃ o, X.K.lookup sysModules = some o) {a : Addr} {o : HO} (e : H a = some o) : sysModules ≠ a := fun z => by
  rw [← z, no_sys I hS] at e; cases e
theorem rd_ex {a : Addr} {u : HO} (r : Rd H a u) : ∃ o, H a = some o := by
  rcases r with r | ⟨o, r⟩ <;> exact ⟨_, r⟩
theorem keys_reads {h : Heap} : ∀ {ks : List Key} {us : List Value}, ItemsAre (mixKind X.prog X.w) ks us → ReadsAll h us (ks.map keyP) []
  | _, _, .nil => ReadsAll.nil
  | _, _, .cons a b => by
    have q := ReadsAll.cons (key_reads (h := h) a) (keys_reads b)
    exact q
mutual
theorem show_of (I : Inv X pins σ H s) (hS : ∃ o, X.K.lookup sysModules = some o) : ∀ {d : D} {p : PyData} {v : V} {u : Value}, toPR d = some p → Is X.K H M d v → RelV v u → ∃ as, Reads s.heap u p as ∧ sysModules ∉ as
  | .non, _, _, _, n, i, r => by unfold toPR at n; cases n; unfold Is at i; subst i; cases r; exact ⟨_, Reads.none, List.not_mem_nil⟩
  | .bl b, _, _, _, n, i, r => by unfold toPR at n; cases n; unfold Is at i; subst i; cases r; exact ⟨_, Reads.bool b, List.not_mem_nil⟩
  | .int z, _, _, _, n, i, r => by unfold toPR at n; cases n; unfold Is at i; subst i; obtain ⟨t, rfl⟩ := r; exact ⟨_, Reads.int z t, List.not_mem_nil⟩
  | .str z, _, _, _, n, i, r => by unfold toPR at n; cases n; unfold Is at i; subst i; obtain ⟨t, rfl⟩ := r; exact ⟨_, Reads.str z t, List.not_mem_nil⟩
  | .ref _, _, _, _, n, _, _ => by unfold toPR at n; cases n
  | .ty _, _, _, _, n, _, _ => by unfold toPR at n; cases n
  | .rl _, _, _, _, n, _, _ => by unfold toPR at n; cases n
  | .tup ds, _, _, _, n, i, r => by
    unfold toPR at n
    obtain ⟨ps, n1, rfl⟩ := omap_some n
    unfold Is at i
    obtain ⟨a, vs, rfl, f, l⟩ := i
    cases r
    obtain ⟨its, rv, ⟨o, e1, e2, m, e3⟩, _⟩ := I.tuple f.sq
    obtain ⟨as, q, ns⟩ := shows_of I hS n1 l rv
    exact ⟨as, Reads.tuple e1 e2 e3 (by simpa using q), ns⟩
  | .kt ds, _, _, _, n, i, r => by
    unfold toPR at n
    obtain ⟨ps, n1, rfl⟩ := omap_some n
    unfold Is at i
    obtain ⟨a, vs, rfl, f, l⟩ := i
    cases r
    obtain ⟨its, rv, ⟨o, e1, e2, m, e3⟩, _⟩ := I.tuple f.sq
    obtain ⟨as, q, ns⟩ := shows_of I hS n1 l rv
    exact ⟨as, Reads.tuple e1 e2 e3 (by simpa using q), ns⟩
  | .lst ds, _, _, _, n, i, r => by
    unfold toPR at n
    obtain ⟨ps, n1, rfl⟩ := omap_some n
    unfold Is at i
    obtain ⟨a, vs, rfl, f, l⟩ := i
    cases r
    obtain ⟨its, rv, ⟨o, m, e1, e2, _, e3⟩, _⟩ := I.list f.sq
    obtain ⟨as, q, ns⟩ := shows_of I hS n1 l rv
    exact ⟨_, Reads.list e1 e2 e3 (by simpa using q), fun z => (List.mem_cons.mp z).elim (ne_sys I hS f.1) ns⟩
  | .dk kvs, _, _, _, n, i, r => by
    unfold toPR at n
    obtain ⟨ps, n1, rfl⟩ := omap_some n
    unfold Is at i
    obtain ⟨a, vs, rfl, f, _, l⟩ := i
    cases r
    obtain ⟨_, _, us, rv, o, es, ep, e1, e2, e3, _, pr, _⟩ := dk_rd I.hok f
    obtain ⟨as, bs, q1, q2, ns1, ns2⟩ := showk_of I hS n1 l rv pr
    obtain ⟨o1, f1⟩ := rd_ex f
    refine ⟨_, Reads.dict e1 e2.1 e3 q1 q2, fun z => ?_⟩
    rw [List.cons_append] at z
    rcases List.mem_cons.mp z with z | z
    · exact ne_sys I hS f1 z
    · exact (List.mem_append.mp z).elim ns1 ns2
  | .dt kvs, _, _, _, n, i, r => by
    unfold toPR at n
    obtain ⟨ps, n1, rfl⟩ := omap_some n
    unfold Is at i
    obtain ⟨a, vs, rfl, f, _, l⟩ := i
    cases r
    obtain ⟨_, _, us, rv, o, es, ep, e1, e2, e3, e4, ks, _⟩ := dt_rd I.hok f
    obtain ⟨as, bs, q1, q2, ns1, ns2⟩ := showt_of I hS n1 l rv ks
    obtain ⟨o1, f1⟩ := rd_ex f
    refine ⟨_, Reads.dict (as := as) (bs := bs) e1 e2.1 e3 (by rw [e4, List.map_map]; exact q1) (by rw [e4, List.map_map]; exact q2), fun z => ?_⟩
    rw [List.cons_append] at z
    rcases List.mem_cons.mp z with z | z
    · exact ne_sys I hS f1 z
    · exact (List.mem_append.mp z).elim ns1 ns2
theorem shows_of (I : Inv X pins σ H s) (hS : ∃ o, X.K.lookup sysModules = some o) : ∀ {ds : List D} {ps : List PyData} {vs : List V} {us : List Value}, toPRs ds = some ps → IsL X.K H M ds vs → Vals vs us → ∃ as, ReadsAll s.heap us ps as ∧ sysModules ∉ as
  | [], _, _, _, n, i, r => by unfold toPRs at n; cases n; unfold IsL at i; subst i; cases r; exact ⟨_, ReadsAll.nil, List.not_mem_nil⟩
  | d :: ds, _, _, _, n, i, r => by
    unfold toPRs at n
    obtain ⟨p, n1, n2⟩ := obind_some n
    obtain ⟨ps, n3, rfl⟩ := omap_some n2
    unfold IsL at i
    obtain ⟨v, w, rfl, i1, i2⟩ := i
    cases r with
    | cons r1 r2 =>
      obtain ⟨a1, q1, m1⟩ := show_of I hS n1 i1 r1
      obtain ⟨a2, q2, m2⟩ := shows_of I hS n3 i2 r2
      exact ⟨_, ReadsAll.cons q1 q2, fun z => (List.mem_append.mp z).elim m1 m2⟩
theorem showk_of (I : Inv X pins σ H s) (hS : ∃ o, X.K.lookup sysModules = some o) : ∀ {ds : List (Key × D)} {ps : List (PyData × PyData)} {vs : List (Key × V)} {us : List (Key × Value)} {es : List DictEntry},
    toPRk ds = some ps → IsK X.K H M ds vs → KV vs us → Pairs (mixKind X.prog X.w) es us → ∃ as bs, ReadsAll s.heap (es.map (·.key)) (ps.map (·.1)) as ∧ ReadsAll s.heap (es.map (·.val)) (ps.map (·.2)) bs ∧ sysModules ∉ as ∧ sysModules ∉ bs
  | [], _, _, _, _, n, i, r, z => by
    unfold toPRk at n; cases n; unfold IsK at i; subst i; cases r; cases z
    exact ⟨_, _, ReadsAll.nil, ReadsAll.nil, List.not_mem_nil, List.not_mem_nil⟩
  | (k, d) :: ds, _, _, _, _, n, i, r, z => by
    unfold toPRk at n
    obtain ⟨p, n1, n2⟩ := obind_some n
    obtain ⟨ps, n3, rfl⟩ := omap_some n2
    unfold IsK at i
    obtain ⟨v, w, rfl, i1, i2⟩ := i
    cases r with
    | cons r1 r2 =>
      cases z with
      | cons z1 z2 z3 =>
        have rr := r1.2
        rw [← z2] at rr
        obtain ⟨a1, q1, m1⟩ := show_of I hS n1 i1 rr
        obtain ⟨a2, b2, q2, q3, m2, m3⟩ := showk_of I hS n3 i2 r2 z3
        have kr := z1
        rw [← r1.1] at kr
        exact ⟨_, _, ReadsAll.cons (key_reads (k := k) kr) q2, ReadsAll.cons q1 q3, m2, fun z => (List.mem_append.mp z).elim m1 m3⟩
theorem showt_of (I : Inv X pins σ H s) (hS : ∃ o, X.K.lookup sysModules = some o) : ∀ {ds : List (List Key × D)} {ps : List (PyData × PyData)} {vs : List (List Key × V)} {us : List (List Key × Addr × Value)},
    toPRt ds = some ps → IsT X.K H M ds vs → KT H vs us → (∀ x ∈ us, (tupleKind (mixKind X.prog X.w)).is s.heap x.1 x.2.1) →
    ∃ as bs, ReadsAll s.heap (us.map ((·.key) ∘ entryOfKey (tupleKind (mixKind X.prog X.w)))) (ps.map (·.1)) as ∧ ReadsAll s.heap (us.map ((·.val) ∘ entryOfKey (tupleKind (mixKind X.prog X.w)))) (ps.map (·.2)) bs ∧ sysModules ∉ as ∧ sysModules ∉ bs
  | [], _, _, _, n, i, r, z => by
    unfold toPRt at n; cases n; unfold IsT at i; subst i; cases r
    exact ⟨_, _, ReadsAll.nil, ReadsAll.nil, List.not_mem_nil, List.not_mem_nil⟩
  | (k, d) :: ds, _, _, _, n, i, r, z => by
    unfold toPRt at n
    obtain ⟨p, n1, n2⟩ := obind_some n
    obtain ⟨ps, n3, rfl⟩ := omap_some n2
    unfold IsT at i
    obtain ⟨v, w, rfl, i1, i2⟩ := i
    cases r with
    | @cons _ y _ ys r1 r2 =>
      obtain ⟨a1, q1, m1⟩ := show_of I hS n1 i1 r1.2.2
      obtain ⟨a2, b2, q2, q3, m2, m3⟩ := showt_of I hS n3 i2 r2 fun x hx => z x (List.mem_cons_of_mem _ hx)
      obtain ⟨o, its, nn, t1, t2, t3, t4⟩ := z y (List.mem_cons_self ..)
      have ek : k = y.1 := r1.1
      have t5 : Reads s.heap (.ref y.2.1) (.tuple (k.map keyP)) [] := Reads.tuple t1 t2 t3 (by rw [ek]; exact keys_reads t4)
      exact ⟨_, _, ReadsAll.cons t5 q2, ReadsAll.cons q1 q3, m2, fun z => (List.mem_append.mp z).elim m1 m3⟩
end
end
/-- what is written in the store at a, as a value -/
def derefA (M : DM) (d : D) : D := match d with
  | .ref a => match M a with | some (.lst ds) => .lst ds | some (.dk ds) => .dk ds | some (.dt ds) => .dt ds | _ => .ref a
  | d => d
section
variable {X : Cx} {pins : List (Addr × Obj)} {σ : L2.St} {H : Hp} {s : Shared} {M : DM}
theorem show_deref (I : Inv X pins σ H s) (S : StR X.K H M) (hS : ∃ o, X.K.lookup sysModules = some o) {d : D} {p : PyData} {v : V} {u : Value} (n : toPR (derefA (vis M) d) = some p) (i : Is X.K H M d v) (r : RelV v u) : ∃ as, Reads s.heap u p as ∧ sysModules ∉ as := by
  cases d with
  | ref a =>
    unfold derefA at n
    dsimp only at n
    unfold Is at i
    subst i
    cases r
    cases e : vis M a with
    | none => rw [e] at n; unfold toPR at n; cases n
    | some m =>
      rw [e] at n
      have z := S a _ (vis_some e).1
      cases m with
      | lst ds =>
        obtain ⟨vs, f, l⟩ := z
        unfold toPR at n
        obtain ⟨ps, n1, rfl⟩ := omap_some n
        obtain ⟨its, rv, ⟨o, m, e1, e2, _, e3⟩, _⟩ := I.list (SqL.of f)
        obtain ⟨as, q, ns⟩ := shows_of I hS n1 l rv
        exact ⟨_, Reads.list e1 e2 e3 (by simpa using q), fun z => (List.mem_cons.mp z).elim (ne_sys I hS f) ns⟩
      | dk ds =>
        obtain ⟨vs, f, l⟩ := z
        unfold toPR at n
        obtain ⟨ps, n1, rfl⟩ := omap_some n
        obtain ⟨_, _, us, rv, o, es, ep, e1, e2, e3, _, pr, _⟩ := dk_of I.hok f
        obtain ⟨as, bs, q1, q2, ns1, ns2⟩ := showk_of I hS n1 l rv pr
        refine ⟨_, Reads.dict e1 e2.1 e3 q1 q2, fun z => ?_⟩
        rw [List.cons_append] at z
        rcases List.mem_cons.mp z with z | z
        · exact ne_sys I hS f z
        · exact (List.mem_append.mp z).elim ns1 ns2
      | dt ds =>
        obtain ⟨vs, f, l⟩ := z
        unfold toPR at n
        obtain ⟨ps, n1, rfl⟩ := omap_some n
        obtain ⟨_, _, us, rv, o, es, ep, e1, e2, e3, e4, ks, _⟩ := dt_of I.hok f
        obtain ⟨as, bs, q1, q2, ns1, ns2⟩ := showt_of I hS n1 l rv ks
        refine ⟨_, Reads.dict (as := as) (bs := bs) e1 e2.1 e3 (by rw [e4, List.map_map]; exact q1) (by rw [e4, List.map_map]; exact q2), fun z => ?_⟩
        rw [List.cons_append] at z
        rcases List.mem_cons.mp z with z | z
        · exact ne_sys I hS f z
        · exact (List.mem_append.mp z).elim ns1 ns2
      | ins _ _ => unfold toPR at n; cases n
      | hid => exact absurd e (by intro z; exact (vis_some z).2 rfl)
  | _ => exact show_of I hS n i r
end
def fRepr (N : Nat) : FD := one1 fun M d => (toPR (derefA M d)).bind fun p => if p.showable = true ∧ p.shown.length ≤ sizeLine ∧ p.depth ≤ N then some (.str p.shown) else none
def rRepr (K : PySem.W.Frag) (N : Nat) : List V → Hp → VK → Prop := fun xs H Q => ∃ M d p v, xs = [v] ∧ StR K H M ∧ Is K H M d v ∧ toPR (derefA (vis M) d) = some p ∧ p.showable = true ∧ p.shown.length ≤ sizeLine ∧ p.depth ≤ N ∧ Q (.str p.shown) H
section
variable {X : Cx} {k N : Nat}
theorem call_repr (hr : RoomG k X.A) (hN : N ≤ 190) (hS : ∃ o, X.K.lookup sysModules = some o) : CallR X (.builtin "repr") (rRepr X.K N) := by
  intro pins s σ H xs us Q I r h
  obtain ⟨M, d, p, v, rfl, S, i, n, sh, sz, dp, q⟩ := h
  cases r with
  | cons r1 r2 =>
    cases r2
    obtain ⟨as, rd, ns⟩ := show_deref I S hS n i r1
    have hu := hr.rm.un
    have fin : ∀ h' t tk, (∀ b o, s.heap.get? b = some o → h'.get? b = some o) → EP X pins σ Q (.str p.shown t) { s with heap := h', toks := tk } := fun h' t tk hk => ⟨.str p.shown, H, I.kept hk, ⟨t, rfl⟩, q⟩
    cases rd with
    | none => exact PySem.P.repr_of_none (by have := fin s.heap s.toks (s.toks + 1) fun _ _ e => e; simpa only [PyData.shown] using this)
    | bool b => exact PySem.P.repr_of_bool (by have := fin s.heap s.toks (s.toks + 1) fun _ _ e => e; simpa only [PyData.shown] using this)
    | int j t => exact PySem.P.repr_of_int (by simpa [PyData.showable] using sh) (by have := fin s.heap s.toks (s.toks + 1) fun _ _ e => e; simpa only [PyData.shown] using this)
    | str x t => exact PySem.P.repr_of_str (by have := fin s.heap s.toks (s.toks + 1) fun _ _ e => e; simpa only [PyData.shown] using this) (by simpa only [PyData.shown] using sz)
    | list h1 h2 h3 h4 => exact repr_of_reads' (.list h1 h2 h3 h4) sh (fun _ => ns) hr.gd (by omega) (fun _ _ e => e) (fun h' t tk hk => fin h' t tk hk) sz
    | tuple h1 h2 h3 h4 => exact repr_of_reads' (.tuple h1 h2 h3 h4) sh (fun _ => ns) hr.gd (by omega) (fun _ _ e => e) (fun h' t tk hk => fin h' t tk hk) sz
    | dict h1 h2 h3 h4 h5 => exact repr_of_reads' (.dict h1 h2 h3 h4 h5) sh (fun _ => ns) hr.gd (by omega) (fun _ _ e => e) (fun h' t tk hk => fin h' t tk hk) sz
theorem cd_repr {K : PySem.W.Frag} : CallD K (rRepr K N) (fRepr N) := fun M H ds z vs Q S e l k => by
  obtain ⟨d, rfl, e2⟩ := one1_some e
  obtain ⟨v, rfl, i⟩ := isl_one l
  obtain ⟨p, n, e3⟩ := obind_some e2
  by_cases c : p.showable = true ∧ p.shown.length ≤ sizeLine ∧ p.depth ≤ N
  · rw [if_pos c] at e3
    cases e3
    exact ⟨M, d, p, v, rfl, S, i, n, c.1, c.2.1, c.2.2, k _ H Go.refl S is_str⟩
  · rw [if_neg c] at e3; cases e3
end
end DL

set_option Elab.async false
set_option linter.all false
set_option maxRecDepth 100000
set_option maxHeartbeats 4000000
/-! DLu: dict displays; list and tuple of a text, of a dict's keys; upper. -/
namespace DL
open PySem PySem.Spec PyProof.Rows L2
def kD : Key → D
  | .inl i => .int i
  | .inr x => .str x
def dKey : D → Option Key
  | .int i => some (.inl i)
  | .str x => some (.inr x)
  | _ => none
theorem dKey_kD {d : D} {k : Key} (h : dKey d = some k) : d = kD k := by
  cases d <;> first | cases h | skip
  · rfl
  · rfl
/-! ### dicts as lists of pairs -/
section
variable {κ α β : Type} [DecidableEq κ]
def gPut (kvs : List (κ × α)) (k : κ) (v : α) : List (κ × α) := if (kvs.any fun kv => decide (kv.1 = k)) = true then kvs.map (fun kv => if kv.1 = k then (kv.1, v) else kv) else kvs ++ [(k, v)]
def gGet (kvs : List (κ × α)) (k : κ) : Option α := (kvs.find? fun kv => decide (kv.1 = k)).map (·.2)
def gDrop (kvs : List (κ × α)) (k : κ) : List (κ × α) := kvs.filter fun kv => decide (kv.1 ≠ k)
def gMerge (kvs more : List (κ × α)) : List (κ × α) := more.foldl (fun acc kv => gPut acc kv.1 kv.2) kvs
end
section
variable {K : PySem.W.Frag} {H : Hp} {M : DM}
theorem isk_any {k : Key} : ∀ {kvs : List (Key × D)} {vs : List (Key × V)}, IsK K H M kvs vs → (kvs.any fun kv => decide (kv.1 = k)) = (vs.any fun kv => decide (kv.1 = k))
  | [], _, h => by unfold IsK at h; subst h; rfl
  | (x, d) :: r, _, h => by
    unfold IsK at h
    obtain ⟨v, w, rfl, _, h2⟩ := h
    rw [List.any_cons, List.any_cons, isk_any h2]
theorem isk_map {k : Key} {d : D} {v : V} (i : Is K H M d v) : ∀ {kvs : List (Key × D)} {vs : List (Key × V)}, IsK K H M kvs vs → IsK K H M (kvs.map fun kv => if kv.1 = k then (kv.1, d) else kv) (vs.map fun kv => if kv.1 = k then (kv.1, v) else kv)
  | [], _, h => by unfold IsK at h; subst h; unfold IsK; rfl
  | (x, e) :: r, _, h => by
    unfold IsK at h
    obtain ⟨u, w, rfl, h1, h2⟩ := h
    rw [List.map_cons, List.map_cons]
    by_cases c : x = k
    · rw [if_pos c, if_pos c]; unfold IsK; exact ⟨v, _, rfl, i, isk_map i h2⟩
    · rw [if_neg c, if_neg c]; unfold IsK; exact ⟨u, _, rfl, h1, isk_map i h2⟩
theorem isk_app : ∀ {a : List (Key × D)} {b : List (Key × D)} {vs ws : List (Key × V)}, IsK K H M a vs → IsK K H M b ws → IsK K H M (a ++ b) (vs ++ ws)
  | [], _, _, _, h, h2 => by unfold IsK at h; subst h; exact h2
  | (x, e) :: r, _, _, _, h, h2 => by
    unfold IsK at h
    obtain ⟨u, w, rfl, h1, h3⟩ := h
    rw [List.cons_append, List.cons_append]
    unfold IsK
    exact ⟨u, _, rfl, h1, isk_app h3 h2⟩
theorem isk_put {k : Key} {d : D} {v : V} {kvs : List (Key × D)} {vs : List (Key × V)} (h : IsK K H M kvs vs) (i : Is K H M d v) : IsK K H M (gPut kvs k d) (putK vs k v) := by
  unfold gPut putK
  rw [isk_any h]
  split
  · exact isk_map i h
  · refine isk_app h ?_
    unfold IsK
    exact ⟨v, [], rfl, i, by unfold IsK; rfl⟩
theorem isk_merge : ∀ {more : List (Key × D)} {ms : List (Key × V)} {kvs : List (Key × D)} {vs : List (Key × V)}, IsK K H M more ms → IsK K H M kvs vs → IsK K H M (gMerge kvs more) (mergeK vs ms)
  | [], _, _, _, h, h2 => by unfold IsK at h; subst h; exact h2
  | (x, e) :: r, _, _, _, h, h2 => by
    unfold IsK at h
    obtain ⟨u, w, rfl, h1, h3⟩ := h
    exact (isk_merge (kvs := gPut _ x e) (vs := putK _ x u) h3 (isk_put h2 h1) : _)
/-! ### displays -/
def dPairs : List (DE × DE) → DEnv → DM → (List (D × D) → DM → Prop) → Prop
  | [], _, M, Q => Q [] M
  | (dk, dv) :: r, E, M, Q => dk E M fun x M1 => dv E M1 fun y M2 => dPairs r E M2 fun ps M3 => Q ((x, y) :: ps) M3
def asPs : List (D × D) → Option (List (Key × D))
  | [] => some []
  | (x, y) :: r => (dKey x).bind fun k => (asPs r).map fun ps => (k, y) :: ps
def dDisp (prs : List (DE × DE)) : DN := fun E M P => dPairs prs E M fun ps M1 => ∃ kvs, asPs ps = some kvs ∧ ps.length ≤ 15 ∧ P (.dk (gMerge [] kvs)) M1
def liftPs (K : PySem.W.Frag) (prs : List (DE × DE)) : List (TE × TE) := prs.map fun p => (liftE K p.1, liftE K p.2)
def IsPs (K : PySem.W.Frag) (H : Hp) (M : DM) : List (D × D) → List (V × V) → Prop
  | [], vs => vs = []
  | (x, y) :: r, vs => ∃ u v w, vs = (u, v) :: w ∧ Is K H M x u ∧ Is K H M y v ∧ IsPs K H M r w
theorem IsPs.mono {M' : DM} {H' : Hp} (k : Kp K M M' H H') : ∀ {a : List (D × D)} {b : List (V × V)}, IsPs K H M a b → IsPs K H' M' a b
  | [], _, h => h
  | (x, y) :: r, _, ⟨u, v, w, e, i1, i2, i3⟩ => ⟨u, v, w, e, Is.mono k i1, Is.mono k i2, IsPs.mono k i3⟩
theorem lift_pairs {E : DEnv} {σ : L2.St} : ∀ {prs : List (DE × DE)} {M : DM} {H : Hp} {Q : List (V × V) → Hp → Prop} {P : List (D × D) → DM → Prop}, EnvR K H M E σ → StR K H M → dPairs prs E (vis M) P →
    (∀ ps M' vs H', P ps (vis M') → Go M M' H H' → StR K H' M' → IsPs K H' M' ps vs → Q vs H') → tPairs (liftPs K prs) σ H Q
  | [], M, H, Q, P, re, s, q, k => k [] M [] H q Go.refl s rfl
  | (dk, dv) :: r, M, H, Q, P, re, s, q, k => ⟨E, M, _, re, s, q, fun x M1 u H1 q1 g1 s1 i1 => ⟨E, M1, _, re.mono g1.kp, s1, q1, fun y M2 v H2 q2 g2 s2 i2 =>
      lift_pairs (re.mono (g1.trans g2).kp) s2 q2 fun ps M3 vs H3 q3 g3 s3 i3 => k ((x, y) :: ps) M3 ((u, v) :: vs) H3 q3 ((g1.trans g2).trans g3) s3 ⟨u, v, vs, rfl, Is.mono (g2.trans g3).kp i1, Is.mono g3.kp i2, i3⟩⟩⟩
theorem asPs_is : ∀ {ps : List (D × D)} {kvs : List (Key × D)} {vs : List (V × V)}, asPs ps = some kvs → IsPs K H M ps vs → ∃ ws, vs = ws.map (fun kv => (kV kv.1, kv.2)) ∧ IsK K H M kvs ws
  | [], _, _, h, i => by cases h; cases i; exact ⟨[], rfl, by unfold IsK; rfl⟩
  | (x, y) :: r, _, _, h, ⟨u, v, w, e, i1, i2, i3⟩ => by
    subst e
    obtain ⟨k, h1, h2⟩ := obind_some (show ((dKey x).bind fun k => (asPs r).map fun ps => (k, y) :: ps) = _ from h)
    obtain ⟨ps, h3, rfl⟩ := omap_some h2
    obtain ⟨ws, rfl, iw⟩ := asPs_is h3 i3
    have ek := dKey_kD h1
    subst ek
    have eu : u = kV k := by
      cases k with
      | inl j => exact (show Is K H M (.int j) u from i1) |> fun z => by unfold Is at z; exact z
      | inr j => exact (show Is K H M (.str j) u from i1) |> fun z => by unfold Is at z; exact z
    subst eu
    exact ⟨(k, v) :: ws, rfl, by unfold IsK; exact ⟨v, ws, rfl, i2, iw⟩⟩
theorem isps_len : ∀ {ps : List (D × D)} {vs : List (V × V)}, IsPs K H M ps vs → ps.length = vs.length
  | [], _, h => by cases h; rfl
  | (x, y) :: r, _, ⟨u, v, w, e, i1, i2, i3⟩ => by subst e; rw [List.length_cons, List.length_cons, isps_len i3]
end
section
variable {X : Cx} {pos : Pos} {keys : List (Option Expr)} {values : List Expr} {prs : List (DE × DE)}
theorem pn_disp (h : PE X (.Dict keys values pos) (tDisp (liftPs X.K prs))) : PDN X (.Dict keys values pos) (dDisp prs) :=
  PE.imp h fun σ H Q ⟨E, M, P, re, s, q, k⟩ => fun p np => by
    have nM : M p = none := s.no np
    have g0 := Go.newS (mo := .hid) (o := .dK []) s np
    have s0 := s.newS (mo := .hid) (o := .dK []) np ⟨_, upd_same⟩
    refine lift_pairs (P := fun ps M1 => ∃ kvs, asPs ps = some kvs ∧ ps.length ≤ 15 ∧ P (.dk (gMerge [] kvs)) M1) (re.mono g0.kp) s0 (by rw [vis_hid nM]; exact q) fun ps M' vs H' ⟨kvs, ek, hl, q1⟩ g1 s1 i1 => ?_
    obtain ⟨x1, x2⟩ := g1.2.1 p up_same
    obtain ⟨ws, rfl, iw⟩ := asPs_is ek i1
    refine ⟨x2.trans upd_same, ws, rfl, by have := isps_len i1; rw [List.length_map] at this; omega, ?_⟩
    refine k (.dk (gMerge [] kvs)) M' p _ q1 (fun z => by cases z) ((g0.trans g1).scratch np nM) (s1.owner x1) np x1 ⟨_, upd_same, ?_⟩
    exact isk_merge (IsK.mono (kp_owner x1) iw) (by unfold IsK; rfl)
def nDkE : NF := fun _ _ => some (.dk [])
def nDtE : NF := fun _ _ => some (.dt [])
theorem pn_dk0 : PDN X (.Dict [] [] pos) (dNP nDkE) := PE.imp pe_dnewK fun σ H Q ⟨E, M, P, re, s, ⟨mo, e, q⟩, k⟩ => fun p np => by
  cases e
  exact k (.dk []) (up M p .hid) p _ (by rw [vis_hid (s.no np)]; exact q) (fun z => by cases z) (Go.newS s np) (s.newS np ⟨_, upd_same⟩) np up_same ⟨[], upd_same, by unfold IsK; rfl⟩
theorem pn_dt0 : PDN X (.Dict [] [] pos) (dNP nDtE) := PE.imp pe_dnewT fun σ H Q ⟨E, M, P, re, s, ⟨mo, e, q⟩, k⟩ => fun p np => by
  cases e
  exact k (.dt []) (up M p .hid) p _ (by rw [vis_hid (s.no np)]; exact q) (fun z => by cases z) (Go.newS s np) (s.newS np ⟨_, upd_same⟩) np up_same ⟨[], upd_same, by unfold IsT; rfl⟩
/-! ### a display in which nothing changes -/
def pPairs : List (PF × PF) → DEnv → DM → Option (List (D × D))
  | [], _, _ => some []
  | (f, g) :: r, E, M => (f E M).bind fun x => (g E M).bind fun y => (pPairs r E M).map fun ps => (x, y) :: ps
def nDisp (prs : List (PF × PF)) : NF := fun E M => (pPairs prs E M).bind fun ps => if ps.length ≤ 15 then (asPs ps).map fun kvs => .dk (gMerge [] kvs) else none
theorem dPairs_P {E : DEnv} {M : DM} {P : List (D × D) → DM → Prop} : ∀ {prs : List (PF × PF)} {ps : List (D × D)} , pPairs prs E M = some ps → P ps M → dPairs (prs.map fun p => (dP p.1, dP p.2)) E M P := by
  intro prs
  induction prs generalizing P with
  | nil => intro ps h q; cases h; exact q
  | cons p r ih =>
    intro ps h q
    obtain ⟨x, e1, h1⟩ := obind_some (show ((p.1 E M).bind fun x => (p.2 E M).bind fun y => (pPairs r E M).map fun ps => (x, y) :: ps) = _ from h)
    obtain ⟨y, e2, h2⟩ := obind_some h1
    obtain ⟨qs, e3, rfl⟩ := omap_some h2
    exact ⟨x, e1, y, e2, ih e3 q⟩
theorem pn_dispP {prs : List (PF × PF)} (h : PE X (.Dict keys values pos) (tDisp (liftPs X.K (prs.map fun p => (dP p.1, dP p.2))))) : PDN X (.Dict keys values pos) (dNP (nDisp prs)) :=
  PDN.wk (pn_disp h) fun E M Q ⟨mo, e, q⟩ => by
    obtain ⟨ps, e1, e2⟩ := obind_some e
    by_cases c : ps.length ≤ 15
    · rw [if_pos c] at e2
      obtain ⟨kvs, e3, rfl⟩ := omap_some e2
      exact dPairs_P e1 ⟨kvs, e3, c, q⟩
    · rw [if_neg c] at e2; cases e2
end
/-! ### list and tuple of a text -/
def chs (z : Str) : List Str := z.cps.toList.map fun c => (⟨#[c]⟩ : Str)
section
variable {X : Cx}
theorem vals_chs {z : Str} {acc : Array Value} (h : ItemsOf (SignAt z) acc z.cps.size) : Vals ((chs z).map V.str) acc.toList := by
  have key : ∀ (l : List Nat) (us : List Value), us.length = l.length → (∀ (j : Nat) v, us[j]? = some v → ∃ c u, l[j]? = some c ∧ v = .str ⟨#[c]⟩ u) → Vals ((l.map fun c => (⟨#[c]⟩ : Str)).map V.str) us := by
    intro l
    induction l with
    | nil => intro us hl _; cases us with
      | nil => exact .nil
      | cons _ _ => cases hl
    | cons c l ih =>
      intro us hl hv
      cases us with
      | nil => cases hl
      | cons u us =>
        obtain ⟨c', t, e1, e2⟩ := hv 0 u rfl
        cases e1
        exact .cons ⟨t, e2⟩ (ih us (by simpa using hl) fun j v e => hv (j + 1) v e)
  refine key z.cps.toList acc.toList (by simp [h.1]) fun j v e => ?_
  obtain ⟨c, u, hc, e2⟩ := h.2 j v (by simpa using e)
  exact ⟨c, u, by simpa using hc, e2⟩
theorem call_list_txt (hcalm : X.calm = true) : CallR X (.type "list") (fun xs H Q => ∃ z, xs = [.str z] ∧ z.length ≤ sizeLine ∧ ∀ p, H p = none → Q (.ref p) (upd H p (.lst ((chs z).map V.str)))) := by
  intro pins s σ H xs us Q I r h
  obtain ⟨z, rfl, hz, q⟩ := h
  obtain ⟨u, rfl, t, rfl⟩ := vals1 r
  refine call_list_str (I.ok.hd hcalm) z t (fun h' tk acc c' hk e hacc => ?_) hz
  have rv := vals_chs hacc
  exact ⟨.ref s.heap.objs.size, _, I.laid (t' := tk) hk (Nat.le_refl _) (show ObjOk X.prog X.w _ _ _ (.lst ((chs z).map V.str)) from ⟨by rw [rv.length]; show acc.toList.length ≤ _; rw [Array.length_toList, hacc.1]; exact hz, acc.toList, c', rv, by simpa using e⟩), rfl, q _ (I.hok.fresh (Nat.le_refl _))⟩
theorem call_tuple_txt (hcalm : X.calm = true) : CallR X (.type "tuple") (fun xs H Q => ∃ z, xs = [.str z] ∧ z.length ≤ sizeLine ∧ ∀ p, H p = none → Q (.ref p) (upd H p (.tup ((chs z).map V.str)))) := by
  intro pins s σ H xs us Q I r h
  obtain ⟨z, rfl, hz, q⟩ := h
  obtain ⟨u, rfl, t, rfl⟩ := vals1 r
  refine call_tuple_str (I.ok.hd hcalm) z t (fun h' tk acc hk hacc => ?_) hz
  have rv := vals_chs hacc
  have J : Inv X pins σ H { s with heap := h', toks := tk } := I.kept (t' := tk) hk
  have ha : acc.toList.toArray = acc := by simp
  have J2 : Inv X pins σ (upd H h'.objs.size (.tup ((chs z).map V.str))) { s with heap := h'.push { cls := .type "tuple", data := .seq acc }, toks := tk } :=
    J.laid (t' := tk) (fun b o e => Heap.get?_push_of_some _ e) (Nat.le_refl _) (show ObjOk X.prog X.w _ _ _ (.tup ((chs z).map V.str)) from
      ⟨by rw [rv.length]; show acc.toList.length ≤ _; rw [Array.length_toList, hacc.1]; exact hz, acc.toList, rv, by rw [ha]; exact IsTup.new _ _⟩)
  exact ⟨.ref h'.objs.size, _, J2, rfl, q _ (J.hok.fresh (Nat.le_refl _))⟩
end
/-! ### list(x), tuple(x) of anything that is gone through -/
section
variable {X : Cx} {K : PySem.W.Frag}
def fListA : FD := one1 fun M d => match d with
  | .str z => if z.length ≤ sizeLine then some (.lst ((chs z).map .str)) else none
  | .dk kvs => some (.lst (kvs.map fun kv => kD kv.1))
  | d => (seqOf M d).map .lst
def rListA (K : PySem.W.Frag) : List V → Hp → VK → Prop := fun xs H Q => (∃ p ys, xs = [.ref p] ∧ (SqL K H p ys ∨ SqT K H p ys) ∧ ∀ l, H l = none → Q (.ref l) (upd H l (.lst ys))) ∨
  ((∃ z, xs = [.str z] ∧ z.length ≤ sizeLine ∧ ∀ p, H p = none → Q (.ref p) (upd H p (.lst ((chs z).map V.str)))) ∨
   (∃ (a : Addr) (kvs : List (Key × V)), xs = [.ref a] ∧ Rd H a (.dK kvs) ∧ ∀ p, H p = none → Q (.ref p) (upd H p (.lst (kvs.map fun kv => kV kv.1)))))
theorem call_listA (hc : X.calm = true) : CallR X (.type "list") (rListA X.K) := call_list_of.or ((call_list_txt hc).or (call_listD hc))
theorem isk_keys {H : Hp} {M : DM} : ∀ {kvs : List (Key × D)} {vs : List (Key × V)}, IsK K H M kvs vs → IsL K H M (kvs.map fun kv => kD kv.1) (vs.map fun kv => kV kv.1)
  | [], _, h => by unfold IsK at h; subst h; unfold IsL; rfl
  | (k, d) :: r, _, h => by
    unfold IsK at h
    obtain ⟨v, w, rfl, _, h2⟩ := h
    rw [List.map_cons, List.map_cons]
    refine IsL.cons ?_ (isk_keys h2)
    cases k with
    | inl i => exact is_int
    | inr x => exact is_str
theorem cd_listA : CallD K (rListA K) fListA := fun M H ds z vs Q S e l k => by
  obtain ⟨d, rfl, e2⟩ := one1_some e
  obtain ⟨v, rfl, i⟩ := isl_one l
  split at e2
  · rename_i t
    by_cases c : t.length ≤ sizeLine
    · rw [if_pos c] at e2; cases e2
      unfold Is at i; subst i
      exact .inr (.inl ⟨t, rfl, c, fun p hp => k _ _ (Go.new S hp) (S.new hp) (is_lst_new S hp (isl_strs _))⟩)
    · rw [if_neg c] at e2; cases e2
  · rename_i kvs
    cases e2
    unfold Is at i
    obtain ⟨a, us, rfl, f, _, l2⟩ := i
    exact .inr (.inr ⟨a, us, rfl, f, fun p hp => k _ _ (Go.new S hp) (S.new hp) (is_lst_new S hp (isk_keys l2))⟩)
  · obtain ⟨ys, e3, rfl⟩ := omap_some e2
    obtain ⟨a, us, rfl, f, l2⟩ := seqOf_is S e3 i
    exact .inl ⟨a, us, rfl, f, fun p hp => k _ _ (Go.new S hp) (S.new hp) (is_lst_new S hp l2)⟩
def fTupleA : FD := one1 fun M d => match d with
  | .str z => if z.length ≤ sizeLine then some (.tup ((chs z).map .str)) else none
  | .tup ds => some (.tup ds)
  | d => (lstOf M d).map .tup
def rTupleA (K : PySem.W.Frag) : List V → Hp → VK → Prop := fun xs H Q => (∃ p ys, xs = [.ref p] ∧ ((SqL K H p ys ∧ ∀ l, H l = none → Q (.ref l) (upd H l (.tup ys))) ∨ (SqT K H p ys ∧ Q (.ref p) H))) ∨
  (∃ z, xs = [.str z] ∧ z.length ≤ sizeLine ∧ ∀ p, H p = none → Q (.ref p) (upd H p (.tup ((chs z).map V.str))))
theorem call_tupleA (hc : X.calm = true) : CallR X (.type "tuple") (rTupleA X.K) := call_tuple_of.or (call_tuple_txt hc)
theorem cd_tupleA : CallD K (rTupleA K) fTupleA := fun M H ds z vs Q S e l k => by
  obtain ⟨d, rfl, e2⟩ := one1_some e
  have key : fTuple (vis M) [d] = some z → rTupleA K vs H Q := fun e9 => .inl (cd_tuple M H [d] z vs Q S e9 l k)
  cases d with
  | str t =>
    obtain ⟨v, rfl, i⟩ := isl_one l
    by_cases c : t.length ≤ sizeLine
    · have e3 := (if_pos c).symm.trans e2
      cases e3
      unfold Is at i; subst i
      exact .inr ⟨t, rfl, c, fun p hp => k _ _ (Go.new S hp) (S.new hp) (is_tup_new S hp (isl_strs _))⟩
    · have e3 := (if_neg c).symm.trans e2
      cases e3
  | _ => exact key e2
/-! ### texts -/
def fUpper : MF := fun M x ds => match x, ds with
  | .str a, [] => if a.length ≤ 5592405 then some (.str (Txt.upper a), M) else none
  | _, _ => none
theorem md_upper : MthD K (fun x xs H Q => ∃ a, x = .str a ∧ xs = [] ∧ a.length ≤ 5592405 ∧ Q (.str (Txt.upper a)) H) fUpper := fun M H x ds z Mv v vs Q S e i1 i2 k => by
  unfold fUpper at e
  split at e
  · rename_i a
    by_cases h : a.length ≤ 5592405
    · rw [if_pos h] at e; cases e
      unfold Is at i1; subst i1
      unfold IsL at i2; subst i2
      exact ⟨a, rfl, rfl, h, k _ M H rfl Go.refl S is_str⟩
    · rw [if_neg h] at e; cases e
  · cases e
def asStrs : List D → Option (List Str)
  | [] => some []
  | .str i :: r => (asStrs r).map (i :: ·)
  | _ => none
theorem asStrs_is {H : Hp} {M : DM} : ∀ {ds : List D} {ns : List Str} {vs : List V}, asStrs ds = some ns → IsL K H M ds vs → vs = ns.map V.str
  | [], ns, vs, h, l => by cases h; unfold IsL at l; subst l; rfl
  | d :: ds, ns, vs, h, l => by
    cases d <;> first | cases h | skip
    rename_i i
    obtain ⟨ms, e1, rfl⟩ := omap_some (show (asStrs ds).map _ = _ from h)
    unfold IsL at l
    obtain ⟨v, w, rfl, i1, i2⟩ := l
    unfold Is at i1; subst i1
    rw [asStrs_is e1 i2]; rfl
def fJoin : MF := fun M x ds => match x, ds with
  | .str a, [d] => (seqOf M d).bind fun ys => (asStrs ys).bind fun zs => if (zs.map (·.length)).sum + zs.length * a.length ≤ 16777216 then some (.str (Txt.join a zs), M) else none
  | _, _ => none
theorem md_join : MthD K (fun x xs H Q => ∃ a p, ∃ ys : List Str, x = .str a ∧ xs = [.ref p] ∧ (SqL K H p (ys.map V.str) ∨ SqT K H p (ys.map V.str)) ∧ (ys.map (·.length)).sum + ys.length * a.length ≤ 16777216 ∧ Q (.str (Txt.join a ys)) H) fJoin := fun M H x ds z Mv v vs Q S e i1 i2 k => by
  unfold fJoin at e
  split at e
  · rename_i a d
    obtain ⟨ys, e1, e2⟩ := obind_some e
    obtain ⟨zs, e3, e4⟩ := obind_some e2
    split at e4
    · rename_i h
      cases e4
      unfold Is at i1; subst i1
      obtain ⟨w, rfl, iw⟩ := isl_one i2
      obtain ⟨p, us, rfl, f, l2⟩ := seqOf_is S e1 iw
      have := asStrs_is e3 l2
      subst this
      exact ⟨a, p, zs, rfl, rfl, f, h, k _ M H rfl Go.refl S is_str⟩
    · cases e4
  · cases e
end
end DL

set_option Elab.async false
set_option linter.all false
set_option maxRecDepth 100000
set_option maxHeartbeats 4000000
/-! DLm: the head's facts, with one more look; the end of a law. -/
namespace DL
open PySem PySem.Spec PyProof.Rows L2
section
variable {K : PySem.W.Frag}
theorem fun_of {x qual : Str} {st : Stmt} {f : Addr} {fd : FuncData} (F : FunD K x qual (defArgs st) (defBody st) (defScope st) [] [] f fd) : Fun K x qual st f fd := by
  obtain ⟨oc, od, dV, kV, doc, pm, an, cdv, ct, osl, e, lk, hcd, hD, _⟩ := F.ex
  rcases hD with ⟨_, rfl⟩ | ⟨z, _⟩
  · exact ⟨⟨oc, od, kV, doc, pm, an, cdv, ct, osl, e, lk, hcd⟩, F.kp⟩
  · exact absurd rfl z
def obsM (ex : PySem.W.Frag → Bool) (fa : List He.Fa) (fn : List He.DefD) (K : PySem.W.Frag) : Bool × Bool × List He.FnW := (ex K, He.obsD fa fn K)
def SaysM (ex : PySem.W.Frag → Bool) (fa : List He.Fa) (fn : List He.DefD) (K : PySem.W.Frag) : Prop := obsM ex fa fn K = (true, He.valD fn)
def obsMG (ex : PySem.W.Frag → Bool) (n : Nat) (fa : List He.Fa) (fn : List He.DefD) (g : Addr → Option Obj) : Bool × Bool × List He.FnW := obsM ex fa fn (He.frG g (sysModules :: He.asD g n))
def hookM (ex : PySem.W.Frag → Bool) (n : Nat) (fa : List He.Fa) (fn : List He.DefD) : PySem.W.Hook where
  α := Bool × Bool × List He.FnW
  obs := fun s => obsMG ex n fa fn s.heap.get?
  val := fun _ => (true, He.valD fn)
  says := fun _ h => ∃ K : PySem.W.Frag, K.In h ∧ SaysM ex fa fn K
  of := fun _ _ e => ⟨_, He.frG_in, e⟩
  keeps := fun _ _ _ ⟨K, hK, c⟩ k => ⟨K, PySem.W.Frag.In.keeps hK k, c⟩
theorem obsMG_eq {ex : PySem.W.Frag → Bool} {n : Nat} {fa : List He.Fa} {fn : List He.DefD} {g : Addr → Option Obj} {s : Shared} (h : ∀ a, g a = s.heap.get? a) : obsMG ex n fa fn g = (hookM ex n fa fn).obs s := by
  have e : g = s.heap.get? := funext h
  rw [e] <;> rfl
theorem SaysM.says {ex : PySem.W.Frag → Bool} {fa : List He.Fa} {fn : List He.DefD} (c : SaysM ex fa fn K) : He.SaysD fa fn K := congrArg (fun z : Bool × Bool × List He.FnW => z.2) c
theorem SaysM.more {ex : PySem.W.Frag → Bool} {fa : List He.Fa} {fn : List He.DefD} (c : SaysM ex fa fn K) : ex K = true := congrArg (fun z : Bool × Bool × List He.FnW => z.1) c
/-- a module's tuple of texts -/
theorem tup_fact {x : Str} {zs : List Str} (h : He.tupB K x (zs.map He.Dv.str) = true) : KpT K (He.ga K x) (zs.map .str) := by
  have e : (zs.map He.Dv.str).map (He.Dv.v K) = zs.map V.str := by rw [List.map_map]; rfl
  have q := He.tupB_ok h (fun _ => none)
  rw [e] at q
  rcases q with (q | ⟨o, q⟩) | q
  · cases q
  · cases q
  · exact q
/-- the law's promise at its script -/
theorem law_sp {sp : DSp} (h : ∀ ns : List Int, ns.length ≤ 63 → sp [.rl (ns.map .int)] (fun _ => none) fun d _ => d = .bl true) (H : Hp) (a : Addr) (ns : List Int) (hl : ns.length ≤ 63) (hS : SqL K H a (ns.map V.int)) :
    liftSp K sp [.ref a] H (fun v _ => v = .bl true) fun _ _ _ => False := by
  have ev : vis (fun _ => none) = fun _ => none := rfl
  have li : ∀ ns : List Int, IsL K H (fun _ => none) (ns.map D.int) (ns.map V.int) := by
    intro ns
    induction ns with
    | nil => exact IsL.nil
    | cons n r ih => exact IsL.cons is_int ih
  refine ⟨[.rl (ns.map .int)], fun _ => none, _, IsL.cons ?_ IsL.nil, fun a o e => (by cases e), by rw [ev]; exact h ns hl, fun d M' v H' e _ _ i => ?_⟩
  · unfold Is
    refine ⟨a, _, rfl, ?_, li ns⟩
    rcases hS with r | q
    · exact .inl ⟨r, rfl⟩
    · exact .inr q
  · subst e
    unfold Is at i
    exact i
end
end DL

set_option Elab.async false
set_option linter.all false
set_option maxRecDepth 100000
set_option maxHeartbeats 4000000
/-! DLs: steps through a reading. -/
namespace DL
open PySem PySem.Spec PyProof.Rows L2
section
variable {D0 : DEnds} {E E' : DEnv} {M M' : DM} {t u : DS} {f g : PF} {de : DE} {d : D} {i : Nat} {bf : BF} {b : Bool} {g0 : DG}
/-! ### statements -/
theorem sSet (h : de E M fun d M1 => t D0 (E.set i (some d)) M1) : dSeq (dSet i de) t D0 E M := h
theorem sSet1 (h : de E M fun d M1 => D0.nx (E.set i (some d)) M1) : dSet i de D0 E M := h
theorem sSetP (e : f E M = some d) (h : t D0 (E.set i (some d)) M) : dSeq (dSet i (dP f)) t D0 E M := ⟨d, e, h⟩
theorem sSetP1 (e : f E M = some d) (h : D0.nx (E.set i (some d)) M) : dSet i (dP f) D0 E M := ⟨d, e, h⟩
theorem sRetP (e : f E M = some d) (h : D0.rt d M) : dRet (dP f) D0 E M := ⟨d, e, h⟩
theorem sRet (h : de E M D0.rt) : dRet de D0 E M := h
theorem sExp (h : de E M fun _ M1 => t D0 E M1) : dSeq (dExp de) t D0 E M := h
theorem sExp1 (h : de E M fun _ M1 => D0.nx E M1) : dExp de D0 E M := h
theorem sAsg (h : de E M fun d M1 => g0 d E M1 fun E2 M2 => t D0 E2 M2) : dSeq (dAsg de g0) t D0 E M := h
theorem sAsg1 (h : de E M fun d M1 => g0 d E M1 D0.nx) : dAsg de g0 D0 E M := h
theorem sSeq (h : t { D0 with nx := u D0 } E M) : dSeq t u D0 E M := h
theorem sIfP (e : bf E M = some b) (h1 : b = true → t D0 E M) (h2 : b = false → u D0 E M) : dIf (dTP bf) t u D0 E M := by
  cases b with
  | true => exact ⟨true, e, iteT (h1 rfl)⟩
  | false => exact ⟨false, e, iteF (h2 rfl)⟩
theorem sIfT (e : bf E M = some true) (h1 : t D0 E M) : dIf (dTP bf) t u D0 E M := ⟨true, e, iteT h1⟩
theorem sIfF (e : bf E M = some false) (h1 : u D0 E M) : dIf (dTP bf) t u D0 E M := ⟨false, e, iteF h1⟩
theorem sNext (h : D0.nx E M) : dNext D0 E M := h
/-! ### expressions -/
theorem ePure {Q : D → DM → Prop} (e : f E M = some d) (h : Q d M) : dP f E M Q := ⟨d, e, h⟩
theorem eCall {Q : D → DM → Prop} {sp : DSp} {fs : LF} {ds : List D} (e : fs E M = some ds) (h : sp ds M Q) : dCall sp (dAP fs) E M Q := ⟨ds, e, h⟩
theorem eCallE {Q : D → DM → Prop} {sp : DSp} {da : DA} (h : da E M fun ds M1 => sp ds M1 Q) : dCall sp da E M Q := h
theorem eBin {Q : D → DM → Prop} {op : Op2} {da db : DE} (h : da E M fun x M1 => db E M1 fun y M2 => ∃ z, op M2 x y = some z ∧ Q z M2) : dBin op da db E M Q := h
theorem eNewP {Q : D → DM → Prop} {nf : NF} {mo : MO} (e : nf E M = some mo) (h : ∀ p, M p = none → Q (.ref p) (up M p mo)) : dNew (dNP nf) E M Q := ⟨mo, e, h⟩
theorem eFzP {Q : D → DM → Prop} {nf : NF} {mo : MO} (e : nf E M = some mo) {d : D} (ed : frzMO mo = some d) (h : Q d M) : dFz (dNP nf) E M Q := ⟨mo, e, d, ed, h⟩
/-! ### loops -/
theorem forI {chk : DM → Prop} {ds : List D} (I : Nat → DEnv → DM → Prop) (h0 : I 0 E M)
    (hs : ∀ i d E M (N : DEnv → DM → Prop), ds[i]? = some d → I i E M → (∀ E' M', I (i + 1) E' M' → N E' M') → chk M ∧ g0 d E M fun E1 M1 => t { D0 with nx := dWeak N, ct := dWeak N, bk := D0.nx } E1 M1)
    (hd : ∀ E M, I ds.length E M → chk M ∧ D0.nx E M) : dForGo chk g0 t ds D0 E M := by
  have key : ∀ (n : Nat) (rest : List D) (k : Nat), rest = ds.drop k → rest.length = n → k + n = ds.length → ∀ E M, I k E M → dForGo chk g0 t rest D0 E M := by
    intro n
    induction n with
    | zero =>
      intro rest k hr hl hk E M h
      cases rest with
      | nil => exact hd E M (by have : k = ds.length := by omega
                                rw [← this]; exact h)
      | cons _ _ => cases hl
    | succ n ih =>
      intro rest k hr hl hk E M h
      cases rest with
      | nil => cases hl
      | cons x xs =>
        have hx : ds[k]? = some x := by
          have : (ds.drop k)[0]? = some x := by rw [← hr]; rfl
          rw [List.getElem?_drop] at this
          simpa using this
        have hxs : xs = ds.drop (k + 1) := by
          rw [← List.drop_drop, ← hr]; rfl
        exact hs k x E M (dForGo chk g0 t xs D0) hx h fun E' M' h' => ih xs (k + 1) hxs (by simpa using hl) (by omega) E' M' h'
  exact key ds.length ds 0 (by simp) rfl (by simp) E M h0
/-! ### slots -/
theorem ELe.nil : ELe [] [] := ELe.refl
theorem ELe.keep {x : Option D} {l l' : DEnv} (h : ELe l l') : ELe (x :: l) (x :: l') := ⟨by simp [h.1], fun i d e => by
  cases i with
  | zero => exact e
  | succ i => exact h.2 i d (by simpa using e)⟩
theorem ELe.drop {x : Option D} {l l' : DEnv} (h : ELe l l') : ELe (none :: l) (x :: l') := ⟨by simp [h.1], fun i d e => by
  cases i with
  | zero => simp at e
  | succ i => exact h.2 i d (by simpa using e)⟩
theorem sub_none : Sub (fun _ => none) M := fun _ _ h => by cases h
end
/-! ### evaluation -/
section
variable {M : DM} {i j : Int} {a : Addr} {ds : List D} {N : Nat} {x y d : D} {s t : Str}
theorem ev_add : dAdd M (.int i) (.int j) = some (.int (i + j)) := rfl
theorem ev_addS (h : s.length + t.length ≤ sizeLine) : dAdd M (.str s) (.str t) = some (.str (s ++ t)) := if_pos h
theorem ev_addT {as bs : List D} (h : as.length + bs.length ≤ sizeLine) : dAdd M (.tup as) (.tup bs) = some (.tup (as ++ bs)) := if_pos h
theorem ev_addL {as bs : List D} (h : as.length + bs.length ≤ sizeLine) : dAdd M (.lst as) (.lst bs) = some (.lst (as ++ bs)) := if_pos h
theorem ev_sub : dSub M (.int i) (.int j) = some (.int (i - j)) := rfl
theorem ev_mul (h : bMul i j = true) : dMul M (.int i) (.int j) = some (.int (i * j)) := if_pos h
theorem ev_mulS (h : s.length ≤ 100 ∧ -1000 ≤ i ∧ i ≤ 1000) : dMul M (.str s) (.int i) = some (.str (Txt.mul s i)) := if_pos h
theorem ev_mod (h : j ≠ 0) : dMod M (.int i) (.int j) = some (.int (i.fmod j)) := if_pos (decide_eq_true h)
theorem ev_fdiv (h : j ≠ 0 ∧ j.natAbs < 1073741824) : dFdiv M (.int i) (.int j) = some (.int (i.fdiv j)) := if_pos (decide_eq_true h)
theorem ev_pow (h : 0 ≤ j ∧ j ≤ 1000000 ∧ i.natAbs < 2 ^ 64) : dPow M (.int i) (.int j) = some (.int (i ^ j.toNat)) := if_pos (decide_eq_true h)
theorem ev_lt : dLt M (.int i) (.int j) = some (.bl (decide (i < j))) := rfl
theorem ev_le : dLe M (.int i) (.int j) = some (.bl (decide (i ≤ j))) := rfl
theorem ev_gt : dGt M (.int i) (.int j) = some (.bl (decide (j < i))) := rfl
theorem ev_ge : dGe M (.int i) (.int j) = some (.bl (decide (j ≤ i))) := rfl
theorem ev_eqI : dEq N M (.int i) (.int j) = some (.bl (decide (i = j))) := by
  have e : dEqB N M (.int i) (.int j) = some (i == j) := rfl
  unfold dEq; rw [e]; rfl
theorem ev_neI : dNe N M (.int i) (.int j) = some (.bl (!decide (i = j))) := by
  have e : dEqB N M (.int i) (.int j) = some (i == j) := rfl
  unfold dNe; rw [e]; rfl
theorem ev_eqS : dEq N M (.str s) (.str t) = some (.bl (s == t)) := by
  have e : dEqB N M (.str s) (.str t) = some (s == t) := rfl
  unfold dEq; rw [e]; rfl
theorem ev_neS : dNe N M (.str s) (.str t) = some (.bl (!(s == t))) := by
  have e : dEqB N M (.str s) (.str t) = some (s == t) := rfl
  unfold dNe; rw [e]; rfl
theorem ev_ixR (h : M a = some (.lst ds)) : dIx M (.ref a) (.int i) = atI ds i := by
  show (lstOf M (.ref a)).bind _ = _
  unfold lstOf; dsimp only; rw [h]; rfl
theorem ev_ixL : dIx M (.lst ds) (.int i) = atI ds i := rfl
theorem ev_ixrl : dIx M (.rl ds) (.int i) = atI ds i := rfl
theorem ev_ixT : dIx M (.tup ds) (.int i) = atI ds i := rfl
theorem ev_ixK : dIx M (.kt ds) (.int i) = atI ds i := rfl
/-- the list that an object of the store is -/
def moL : Option MO → Option (List D)
  | some (.lst ds) => some ds
  | _ => none
theorem ev_mo : moL (some (.lst ds)) = some ds := rfl
theorem ev_lst2 : lstOf M (.ref a) = moL (M a) := by
  show (match M a with | some (.lst ds) => some ds | _ => none) = moL (M a)
  generalize M a = z
  cases z with
  | none => rfl
  | some o => cases o <;> rfl
theorem ev_it2 : itemsOf M (.ref a) = moL (M a) := ev_lst2
theorem ev_ix2 : dIx M (.ref a) (.int i) = (moL (M a)).bind fun ds => atI ds i := by
  rw [← ev_lst2]; rfl
theorem ev_len2 : fLen M [.ref a] = (moL (M a)).map fun ds => .int ds.length := by
  rw [← ev_lst2]; rfl
theorem ev_lstR (h : M a = some (.lst ds)) : lstOf M (.ref a) = some ds := by
  unfold lstOf; dsimp only; rw [h]
theorem ev_itR (h : M a = some (.lst ds)) : itemsOf M (.ref a) = some ds := ev_lstR h
theorem ev_mL (h : M a = some (.lst ds)) : mLst M (.ref a) = some (a, ds) := by
  unfold mLst; dsimp only; rw [h]
theorem ev_lenR (h : M a = some (.lst ds)) : fLen M [.ref a] = some (.int ds.length) := by
  show (lstOf M (.ref a)).map _ = _
  rw [ev_lstR h]; rfl
theorem ev_lenL : fLen M [.lst ds] = some (.int ds.length) := rfl
theorem ev_lenrl : fLen M [.rl ds] = some (.int ds.length) := rfl
theorem ev_lenT : fLen M [.tup ds] = some (.int ds.length) := rfl
theorem ev_max : fMax2 M [.int i, .int j] = some (.int (max i j)) := by
  show some (D.int _) = _
  congr 2
  show (if j > i then j else i) = max i j
  split <;> omega
theorem ev_min : fMin2 M [.int i, .int j] = some (.int (min i j)) := by
  show some (D.int _) = _
  congr 2
  show (if j < i then j else i) = min i j
  split <;> omega
theorem ev_abs : fAbs M [.int i] = some (.int i.natAbs) := by
  show some (D.int _) = _
  congr 2
  show (if i < 0 then -i else i) = _
  split <;> omega
theorem ev_intI : fInt M [.int i] = some (.int i) := rfl
theorem ev_intB {b : Bool} : fInt M [.bl b] = some (.int (if b then 1 else 0)) := rfl
theorem at_nat {α : Type} {xs : List α} {n : Nat} {d : α} (h : xs[n]? = some d) : atI xs (n : Int) = some d := by
  have hl : n < xs.length := by
    by_cases q : n < xs.length
    · exact q
    · rw [List.getElem?_eq_none (by omega)] at h; cases h
  unfold atI ixN
  rw [if_pos (by omega), if_pos (by omega)]
  exact h
theorem at_ok {α : Type} {xs : List α} (h0 : 0 ≤ i) (h1 : i < xs.length) : ∃ d, atI xs i = some d ∧ d ∈ xs ∧ xs[i.toNat]? = some d := by
  have hl : i.toNat < xs.length := by omega
  refine ⟨xs[i.toNat], ?_, List.getElem_mem hl, List.getElem?_eq_getElem hl⟩
  unfold atI ixN
  rw [if_pos h0, if_pos h1]
  exact List.getElem?_eq_getElem hl
theorem at_zero {α : Type} {x : α} {xs : List α} : atI (x :: xs) 0 = some x := by
  obtain ⟨d, e, _, e2⟩ := at_ok (xs := x :: xs) (i := 0) (by omega) (by rw [List.length_cons]; omega)
  rw [e]; exact e2.symm
theorem at_one {α : Type} {x y : α} {xs : List α} : atI (x :: y :: xs) 1 = some y := by
  obtain ⟨d, e, _, e2⟩ := at_ok (xs := x :: y :: xs) (i := 1) (by omega) (by rw [List.length_cons, List.length_cons]; omega)
  rw [e]; exact e2.symm
theorem at_two {α : Type} {x y z : α} {xs : List α} : atI (x :: y :: z :: xs) 2 = some z := by
  obtain ⟨d, e, _, e2⟩ := at_ok (xs := x :: y :: z :: xs) (i := 2) (by omega) (by rw [List.length_cons, List.length_cons, List.length_cons]; omega)
  rw [e]; exact e2.symm
theorem at_l1 {α : Type} {x : α} : atI [x] (-1) = some x := rfl
theorem at_l2 {α : Type} {x y : α} : atI [x, y] (-1) = some y := rfl
theorem at_l3 {α : Type} {x y z : α} : atI [x, y, z] (-1) = some z := rfl
theorem ev_sl2 {x y : D} : dSl M (.tup [x, y]) none (some (-1)) = some (.tup [x]) := rfl
theorem ev_sl3 {x y z : D} : dSl M (.tup [x, y, z]) none (some (-1)) = some (.tup [x, y]) := rfl
theorem ix_ok {n : Nat} (h0 : 0 ≤ i) (h1 : i < n) : ixN n i = some i.toNat := by
  unfold ixN; rw [if_pos h0, if_pos h1]
theorem ev_ixS {z : Str} {c : UInt32} (h : z.length ≤ sizeLine) (h0 : 0 ≤ i) (h1 : i < z.length) : ∃ c, dIx M (.str z) (.int i) = some (.str ⟨#[c]⟩) := by
  have h1' : i < z.cps.toList.length := by
    have : z.length = z.cps.toList.length := rfl
    omega
  obtain ⟨d, e, _⟩ := at_ok h0 h1'
  refine ⟨d, ?_⟩
  show (if z.length ≤ sizeLine then _ else none) = _
  rw [if_pos h, e]; rfl
theorem ap_ok (h : M a = some (.lst ds)) (hl : ds.length < sizeLine) : fAppend M (.ref a) [d] = some (.non, up M a (.lst (ds ++ [d]))) := by
  show (mLst M (.ref a)).bind _ = _
  rw [ev_mL h]
  exact if_pos hl
theorem ok_lst (h : M a = some (.lst ds)) : okLst M (.ref a) = true := by
  unfold okLst; rw [ev_lstR h]; rfl
end
theorem mthI {ok : DM → D → Bool} {F : MF} {da : DE} {das : DA} {E : DEnv} {M : DM} {Q : D → DM → Prop} (h : da E M fun x M1 => ok M1 x = true ∧ das E M1 fun ds M2 => ∃ z M3, F M2 x ds = some (z, M3) ∧ Q z M3) : dMth ok F da das E M Q := h
theorem split_ok {M : DM} {a b : Str} (h : (b.length == 0) = false ∧ a.length + 2 ≤ sizeLine) : fSplit M (.str a) [.str b] = some (.lst ((Txt.split a b).map .str), M) := if_pos h
section
variable {E : DEnv} {M : DM} {Q : D → DM → Prop} {de : DE} {da : DA} {QA : List D → DM → Prop} {P : MO → DM → Prop} {dn : DN} {g : DG} {t : DS} {D0 : DEnds}
theorem aCons (h : de E M fun x M1 => da E M1 fun xs M2 => QA (x :: xs) M2) : dCons de da E M QA := h
theorem aNil (h : QA [] M) : dNil E M QA := h
theorem aPure {fs : LF} {ds : List D} (e : fs E M = some ds) (h : QA ds M) : dAP fs E M QA := ⟨ds, e, h⟩
theorem nLstI (h : da E M fun ds M1 => ds.length ≤ sizeLine ∧ P (.lst ds) M1) : dLst da E M P := h
theorem eFz (h : dn E M fun mo M1 => ∃ d, frzMO mo = some d ∧ Q d M1) : dFz dn E M Q := h
theorem eFun {F : DM → List D → Option D} (h : da E M fun ds M1 => ∃ z, F M1 ds = some z ∧ Q z M1) : dFun F da E M Q := h
theorem forR1 (h : da E M fun ds M1 => ∃ j : Int, ds = [.int j] ∧ (-(2 ^ 62) ≤ j ∧ j < 2 ^ 62) ∧ dForGo (fun _ => True) g t (rngD 0 j.toNat) D0 E M1) : dFor (diRng1 da) g t D0 E M := h
theorem forR2 (h : da E M fun ds M1 => ∃ i j : Int, ds = [.int i, .int j] ∧ (-(2 ^ 62) ≤ i ∧ i < 2 ^ 62 ∧ -(2 ^ 62) ≤ j ∧ j < 2 ^ 62) ∧ dForGo (fun _ => True) g t (rngD i (j - i).toNat) D0 E M1) : dFor (diRng2 da) g t D0 E M := h
theorem forAnyE (h : de E M fun d M1 => ∃ ds, itemsOf M1 d = some ds ∧ dForGo (fun M' => itemsOf M' d = some ds) g t ds D0 E M1) : dFor (diAny de) g t D0 E M := h
theorem sIfE {dt : DT} {u : DS} (h : dt E M fun b M1 => if b = true then t D0 E M1 else u D0 E M1) : dIf dt t u D0 E M := h
theorem tTest {QB : Bool → DM → Prop} (h : de E M fun d M1 => ∃ b, d = .bl b ∧ QB b M1) : dTest de E M QB := h
theorem tNot {QB : Bool → DM → Prop} {dt : DT} (h : dt E M fun c M1 => QB (!c) M1) : dNot dt E M QB := h
theorem tOr {QB : Bool → DM → Prop} {dt du : DT} (h : dt E M fun c M1 => if c = true then QB true M1 else du E M1 QB) : dOr dt du E M QB := h
theorem tAnd {QB : Bool → DM → Prop} {dt du : DT} (h : dt E M fun c M1 => if c = true then du E M1 QB else QB false M1) : dAnd dt du E M QB := h
theorem lcAny {f : PF} {d : D} {ds : List D} {tt : DT} {te : DE} {ws : List Nat} (e : f E M = some d) (e2 : itemsOf M d = some ds) (h : dLcGo (fun M' => itemsOf M' d = some ds) g tt te (wipeD E ws) P ds [] M) : dLc (diAny (dP f)) g tt te ws E M P := ⟨d, e, ds, e2, h⟩
theorem forAny {f : PF} {d : D} {ds : List D} (e : f E M = some d) (e2 : itemsOf M d = some ds) (h : dForGo (fun M' => itemsOf M' d = some ds) g t ds D0 E M) : dFor (diAny (dP f)) g t D0 E M := ⟨d, e, ds, e2, h⟩
end
/-! ### flat data -/
mutual
def dp : Nat → D → Bool
  | _, .non => true
  | _, .bl _ => true
  | _, .int _ => true
  | _, .str _ => true
  | n + 1, .tup ds => dps n ds
  | n + 1, .kt ds => dps n ds
  | n + 1, .lst ds => dps n ds
  | n + 1, .rl ds => dps n ds
  | _, _ => false
def dps : Nat → List D → Bool
  | _, [] => true
  | n, d :: ds => dp n d && dps n ds
end
mutual
theorem dp_ok : ∀ {n : Nat} {d : D}, dp n d = true → ndP (toPD d) = true ∧ (toPD d).depth ≤ n + 1
  | n, .non, _ => ⟨rfl, by show PyData.depth .none ≤ _; simp [PyData.depth]⟩
  | n, .bl _, _ => ⟨rfl, by show PyData.depth (.bool _) ≤ _; simp [PyData.depth]⟩
  | n, .int _, _ => ⟨rfl, by show PyData.depth (.int _) ≤ _; simp [PyData.depth]⟩
  | n, .str _, _ => ⟨rfl, by show PyData.depth (.str _) ≤ _; simp [PyData.depth]⟩
  | n + 1, .tup ds, h => by
    obtain ⟨a, b⟩ := dps_ok (n := n) (ds := ds) h
    exact ⟨a, by show PyData.depth (.tuple (toPDs ds)) ≤ _; simp only [PyData.depth]; omega⟩
  | n + 1, .kt ds, h => by
    obtain ⟨a, b⟩ := dps_ok (n := n) (ds := ds) h
    exact ⟨a, by show PyData.depth (.tuple (toPDs ds)) ≤ _; simp only [PyData.depth]; omega⟩
  | n + 1, .lst ds, h => by
    obtain ⟨a, b⟩ := dps_ok (n := n) (ds := ds) h
    exact ⟨a, by show PyData.depth (.list (toPDs ds)) ≤ _; simp only [PyData.depth]; omega⟩
  | n + 1, .rl ds, h => by
    obtain ⟨a, b⟩ := dps_ok (n := n) (ds := ds) h
    exact ⟨a, by show PyData.depth (.list (toPDs ds)) ≤ _; simp only [PyData.depth]; omega⟩
  | 0, .tup _, h => by cases h
  | 0, .kt _, h => by cases h
  | 0, .lst _, h => by cases h
  | 0, .rl _, h => by cases h
  | 0, .ref _, h => by cases h
  | 0, .ty _, h => by cases h
  | 0, .dk _, h => by cases h
  | 0, .dt _, h => by cases h
  | _ + 1, .ref _, h => by cases h
  | _ + 1, .ty _, h => by cases h
  | _ + 1, .dk _, h => by cases h
  | _ + 1, .dt _, h => by cases h
theorem dps_ok : ∀ {n : Nat} {ds : List D}, dps n ds = true → ndPs (toPDs ds) = true ∧ PyData.depthAll (toPDs ds) ≤ n + 1
  | n, [], _ => ⟨rfl, by show PyData.depthAll [] ≤ _; simp [PyData.depthAll]⟩
  | n, d :: ds, h => by
    unfold dps at h
    rw [Bool.and_eq_true] at h
    obtain ⟨a1, a2⟩ := dp_ok h.1
    obtain ⟨b1, b2⟩ := dps_ok h.2
    exact ⟨by show (_ && _) = true; rw [a1, b1]; rfl, by show PyData.depthAll (toPD d :: toPDs ds) ≤ _; simp only [PyData.depthAll]; omega⟩
end
theorem dps_all {n : Nat} : ∀ {ds : List D}, (∀ d ∈ ds, dp n d = true) → dps n ds = true
  | [], _ => rfl
  | d :: ds, h => by
    unfold dps
    rw [h d (List.mem_cons_self ..), dps_all fun e he => h e (List.mem_cons_of_mem _ he)]; rfl
theorem dps_mem {n : Nat} : ∀ {ds : List D} {d : D}, dps n ds = true → d ∈ ds → dp n d = true
  | e :: ds, d, h, m => by
    unfold dps at h
    rw [Bool.and_eq_true] at h
    cases m with
    | head => exact h.1
    | tail _ m => exact dps_mem h.2 m
theorem eqB_self {N n : Nat} {M : DM} {x y : D} (h : dp n (deref M x) = true) (e : deref M x = deref M y) (hN : n + 1 ≤ N) : dEqB N M x y = some true := by
  obtain ⟨a, b⟩ := dp_ok h
  unfold dEqB
  rw [← e, a, decide_eq_true (by omega)]
  show some _ = _
  rw [eqv_nd _ a]
theorem eqB_of {N n k : Nat} {M : DM} {x y : D} (h : dp n (deref M x) = true) (h2 : dp k (deref M y) = true) (hN : n + 1 ≤ N ∨ k + 1 ≤ N) : dEqB N M x y = some (PyData.eqv (toPD (deref M x)) (toPD (deref M y))) := by
  obtain ⟨a, b⟩ := dp_ok h
  obtain ⟨a2, b2⟩ := dp_ok h2
  unfold dEqB
  rw [a, a2, decide_eq_true (by omega)]
  rfl
theorem deR {M : DM} {a : Addr} {ds : List D} (h : M a = some (.lst ds)) : deref M (.ref a) = .lst ds := by
  unfold deref; dsimp only; rw [h]
theorem fmod_pos {a b : Int} (h : 0 < b) : 0 ≤ a.fmod b ∧ a.fmod b < b := ⟨Int.fmod_nonneg_of_pos a h, Int.fmod_lt_of_pos a h⟩
theorem fdiv_nn {a b : Int} (h : 0 < b) (ha : 0 ≤ a) : 0 ≤ a.fdiv b := by rw [Int.fdiv_eq_ediv_of_nonneg a (Int.le_of_lt h)]; exact Int.ediv_nonneg ha (Int.le_of_lt h)
theorem gN {E : DEnv} {M : DM} {i : Nat} {d : D} {Q : DEnv → DM → Prop} (h : Q (E.set i (some d)) M) : dgName i d E M Q := h
theorem rng_int {lo : Int} {n i : Nat} {d : D} (h : (rngD lo n)[i]? = some d) : ∃ j : Int, d = .int j ∧ lo ≤ j ∧ j < lo + n ∧ j = lo + i := by
  obtain ⟨h1, h2⟩ := rngD_get h
  exact ⟨_, h2, by omega, by omega, rfl⟩
/-! ### comprehensions -/
theorem ev_lc {fi : IF} {g : GF} {tt : BF} {te : PF} {ws : List Nat} {E : DEnv} {M : DM} {ds out : List D} (h1 : fi E M = some ds) (h2 : ds.length ≤ sizeLine) (h3 : pLcGo g tt te (wipeD E ws) M ds = some out) :
    pFz (nLc fi g tt te ws) E M = some (.lst out) := by
  unfold pFz nLc
  rw [h1]
  show ((if ds.length ≤ sizeLine then _ else none : Option MO)).bind _ = _
  rw [if_pos h2, h3]; rfl
theorem ev_rng1 {fs : LF} {E : DEnv} {M : DM} {m : Int} (h1 : fs E M = some [.int m]) (h2 : -(2 ^ 62) ≤ m ∧ m < 2 ^ 62) : iRng1P fs E M = some (rngD 0 m.toNat) := by
  unfold iRng1P
  rw [h1]
  exact if_pos h2
theorem ev_anyL {f : PF} {E : DEnv} {M : DM} {ds : List D} (h : f E M = some (.lst ds)) : iAnyP f E M = some ds := by
  unfold iAnyP
  rw [h]; rfl
theorem ev_enumL {f : PF} {E : DEnv} {M : DM} {ds : List D} (h : f E M = some (.lst ds)) : iEnumP f E M = some (enumD 0 ds) := by
  unfold iEnumP
  rw [h]; rfl
/-- a comprehension without a test -/
theorem lc_map {g : GF} {te : PF} {E : DEnv} {M : DM} {R : D → Prop} : ∀ {ds : List D}, (∀ d ∈ ds, ∃ E1 y, g d E = some E1 ∧ te E1 M = some y ∧ R y) → ∃ out, pLcGo g bYes te E M ds = some out ∧ out.length = ds.length ∧ ∀ y ∈ out, R y
  | [], _ => ⟨[], rfl, rfl, fun y h => by cases h⟩
  | d :: ds, h => by
    obtain ⟨E1, y, e1, e2, r⟩ := h d (List.mem_cons_self ..)
    obtain ⟨out, e3, e4, r2⟩ := lc_map (ds := ds) fun d hd => h d (List.mem_cons_of_mem _ hd)
    refine ⟨y :: out, ?_, by rw [List.length_cons, List.length_cons, e4], fun z hz => ?_⟩
    · unfold pLcGo
      rw [e1]
      dsimp only [Option.bind_some, bYes]
      rw [if_pos rfl, e2]
      dsimp only [Option.bind_some]
      rw [e3]; rfl
    · cases hz with
      | head => exact r
      | tail _ hz => exact r2 z hz
/-- a comprehension with a test: what is kept, in order -/
theorem lc_fil {g : GF} {tt : BF} {te : PF} {E : DEnv} {M : DM} {f : D → Option D} : ∀ {ds : List D}, (∀ d ∈ ds, ∃ E1, g d E = some E1 ∧ match f d with | none => tt E1 M = some false | some y => tt E1 M = some true ∧ te E1 M = some y) → pLcGo g tt te E M ds = some (ds.filterMap f)
  | [], _ => rfl
  | d :: ds, h => by
    obtain ⟨E1, e1, e2⟩ := h d (List.mem_cons_self ..)
    have e3 := lc_fil (ds := ds) fun d hd => h d (List.mem_cons_of_mem _ hd)
    unfold pLcGo
    rw [e1, List.filterMap_cons]
    dsimp only [Option.bind_some]
    cases q : f d with
    | none =>
      rw [q] at e2
      rw [e2]
      dsimp only [Option.bind_some]
      rw [if_neg Bool.false_ne_true, e3]
    | some y =>
      rw [q] at e2
      rw [e2.1]
      dsimp only [Option.bind_some]
      rw [if_pos rfl, e2.2]
      dsimp only [Option.bind_some]
      rw [e3]; rfl
/-- a comprehension without a test: each item's value -/
theorem lc_fn {g : GF} {te : PF} {E : DEnv} {M : DM} {h : D → D} : ∀ {ds : List D}, (∀ d ∈ ds, ∃ E1, g d E = some E1 ∧ te E1 M = some (h d)) → pLcGo g bYes te E M ds = some (ds.map h)
  | [], _ => rfl
  | d :: ds, q => by
    obtain ⟨E1, e1, e2⟩ := q d (List.mem_cons_self ..)
    have e3 := lc_fn (ds := ds) fun d hd => q d (List.mem_cons_of_mem _ hd)
    unfold pLcGo
    rw [e1]
    dsimp only [Option.bind_some, bYes]
    rw [if_pos rfl, e2]
    dsimp only [Option.bind_some]
    rw [e3]; rfl
/-- a comprehension whose item calls: what holds of each -/
theorem lc_each {chk : DM → Prop} {i : Nat} {te : DE} {E : DEnv} {M : DM} {P : MO → DM → Prop} {R : D → Prop} (hc : chk M) : ∀ {ds acc : List D}, acc.length + ds.length ≤ sizeLine →
    (∀ d ∈ ds, ∀ Q : D → DM → Prop, (∀ y, R y → Q y M) → te (E.set i (some d)) M Q) → (∀ out, out.length = ds.length → (∀ y ∈ out, R y) → P (.lst (acc ++ out)) M) → dLcGo chk (dgName i) dYes te E P ds acc M
  | [], acc, _, _, k => ⟨hc, by have := k [] rfl (fun y h => by cases h); rwa [List.append_nil] at this⟩
  | d :: ds, acc, hl, h, k => by
    refine ⟨hc, ?_⟩
    show (if true = true then te (E.set i (some d)) M fun y M3 => acc.length < sizeLine ∧ dLcGo chk (dgName i) dYes te E P ds (acc ++ [y]) M3 else dLcGo chk (dgName i) dYes te E P ds acc M)
    rw [if_pos rfl]
    refine h d (List.mem_cons_self ..) _ fun y ry => ⟨by rw [List.length_cons] at hl; omega, ?_⟩
    refine lc_each hc (by rw [List.length_append, List.length_singleton]; rw [List.length_cons] at hl; omega) (fun d hd => h d (List.mem_cons_of_mem _ hd)) fun out ho hr => ?_
    rw [List.append_assoc]
    exact k (y :: out) (by rw [List.length_cons, List.length_cons, ho]) fun z hz => by
      cases hz with
      | head => exact ry
      | tail _ hz => exact hr z hz
theorem asBls_map {α : Type} (f : α → Bool) : ∀ l : List α, asBls (l.map fun a => D.bl (f a)) = some (l.map f)
  | [] => rfl
  | a :: l => by show (asBls (l.map fun a => D.bl (f a))).map _ = _; rw [asBls_map f l]; rfl
theorem asBls_true : ∀ {l : List D}, (∀ d ∈ l, d = D.bl true) → ∃ bs, asBls l = some bs ∧ bs.all id = true
  | [], _ => ⟨[], rfl, rfl⟩
  | d :: l, h => by
    obtain ⟨bs, e, a⟩ := asBls_true (l := l) fun x hx => h x (List.mem_cons_of_mem _ hx)
    have hd := h d (List.mem_cons_self ..)
    subst hd
    exact ⟨true :: bs, by show (asBls l).map _ = _; rw [e]; rfl, by rw [List.all_cons, a]; rfl⟩
theorem inB_strs {N : Nat} {M : DM} {z : Str} : ∀ l : List Str, dInB N M (.str z) (l.map D.str) = some (l.any (· == z))
  | [] => rfl
  | x :: l => by
    show (dEqB N M (.str x) (.str z)).bind _ = _
    rw [show dEqB N M (.str x) (.str z) = some (x == z) from rfl]
    show (dInB N M (.str z) (l.map D.str)).map _ = _
    rw [inB_strs l]; rfl
theorem rng_mem {m : Nat} {d : D} (h : d ∈ rngD 0 m) : ∃ j : Int, d = .int j ∧ 0 ≤ j ∧ j < m := by
  obtain ⟨i, hi, e⟩ := List.mem_iff_getElem.mp h
  obtain ⟨j, e1, e2, e3, _⟩ := rng_int (List.getElem?_eq_some_iff.mpr ⟨hi, e⟩)
  exact ⟨j, e1, e2, by omega⟩
theorem enum_mem {k : Nat} {ds : List D} {d : D} (h : d ∈ enumD k ds) : ∃ (j : Int) (x : D), d = .tup [.int j, x] ∧ 0 ≤ j ∧ x ∈ ds := by
  obtain ⟨i, hi, e⟩ := List.mem_iff_getElem.mp h
  have e2 := List.getElem?_eq_some_iff.mpr ⟨hi, e⟩
  rw [enumD_get] at e2
  cases q : ds[i]? with
  | none => rw [q] at e2; cases e2
  | some x =>
    rw [q] at e2
    exact ⟨_, x, (Option.some.inj e2).symm, by omega, List.mem_of_getElem? q⟩
theorem enum_len : ∀ {ds : List D} {k : Nat}, (enumD k ds).length = ds.length
  | [], _ => rfl
  | d :: ds, k => by unfold enumD; rw [List.length_cons, List.length_cons, enum_len]
/-! ### a def's own frame -/
theorem spI {n m : Nat} {rd : DS} {ds : List D} {M : DM} {P : D → DM → Prop} (hn : ds.length = n) (E : DEnv) (hE : startD m ds = E)
    (h : rd { nx := fun _ M' => retOf P .non M', rt := retOf P } E M) : closeSp n m rd ds M P := ⟨hn, by rw [hE]; exact h⟩
theorem retI {P : D → DM → Prop} {d : D} {M M' : DM} (hs : Sub M' M) (h : P d M') : retOf P d M := ⟨d, M', hs, .same d, h⟩
end DL

set_option Elab.async false
set_option linter.all false
set_option maxRecDepth 100000
set_option maxHeartbeats 4000000
namespace DL
open PySem PySem.Spec PyProof.Rows L2
def rd_law_cell_at : DS :=
  (dSeq (dIf (dTP (pTest (pBin dLt (pVar 1) (pFun fLen (pCons (pVar 0) pNil))))) (dRet (dP (pBin dIx (pVar 0) (pVar 1)))) dNext)
  (dRet (dP (pC (.int 0)))))
def sp_law_cell_at : DSp := closeSp 2 2 rd_law_cell_at
def rd_law_tape : DS :=
  (dSeq (dSet 2 (dCall sp_law_cell_at (dAP (pCons (pVar 0) (pCons (pVar 1) pNil)))))
  (dSeq (dIf (dTP (pTest (pBin (dEq 150) (pVar 2) (pC (.int 0))))) (dRet (dNew (dNP (nLst (pCons (pC (.int 0)) pNil))))) dNext)
  (dSeq (dIf (dTP (pTest (pBin dGe (pVar 2) (pBin dPow (pC (.int 10)) (pC (.int 18)))))) (dRet (dNew (dNP (nLst (pCons (pBin dSub (pVar 2) (pBin dPow (pC (.int 10)) (pC (.int 18)))) pNil))))) dNext)
  (dSeq (dSet 3 (dP (pBin dIx (pFz (nLst (pCons (pC (.int 2147483647)) (pCons (pC (.int 998244353)) (pCons (pC (.int 1000000007)) (pCons (pC (.int 1000003)) (pCons (pC (.int 10000000019)) (pCons (pC (.int 67280421310721)) (pCons (pC (.int 1000000000039)) pNil))))))))) (pBin dMod (pVar 1) (pC (.int 7))))))
  (dSeq (dSet 4 (dP (pBin dMod (pBin dPow (pBin dMul (pBin dAdd (pBin dMod (pFun fAbs (pCons (pVar 2) pNil)) (pC (.int 1000000009))) (pC (.int 1))) (pBin dAdd (pBin dMul (pC (.int 2)) (pVar 1)) (pC (.int 3)))) (pC (.int 5))) (pVar 3))))
  (dSeq (dSet 5 (dP (pVar 4)))
  (dSeq (dFor (diRng1 (dAP (pCons (pC (.int 24)) pNil))) (dgName 6)
  (dSeq (dSet 4 (dP (pBin dMod (pBin dAdd (pBin dAdd (pBin dMul (pVar 4) (pVar 4)) (pBin dMul (pBin dMul (pC (.int 69621)) (pBin dAdd (pVar 6) (pC (.int 1)))) (pBin dAdd (pVar 1) (pC (.int 1))))) (pVar 2)) (pC (.int 2305843009213693951)))))
  (dSet 5 (dP (pBin dAdd (pBin dMul (pVar 5) (pC (.int 2305843009213693951))) (pVar 4))))))
  (dRet (dNew (dNP (nLst (pCons (pVar 5) pNil))))))))))))
def sp_law_tape : DSp := closeSp 2 7 rd_law_tape
def rd_law_digit : DS :=
  (dSeq (dSet 2 (dP (pBin dMod (pBin dIx (pVar 0) (pC (.int 0))) (pVar 1))))
  (dSeq (dAsg (dP (pBin dFdiv (pBin dIx (pVar 0) (pC (.int 0))) (pVar 1))) (dgSub (dP (pVar 0)) (dP (pC (.int 0)))))
  (dRet (dP (pVar 2)))))
def sp_law_digit : DSp := closeSp 2 3 rd_law_digit
def rd_law_no_texts : DS :=
  (dSeq (dSet 1 (dP (pC (.str "abcdefghijklmnopqrstuvwxyz"))))
  (dSeq (dSet 2 (dBin dMul (dBin dIx (dP (pVar 1)) (dCall sp_law_digit (dAP (pCons (pVar 0) (pCons (pC (.int 26)) pNil))))) (dBin dAdd (dP (pC (.int 1))) (dCall sp_law_digit (dAP (pCons (pVar 0) (pCons (pC (.int 3)) pNil)))))))
  (dSeq (dSet 3 (dP (pFz (nLst (pCons (pC .non) (pCons (pC (.int 7)) (pCons (pC (.int 0)) (pCons (pC (.bl true)) (pCons (pC (.bl false)) (pCons (pUn dNeg (pC (.int 1))) (pCons (pBin dPow (pC (.int 10)) (pC (.int 40))) (pCons (pFun fTup pNil) (pCons (pFz (nLst pNil)) (pCons (pFz (nDkE)) (pCons (pFun fTup (pCons (pVar 2) pNil)) (pCons (pFz (nLst (pCons (pVar 2) pNil))) (pCons (pFun fTup (pCons (pVar 2) (pCons (pVar 2) pNil))) (pCons (pFz (nLst (pCons (pVar 2) (pCons (pVar 2) pNil)))) pNil))))))))))))))))))
  (dSeq (dSet 3 (dP (pBin dAdd (pVar 3) (pFz (nLst (pCons (pFz (nDisp [((pVar 2), (pC (.int 1)))])) (pCons (pFun fTup (pCons (pC (.str "be")) pNil)) (pCons (pBin dMul (pFz (nLst (pCons (pC (.str "x")) pNil))) (pC (.int 9))) (pCons (pFun fTup (pCons (pC (.str "a")) (pCons (pC (.str "B")) pNil))) (pCons (pFz (nLst (pCons (pFz (nLst (pCons (pVar 2) pNil))) pNil))) (pCons (pFun fTup (pCons (pC .non) pNil)) (pCons (pFz (nDisp [((pC (.str "let")), (pC (.str "x")))])) pNil))))))))))))
  (dRet (dP (pBin dAdd (pVar 3) (pFz (nLst (pCons (pFun fTupleA (pCons (pBin dAdd (pVar 2) (pC (.str "abc"))) pNil)) (pCons (pFun fListA (pCons (pBin dAdd (pVar 2) (pC (.str "abc"))) pNil)) pNil)))))))))))
def sp_law_no_texts : DSp := closeSp 1 4 rd_law_no_texts
def rd_is_word : DS :=
  (dSeq (dIf (dTP (bOr (bNot (pTest (pFun fIsi (pCons (pVar 0) (pCons (pC (.ty "str")) pNil))))) (bOr (bNot (pTest (pChain dLe dLe (pC (.int 1)) (pFun fLen (pCons (pVar 0) pNil)) (pC (.int 8))))) (pTest (pBin (dInA 150 false) (pVar 0) (pC (.kt ((["be", "box", "else", "in", "keep", "let", "look", "loose", "open", "zero"] : List Str).map .str)))))))) (dRet (dP (pC (.bl false)))) dNext)
  (dRet (dP (pFun fAll (pCons (pFz (nLc (iAnyP (pVar 0)) (gfName 1) bYes (pBin (dInA 150 false) (pVar 1) (pC (.str "abcdefghijklmnopqrstuvwxyz"))) [1])) pNil)))))
def sp_is_word : DSp := closeSp 1 2 rd_is_word
def rd_law_due : DS :=
  (dSeq (dSet 1 (dP (pFun fTup (pCons (pC (.str "be")) (pCons (pC (.str "box")) (pCons (pC (.str "else")) (pCons (pC (.str "in")) (pCons (pC (.str "keep")) (pCons (pC (.str "let")) (pCons (pC (.str "look")) (pCons (pC (.str "loose")) (pCons (pC (.str "open")) (pCons (pC (.str "zero")) pNil)))))))))))))
  (dSeq (dIf (dTP (bOr (pTest (pBin (dInA 150 false) (pVar 0) (pVar 1))) (bNot (pTest (pChain dLe dLe (pC (.int 1)) (pFun fLen (pCons (pVar 0) pNil)) (pC (.int 8))))))) (dRet (dP (pC (.bl false)))) dNext)
  (dRet (dP (pFun fAll (pCons (pFz (nLc (iAnyP (pVar 0)) (gfName 2) bYes (pBin (dInA 150 false) (pVar 2) (pC (.str "abcdefghijklmnopqrstuvwxyz"))) [2])) pNil))))))
def sp_law_due : DSp := closeSp 1 3 rd_law_due
def rd_law_right : DS :=
  (dSeq (dSet 1 (dCall sp_is_word (dAP (pCons (pVar 0) pNil))))
  (dRet (dAndV (dP (pFun fIsi (pCons (pVar 1) (pCons (pC (.ty "bool")) pNil)))) (dBin (dEq 150) (dP (pVar 1)) (dCall sp_law_due (dAP (pCons (pVar 0) pNil)))))))
def sp_law_right : DSp := closeSp 1 2 rd_law_right
def rd_law : DS :=
  (dSeq (dSet 1 (dP (pFz (nLst (pCons (pC (.str "be")) (pCons (pC (.str "box")) (pCons (pC (.str "else")) (pCons (pC (.str "in")) (pCons (pC (.str "keep")) (pCons (pC (.str "let")) (pCons (pC (.str "look")) (pCons (pC (.str "loose")) (pCons (pC (.str "open")) (pCons (pC (.str "zero")) pNil))))))))))))))
  (dSeq (dSet 2 (dP (pC (.str "abcdefghijklmnopqrstuvwxyz"))))
  (dSeq (dSet 3 (dP (pBin dAdd (pVar 2) (pC (.str " 0123456789\x0a!\"#$&'()*+,-./:;<=>?@ABCDEFGHIJKLMNOPQRSTUVWXYZ[\\]^_`{|}~")))))
  (dSeq (dIf (dNot (dTest (dFun fAll (dCons (dFz (dLc (diAny (dP (pBin dAdd (pVar 1) (pFz (nLst (pCons (pC (.str "")) pNil)))))) (dgName 9) dYes (dCall sp_law_right (dAP (pCons (pVar 9) pNil))) [9])) dNil)))) (dRet (dP (pC (.bl false)))) dNext)
  (dSeq (dFor (diRng2 (dAP (pCons (pC (.int 0)) (pCons (pFun fMax2 (pCons (pC (.int 3)) (pCons (pFun fMin2 (pCons (pC (.int 8)) (pCons (pFun fLen (pCons (pVar 0) pNil)) pNil))) pNil))) pNil)))) (dgName 4)
  (dSeq (dSet 5 (dCall sp_law_tape (dAP (pCons (pVar 0) (pCons (pVar 4) pNil)))))
  (dSeq (dFor (diAny (dCall sp_law_no_texts (dAP (pCons (pVar 5) pNil)))) (dgName 6)
  (dSeq (dSet 8 (dP (pFun (fRepr 60) (pCons (pVar 6) pNil))))
  (dIf (dOr (dTest (dBin (dIsB true) (dCall sp_is_word (dAP (pCons (pVar 6) pNil))) (dP (pC (.bl false))))) (dTP (pTest (pBin (dNe 150) (pFun (fRepr 60) (pCons (pVar 6) pNil)) (pVar 8))))) (dRet (dP (pC (.bl false)))) dNext)))
  (dFor (diRng1 (dAP (pCons (pC (.int 12)) pNil))) (dgName 7)
  (dSeq (dSet 9 (dP (pC (.str ""))))
  (dSeq (dFor (diRng1 (dCons (dCall sp_law_digit (dAP (pCons (pVar 5) (pCons (pC (.int 10)) pNil)))) dNil)) (dgName 10)
  (dSet 9 (dBin dAdd (dP (pVar 9)) (dBin dIx (dP (pVar 2)) (dCall sp_law_digit (dAP (pCons (pVar 5) (pCons (pC (.int 26)) pNil))))))))
  (dSeq (dSet 9 (dBin dIx (dFz (dLst (dCons (dP (pVar 9)) (dCons (dBin dIx (dP (pVar 1)) (dCall sp_law_digit (dAP (pCons (pVar 5) (pCons (pC (.int 10)) pNil))))) dNil)))) (dCall sp_law_digit (dAP (pCons (pVar 5) (pCons (pC (.int 2)) pNil))))))
  (dSeq (dSet 11 (dCall sp_law_digit (dAP (pCons (pVar 5) (pCons (pBin dAdd (pFun fLen (pCons (pVar 9) pNil)) (pC (.int 1))) pNil)))))
  (dSeq (dSet 12 (dBin dIx (dP (pVar 3)) (dCall sp_law_digit (dAP (pCons (pVar 5) (pCons (pFun fLen (pCons (pVar 3) pNil)) pNil))))))
  (dSeq (dSet 13 (dP (pFz (nLst (pCons (pVar 9) (pCons (pBin dAdd (pBin dAdd (pSlice (pVar 9) oNone (oSome (pVar 11))) (pVar 12)) (pSlice (pVar 9) (oSome (pVar 11)) oNone)) (pCons (pBin dAdd (pSlice (pVar 9) oNone (oSome (pVar 11))) (pSlice (pVar 9) (oSome (pBin dAdd (pVar 11) (pC (.int 1)))) oNone)) pNil)))))))
  (dSeq (dSet 13 (dBin dAdd (dP (pVar 13)) (dFz (dLst (dCons (dP (pBin dAdd (pBin dAdd (pSlice (pVar 9) oNone (oSome (pVar 11))) (pVar 12)) (pSlice (pVar 9) (oSome (pBin dAdd (pVar 11) (pC (.int 1)))) oNone))) (dCons (dMth okStr fUpper (dP (pVar 9)) dNil) (dCons (dP (pBin dAdd (pVar 9) (pVar 9))) dNil)))))))
  (dIf (dNot (dTest (dFun fAll (dCons (dFz (dLc (diAny (dP (pVar 13))) (dgName 14) dYes (dCall sp_law_right (dAP (pCons (pVar 14) pNil))) [14])) dNil)))) (dRet (dP (pC (.bl false)))) dNext))))))))))))
  (dRet (dP (pC (.bl true)))))))))
def sp_law : DSp := closeSp 1 15 rd_law
end DL

set_option Elab.async false
set_option linter.all false
set_option maxRecDepth 100000
set_option maxHeartbeats 4000000
namespace DL
open PySem PySem.Spec PyProof.Rows L2
local macro_rules | `(tactic| walk_at "ev") => `(tactic| (simp (decide := true) only [pVar, pC, pBin, pUn, pFun, pCons, pNil, pTest, pIte, pSlice, pFz, nLst, pAndV, pOrV, pNotV, bAnd, bOr, bNot, asB, pChain, oSome, oNone, dNeg, bYes,
  ev_add, ev_addS, ev_addT, ev_addL, ev_sub, ev_mul, ev_mulS, ev_mod, ev_fdiv, ev_pow, ev_lt, ev_le, ev_gt, ev_ge, ev_eqI, ev_neI, ev_eqS, ev_neS, ev_mo, ev_ix2, ev_len2, ev_lst2, ev_it2, ev_ixL, ev_ixrl, ev_ixT, ev_ixK, ev_lenL, ev_lenrl, ev_lenT, ev_max, ev_min, ev_abs, ev_intI, ev_intB, at_zero, at_one, at_two, at_l1, at_l2, at_l3, ev_sl2, ev_sl3, List.cons_append, List.nil_append, Bool.not_true, Bool.not_false, frzMO, fTup, fLst,
  List.getElem?_cons_zero, List.getElem?_cons_succ, List.set_cons_zero, List.set_cons_succ, List.length_cons, List.length_nil, Option.join_some, Option.bind_some, Option.map_some, if_true, if_false, Bool.false_eq_true, ne_eq, not_false_eq_true, and_true, true_and, *]))
theorem digit_spec {M : DM} {a : Addr} {n m : Int} {P : D → DM → Prop} (hM : M a = some (.lst [.int n])) (hn : 0 ≤ n) (hm : 0 < m) (hm2 : m < 1000000000)
    (k : ∀ d n' : Int, 0 ≤ d → d < m → 0 ≤ n' → P (.int d) (up M a (.lst [.int n']))) : sp_law_digit [.ref a, .int m] M P := by
  refine spI rfl [some (.ref a), some (.int m), none] rfl ?_
  have m0 : ¬ m = 0 := by omega
  have m1 : m.natAbs < 1073741824 := by omega
  refine sSetP (d := .int (n.fmod m)) (by walk_at "ev") ?_
  refine sSeq ⟨_, (by walk_at "ev" : _ = some (.int (n.fdiv m))), .ref a, (by walk_at "ev"), .int 0, (by walk_at "ev"), a, _, 0, 0, ev_mL hM, rfl, rfl, ?_⟩
  exact sRetP (d := .int (n.fmod m)) (by walk_at "ev") (.of (k _ _ (fmod_pos hm).1 (fmod_pos hm).2 (fdiv_nn hm hn)))
theorem cell_spec {M : DM} {ns : List Int} {k : Int} {P : D → DM → Prop} (hk : 0 ≤ k) (q : ∀ c, P (.int c) M) : sp_law_cell_at [.rl (ns.map .int), .int k] M P := by
  refine spI rfl [some (.rl (ns.map .int)), some (.int k)] rfl ?_
  refine sSeq (sIfP (b := decide (k < ns.length)) (by walk_at "ev"; rw [List.length_map]) (fun h => ?_) (fun h => ?_))
  · have h := of_decide_eq_true h
    obtain ⟨c, e, _⟩ := at_ok hk h
    have e2 : atI (ns.map D.int) k = some (.int c) := by
      obtain ⟨d, e1, _, g⟩ := at_ok (xs := ns.map D.int) hk (by rw [List.length_map]; exact h)
      rw [e1, ← g, List.getElem?_map]
      obtain ⟨d', e1', _, g'⟩ := at_ok hk h
      rw [g']
      rw [e1'] at e; cases e; rfl
    exact sRetP (d := .int c) (by walk_at "ev") (.of (q c))
  · exact sNext (sRetP (d := .int 0) (by walk_at "ev") (.of (q 0)))
theorem tape_spec {M : DM} {ns : List Int} {k : Int} {P : D → DM → Prop} (hk : 0 ≤ k) (hk2 : k ≤ 1000) (q : ∀ p n, M p = none → 0 ≤ n → P (.ref p) (up M p (.lst [.int n]))) : sp_law_tape [.rl (ns.map .int), .int k] M P := by
  refine spI rfl [some (.rl (ns.map .int)), some (.int k), none, none, none, none, none] rfl ?_
  refine sSet (eCall (ds := [.rl (ns.map .int), .int k]) (by walk_at "ev") (cell_spec hk fun c => ?_))
  refine sSeq (sIfP (b := decide (c = 0)) (by walk_at "ev") (fun h => ?_) (fun h => ?_))
  · exact sRet (eNewP (mo := .lst [.int 0]) (by walk_at "ev") fun p hp => .of (q p 0 hp (by omega)))
  refine sNext (sSeq (sIfP (b := decide (10 ^ 18 ≤ c)) (by walk_at "ev"; rfl) (fun h => ?_) (fun h => ?_)))
  · have h := of_decide_eq_true h
    refine sRet (eNewP (mo := .lst [.int (c - 10 ^ 18)]) (by walk_at "ev"; rfl) fun p hp => .of (q p _ hp (by omega)))
  have km := fmod_pos (a := k) (b := 7) (by omega)
  have hp : ∃ p, atI [D.int 2147483647, .int 998244353, .int 1000000007, .int 1000003, .int 10000000019, .int 67280421310721, .int 1000000000039] (k.fmod 7) = some (.int p) ∧ 0 < p ∧ p < 2305843009213693952 := by
    generalize k.fmod 7 = r at km
    obtain ⟨n, rfl⟩ := Int.eq_ofNat_of_zero_le km.1
    rcases n with _ | _ | _ | _ | _ | _ | _ | n
    · exact ⟨_, rfl, by decide, by decide⟩
    · exact ⟨_, rfl, by decide, by decide⟩
    · exact ⟨_, rfl, by decide, by decide⟩
    · exact ⟨_, rfl, by decide, by decide⟩
    · exact ⟨_, rfl, by decide, by decide⟩
    · exact ⟨_, rfl, by decide, by decide⟩
    · exact ⟨_, rfl, by decide, by decide⟩
    · exfalso; omega
  obtain ⟨p, ep, p0, p1⟩ := hp
  refine sNext (sSetP (d := .int p) (by walk_at "ev") ?_)
  have ca := fmod_pos (a := (c.natAbs : Int)) (b := 1000000009) (by omega)
  have b1 : bMul 2 k = true := decide_eq_true (by omega)
  have b2 : bMul ((c.natAbs : Int).fmod 1000000009 + 1) (2 * k + 3) = true := decide_eq_true (by omega)
  have b3 : (((c.natAbs : Int).fmod 1000000009 + 1) * (2 * k + 3)).natAbs < 18446744073709551616 := by
    have h1 : 0 ≤ ((c.natAbs : Int).fmod 1000000009 + 1) * (2 * k + 3) := Int.mul_nonneg (by omega) (by omega)
    have h2 : ((c.natAbs : Int).fmod 1000000009 + 1) * (2 * k + 3) ≤ 1000000010 * 3000 := Int.mul_le_mul (by omega) (by omega) (by omega) (by omega)
    omega
  have p2 : ¬ p = 0 := by omega
  obtain ⟨o, eo⟩ : ∃ o, (((c.natAbs : Int).fmod 1000000009 + 1) * (2 * k + 3)) ^ (5 : Int).toNat = o := ⟨_, rfl⟩
  refine sSetP (d := .int (o.fmod p)) (by walk_at "ev") ?_
  have om := fmod_pos (a := o) p0
  refine sSetP (d := .int (o.fmod p)) (by walk_at "ev") ?_
  refine sSeq ⟨[.int 24], (by walk_at "ev"), 24, rfl, (by decide), ?_⟩
  refine forI (fun _ E M' => M' = M ∧ ∃ one found x, E = [some (.rl (ns.map .int)), some (.int k), some (.int c), some (.int p), some (.int one), some (.int found), x] ∧ 0 ≤ one ∧ one < 2305843009213693952 ∧ 0 ≤ found)
    ⟨rfl, o.fmod p, o.fmod p, none, rfl, om.1, by omega, om.1⟩ ?_ ?_
  · rintro i d E M' N hd ⟨rfl, one, found, x, rfl, h1, h2, h3⟩ hn
    obtain ⟨j, rfl, j0, j1, j2⟩ := rng_int hd
    clear hd j2
    have j1 : j < 24 := by omega
    refine ⟨trivial, gN ?_⟩
    have q1 : bMul one one = true := decide_eq_true (by omega)
    have q2 : bMul 69621 (j + 1) = true := decide_eq_true (by omega)
    have q3 : bMul (69621 * (j + 1)) (k + 1) = true := decide_eq_true (by omega)
    have q4 : bMul found 2305843009213693951 = true := decide_eq_true (by omega)
    have z := fmod_pos (a := one * one + 69621 * (j + 1) * (k + 1) + c) (b := 2305843009213693951) (by omega)
    refine sSetP (d := .int ((one * one + 69621 * (j + 1) * (k + 1) + c).fmod 2305843009213693951)) (by walk_at "ev") ?_
    refine sSetP1 (D0 := _) (d := .int (found * 2305843009213693951 + (one * one + 69621 * (j + 1) * (k + 1) + c).fmod 2305843009213693951)) (by walk_at "ev") ?_
    exact .of (hn _ _ ⟨rfl, _, _, _, rfl, z.1, by omega, by omega⟩)
  · rintro E M' ⟨rfl, one, found, x, rfl, h1, h2, h3⟩
    exact ⟨trivial, sRet (eNewP (mo := .lst [.int found]) (by walk_at "ev") fun p hp => retOf.of (q p _ hp h3))⟩
end DL

set_option Elab.async false
set_option linter.all false
set_option maxRecDepth 100000
set_option maxHeartbeats 4000000
namespace DL
open PySem PySem.Spec PyProof.Rows L2
local macro_rules | `(tactic| walk_at "ev") => `(tactic| (simp (decide := true) only [pVar, pC, pBin, pUn, pFun, pCons, pNil, pTest, pIte, pSlice, pFz, nLst, pAndV, pOrV, pNotV, bAnd, bOr, bNot, asB, pChain, oSome, oNone, dNeg, bYes,
  ev_add, ev_addS, ev_addT, ev_addL, ev_sub, ev_mul, ev_mulS, ev_mod, ev_fdiv, ev_pow, ev_lt, ev_le, ev_gt, ev_ge, ev_eqI, ev_neI, ev_eqS, ev_neS, ev_mo, ev_ix2, ev_len2, ev_lst2, ev_it2, ev_ixL, ev_ixrl, ev_ixT, ev_ixK, ev_lenL, ev_lenrl, ev_lenT, ev_max, ev_min, ev_abs, ev_intI, ev_intB, at_zero, at_one, at_two, at_l1, at_l2, at_l3, ev_sl2, ev_sl3, List.cons_append, List.nil_append, Bool.not_true, Bool.not_false, frzMO, fTup, fLst,
  List.getElem?_cons_zero, List.getElem?_cons_succ, List.set_cons_zero, List.set_cons_succ, List.length_cons, List.length_nil, Option.join_some, Option.bind_some, Option.map_some, if_true, if_false, Bool.false_eq_true, ne_eq, not_false_eq_true, and_true, true_and, *]))
/-! k09: the law over deep values -/
theorem digit2 {M : DM} {a : Addr} {n m : Int} {P : D → DM → Prop} (hM : M a = some (.lst [.int n])) (hn : 0 ≤ n) (hm : 0 < m) (hm2 : m < 1000000000)
    (k : ∀ (d n' : Int) (M' : DM), 0 ≤ d → d < m → 0 ≤ n' → M' a = some (.lst [.int n']) → P (.int d) M') : sp_law_digit [.ref a, .int m] M P :=
  digit_spec hM hn hm hm2 fun d n' h1 h2 h3 => k d n' _ h1 h2 h3 up_same
def low (c : Nat) : Bool := decide (97 ≤ c) && decide (c ≤ 122)
def az : Str := "abcdefghijklmnopqrstuvwxyz"
def keptW : List Str := ["be", "box", "else", "in", "keep", "let", "look", "loose", "open", "zero"]
theorem az_low : ∀ c ∈ az.cps.toList, low c = true := by decide +kernel
theorem az_ix {M : DM} {i : Int} (h0 : 0 ≤ i) (h1 : i < 26) : ∃ c, dIx M (.str az) (.int i) = some (.str ⟨#[c]⟩) ∧ low c = true := by
  have hl : az.cps.toList.length = 26 := by decide +kernel
  obtain ⟨d, e, hm, _⟩ := at_ok (xs := az.cps.toList) h0 (by rw [hl]; omega)
  refine ⟨d, ?_, az_low d hm⟩
  show (if az.length ≤ sizeLine then _ else none) = _
  rw [if_pos (by decide +kernel), e]; rfl
/-! what is no text -/
def NT (d : D) : Prop := (∃ t, (∀ M, tyName M d = some t) ∧ kitB t "str" = some false) ∧ (∀ M, derefA M d = d) ∧
  ∃ q, toPR d = some q ∧ q.showable = true ∧ q.leavesShort 50 = true ∧ q.weight ≤ 1000 ∧ q.depth ≤ 60
theorem NT.repr {d : D} (h : NT d) : ∃ s, ∀ M, fRepr 60 M [d] = some (.str s) := by
  obtain ⟨_, h2, q, e1, e2, e3, e4, e5⟩ := h
  have hl := PyData.shown_le 50 (by omega) q e3
  have h52 : (50 + 2) * q.weight ≤ 52 * 1000 := Nat.mul_le_mul (by omega) e4
  have hs : 100000 ≤ sizeLine := by decide
  refine ⟨q.shown, fun M => ?_⟩
  show (toPR (derefA M d)).bind _ = _
  rw [h2, e1]
  exact if_pos ⟨e2, by omega, e5⟩
theorem nt_word {M : DM} {d : D} {P : D → DM → Prop} (h : NT d) (q : P (.bl false) M) : sp_is_word [d] M P := by
  refine spI rfl [some d, none] rfl ?_
  obtain ⟨⟨t, h1, h2⟩, _⟩ := h
  have e : fIsi M [d, .ty "str"] = some (.bl false) := by
    show (tyName M d).bind _ = _
    rw [h1 M]
    show (kitB t "str").map _ = _
    rw [h2]; rfl
  exact sSeq (sIfT (by walk_at "ev") (sRetP (d := .bl false) rfl (.of q)))
theorem strs_PR : ∀ l : List Str, toPRs (l.map D.str) = some (l.map PyData.str)
  | [] => rfl
  | x :: l => by
    show (toPR (.str x)).bind _ = _
    show ((toPRs (l.map D.str)).map _) = _
    rw [strs_PR l]; rfl
theorem strs_show : ∀ l : List Str, PyData.showableAll (l.map PyData.str) = true
  | [] => by simp only [List.map_nil, PyData.showableAll]
  | x :: l => by simp only [List.map_cons, PyData.showableAll, PyData.showable, strs_show l, Bool.true_and]
theorem strs_short : ∀ l : List Str, (∀ x ∈ l, ∀ c ∈ x.cps.toList, c < 16 ^ 8) → PyData.leavesShortAll 50 (l.map PyData.str) = true
  | [], _ => by simp only [List.map_nil, PyData.leavesShortAll]
  | x :: l, h => by
    have h1 : (x.cps.toList.all fun c => decide (c < 16 ^ 8)) = true := List.all_eq_true.mpr fun c hc => decide_eq_true (h x (List.mem_cons_self ..) c hc)
    simp only [List.map_cons, PyData.leavesShortAll, PyData.leavesShort, h1, strs_short l fun y hy => h y (List.mem_cons_of_mem _ hy), Bool.true_and]
theorem strs_weight : ∀ l : List Str, (∀ x ∈ l, x.cps.size ≤ 1) → PyData.weightAll (l.map PyData.str) ≤ 2 * l.length
  | [], _ => by simp only [List.map_nil, PyData.weightAll]; omega
  | x :: l, h => by
    have h1 := h x (List.mem_cons_self ..)
    have h2 := strs_weight l fun y hy => h y (List.mem_cons_of_mem _ hy)
    simp only [List.map_cons, PyData.weightAll, PyData.weight, List.length_cons]
    omega
theorem strs_depth : ∀ l : List Str, PyData.depthAll (l.map PyData.str) = 0
  | [] => by simp only [List.map_nil, PyData.depthAll]
  | x :: l => by simp only [List.map_cons, PyData.depthAll, PyData.depth, strs_depth l]; rfl
theorem all_nt {w : Str} (hw : w.length ≤ 3) (hl : ∀ c ∈ w.cps.toList, low c = true) : ∀ d ∈ [D.non, .int 7, .int 0, .bl true, .bl false, .int (-1), .int (10 ^ 40), .tup [], .lst [], .dk [], .tup [.str w], .lst [.str w], .tup [.str w, .str w], .lst [.str w, .str w],
    .dk [(.inr w, .int 1)], .tup [.str "be"], .lst (List.replicate 9 (.str "x")), .tup [.str "a", .str "B"], .lst [.lst [.str w]], .tup [.non], .dk [(.inr "let", .str "x")],
    .tup ((chs (w ++ "abc")).map .str), .lst ((chs (w ++ "abc")).map .str)], NT d := by
  have h16 : (w.cps.toList.all fun c => decide (c < 16 ^ 8)) = true := List.all_eq_true.mpr fun c hc => by
    have := hl c hc
    unfold low at this
    rw [Bool.and_eq_true] at this
    have h2 := of_decide_eq_true this.2
    exact decide_eq_true (by omega)
  have hz : w.cps.size ≤ 3 := hw
  have i1 : (if ((1 : Int) == 0) = true then 0 else (Int.natAbs 1).log2 + 1) = 1 := by decide +kernel
  have e3 : (w ++ "abc" : Str).cps.toList = w.cps.toList ++ [97, 98, 99] := by
    show (w.cps ++ (Str.ofString "abc").cps).toList = _
    rw [Array.toList_append]
    rw [show (Str.ofString "abc").cps.toList = [97, 98, 99] by decide +kernel]
  have hch : ∀ x ∈ chs (w ++ "abc"), ∀ c ∈ x.cps.toList, c < 16 ^ 8 := fun x hx c hc => by
    obtain ⟨d, hd, rfl⟩ := List.mem_map.mp hx
    rw [e3, List.mem_append] at hd
    have hcd : c = d := by simpa using hc
    subst hcd
    rcases hd with hd | hd
    · have := List.all_eq_true.mp h16 c hd
      exact of_decide_eq_true this
    · simp only [List.mem_cons, List.not_mem_nil, or_false] at hd
      omega
  have hc1 : ∀ x ∈ chs (w ++ "abc"), x.cps.size ≤ 1 := fun x hx => by
    obtain ⟨d, hd, rfl⟩ := List.mem_map.mp hx
    exact Nat.le_refl 1
  have hcl : (chs (w ++ "abc")).length ≤ 6 := by
    show ((w ++ "abc" : Str).cps.toList.map _).length ≤ 6
    rw [List.length_map, e3, List.length_append, Array.length_toList]
    show _ + 3 ≤ 6
    omega
  intro d hd
  simp only [List.mem_cons, List.not_mem_nil, or_false] at hd
  rcases hd with rfl | rfl | rfl | rfl | rfl | rfl | rfl | rfl | rfl | rfl | rfl | rfl | rfl | rfl | rfl | rfl | rfl | rfl | rfl | rfl | rfl | rfl | rfl
  · exact ⟨⟨"NoneType", fun _ => rfl, by decide +kernel⟩, fun _ => rfl, _, rfl, by decide +kernel, by decide +kernel, by decide +kernel, by decide +kernel⟩
  · exact ⟨⟨"int", fun _ => rfl, by decide +kernel⟩, fun _ => rfl, _, rfl, by decide +kernel, by decide +kernel, by decide +kernel, by decide +kernel⟩
  · exact ⟨⟨"int", fun _ => rfl, by decide +kernel⟩, fun _ => rfl, _, rfl, by decide +kernel, by decide +kernel, by decide +kernel, by decide +kernel⟩
  · exact ⟨⟨"bool", fun _ => rfl, by decide +kernel⟩, fun _ => rfl, _, rfl, by decide +kernel, by decide +kernel, by decide +kernel, by decide +kernel⟩
  · exact ⟨⟨"bool", fun _ => rfl, by decide +kernel⟩, fun _ => rfl, _, rfl, by decide +kernel, by decide +kernel, by decide +kernel, by decide +kernel⟩
  · exact ⟨⟨"int", fun _ => rfl, by decide +kernel⟩, fun _ => rfl, _, rfl, by decide +kernel, by decide +kernel, by decide +kernel, by decide +kernel⟩
  · exact ⟨⟨"int", fun _ => rfl, by decide +kernel⟩, fun _ => rfl, _, rfl, by decide +kernel, by decide +kernel, by decide +kernel, by decide +kernel⟩
  · exact ⟨⟨"tuple", fun _ => rfl, by decide +kernel⟩, fun _ => rfl, _, rfl, by decide +kernel, by decide +kernel, by decide +kernel, by decide +kernel⟩
  · exact ⟨⟨"list", fun _ => rfl, by decide +kernel⟩, fun _ => rfl, _, rfl, by decide +kernel, by decide +kernel, by decide +kernel, by decide +kernel⟩
  · exact ⟨⟨"dict", fun _ => rfl, by decide +kernel⟩, fun _ => rfl, _, rfl, by decide +kernel, by decide +kernel, by decide +kernel, by decide +kernel⟩
  · exact ⟨⟨"tuple", fun _ => rfl, by decide +kernel⟩, fun _ => rfl, _, rfl, by simp only [PyData.showable, PyData.showableAll, PyData.showableKv, keyP, Bool.and_true, Bool.true_and]; try decide +kernel, by simp only [PyData.leavesShort, PyData.leavesShortAll, PyData.leavesShortKv, keyP, h16, Bool.and_true, Bool.true_and]; try decide +kernel,
      by simp only [PyData.weight, PyData.weightAll, PyData.weightKv, keyP]; omega, by simp only [PyData.depth, PyData.depthAll, PyData.depthKv, keyP]; omega⟩
  · exact ⟨⟨"list", fun _ => rfl, by decide +kernel⟩, fun _ => rfl, _, rfl, by simp only [PyData.showable, PyData.showableAll, PyData.showableKv, keyP, Bool.and_true, Bool.true_and]; try decide +kernel, by simp only [PyData.leavesShort, PyData.leavesShortAll, PyData.leavesShortKv, keyP, h16, Bool.and_true, Bool.true_and]; try decide +kernel,
      by simp only [PyData.weight, PyData.weightAll, PyData.weightKv, keyP]; omega, by simp only [PyData.depth, PyData.depthAll, PyData.depthKv, keyP]; omega⟩
  · exact ⟨⟨"tuple", fun _ => rfl, by decide +kernel⟩, fun _ => rfl, _, rfl, by simp only [PyData.showable, PyData.showableAll, PyData.showableKv, keyP, Bool.and_true, Bool.true_and]; try decide +kernel, by simp only [PyData.leavesShort, PyData.leavesShortAll, PyData.leavesShortKv, keyP, h16, Bool.and_true, Bool.true_and]; try decide +kernel,
      by simp only [PyData.weight, PyData.weightAll, PyData.weightKv, keyP]; omega, by simp only [PyData.depth, PyData.depthAll, PyData.depthKv, keyP]; omega⟩
  · exact ⟨⟨"list", fun _ => rfl, by decide +kernel⟩, fun _ => rfl, _, rfl, by simp only [PyData.showable, PyData.showableAll, PyData.showableKv, keyP, Bool.and_true, Bool.true_and]; try decide +kernel, by simp only [PyData.leavesShort, PyData.leavesShortAll, PyData.leavesShortKv, keyP, h16, Bool.and_true, Bool.true_and]; try decide +kernel,
      by simp only [PyData.weight, PyData.weightAll, PyData.weightKv, keyP]; omega, by simp only [PyData.depth, PyData.depthAll, PyData.depthKv, keyP]; omega⟩
  · exact ⟨⟨"dict", fun _ => rfl, by decide +kernel⟩, fun _ => rfl, _, rfl, by simp only [PyData.showable, PyData.showableAll, PyData.showableKv, keyP, Bool.and_true, Bool.true_and]; try decide +kernel, by simp only [PyData.leavesShort, PyData.leavesShortAll, PyData.leavesShortKv, keyP, h16, Bool.and_true, Bool.true_and]; try decide +kernel,
      by simp only [PyData.weight, PyData.weightAll, PyData.weightKv, keyP]; omega, by simp only [PyData.depth, PyData.depthAll, PyData.depthKv, keyP]; omega⟩
  · exact ⟨⟨"tuple", fun _ => rfl, by decide +kernel⟩, fun _ => rfl, _, rfl, by decide +kernel, by decide +kernel, by decide +kernel, by decide +kernel⟩
  · exact ⟨⟨"list", fun _ => rfl, by decide +kernel⟩, fun _ => rfl, _, rfl, by decide +kernel, by decide +kernel, by decide +kernel, by decide +kernel⟩
  · exact ⟨⟨"tuple", fun _ => rfl, by decide +kernel⟩, fun _ => rfl, _, rfl, by decide +kernel, by decide +kernel, by decide +kernel, by decide +kernel⟩
  · exact ⟨⟨"list", fun _ => rfl, by decide +kernel⟩, fun _ => rfl, _, rfl, by simp only [PyData.showable, PyData.showableAll, PyData.showableKv, keyP, Bool.and_true, Bool.true_and]; try decide +kernel, by simp only [PyData.leavesShort, PyData.leavesShortAll, PyData.leavesShortKv, keyP, h16, Bool.and_true, Bool.true_and]; try decide +kernel,
      by simp only [PyData.weight, PyData.weightAll, PyData.weightKv, keyP]; omega, by simp only [PyData.depth, PyData.depthAll, PyData.depthKv, keyP]; omega⟩
  · exact ⟨⟨"tuple", fun _ => rfl, by decide +kernel⟩, fun _ => rfl, _, rfl, by decide +kernel, by decide +kernel, by decide +kernel, by decide +kernel⟩
  · exact ⟨⟨"dict", fun _ => rfl, by decide +kernel⟩, fun _ => rfl, _, rfl, by decide +kernel, by decide +kernel, by decide +kernel, by decide +kernel⟩
  · refine ⟨⟨"tuple", fun _ => rfl, by decide +kernel⟩, fun _ => rfl, .tuple ((chs (w ++ "abc")).map .str), ?_, ?_, ?_, ?_, ?_⟩
    · show (toPRs ((chs (w ++ "abc")).map D.str)).map _ = _
      rw [strs_PR]; rfl
    · simp only [PyData.showable]; exact strs_show _
    · simp only [PyData.leavesShort]; exact strs_short _ hch
    · simp only [PyData.weight]; have := strs_weight _ hc1; omega
    · simp only [PyData.depth, strs_depth]; omega
  · refine ⟨⟨"list", fun _ => rfl, by decide +kernel⟩, fun _ => rfl, .list ((chs (w ++ "abc")).map .str), ?_, ?_, ?_, ?_, ?_⟩
    · show (toPRs ((chs (w ++ "abc")).map D.str)).map _ = _
      rw [strs_PR]; rfl
    · simp only [PyData.showable]; exact strs_show _
    · simp only [PyData.leavesShort]; exact strs_short _ hch
    · simp only [PyData.weight]; have := strs_weight _ hc1; omega
    · simp only [PyData.depth, strs_depth]; omega
/-- _law_no_texts: some twenty things that are no texts -/
theorem no_texts_spec {M : DM} {a : Addr} {n : Int} {P : D → DM → Prop} (hM : M a = some (.lst [.int n])) (hn : 0 ≤ n)
    (q : ∀ L n' M', (∀ d ∈ L, NT d) → 0 ≤ n' → M' a = some (.lst [.int n']) → P (.lst L) M') : sp_law_no_texts [.ref a] M P := by
  refine spI rfl [some (.ref a), none, none, none] rfl ?_
  refine sSetP (d := .str az) rfl ?_
  refine sSet (eBin (eBin (ePure (d := .str az) rfl (eCall (ds := [.ref a, .int 26]) rfl (digit2 hM hn (by omega) (by omega) fun i n1 M1 i0 i1 hn1 h1 => ?_)))))
  obtain ⟨c, ec, lc⟩ := az_ix (M := M1) i0 i1
  refine ⟨_, ec, eBin (ePure (d := .int 1) rfl (eCall (ds := [.ref a, .int 3]) rfl (digit2 h1 hn1 (by omega) (by omega) fun j n2 M2 j0 j1 hn2 h2 => ⟨.int (1 + j), rfl, ?_⟩)))⟩
  refine ⟨.str (Txt.mul ⟨#[c]⟩ (1 + j)), if_pos ⟨by show 1 ≤ 100; omega, by omega, by omega⟩, ?_⟩
  have hm : (Txt.mul ⟨#[c]⟩ (1 + j)).length ≤ 3 ∧ ∀ d ∈ (Txt.mul ⟨#[c]⟩ (1 + j)).cps.toList, low d = true := by
    obtain ⟨k, rfl⟩ := Int.eq_ofNat_of_zero_le j0
    rcases k with _ | _ | _ | k
    · exact ⟨by show (Txt.mul ⟨#[c]⟩ 1).cps.size ≤ 3; simp [Txt.mul, Str.length], fun d hd => by
        have : d = c := by simpa [Txt.mul, Str.length] using (show d ∈ (Txt.mul ⟨#[c]⟩ 1).cps.toList from hd)
        rw [this]; exact lc⟩
    · exact ⟨by show (Txt.mul ⟨#[c]⟩ 2).cps.size ≤ 3; simp [Txt.mul, Str.length], fun d hd => by
        have : d = c := by simpa [Txt.mul, Str.length] using (show d ∈ (Txt.mul ⟨#[c]⟩ 2).cps.toList from hd)
        rw [this]; exact lc⟩
    · exact ⟨by show (Txt.mul ⟨#[c]⟩ 3).cps.size ≤ 3; simp [Txt.mul, Str.length], fun d hd => by
        have : d = c := by simpa [Txt.mul, Str.length] using (show d ∈ (Txt.mul ⟨#[c]⟩ 3).cps.toList from hd)
        rw [this]; exact lc⟩
    · exfalso; omega
  generalize Txt.mul ⟨#[c]⟩ (1 + j) = w at hm
  have nt := all_nt hm.1 hm.2
  have e3 : w.length + (Str.ofString "abc").length ≤ sizeLine := by
    rw [show (Str.ofString "abc").length = 3 by decide +kernel]
    have : 1000 ≤ sizeLine := by decide
    omega
  have e4 : (w ++ "abc" : Str).length ≤ sizeLine := by
    have : (w ++ "abc" : Str).length = w.length + (Str.ofString "abc").length := by
      show (w.cps ++ (Str.ofString "abc").cps).size = _
      rw [Array.size_append]; rfl
    omega
  refine sSetP (d := .lst [D.non, .int 7, .int 0, .bl true, .bl false, .int (-1), .int (10 ^ 40), .tup [], .lst [], .dk [], .tup [.str w], .lst [.str w], .tup [.str w, .str w], .lst [.str w, .str w]]) rfl ?_
  refine sSetP (d := .lst ([D.non, .int 7, .int 0, .bl true, .bl false, .int (-1), .int (10 ^ 40), .tup [], .lst [], .dk [], .tup [.str w], .lst [.str w], .tup [.str w, .str w], .lst [.str w, .str w]] ++
    [.dk [(.inr w, .int 1)], .tup [.str "be"], .lst (List.replicate 9 (.str "x")), .tup [.str "a", .str "B"], .lst [.lst [.str w]], .tup [.non], .dk [(.inr "let", .str "x")]])) rfl ?_
  have f1 : fTupleA M2 [.str (w ++ "abc")] = some (.tup ((chs (w ++ "abc")).map .str)) := if_pos e4
  have f2 : fListA M2 [.str (w ++ "abc")] = some (.lst ((chs (w ++ "abc")).map .str)) := if_pos e4
  have f3 : dAdd M2 (.str w) (.str "abc") = some (.str (w ++ "abc")) := ev_addS e3
  refine sRetP (d := .lst [D.non, .int 7, .int 0, .bl true, .bl false, .int (-1), .int (10 ^ 40), .tup [], .lst [], .dk [], .tup [.str w], .lst [.str w], .tup [.str w, .str w], .lst [.str w, .str w],
    .dk [(.inr w, .int 1)], .tup [.str "be"], .lst (List.replicate 9 (.str "x")), .tup [.str "a", .str "B"], .lst [.lst [.str w]], .tup [.non], .dk [(.inr "let", .str "x")],
    .tup ((chs (w ++ "abc")).map .str), .lst ((chs (w ++ "abc")).map .str)]) ?_ (.of (q _ n2 M2 nt hn2 h2))
  walk_at "ev"
/-! texts -/
def inLet (c : Nat) : Bool := !(Builtin.Str.occurrences az ⟨#[c]⟩ 0 az.length 1).isEmpty
def okLen (z : Str) : Bool := decide ((1 : Int) ≤ z.length) && decide ((z.length : Int) ≤ 8)
def isW (z : Str) : Bool := okLen z && (!(keptW.any (· == z)) && z.cps.toList.all inLet)
theorem chain_len {M : DM} {E : DEnv} {f : PF} {z : Str} (hf : f E M = some (.int z.length)) : pChain dLe dLe (pC (.int 1)) f (pC (.int 8)) E M = some (.bl (okLen z)) := by
  unfold pChain okLen
  rw [hf]
  show (if decide ((1 : Int) ≤ z.length) = true then some (D.bl (decide ((z.length : Int) ≤ 8))) else some (.bl false)) = _
  cases decide ((1 : Int) ≤ z.length) <;> rfl
theorem in_kept {M : DM} {z : Str} : dInA 150 false M (.str z) (.kt (keptW.map .str)) = some (.bl (keptW.any (· == z))) := by
  show (dInB 150 M (.str z) (keptW.map D.str)).map D.bl = _
  rw [inB_strs]; rfl
theorem in_keptT {M : DM} {z : Str} : dInA 150 false M (.str z) (.tup (keptW.map .str)) = some (.bl (keptW.any (· == z))) := by
  show (dInB 150 M (.str z) (keptW.map D.str)).map D.bl = _
  rw [inB_strs]; rfl
theorem len_str {M : DM} {z : Str} (h : z.length ≤ sizeLine) : fLen M [.str z] = some (.int z.length) := if_pos h
theorem all_low {M : DM} {E : DEnv} {i : Nat} {z : Str} {f : PF} (hf : f E M = some (.str z)) (hi : ∀ d, ((wipeD E [i]).set i (some d))[i]? = some (some d)) (hz : z.length ≤ sizeLine) :
    pFun fAll (pCons (pFz (nLc (iAnyP f) (gfName i) bYes (pBin (dInA 150 false) (pVar i) (pC (.str az))) [i])) pNil) E M = some (.bl (z.cps.toList.all inLet)) := by
  have e1 : pLcGo (gfName i) bYes (pBin (dInA 150 false) (pVar i) (pC (.str az))) (wipeD E [i]) M (z.cps.toList.map fun c => D.str ⟨#[c]⟩) =
      some ((z.cps.toList.map fun c => D.str ⟨#[c]⟩).map fun d => match d with | .str s => .bl (!(Builtin.Str.occurrences az s 0 az.length 1).isEmpty) | _ => .non) :=
    lc_fn fun d hd => by
      obtain ⟨c, hc, rfl⟩ := List.mem_map.mp hd
      refine ⟨_, rfl, ?_⟩
      show ((((wipeD E [i]).set i (some (.str ⟨#[c]⟩)))[i]?).join).bind _ = _
      rw [hi]
      show some (D.bl (false ^^ _)) = _
      rw [Bool.false_xor]
  have e2 : pFz (nLc (iAnyP f) (gfName i) bYes (pBin (dInA 150 false) (pVar i) (pC (.str az))) [i]) E M = some (.lst (z.cps.toList.map fun c => D.bl (inLet c))) := by
    refine ev_lc (ds := z.cps.toList.map fun c => D.str ⟨#[c]⟩) ?_ ?_ ?_
    · show (f E M).bind _ = _
      rw [hf]; rfl
    · rw [List.length_map]; exact hz
    · rw [e1, List.map_map]; rfl
  show ((pFz _ E M).bind fun x => (pNil E M).map fun xs => x :: xs).bind _ = _
  rw [e2]
  show ((asBls (z.cps.toList.map fun c => D.bl (inLet c))).bind _) = _
  rw [asBls_map]
  show some (D.bl ((z.cps.toList.map inLet).all id)) = _
  rw [List.all_map]; rfl
theorem word_text {M : DM} {z : Str} {P : D → DM → Prop} (hz : z.length ≤ sizeLine) (q : P (.bl (isW z)) M) : sp_is_word [.str z] M P := by
  refine spI rfl [some (.str z), none] rfl ?_
  have f1 : fIsi M [.str z, .ty "str"] = some (.bl true) := rfl
  have f2 := len_str (M := M) hz
  have f3 : pChain dLe dLe (pC (.int 1)) (pFun fLen (pCons (pVar 0) pNil)) (pC (.int 8)) [some (.str z), none] M = some (.bl (okLen z)) := chain_len f2
  have t1 : ∀ b, (bOr (bNot (pTest (pChain dLe dLe (pC (.int 1)) (pFun fLen (pCons (pVar 0) pNil)) (pC (.int 8))))) (pTest (pBin (dInA 150 false) (pVar 0) (pC (.kt ((["be", "box", "else", "in", "keep", "let", "look", "loose", "open", "zero"] : List Str).map .str)))))) [some (.str z), none] M = some b →
      bOr (bNot (pTest (pFun fIsi (pCons (pVar 0) (pCons (pC (.ty "str")) pNil))))) (bOr (bNot (pTest (pChain dLe dLe (pC (.int 1)) (pFun fLen (pCons (pVar 0) pNil)) (pC (.int 8))))) (pTest (pBin (dInA 150 false) (pVar 0) (pC (.kt ((["be", "box", "else", "in", "keep", "let", "look", "loose", "open", "zero"] : List Str).map .str)))))) [some (.str z), none] M = some b := fun b h => h
  have t2 : bOr (bNot (pTest (pChain dLe dLe (pC (.int 1)) (pFun fLen (pCons (pVar 0) pNil)) (pC (.int 8))))) (pTest (pBin (dInA 150 false) (pVar 0) (pC (.kt (keptW.map .str))))) [some (.str z), none] M = some (!okLen z || keptW.any (· == z)) := by
    unfold bOr bNot pTest
    rw [f3]
    show (if (!okLen z) = true then some true else asB (dInA 150 false M (.str z) (.kt (keptW.map .str)))) = _
    rw [in_kept]
    cases okLen z <;> rfl
  refine sSeq (sIfP (t1 _ t2) (fun h => ?_) (fun h => sNext ?_))
  · refine sRetP (d := .bl false) rfl (.of ?_)
    have e : isW z = false := by
      unfold isW
      cases a : okLen z <;> cases b : keptW.any (· == z) <;> first | rfl | (rw [a, b] at h; cases h)
    rw [e] at q; exact q
  · refine sRetP (d := .bl (z.cps.toList.all inLet)) (all_low rfl (fun d => rfl) hz) (.of ?_)
    have e : isW z = z.cps.toList.all inLet := by
      unfold isW
      cases a : okLen z <;> cases b : keptW.any (· == z) <;> first | rfl | (rw [a, b] at h; cases h)
    rw [e] at q; exact q
theorem due_text {M : DM} {z : Str} {P : D → DM → Prop} (hz : z.length ≤ sizeLine) (q : P (.bl (isW z)) M) : sp_law_due [.str z] M P := by
  refine spI rfl [some (.str z), none, none] rfl ?_
  refine sSetP (d := .tup (keptW.map .str)) rfl ?_
  have f2 := len_str (M := M) hz
  have f3 : pChain dLe dLe (pC (.int 1)) (pFun fLen (pCons (pVar 0) pNil)) (pC (.int 8)) [some (.str z), some (.tup (keptW.map .str)), none] M = some (.bl (okLen z)) := chain_len f2
  have t2 : bOr (pTest (pBin (dInA 150 false) (pVar 0) (pVar 1))) (bNot (pTest (pChain dLe dLe (pC (.int 1)) (pFun fLen (pCons (pVar 0) pNil)) (pC (.int 8))))) [some (.str z), some (.tup (keptW.map .str)), none] M = some (keptW.any (· == z) || !okLen z) := by
    unfold bOr bNot pTest
    rw [f3]
    show (asB (dInA 150 false M (.str z) (.tup (keptW.map .str)))).bind _ = _
    rw [in_keptT]
    show (if keptW.any (· == z) = true then some true else some (!okLen z)) = _
    cases keptW.any (· == z) <;> rfl
  refine sSeq (sIfP t2 (fun h => ?_) (fun h => sNext ?_))
  · refine sRetP (d := .bl false) rfl (.of ?_)
    have e : isW z = false := by
      unfold isW
      cases a : okLen z <;> cases b : keptW.any (· == z) <;> first | rfl | (rw [a, b] at h; cases h)
    rw [e] at q; exact q
  · refine sRetP (d := .bl (z.cps.toList.all inLet)) (all_low rfl (fun d => rfl) hz) (.of ?_)
    have e : isW z = z.cps.toList.all inLet := by
      unfold isW
      cases a : okLen z <;> cases b : keptW.any (· == z) <;> first | rfl | (rw [a, b] at h; cases h)
    rw [e] at q; exact q
theorem right_text {M : DM} {z : Str} {P : D → DM → Prop} (hz : z.length ≤ sizeLine) (q : P (.bl true) M) : sp_law_right [.str z] M P := by
  refine spI rfl [some (.str z), none] rfl ?_
  refine sSet (eCall (ds := [.str z]) rfl (word_text hz ?_))
  refine sRet ⟨.bl true, rfl, true, rfl, ?_⟩
  rw [if_pos rfl]
  refine eBin (ePure (d := .bl (isW z)) rfl (eCall (ds := [.str z]) rfl (due_text hz ⟨.bl true, ?_, .of q⟩)))
  show (dEqB 150 M (.bl (isW z)) (.bl (isW z))).map D.bl = _
  rw [eqB_self (n := 0) rfl rfl (by omega)]; rfl
def sgW : Str := " 0123456789\x0a!\"#$&'()*+,-./:;<=>?@ABCDEFGHIJKLMNOPQRSTUVWXYZ[\\]^_`{|}~"
/-- all([_law_right(x) for x in some texts]) -/
theorem all_right {E : DEnv} {M : DM} {i : Nat} {f : PF} {L : List D} {Q : Bool → DM → Prop} (hf : f E M = some (.lst L)) (hi : ∀ d, ((wipeD E [i]).set i (some d))[i]? = some (some d)) (hL : ∀ d ∈ L, ∃ z : Str, d = .str z ∧ z.length ≤ sizeLine) (hl : L.length ≤ sizeLine) (q : Q false M) :
    dNot (dTest (dFun fAll (dCons (dFz (dLc (diAny (dP f)) (dgName i) dYes (dCall sp_law_right (dAP (pCons (pVar i) pNil))) [i])) dNil))) E M Q := by
  refine tNot (tTest (eFun (aCons (eFz (lcAny hf rfl (lc_each (R := fun d => d = .bl true) (chk := fun M' => itemsOf M' (.lst L) = some L) (acc := []) (ds := L) rfl (by rw [List.length_nil, Nat.zero_add]; exact hl) (fun d hd Q' hq => ?_) fun out ho hr => ?_))))))
  · obtain ⟨z, rfl, hz⟩ := hL d hd
    refine eCall (ds := [.str z]) ?_ (right_text hz (hq _ rfl))
    show ((((wipeD E [i]).set i (some (.str z)))[i]?).join).bind _ = _
    rw [hi]; rfl
  · obtain ⟨bs, e1, e2⟩ := asBls_true hr
    refine ⟨.lst out, rfl, aNil ⟨.bl true, ?_, true, rfl, q⟩⟩
    show (asBls out).bind _ = _
    rw [e1]
    show some (D.bl (bs.all id)) = _
    rw [e2]
theorem str_len_app (a b : Str) : (a ++ b).length = a.length + b.length := by
  show (a.cps ++ b.cps).size = _
  rw [Array.size_append]; rfl
theorem kept_ix {M : DM} {i : Int} (h0 : 0 ≤ i) (h1 : i < 10) : ∃ z : Str, dIx M (.lst (keptW.map .str)) (.int i) = some (.str z) ∧ z.length ≤ 9 := by
  obtain ⟨d, e, hm, _⟩ := at_ok (xs := keptW.map D.str) h0 (by rw [List.length_map]; exact h1)
  obtain ⟨z, hz, rfl⟩ := List.mem_map.mp hm
  exact ⟨z, e, of_decide_eq_true (List.all_eq_true.mp (show (keptW.all fun z => decide (z.length ≤ 9)) = true by decide +kernel) z hz)⟩
theorem sg_len : (az ++ sgW).length = 91 ∨ (az ++ sgW).length ≤ 200 := .inr (by decide +kernel)
theorem law_true : ∀ ns : List Int, ns.length ≤ 63 → sp_law [.rl (ns.map .int)] (fun _ => none) fun d _ => d = .bl true := by
  intro ns hns
  have big : 100000 ≤ sizeLine := by decide
  refine spI rfl [some (.rl (ns.map .int)), none, none, none, none, none, none, none, none, none, none, none, none, none, none] rfl ?_
  refine sSetP (d := .lst (keptW.map .str)) rfl ?_
  refine sSetP (d := .str az) rfl ?_
  refine sSetP (d := .str (az ++ sgW)) (by
    show dAdd (fun _ => none) (.str az) (.str sgW) = _
    exact ev_addS (by decide +kernel)) ?_
  refine sSeq (sIfE (all_right (L := (keptW ++ ([""] : List Str)).map .str) (by rfl) (fun d => rfl) (fun d hd => ?_) (by decide) ?_))
  · obtain ⟨z, hz, rfl⟩ := List.mem_map.mp hd
    exact ⟨z, rfl, Nat.le_trans (of_decide_eq_true (List.all_eq_true.mp (show ((keptW ++ ([""] : List Str)).all fun z : Str => decide (z.length ≤ 9)) = true by decide +kernel) z hz)) (by decide)⟩
  refine iteF (sNext ?_)
  refine sSeq (forR2 (aPure (ds := [.int 0, .int (max 3 (min 8 ns.length))]) (by walk_at "ev"; rw [List.length_map]) ⟨0, _, rfl, by omega, ?_⟩))
  refine forI (fun _ E _ => ∃ x4 x5 x6 x7 x8 x9 x10 x11 x12 x13 x14, E = [some (.rl (ns.map .int)), some (.lst (keptW.map .str)), some (.str az), some (.str (az ++ sgW)), x4, x5, x6, x7, x8, x9, x10, x11, x12, x13, x14]) ⟨_, _, _, _, _, _, _, _, _, _, _, rfl⟩ ?_ ?_
  · rintro i d E M0 N hd ⟨x4, x5, x6, x7, x8, x9, x10, x11, x12, x13, x14, rfl⟩ hn
    obtain ⟨k, rfl, k0, k1, k2⟩ := rng_int hd
    clear k2 hd
    refine ⟨trivial, gN (sSet (eCall (ds := [.rl (ns.map .int), .int k]) (by walk_at "ev") (tape_spec k0 (by omega) fun p n hp hn0 => ?_)))⟩
    refine sSeq (forAnyE (eCall (ds := [.ref p]) (by walk_at "ev") (no_texts_spec up_same hn0 fun L n1 M1 hL hn1 h1 => ⟨L, rfl, ?_⟩)))
    refine forI (fun _ E M' => M' = M1 ∧ ∃ x6 x8, E = [some (.rl (ns.map .int)), some (.lst (keptW.map .str)), some (.str az), some (.str (az ++ sgW)), some (.int k), some (.ref p), x6, x7, x8, x9, x10, x11, x12, x13, x14]) ⟨rfl, _, _, rfl⟩ ?_ ?_
    · rintro t d E M2 N2 hd ⟨rfl, y6, y8, rfl⟩ hn'
      have nt := hL d (List.mem_of_getElem? hd)
      obtain ⟨s, es⟩ := nt.repr
      refine ⟨rfl, gN (sSetP (d := .str s) (by walk_at "ev") (sIfE (tOr (tTest (eBin (eCall (ds := [d]) (by walk_at "ev") (nt_word nt (ePure (d := .bl false) rfl ⟨.bl false, rfl, false, rfl, ?_⟩))))))))⟩
      refine iteF ⟨false, ?_, iteF (sNext (.of (hn' _ _ ⟨rfl, _, _, rfl⟩)))⟩
      have e2 : dNe 150 M2 (.str s) (.str s) = some (.bl false) := by rw [ev_neS]; simp
      walk_at "ev"
    · rintro E M2 ⟨rfl, y6, y8, rfl⟩
      refine ⟨rfl, forR1 (aPure (ds := [.int 12]) (by walk_at "ev") ⟨12, rfl, by decide, ?_⟩)⟩
      refine forI (fun _ E M' => ∃ n x7 x9 x10 x11 x12 x13 x14, E = [some (.rl (ns.map .int)), some (.lst (keptW.map .str)), some (.str az), some (.str (az ++ sgW)), some (.int k), some (.ref p), y6, x7, y8, x9, x10, x11, x12, x13, x14] ∧ M' p = some (.lst [.int n]) ∧ 0 ≤ n)
        ⟨n1, _, _, _, _, _, _, _, rfl, h1, hn1⟩ ?_ ?_
      · rintro t d E M3 N3 hd ⟨n, y7, y9, y10, y11, y12, y13, y14, rfl, g1, g2⟩ hn'
        obtain ⟨tn, rfl, t0, t1, t2⟩ := rng_int hd
        clear t2 hd
        refine ⟨trivial, gN (sSetP (d := .str "") (by walk_at "ev") ?_)⟩
        refine sSeq (forR1 (aCons (eCall (ds := [.ref p, .int 10]) (by walk_at "ev") (digit2 g1 g2 (by omega) (by omega) fun cnt n2 M4 c0 c1 hn2 hp4 => aNil ⟨cnt, rfl, by omega, ?_⟩))))
        refine forI (fun j E M' => ∃ (n : Int) (z : Str) (x10 : Option D), E = [some (.rl (ns.map .int)), some (.lst (keptW.map .str)), some (.str az), some (.str (az ++ sgW)), some (.int k), some (.ref p), y6, some (.int tn), y8, some (.str z), x10, y11, y12, y13, y14] ∧ M' p = some (.lst [.int n]) ∧ 0 ≤ n ∧ z.length ≤ j)
          ⟨n2, "", _, rfl, hp4, hn2, by decide⟩ ?_ ?_
        · rintro j d E M5 N5 hd ⟨m, z, y10, rfl, f1, f2, f3⟩ hn5
          obtain ⟨jn, rfl, j0, j1, j2⟩ := rng_int hd
          clear hd
          refine ⟨trivial, gN (sSet1 (eBin (ePure (d := .str z) (by walk_at "ev") (eBin (ePure (d := .str az) (by walk_at "ev") (eCall (ds := [.ref p, .int 26]) (by walk_at "ev") (digit2 f1 f2 (by omega) (by omega) fun ci m2 M6 i0 i1 hm2 hp6 => ?_)))))))⟩
          obtain ⟨c, ec, lc⟩ := az_ix (M := M6) i0 i1
          refine ⟨_, ec, .str (z ++ ⟨#[c]⟩), ev_addS (by show z.length + 1 ≤ sizeLine; omega), .of (hn5 _ _ ⟨m2, _, _, rfl, hp6, hm2, ?_⟩)⟩
          rw [str_len_app]
          show z.length + 1 ≤ j + 1
          omega
        · rintro E M5 ⟨m, z, y10, rfl, f1, f2, f3⟩
          rw [rngD_length] at f3
          have hz : z.length ≤ 9 := by omega
          clear f3
          refine ⟨trivial, ?_⟩
          refine sSet (eBin (eFz (nLstI (aCons (ePure (d := .str z) (by walk_at "ev") (aCons (eBin (ePure (d := .lst (keptW.map .str)) (by walk_at "ev") ?_))))))))
          refine eCall (ds := [.ref p, .int 10]) (by walk_at "ev") (digit2 f1 f2 (by omega) (by omega) fun ci m2 M6 i0 i1 hm2 hp6 => ?_)
          obtain ⟨kw, ek, lk⟩ := kept_ix (M := M6) i0 i1
          refine ⟨.str kw, ek, aNil ⟨by show 2 ≤ sizeLine; decide, .lst [.str z, .str kw], rfl, eCall (ds := [.ref p, .int 2]) (by walk_at "ev") (digit2 hp6 hm2 (by omega) (by omega) fun b m3 M7 b0 b1 hm3 hp7 => ?_)⟩⟩
          have hx : ∃ x : Str, dIx M7 (.lst [.str z, .str kw]) (.int b) = some (.str x) ∧ x.length ≤ 9 := by
            obtain ⟨q, rfl⟩ := Int.eq_ofNat_of_zero_le b0
            rcases q with _ | _ | q
            · exact ⟨z, rfl, hz⟩
            · exact ⟨kw, rfl, lk⟩
            · exfalso; omega
          obtain ⟨x, ex, hx9⟩ := hx
          refine ⟨.str x, ex, ?_⟩
          have xl : x.length ≤ sizeLine := by omega
          have fl : ∀ M, fLen M [.str x] = some (.int x.length) := fun M => len_str xl
          obtain ⟨xn, hxn⟩ : ∃ xn : Int, (x.length : Int) = xn := ⟨_, rfl⟩
          rw [hxn] at fl
          refine sSet (eCall (ds := [.ref p, .int (xn + 1)]) (by walk_at "ev") (digit2 hp7 hm3 (by omega) (by omega) fun at_ m4 M8 a0 a1 hm4 hp8 => ?_))
          have fs : ∀ M, fLen M [.str (az ++ sgW)] = some (.int ((az ++ sgW).length : Nat)) := fun M => len_str (by have := sg_len; omega)
          obtain ⟨sn, hsn⟩ : ∃ sn : Int, ((az ++ sgW).length : Int) = sn := ⟨_, rfl⟩
          have sn1 : 0 < sn ∧ sn ≤ 200 := by
            have h1 : 0 < (az ++ sgW).length := by decide +kernel
            have := sg_len
            omega
          rw [hsn] at fs
          refine sSet (eBin (ePure (d := .str (az ++ sgW)) (by walk_at "ev") (eCall (ds := [.ref p, .int sn]) (by walk_at "ev") (digit2 hp8 hm4 (by omega) (by omega) fun si m5 M9 s0 s1 hm5 hp9 => ?_))))
          obtain ⟨sg, esg⟩ := ev_ixS (M := M9) (z := az ++ sgW) (i := si) (c := 0) (by have := sg_len; omega) s0 (by omega)
          refine ⟨_, esg, ?_⟩
          have hsg : (⟨#[sg]⟩ : Str).length = 1 := rfl
          have sl : ∀ M lo hi, dSl M (.str x) lo hi = some (.str (cutS x lo hi)) := fun M lo hi => if_pos xl
          have cl : ∀ lo hi, (cutS x lo hi).length ≤ 9 := fun lo hi => Nat.le_trans (cutS_length x lo hi) hx9
          have ad : ∀ M (a b : Str), a.length ≤ 100 → b.length ≤ 100 → dAdd M (.str a) (.str b) = some (.str (a ++ b)) := fun M a b ha hb => ev_addS (by omega)
          generalize (⟨#[sg]⟩ : Str) = sgn at hsg
          have c1 := cl none (some at_)
          have c2 := cl (some at_) none
          have c3 := cl (some (at_ + 1)) none
          have d1 := str_len_app (cutS x none (some at_)) sgn
          have a1' := fun M => ad M (cutS x none (some at_)) sgn (by omega) (by omega)
          have a2' := fun M => ad M (cutS x none (some at_) ++ sgn) (cutS x (some at_) none) (by omega) (by omega)
          have a3' := fun M => ad M (cutS x none (some at_)) (cutS x (some (at_ + 1)) none) (by omega) (by omega)
          have a4' := fun M => ad M (cutS x none (some at_) ++ sgn) (cutS x (some (at_ + 1)) none) (by omega) (by omega)
          have a5' := fun M => ad M x x (by omega) (by omega)
          have l1 := str_len_app (cutS x none (some at_) ++ sgn) (cutS x (some at_) none)
          have l2 := str_len_app (cutS x none (some at_)) (cutS x (some (at_ + 1)) none)
          have l3 := str_len_app (cutS x none (some at_) ++ sgn) (cutS x (some (at_ + 1)) none)
          have l4 := len_upper x
          have l5 := str_len_app x x
          refine sSetP (d := .lst [.str x, .str (cutS x none (some at_) ++ sgn ++ cutS x (some at_) none), .str (cutS x none (some at_) ++ cutS x (some (at_ + 1)) none)]) ?_ ?_
          · clear d1 l1 l2 l3 l4 l5 hxn hsn c1 c2 c3 hsg
            walk_at "ev"
          refine sSet (eBin (ePure (d := .lst [.str x, .str (cutS x none (some at_) ++ sgn ++ cutS x (some at_) none), .str (cutS x none (some at_) ++ cutS x (some (at_ + 1)) none)]) rfl
            (eFz (nLstI (aCons (ePure (d := .str (cutS x none (some at_) ++ sgn ++ cutS x (some (at_ + 1)) none)) ?_ (aCons (mthI (ePure (d := .str x) rfl ⟨rfl, ?_⟩)))))))))
          · clear d1 l1 l2 l3 l4 l5 hxn hsn c1 c2 c3 hsg
            walk_at "ev"
          · refine aNil ⟨.str (Txt.upper x), M9, if_pos (by omega), ?_⟩
            refine aCons (ePure (d := .str (x ++ x)) ?_ (aNil ⟨by show 3 ≤ sizeLine; decide, .lst [.str (cutS x none (some at_) ++ sgn ++ cutS x (some (at_ + 1)) none), .str (Txt.upper x), .str (x ++ x)], rfl, ?_⟩))
            · clear d1 l1 l2 l3 l4 l5 hxn hsn c1 c2 c3 hsg
              walk_at "ev"
            refine ⟨_, ev_addL (by show 6 ≤ sizeLine; decide), sIfE (all_right (L := [.str x, .str (cutS x none (some at_) ++ sgn ++ cutS x (some at_) none), .str (cutS x none (some at_) ++ cutS x (some (at_ + 1)) none), .str (cutS x none (some at_) ++ sgn ++ cutS x (some (at_ + 1)) none), .str (Txt.upper x), .str (x ++ x)]) rfl (fun d => rfl) (fun d hd => ?_) (by show 6 ≤ sizeLine; decide)
              (iteF (sNext (.of (hn' _ _ ⟨m5, _, _, _, _, _, _, _, rfl, hp9, hm5⟩)))))⟩
            simp only [List.mem_cons, List.not_mem_nil, or_false] at hd
            rcases hd with rfl | rfl | rfl | rfl | rfl | rfl
            · exact ⟨_, rfl, by omega⟩
            · exact ⟨_, rfl, by omega⟩
            · exact ⟨_, rfl, by omega⟩
            · exact ⟨_, rfl, by omega⟩
            · exact ⟨_, rfl, by omega⟩
            · exact ⟨_, rfl, by omega⟩
      · rintro E M3 ⟨n, y7, y9, y10, y11, y12, y13, y14, rfl, g1, g2⟩
        exact ⟨trivial, .of (hn _ _ ⟨_, _, _, _, _, _, _, _, _, _, _, rfl⟩)⟩
  · rintro E M ⟨x4, x5, x6, x7, x8, x9, x10, x11, x12, x13, x14, rfl⟩
    exact ⟨trivial, sRetP (d := .bl true) rfl (.of rfl)⟩
end DL

set_option Elab.async false
set_option linter.all false
set_option maxRecDepth 100000
set_option maxHeartbeats 4000000

namespace DL.WK09
open PySem PySem.Spec PyProof.Rows L2 DL
local macro_rules | `(tactic| walk_at "lc") => `(tactic| first | exact Or.inl rfl | exact Or.inr rfl)
def top (i : Nat) : Stmt := PySem.Challenge.pw_sparecount_k09_words.main.body.getD i (.Pass ⟨0, 0, 0, 0⟩)
abbrev s_law_cell_at : Stmt := top 5
theorem sc_law_cell_at : FnScope ["script", "k"] ["script", "k"] (defScope s_law_cell_at) := ⟨rfl, rfl, rfl, by decide +kernel, rfl, by decide +kernel, by decide +kernel⟩
abbrev s_law_tape : Stmt := top 6
theorem sc_law_tape : FnScope ["script", "k", "cell", "p", "one", "found", "turn"] ["script", "k"] (defScope s_law_tape) := ⟨rfl, rfl, rfl, by decide +kernel, rfl, by decide +kernel, by decide +kernel⟩
abbrev s_law_digit : Stmt := top 7
theorem sc_law_digit : FnScope ["tape", "many", "found"] ["tape", "many"] (defScope s_law_digit) := ⟨rfl, rfl, rfl, by decide +kernel, rfl, by decide +kernel, by decide +kernel⟩
abbrev s_law_no_texts : Stmt := top 10
theorem sc_law_no_texts : FnScope ["tape", "letters", "word", "some"] ["tape"] (defScope s_law_no_texts) := ⟨rfl, rfl, rfl, by decide +kernel, rfl, by decide +kernel, by decide +kernel⟩
abbrev s_is_word : Stmt := top 3
theorem sc_is_word : FnScope ["thing", "sign"] ["thing"] (defScope s_is_word) := ⟨rfl, rfl, rfl, by decide +kernel, rfl, by decide +kernel, by decide +kernel⟩
abbrev s_law_due : Stmt := top 8
theorem sc_law_due : FnScope ["text", "kept", "sign"] ["text"] (defScope s_law_due) := ⟨rfl, rfl, rfl, by decide +kernel, rfl, by decide +kernel, by decide +kernel⟩
abbrev s_law_right : Stmt := top 9
theorem sc_law_right : FnScope ["text", "found"] ["text"] (defScope s_law_right) := ⟨rfl, rfl, rfl, by decide +kernel, rfl, by decide +kernel, by decide +kernel⟩
abbrev s_law : Stmt := top 11
theorem sc_law : FnScope ["script", "kept", "letters", "signs", "k", "tape", "thing", "turn", "mine", "text", "number", "at", "sign", "some", "one"] ["script"] (defScope s_law) := ⟨rfl, rfl, rfl, by decide +kernel, rfl, by decide +kernel, by decide +kernel⟩
structure Txt (K : PySem.W.Frag) (mg : Str → Option Value) (f_law_cell_at : Addr) (f_law_tape : Addr) (f_law_digit : Addr) (f_law_no_texts : Addr) (f_is_word : Addr) (f_law_due : Addr) (f_law_right : Addr) (f_law : Addr) : Prop where
  sys : ∃ o, K.lookup sysModules = some o
  m_law_cell_at : mg "_law_cell_at" = some (.ref f_law_cell_at)
  m_law_tape : mg "_law_tape" = some (.ref f_law_tape)
  m_law_digit : mg "_law_digit" = some (.ref f_law_digit)
  m_law_no_texts : mg "_law_no_texts" = some (.ref f_law_no_texts)
  m_is_word : mg "is_word" = some (.ref f_is_word)
  m_law_due : mg "_law_due" = some (.ref f_law_due)
  m_law_right : mg "_law_right" = some (.ref f_law_right)
  m_law : mg "law" = some (.ref f_law)
  n_abs : mg "abs" = none
  n_all : mg "all" = none
  n_bool : mg "bool" = none
  n_isinstance : mg "isinstance" = none
  n_len : mg "len" = none
  n_list : mg "list" = none
  n_max : mg "max" = none
  n_min : mg "min" = none
  n_range : mg "range" = none
  n_repr : mg "repr" = none
  n_str : mg "str" = none
  n_tuple : mg "tuple" = none
  c_LETTERS : ∃ t, mg "LETTERS" = some (.str "abcdefghijklmnopqrstuvwxyz" t)
  c_KEPT_WORDS : ∃ a, mg "KEPT_WORDS" = some (.ref a) ∧ KpT K a ((["be", "box", "else", "in", "keep", "let", "look", "loose", "open", "zero"] : List Str).map .str)
section
variable {P : Program} {w : World} {K : PySem.W.Frag} {mg : Str → Option Value} {base : Heap}
variable {f_law_cell_at : Addr} {fd_law_cell_at : FuncData} {f_law_tape : Addr} {fd_law_tape : FuncData} {f_law_digit : Addr} {fd_law_digit : FuncData} {f_law_no_texts : Addr} {fd_law_no_texts : FuncData} {f_is_word : Addr} {fd_is_word : FuncData} {f_law_due : Addr} {fd_law_due : FuncData} {f_law_right : Addr} {fd_law_right : FuncData} {f_law : Addr} {fd_law : FuncData}
theorem ok_law_cell_at (T : Txt K mg f_law_cell_at f_law_tape f_law_digit f_law_no_texts f_is_word f_law_due f_law_right f_law) (F : Fun K "_law_cell_at" "_law_cell_at" s_law_cell_at f_law_cell_at fd_law_cell_at) :
    FnG P w K mg base CX0 1 f_law_cell_at fd_law_cell_at ["script", "k"] (liftSp K sp_law_cell_at) :=
  fn_close (rd := rd_law_cell_at) F sc_law_cell_at (fun cdv A outer s H E hr =>
  (pss_consD (ps_ifD (pt_cmpP op_lt (nomark _) opd_lt (pd_var 1 (pv 1)) (pd_cbP cd_len (pe_callB call_len (by rfl) T.n_len PySem.boot_len (pa_consP (pd_var 0 (pv 0)) pa_nilP)))) (pss_oneD (ps_retD (pd_ixP (pd_var 0 (pv 0)) (pd_var 1 (pv 1)) (fun _ _ => rfl)))) pss_nilD)
  (pss_oneD (ps_retD pd_int)))) fun _ _ _ h => h
theorem ok_law_tape (T : Txt K mg f_law_cell_at f_law_tape f_law_digit f_law_no_texts f_is_word f_law_due f_law_right f_law) (F_law_cell_at : Fun K "_law_cell_at" "_law_cell_at" s_law_cell_at f_law_cell_at fd_law_cell_at) (b_law_cell_at : Binds K fd_law_cell_at ["script", "k"] [])
    (G_law_cell_at : FnG P w K mg base CX0 1 f_law_cell_at fd_law_cell_at ["script", "k"] (liftSp K sp_law_cell_at)) (F : Fun K "_law_tape" "_law_tape" s_law_tape f_law_tape fd_law_tape) :
    FnG P w K mg base CX0 2 f_law_tape fd_law_tape ["script", "k"] (liftSp K sp_law_tape) :=
  fn_close (rd := rd_law_tape) F sc_law_tape (fun cdv A outer s H E hr =>
  (pss_consD (ps_setQ (ps_set (i := 2) sc_law_tape.nd rfl (by walk_at "lc") (pd_call (pe_callG G_law_cell_at (hr.less (by decide)) (by rfl) T.m_law_cell_at F_law_cell_at.kp b_law_cell_at .nil pass0 (pa_consP (pd_var 0 (pv 0)) (pa_consP (pd_var 1 (pv 1)) pa_nilP))))))
  (pss_consD (ps_ifD (pt_cmpP (op_eqQ (N := 150) (room_u hr (by decide))) (nomark _) opd_eq (pd_var 2 (pv 2)) pd_int) (pss_oneD (ps_retD (PDN.new (pn_lstP (pa_consP pd_int pa_nilP))))) pss_nilD)
  (pss_consD (ps_ifD (pt_cmpP op_ge (nomark _) opd_ge (pd_var 2 (pv 2)) (pd_binP op_pow opd_pow pd_int pd_int)) (pss_oneD (ps_retD (PDN.new (pn_lstP (pa_consP (pd_binP op_sub opd_sub (pd_var 2 (pv 2)) (pd_binP op_pow opd_pow pd_int pd_int)) pa_nilP))))) pss_nilD)
  (pss_consD (ps_setQ (ps_set (i := 3) sc_law_tape.nd rfl (by walk_at "lc") (pd_ixP (PDN.fzP (pn_lstP (pa_consP pd_int (pa_consP pd_int (pa_consP pd_int (pa_consP pd_int (pa_consP pd_int (pa_consP pd_int (pa_consP pd_int pa_nilP))))))))) (pd_binP op_modN opd_mod (pd_var 1 (pv 1)) pd_int) (fun _ _ => rfl))))
  (pss_consD (ps_setQ (ps_set (i := 4) sc_law_tape.nd rfl (by walk_at "lc") (pd_binP op_modN opd_mod (pd_binP op_pow opd_pow (pd_binP op_mulQ opd_mul (pd_binP op_addQ opd_add (pd_binP op_modN opd_mod (pd_cbP cd_abs (pe_callB call_abs (by rfl) T.n_abs (by decide +kernel) (pa_consP (pd_var 2 (pv 2)) pa_nilP))) pd_int) pd_int) (pd_binP op_addQ opd_add (pd_binP op_mulQ opd_mul pd_int (pd_var 1 (pv 1))) pd_int)) pd_int) (pd_var 3 (pv 3)))))
  (pss_consD (ps_setQ (ps_set (i := 5) sc_law_tape.nd rfl (by walk_at "lc") (pd_var 4 (pv 4))))
  (pss_consD (ps_forD (pi_range1D (by rfl) T.n_range (pa_consP pd_int pa_nilP)) (pg_nameD (pg_name (i := 6) sc_law_tape.nd rfl (by walk_at "lc")))
  (pss_consD (ps_setQ (ps_set (i := 4) sc_law_tape.nd rfl (by walk_at "lc") (pd_binP op_modN opd_mod (pd_binP op_addQ opd_add (pd_binP op_addQ opd_add (pd_binP op_mulQ opd_mul (pd_var 4 (pv 4)) (pd_var 4 (pv 4))) (pd_binP op_mulQ opd_mul (pd_binP op_mulQ opd_mul pd_int (pd_binP op_addQ opd_add (pd_var 6 (pv 6)) pd_int)) (pd_binP op_addQ opd_add (pd_var 1 (pv 1)) pd_int))) (pd_var 2 (pv 2))) pd_int)))
  (pss_oneD (ps_setQ (ps_set (i := 5) sc_law_tape.nd rfl (by walk_at "lc") (pd_binP op_addQ opd_add (pd_binP op_mulQ opd_mul (pd_var 5 (pv 5)) pd_int) (pd_var 4 (pv 4))))))) PassesOwn.never rfl)
  (pss_oneD (ps_retD (PDN.new (pn_lstP (pa_consP (pd_var 5 (pv 5)) pa_nilP))))))))))))) fun _ _ _ h => h
theorem ok_law_digit (T : Txt K mg f_law_cell_at f_law_tape f_law_digit f_law_no_texts f_is_word f_law_due f_law_right f_law) (F : Fun K "_law_digit" "_law_digit" s_law_digit f_law_digit fd_law_digit) :
    FnG P w K mg base CX0 1 f_law_digit fd_law_digit ["tape", "many"] (liftSp K sp_law_digit) :=
  fn_close (rd := rd_law_digit) F sc_law_digit (fun cdv A outer s H E hr =>
  (pss_consD (ps_setQ (ps_set (i := 2) sc_law_digit.nd rfl (by walk_at "lc") (pd_binP op_modN opd_mod (pd_ixP (pd_var 0 (pv 0)) pd_int (fun _ _ => rfl)) (pd_var 1 (pv 1)))))
  (pss_consD (ps_asgQ (ps_asg (pd_binP op_fdivN opd_fdiv (pd_ixP (pd_var 0 (pv 0)) pd_int (fun _ _ => rfl)) (pd_var 1 (pv 1))) (pg_subD (pd_var 0 (pv 0)) pd_int (pg_sub (pd_var 0 (pv 0)) pd_int set_list))))
  (pss_oneD (ps_retD (pd_var 2 (pv 2))))))) fun _ _ _ h => h
theorem ok_law_no_texts (T : Txt K mg f_law_cell_at f_law_tape f_law_digit f_law_no_texts f_is_word f_law_due f_law_right f_law) (F_law_digit : Fun K "_law_digit" "_law_digit" s_law_digit f_law_digit fd_law_digit) (b_law_digit : Binds K fd_law_digit ["tape", "many"] [])
    (G_law_digit : FnG P w K mg base CX0 1 f_law_digit fd_law_digit ["tape", "many"] (liftSp K sp_law_digit)) (F : Fun K "_law_no_texts" "_law_no_texts" s_law_no_texts f_law_no_texts fd_law_no_texts) :
    FnG P w K mg base CX0 2 f_law_no_texts fd_law_no_texts ["tape"] (liftSp K sp_law_no_texts) :=
  fn_close (rd := rd_law_no_texts) F sc_law_no_texts (fun cdv A outer s H E hr =>
  (pss_consD (ps_setQ (ps_set (i := 1) sc_law_no_texts.nd rfl (by walk_at "lc") pd_str))
  (pss_consD (ps_setQ (ps_set (i := 2) sc_law_no_texts.nd rfl (by walk_at "lc") (pd_bin op_mulQ opd_mul (pd_ix (pd_var 1 (pv 1)) (pd_call (pe_callG G_law_digit (hr.less (by decide)) (by rfl) T.m_law_digit F_law_digit.kp b_law_digit .nil pass0 (pa_consP (pd_var 0 (pv 0)) (pa_consP pd_int pa_nilP)))) (fun _ _ => rfl)) (pd_bin op_addQ opd_add pd_int (pd_call (pe_callG G_law_digit (hr.less (by decide)) (by rfl) T.m_law_digit F_law_digit.kp b_law_digit .nil pass0 (pa_consP (pd_var 0 (pv 0)) (pa_consP pd_int pa_nilP))))))))
  (pss_consD (ps_setQ (ps_set (i := 3) sc_law_no_texts.nd rfl (by walk_at "lc") (PDN.fzP (pn_lstP (pa_consP pd_non (pa_consP pd_int (pa_consP pd_int (pa_consP pd_bl (pa_consP pd_bl (pa_consP (pd_negP pd_int) (pa_consP (pd_binP op_pow opd_pow pd_int pd_int) (pa_consP (pd_tupP pa_nilP) (pa_consP (PDN.fzP (pn_lstP pa_nilP)) (pa_consP (PDN.fzP (pn_dk0)) (pa_consP (pd_tupP (pa_consP (pd_var 2 (pv 2)) pa_nilP)) (pa_consP (PDN.fzP (pn_lstP (pa_consP (pd_var 2 (pv 2)) pa_nilP))) (pa_consP (pd_tupP (pa_consP (pd_var 2 (pv 2)) (pa_consP (pd_var 2 (pv 2)) pa_nilP))) (pa_consP (PDN.fzP (pn_lstP (pa_consP (pd_var 2 (pv 2)) (pa_consP (pd_var 2 (pv 2)) pa_nilP)))) pa_nilP))))))))))))))))))
  (pss_consD (ps_setQ (ps_set (i := 3) sc_law_no_texts.nd rfl (by walk_at "lc") (pd_binP op_addQ opd_add (pd_var 3 (pv 3)) (PDN.fzP (pn_lstP (pa_consP (PDN.fzP (pn_dispP (prs := [((pVar 2), (pC (.int 1)))]) (pe_disp (pps_cons (pd_var 2 (pv 2)) pd_int pps_nil) rfl rfl (fun z => nomatch z) (by decide)))) (pa_consP (pd_tupP (pa_consP pd_str pa_nilP)) (pa_consP (pd_binP op_mulQ opd_mul (PDN.fzP (pn_lstP (pa_consP pd_str pa_nilP))) pd_int) (pa_consP (pd_tupP (pa_consP pd_str (pa_consP pd_str pa_nilP))) (pa_consP (PDN.fzP (pn_lstP (pa_consP (PDN.fzP (pn_lstP (pa_consP (pd_var 2 (pv 2)) pa_nilP))) pa_nilP))) (pa_consP (pd_tupP (pa_consP pd_non pa_nilP)) (pa_consP (PDN.fzP (pn_dispP (prs := [((pC (.str "let")), (pC (.str "x")))]) (pe_disp (pps_cons pd_str pd_str pps_nil) rfl rfl (fun z => nomatch z) (by decide)))) pa_nilP))))))))))))
  (pss_oneD (ps_retD (pd_binP op_addQ opd_add (pd_var 3 (pv 3)) (PDN.fzP (pn_lstP (pa_consP (pd_cbP cd_tupleA (pe_callTy (call_tupleA rfl) (by rfl) T.n_tuple (by decide +kernel) (pa_consP (pd_binP op_addQ opd_add (pd_var 2 (pv 2)) pd_str) pa_nilP))) (pa_consP (pd_cbP cd_listA (pe_callTy (call_listA rfl) (by rfl) T.n_list (by decide +kernel) (pa_consP (pd_binP op_addQ opd_add (pd_var 2 (pv 2)) pd_str) pa_nilP))) pa_nilP)))))))))))) fun _ _ _ h => h
theorem ok_is_word (T : Txt K mg f_law_cell_at f_law_tape f_law_digit f_law_no_texts f_is_word f_law_due f_law_right f_law) (F : Fun K "is_word" "is_word" s_is_word f_is_word fd_is_word) :
    FnG P w K mg base CX0 1 f_is_word fd_is_word ["thing"] (liftSp K sp_is_word) :=
  fn_close (rd := rd_is_word) F sc_is_word (fun cdv A outer s H E hr =>
  (pss_consD (ps_ifD (PW.pt (pw_orP (pt_notP (pt_valP (pd_cbP cd_isi (pe_callB call_isi (by rfl) T.n_isinstance (by decide +kernel) (pa_consP (pd_var 0 (pv 0)) (pa_consP (pd_ty (pe_bltn (by rfl) T.n_str (by decide +kernel) rfl)) pa_nilP)))))) (pw_orP (pt_notP (pt_chainP opd_le opd_le (pt_chain op_le op_le pd_int (pd_cbP cd_len (pe_callB call_len (by rfl) T.n_len PySem.boot_len (pa_consP (pd_var 0 (pv 0)) pa_nilP))) pd_int))) (pw_or1D (pt_cmpP (op_inA (N := 150) (room_v hr (by decide))) (by rfl) opd_inA (pd_var 0 (pv 0)) (pd_gtup (zs := (["be", "box", "else", "in", "keep", "let", "look", "loose", "open", "zero"] : List Str)) T.c_KEPT_WORDS (by rfl))))))) (pss_oneD (ps_retD pd_bl)) pss_nilD)
  (pss_oneD (ps_retD (pd_cbP cd_all (pe_callB (cr_all rfl) (by rfl) T.n_all (by decide +kernel) (pa_consP (PDN.fzP (pn_lcP (own := [("sign", 1)]) (pe_lc (own := [("sign", 1)]) rfl sc_is_word.nd (pi_anyP (pd_var 0 (pv 0))) (blkOk_by (N := ["thing", "sign"]) (sc := defScope s_is_word) (by decide +kernel)) (fun _ _ _ _ _ => (pg_nameP (pg_name (i := 1) sc_is_word.nd rfl (by walk_at "lc")) (by decide))) (fun _ _ _ _ _ => pts_nilP) (fun _ _ _ _ _ => (pd_cmpP (op_inA (N := 150) (room_v hr (by decide))) (by rfl) opd_inA (pd_var 1 (pv 1)) (pd_gstr (pe_glob (by rfl) T.c_LETTERS.choose_spec ⟨_, rfl⟩))))))) pa_nilP))))))) fun _ _ _ h => h
theorem ok_law_due (T : Txt K mg f_law_cell_at f_law_tape f_law_digit f_law_no_texts f_is_word f_law_due f_law_right f_law) (F : Fun K "_law_due" "_law_due" s_law_due f_law_due fd_law_due) :
    FnG P w K mg base CX0 1 f_law_due fd_law_due ["text"] (liftSp K sp_law_due) :=
  fn_close (rd := rd_law_due) F sc_law_due (fun cdv A outer s H E hr =>
  (pss_consD (ps_setQ (ps_set (i := 1) sc_law_due.nd rfl (by walk_at "lc") (pd_tupP (pa_consP pd_str (pa_consP pd_str (pa_consP pd_str (pa_consP pd_str (pa_consP pd_str (pa_consP pd_str (pa_consP pd_str (pa_consP pd_str (pa_consP pd_str (pa_consP pd_str pa_nilP)))))))))))))
  (pss_consD (ps_ifD (PW.pt (pw_orP (pt_cmpP (op_inA (N := 150) (room_v hr (by decide))) (by rfl) opd_inA (pd_var 0 (pv 0)) (pd_var 1 (pv 1))) (pw_or1D (pt_notP (pt_chainP opd_le opd_le (pt_chain op_le op_le pd_int (pd_cbP cd_len (pe_callB call_len (by rfl) T.n_len PySem.boot_len (pa_consP (pd_var 0 (pv 0)) pa_nilP))) pd_int)))))) (pss_oneD (ps_retD pd_bl)) pss_nilD)
  (pss_oneD (ps_retD (pd_cbP cd_all (pe_callB (cr_all rfl) (by rfl) T.n_all (by decide +kernel) (pa_consP (PDN.fzP (pn_lcP (own := [("sign", 2)]) (pe_lc (own := [("sign", 2)]) rfl sc_law_due.nd (pi_anyP (pd_var 0 (pv 0))) (blkOk_by (N := ["text", "kept", "sign"]) (sc := defScope s_law_due) (by decide +kernel)) (fun _ _ _ _ _ => (pg_nameP (pg_name (i := 2) sc_law_due.nd rfl (by walk_at "lc")) (by decide))) (fun _ _ _ _ _ => pts_nilP) (fun _ _ _ _ _ => (pd_cmpP (op_inA (N := 150) (room_v hr (by decide))) (by rfl) opd_inA (pd_var 2 (pv 2)) pd_str))))) pa_nilP)))))))) fun _ _ _ h => h
theorem ok_law_right (T : Txt K mg f_law_cell_at f_law_tape f_law_digit f_law_no_texts f_is_word f_law_due f_law_right f_law) (F_is_word : Fun K "is_word" "is_word" s_is_word f_is_word fd_is_word) (b_is_word : Binds K fd_is_word ["thing"] []) (F_law_due : Fun K "_law_due" "_law_due" s_law_due f_law_due fd_law_due) (b_law_due : Binds K fd_law_due ["text"] [])
    (G_is_word : FnG P w K mg base CX0 1 f_is_word fd_is_word ["thing"] (liftSp K sp_is_word))
    (G_law_due : FnG P w K mg base CX0 1 f_law_due fd_law_due ["text"] (liftSp K sp_law_due)) (F : Fun K "_law_right" "_law_right" s_law_right f_law_right fd_law_right) :
    FnG P w K mg base CX0 2 f_law_right fd_law_right ["text"] (liftSp K sp_law_right) :=
  fn_close (rd := rd_law_right) F sc_law_right (fun cdv A outer s H E hr =>
  (pss_consD (ps_setQ (ps_set (i := 1) sc_law_right.nd rfl (by walk_at "lc") (pd_call (pe_callG G_is_word (hr.less (by decide)) (by rfl) T.m_is_word F_is_word.kp b_is_word .nil pass0 (pa_consP (pd_var 0 (pv 0)) pa_nilP)))))
  (pss_oneD (ps_retD (pd_and (pd_cbP cd_isi (pe_callB call_isi (by rfl) T.n_isinstance (by decide +kernel) (pa_consP (pd_var 1 (pv 1)) (pa_consP (pd_ty (pe_bltn (by rfl) T.n_bool (by decide +kernel) rfl)) pa_nilP)))) (pd_one (pd_cmp (op_eqQ (N := 150) (room_u hr (by decide))) (nomark _) opd_eq (pd_var 1 (pv 1)) (pd_call (pe_callG G_law_due (hr.less (by decide)) (by rfl) T.m_law_due F_law_due.kp b_law_due .nil pass0 (pa_consP (pd_var 0 (pv 0)) pa_nilP)))))))))) fun _ _ _ h => h
theorem ok_law (T : Txt K mg f_law_cell_at f_law_tape f_law_digit f_law_no_texts f_is_word f_law_due f_law_right f_law) (F_law_right : Fun K "_law_right" "_law_right" s_law_right f_law_right fd_law_right) (b_law_right : Binds K fd_law_right ["text"] []) (F_law_tape : Fun K "_law_tape" "_law_tape" s_law_tape f_law_tape fd_law_tape) (b_law_tape : Binds K fd_law_tape ["script", "k"] []) (F_law_no_texts : Fun K "_law_no_texts" "_law_no_texts" s_law_no_texts f_law_no_texts fd_law_no_texts) (b_law_no_texts : Binds K fd_law_no_texts ["tape"] []) (F_is_word : Fun K "is_word" "is_word" s_is_word f_is_word fd_is_word) (b_is_word : Binds K fd_is_word ["thing"] []) (F_law_digit : Fun K "_law_digit" "_law_digit" s_law_digit f_law_digit fd_law_digit) (b_law_digit : Binds K fd_law_digit ["tape", "many"] [])
    (G_law_right : FnG P w K mg base CX0 2 f_law_right fd_law_right ["text"] (liftSp K sp_law_right))
    (G_law_tape : FnG P w K mg base CX0 2 f_law_tape fd_law_tape ["script", "k"] (liftSp K sp_law_tape))
    (G_law_no_texts : FnG P w K mg base CX0 2 f_law_no_texts fd_law_no_texts ["tape"] (liftSp K sp_law_no_texts))
    (G_is_word : FnG P w K mg base CX0 1 f_is_word fd_is_word ["thing"] (liftSp K sp_is_word))
    (G_law_digit : FnG P w K mg base CX0 1 f_law_digit fd_law_digit ["tape", "many"] (liftSp K sp_law_digit)) (F : Fun K "law" "law" s_law f_law fd_law) :
    FnG P w K mg base CX0 3 f_law fd_law ["script"] (liftSp K sp_law) :=
  fn_close (rd := rd_law) F sc_law (fun cdv A outer s H E hr =>
  (pss_consD (ps_setQ (ps_set (i := 1) sc_law.nd rfl (by walk_at "lc") (PDN.fzP (pn_lstP (pa_consP pd_str (pa_consP pd_str (pa_consP pd_str (pa_consP pd_str (pa_consP pd_str (pa_consP pd_str (pa_consP pd_str (pa_consP pd_str (pa_consP pd_str (pa_consP pd_str pa_nilP))))))))))))))
  (pss_consD (ps_setQ (ps_set (i := 2) sc_law.nd rfl (by walk_at "lc") pd_str))
  (pss_consD (ps_setQ (ps_set (i := 3) sc_law.nd rfl (by walk_at "lc") (pd_binP op_addQ opd_add (pd_var 2 (pv 2)) pd_str)))
  (pss_consD (ps_ifD (pt_notD (pt_valD (pd_cb cd_all (pe_callB (cr_all rfl) (by rfl) T.n_all (by decide +kernel) (pa_consD (PDN.fz (pn_lc (own := [("text", 9)]) (pe_lc (own := [("text", 9)]) rfl sc_law.nd (pi_anyD (pd_binP op_addQ opd_add (pd_var 1 (pv 1)) (PDN.fzP (pn_lstP (pa_consP pd_str pa_nilP))))) (blkOk_by (N := ["script", "kept", "letters", "signs", "k", "tape", "thing", "turn", "mine", "text", "number", "at", "sign", "some", "one"]) (sc := defScope s_law) (by decide +kernel)) (fun _ _ _ _ _ => (pg_nameW (pg_name (i := 9) sc_law.nd rfl (by walk_at "lc")) (by decide))) (fun _ _ _ _ _ => pts_nilD) (fun _ _ _ _ _ => (pd_call (pe_callG G_law_right (hr.less (by decide)) (by rfl) T.m_law_right F_law_right.kp b_law_right .nil pass0 (pa_consP (pd_var 9 (pv 9)) pa_nilP))))))) pa_nilD))))) (pss_oneD (ps_retD pd_bl)) pss_nilD)
  (pss_consD (ps_forD (pi_range2D (pa_consP pd_int (pa_consP (pd_cbP cd_max2 (pe_callB (call_max2 rfl) (by rfl) T.n_max (by decide +kernel) (pa_consP pd_int (pa_consP (pd_cbP cd_min2 (pe_callB (call_min2 rfl) (by rfl) T.n_min (by decide +kernel) (pa_consP pd_int (pa_consP (pd_cbP cd_len (pe_callB call_len (by rfl) T.n_len PySem.boot_len (pa_consP (pd_var 0 (pv 0)) pa_nilP))) pa_nilP)))) pa_nilP)))) pa_nilP)) (pi_range2 (by rfl) T.n_range (pa_consP pd_int (pa_consP (pd_cbP cd_max2 (pe_callB (call_max2 rfl) (by rfl) T.n_max (by decide +kernel) (pa_consP pd_int (pa_consP (pd_cbP cd_min2 (pe_callB (call_min2 rfl) (by rfl) T.n_min (by decide +kernel) (pa_consP pd_int (pa_consP (pd_cbP cd_len (pe_callB call_len (by rfl) T.n_len PySem.boot_len (pa_consP (pd_var 0 (pv 0)) pa_nilP))) pa_nilP)))) pa_nilP)))) pa_nilP)))) (pg_nameD (pg_name (i := 4) sc_law.nd rfl (by walk_at "lc")))
  (pss_consD (ps_setQ (ps_set (i := 5) sc_law.nd rfl (by walk_at "lc") (pd_call (pe_callG G_law_tape (hr.less (by decide)) (by rfl) T.m_law_tape F_law_tape.kp b_law_tape .nil pass0 (pa_consP (pd_var 0 (pv 0)) (pa_consP (pd_var 4 (pv 4)) pa_nilP))))))
  (pss_consD (ps_forD (pi_anyD (pd_call (pe_callG G_law_no_texts (hr.less (by decide)) (by rfl) T.m_law_no_texts F_law_no_texts.kp b_law_no_texts .nil pass0 (pa_consP (pd_var 5 (pv 5)) pa_nilP)))) (pg_nameD (pg_name (i := 6) sc_law.nd rfl (by walk_at "lc")))
  (pss_consD (ps_setQ (ps_set (i := 8) sc_law.nd rfl (by walk_at "lc") (pd_cbP cd_repr (pe_callB (call_repr (N := 60) hr (by decide) T.sys) (by rfl) T.n_repr (by decide +kernel) (pa_consP (pd_var 6 (pv 6)) pa_nilP)))))
  (pss_oneD (ps_ifD (PW.pt (pw_orD (pt_cmpD op_isnot_bl (nomark _) opd_isnotB (pd_call (pe_callG G_is_word (hr.less (by decide)) (by rfl) T.m_is_word F_is_word.kp b_is_word .nil pass0 (pa_consP (pd_var 6 (pv 6)) pa_nilP))) pd_bl) (pw_or1D (pt_cmpP (op_neQ (N := 150) (room_u hr (by decide))) (nomark _) opd_ne (pd_cbP cd_repr (pe_callB (call_repr (N := 60) hr (by decide) T.sys) (by rfl) T.n_repr (by decide +kernel) (pa_consP (pd_var 6 (pv 6)) pa_nilP))) (pd_var 8 (pv 8)))))) (pss_oneD (ps_retD pd_bl)) pss_nilD))) PassesOwn.never rfl)
  (pss_oneD (ps_forD (pi_range1D (by rfl) T.n_range (pa_consP pd_int pa_nilP)) (pg_nameD (pg_name (i := 7) sc_law.nd rfl (by walk_at "lc")))
  (pss_consD (ps_setQ (ps_set (i := 9) sc_law.nd rfl (by walk_at "lc") pd_str))
  (pss_consD (ps_forD (pi_range1D (by rfl) T.n_range (pa_consD (pd_call (pe_callG G_law_digit (hr.less (by decide)) (by rfl) T.m_law_digit F_law_digit.kp b_law_digit .nil pass0 (pa_consP (pd_var 5 (pv 5)) (pa_consP pd_int pa_nilP)))) pa_nilD)) (pg_nameD (pg_name (i := 10) sc_law.nd rfl (by walk_at "lc")))
  (pss_oneD (ps_setQ (ps_set (i := 9) sc_law.nd rfl (by walk_at "lc") (pd_bin op_addQ opd_add (pd_var 9 (pv 9)) (pd_ix (pd_var 2 (pv 2)) (pd_call (pe_callG G_law_digit (hr.less (by decide)) (by rfl) T.m_law_digit F_law_digit.kp b_law_digit .nil pass0 (pa_consP (pd_var 5 (pv 5)) (pa_consP pd_int pa_nilP)))) (fun _ _ => rfl)))))) PassesOwn.never rfl)
  (pss_consD (ps_setQ (ps_set (i := 9) sc_law.nd rfl (by walk_at "lc") (pd_ix (PDN.fz (pn_lst (pa_consD (pd_var 9 (pv 9)) (pa_consD (pd_ix (pd_var 1 (pv 1)) (pd_call (pe_callG G_law_digit (hr.less (by decide)) (by rfl) T.m_law_digit F_law_digit.kp b_law_digit .nil pass0 (pa_consP (pd_var 5 (pv 5)) (pa_consP pd_int pa_nilP)))) (fun _ _ => rfl)) pa_nilD)))) (pd_call (pe_callG G_law_digit (hr.less (by decide)) (by rfl) T.m_law_digit F_law_digit.kp b_law_digit .nil pass0 (pa_consP (pd_var 5 (pv 5)) (pa_consP pd_int pa_nilP)))) (fun _ _ => rfl))))
  (pss_consD (ps_setQ (ps_set (i := 11) sc_law.nd rfl (by walk_at "lc") (pd_call (pe_callG G_law_digit (hr.less (by decide)) (by rfl) T.m_law_digit F_law_digit.kp b_law_digit .nil pass0 (pa_consP (pd_var 5 (pv 5)) (pa_consP (pd_binP op_addQ opd_add (pd_cbP cd_len (pe_callB call_len (by rfl) T.n_len PySem.boot_len (pa_consP (pd_var 9 (pv 9)) pa_nilP))) pd_int) pa_nilP))))))
  (pss_consD (ps_setQ (ps_set (i := 12) sc_law.nd rfl (by walk_at "lc") (pd_ix (pd_var 3 (pv 3)) (pd_call (pe_callG G_law_digit (hr.less (by decide)) (by rfl) T.m_law_digit F_law_digit.kp b_law_digit .nil pass0 (pa_consP (pd_var 5 (pv 5)) (pa_consP (pd_cbP cd_len (pe_callB call_len (by rfl) T.n_len PySem.boot_len (pa_consP (pd_var 3 (pv 3)) pa_nilP))) pa_nilP)))) (fun _ _ => rfl))))
  (pss_consD (ps_setQ (ps_set (i := 13) sc_law.nd rfl (by walk_at "lc") (PDN.fzP (pn_lstP (pa_consP (pd_var 9 (pv 9)) (pa_consP (pd_binP op_addQ opd_add (pd_binP op_addQ opd_add (pd_sliceP (pd_slice (pd_var 9 (pv 9)) po_noneD (po_someD (pd_var 11 (pv 11))) (pe_slice sl_q (pd_var 9 (pv 9)) po_noneD (po_someD (pd_var 11 (pv 11)))))) (pd_var 12 (pv 12))) (pd_sliceP (pd_slice (pd_var 9 (pv 9)) (po_someD (pd_var 11 (pv 11))) po_noneD (pe_slice sl_q (pd_var 9 (pv 9)) (po_someD (pd_var 11 (pv 11))) po_noneD)))) (pa_consP (pd_binP op_addQ opd_add (pd_sliceP (pd_slice (pd_var 9 (pv 9)) po_noneD (po_someD (pd_var 11 (pv 11))) (pe_slice sl_q (pd_var 9 (pv 9)) po_noneD (po_someD (pd_var 11 (pv 11)))))) (pd_sliceP (pd_slice (pd_var 9 (pv 9)) (po_someD (pd_binP op_addQ opd_add (pd_var 11 (pv 11)) pd_int)) po_noneD (pe_slice sl_q (pd_var 9 (pv 9)) (po_someD (pd_binP op_addQ opd_add (pd_var 11 (pv 11)) pd_int)) po_noneD)))) pa_nilP)))))))
  (pss_consD (ps_setQ (ps_set (i := 13) sc_law.nd rfl (by walk_at "lc") (pd_bin op_addQ opd_add (pd_var 13 (pv 13)) (PDN.fz (pn_lst (pa_consD (pd_binP op_addQ opd_add (pd_binP op_addQ opd_add (pd_sliceP (pd_slice (pd_var 9 (pv 9)) po_noneD (po_someD (pd_var 11 (pv 11))) (pe_slice sl_q (pd_var 9 (pv 9)) po_noneD (po_someD (pd_var 11 (pv 11)))))) (pd_var 12 (pv 12))) (pd_sliceP (pd_slice (pd_var 9 (pv 9)) (po_someD (pd_binP op_addQ opd_add (pd_var 11 (pv 11)) pd_int)) po_noneD (pe_slice sl_q (pd_var 9 (pv 9)) (po_someD (pd_binP op_addQ opd_add (pd_var 11 (pv 11)) pd_int)) po_noneD)))) (pa_consD (pd_mth0 ty_str md_upper (pe_bm0 PySem.F.plainAttrs_str PySem.F.slot_str_upper PySem.F.type_str_upper mt_upper (pd_var 9 (pv 9)))) (pa_consD (pd_binP op_addQ opd_add (pd_var 9 (pv 9)) (pd_var 9 (pv 9))) pa_nilD))))))))
  (pss_oneD (ps_ifD (pt_notD (pt_valD (pd_cb cd_all (pe_callB (cr_all rfl) (by rfl) T.n_all (by decide +kernel) (pa_consD (PDN.fz (pn_lc (own := [("one", 14)]) (pe_lc (own := [("one", 14)]) rfl sc_law.nd (pi_anyD (pd_var 13 (pv 13))) (blkOk_by (N := ["script", "kept", "letters", "signs", "k", "tape", "thing", "turn", "mine", "text", "number", "at", "sign", "some", "one"]) (sc := defScope s_law) (by decide +kernel)) (fun _ _ _ _ _ => (pg_nameW (pg_name (i := 14) sc_law.nd rfl (by walk_at "lc")) (by decide))) (fun _ _ _ _ _ => pts_nilD) (fun _ _ _ _ _ => (pd_call (pe_callG G_law_right (hr.less (by decide)) (by rfl) T.m_law_right F_law_right.kp b_law_right .nil pass0 (pa_consP (pd_var 14 (pv 14)) pa_nilP))))))) pa_nilD))))) (pss_oneD (ps_retD pd_bl)) pss_nilD))))))))) PassesOwn.never rfl)))) PassesOwn.never rfl)
  (pss_oneD (ps_retD pd_bl)))))))) fun _ _ _ h => h
theorem all_ok (T : Txt K mg f_law_cell_at f_law_tape f_law_digit f_law_no_texts f_is_word f_law_due f_law_right f_law)
    (F_law_cell_at : Fun K "_law_cell_at" "_law_cell_at" s_law_cell_at f_law_cell_at fd_law_cell_at)
    (F_law_tape : Fun K "_law_tape" "_law_tape" s_law_tape f_law_tape fd_law_tape)
    (F_law_digit : Fun K "_law_digit" "_law_digit" s_law_digit f_law_digit fd_law_digit)
    (F_law_no_texts : Fun K "_law_no_texts" "_law_no_texts" s_law_no_texts f_law_no_texts fd_law_no_texts)
    (F_is_word : Fun K "is_word" "is_word" s_is_word f_is_word fd_is_word)
    (F_law_due : Fun K "_law_due" "_law_due" s_law_due f_law_due fd_law_due)
    (F_law_right : Fun K "_law_right" "_law_right" s_law_right f_law_right fd_law_right)
    (F_law : Fun K "law" "law" s_law f_law fd_law) :
    FnG P w K mg base CX0 3 f_law fd_law ["script"] (liftSp K sp_law) := by
  have b_law_cell_at : Binds K fd_law_cell_at ["script", "k"] [] := F_law_cell_at.binds fun _ _ _ _ _ _ us hl => match us, hl with | [_, _], _ => rfl
  have b_law_tape : Binds K fd_law_tape ["script", "k"] [] := F_law_tape.binds fun _ _ _ _ _ _ us hl => match us, hl with | [_, _], _ => rfl
  have b_law_digit : Binds K fd_law_digit ["tape", "many"] [] := F_law_digit.binds fun _ _ _ _ _ _ us hl => match us, hl with | [_, _], _ => rfl
  have b_law_no_texts : Binds K fd_law_no_texts ["tape"] [] := F_law_no_texts.binds fun _ _ _ _ _ _ us hl => match us, hl with | [_], _ => rfl
  have b_is_word : Binds K fd_is_word ["thing"] [] := F_is_word.binds fun _ _ _ _ _ _ us hl => match us, hl with | [_], _ => rfl
  have b_law_due : Binds K fd_law_due ["text"] [] := F_law_due.binds fun _ _ _ _ _ _ us hl => match us, hl with | [_], _ => rfl
  have b_law_right : Binds K fd_law_right ["text"] [] := F_law_right.binds fun _ _ _ _ _ _ us hl => match us, hl with | [_], _ => rfl
  have b_law : Binds K fd_law ["script"] [] := F_law.binds fun _ _ _ _ _ _ us hl => match us, hl with | [_], _ => rfl
  have G_law_cell_at : FnG P w K mg base CX0 1 f_law_cell_at fd_law_cell_at ["script", "k"] (liftSp K sp_law_cell_at) := ok_law_cell_at T   F_law_cell_at
  have G_law_tape : FnG P w K mg base CX0 2 f_law_tape fd_law_tape ["script", "k"] (liftSp K sp_law_tape) := ok_law_tape T F_law_cell_at b_law_cell_at G_law_cell_at F_law_tape
  have G_law_digit : FnG P w K mg base CX0 1 f_law_digit fd_law_digit ["tape", "many"] (liftSp K sp_law_digit) := ok_law_digit T   F_law_digit
  have G_law_no_texts : FnG P w K mg base CX0 2 f_law_no_texts fd_law_no_texts ["tape"] (liftSp K sp_law_no_texts) := ok_law_no_texts T F_law_digit b_law_digit G_law_digit F_law_no_texts
  have G_is_word : FnG P w K mg base CX0 1 f_is_word fd_is_word ["thing"] (liftSp K sp_is_word) := ok_is_word T   F_is_word
  have G_law_due : FnG P w K mg base CX0 1 f_law_due fd_law_due ["text"] (liftSp K sp_law_due) := ok_law_due T   F_law_due
  have G_law_right : FnG P w K mg base CX0 2 f_law_right fd_law_right ["text"] (liftSp K sp_law_right) := ok_law_right T F_is_word b_is_word F_law_due b_law_due G_is_word G_law_due F_law_right
  have G_law : FnG P w K mg base CX0 3 f_law fd_law ["script"] (liftSp K sp_law) := ok_law T F_law_right b_law_right F_law_tape b_law_tape F_law_no_texts b_law_no_texts F_is_word b_is_word F_law_digit b_law_digit G_law_right G_law_tape G_law_no_texts G_is_word G_law_digit F_law
  exact G_law
end
def d_law_cell_at : He.DefD := ⟨("_law_cell_at", none), "_law_cell_at", "_law_cell_at", defArgs s_law_cell_at, defBody s_law_cell_at, defScope s_law_cell_at, [], []⟩
def d_law_tape : He.DefD := ⟨("_law_tape", none), "_law_tape", "_law_tape", defArgs s_law_tape, defBody s_law_tape, defScope s_law_tape, [], []⟩
def d_law_digit : He.DefD := ⟨("_law_digit", none), "_law_digit", "_law_digit", defArgs s_law_digit, defBody s_law_digit, defScope s_law_digit, [], []⟩
def d_law_no_texts : He.DefD := ⟨("_law_no_texts", none), "_law_no_texts", "_law_no_texts", defArgs s_law_no_texts, defBody s_law_no_texts, defScope s_law_no_texts, [], []⟩
def d_is_word : He.DefD := ⟨("is_word", none), "is_word", "is_word", defArgs s_is_word, defBody s_is_word, defScope s_is_word, [], []⟩
def d_law_due : He.DefD := ⟨("_law_due", none), "_law_due", "_law_due", defArgs s_law_due, defBody s_law_due, defScope s_law_due, [], []⟩
def d_law_right : He.DefD := ⟨("_law_right", none), "_law_right", "_law_right", defArgs s_law_right, defBody s_law_right, defScope s_law_right, [], []⟩
def d_law : He.DefD := ⟨("law", none), "law", "law", defArgs s_law, defBody s_law, defScope s_law, [], []⟩
def fn : List He.DefD := [d_law_cell_at, d_law_tape, d_law_digit, d_law_no_texts, d_is_word, d_law_due, d_law_right, d_law]
def fa : List He.Fa := [.glo "_law_cell_at", .glo "_law_tape", .glo "_law_digit", .glo "_law_no_texts", .glo "is_word", .glo "_law_due", .glo "_law_right", .glo "law", .free "abs", .free "all", .free "bool", .free "isinstance", .free "len", .free "list", .free "max", .free "min", .free "range", .free "repr", .free "str", .free "tuple", .str "LETTERS" "abcdefghijklmnopqrstuvwxyz", .glo "KEPT_WORDS"]
def ex (K : PySem.W.Frag) : Bool := true && (K.lookup sysModules).isSome && He.tupB K "KEPT_WORDS" ((["be", "box", "else", "in", "keep", "let", "look", "loose", "open", "zero"] : List Str).map He.Dv.str)
abbrev R : PySem.W.OpenRow := PySem.W.OpenLaw.row PySem.Challenge.rw_sparecount_k09_words
def loose0 : List Str := ["LETTERS", "KEPT_WORDS", "is_word", "_law_cell_at", "_law_tape", "_law_digit", "_law_due", "_law_right", "_law_no_texts"]
abbrev hk : PySem.W.Hook := hookM ex 4 fa fn
def ob (s : PySem.W.SharedT) : Bool × Bool × List He.FnW := obsMG ex 4 fa fn (HandSHeadRun.getT s)
theorem ob_eq (s : PySem.W.SharedT) : ob s = hk.obs s.abs := obsMG_eq (HandSHeadRun.getT_eq s)
theorem run (w : World) : HandSHeadRun.RunEq R (PySem.W.view R.prog [11]) hk ob 6000 (loose0) w := by
  intro os
  kernel_rfl
theorem facts {P : Program} {w : World} {K : PySem.W.Frag} {h : Heap} {mg : Str → Option Value} {f : Addr} (X : K.In h) (G : h.Ns mainGlobals mg) (hfa : mg ("law" : Str) = some (.ref f)) (c0 : SaysM ex fa fn K) :
    ∃ fd : FuncData, (∀ (s : Shared) (v : Value), BindsTo s fd ⟨[v], []⟩ [("script", v)]) ∧ ∀ base : Heap, K.In base → base.Ns mainGlobals mg → FnG P w K mg base CX0 3 f fd ["script"] (liftSp K sp_law) := by
  have c := c0.says
  obtain ⟨fd_law_cell_at, FD_law_cell_at⟩ := c.def_ 0 (d := d_law_cell_at) rfl
  obtain ⟨fd_law_tape, FD_law_tape⟩ := c.def_ 1 (d := d_law_tape) rfl
  obtain ⟨fd_law_digit, FD_law_digit⟩ := c.def_ 2 (d := d_law_digit) rfl
  obtain ⟨fd_law_no_texts, FD_law_no_texts⟩ := c.def_ 3 (d := d_law_no_texts) rfl
  obtain ⟨fd_is_word, FD_is_word⟩ := c.def_ 4 (d := d_is_word) rfl
  obtain ⟨fd_law_due, FD_law_due⟩ := c.def_ 5 (d := d_law_due) rfl
  obtain ⟨fd_law_right, FD_law_right⟩ := c.def_ 6 (d := d_law_right) rfl
  obtain ⟨fd_law, FD_law⟩ := c.def_ 7 (d := d_law) rfl
  have T : Txt K mg (He.ga K "_law_cell_at") (He.ga K "_law_tape") (He.ga K "_law_digit") (He.ga K "_law_no_texts") (He.ga K "is_word") (He.ga K "_law_due") (He.ga K "_law_right") (He.ga K "law") := {
    m_law_cell_at := He.glo_ok X G (c.fact 0 (f := .glo "_law_cell_at") rfl)
    m_law_tape := He.glo_ok X G (c.fact 1 (f := .glo "_law_tape") rfl)
    m_law_digit := He.glo_ok X G (c.fact 2 (f := .glo "_law_digit") rfl)
    m_law_no_texts := He.glo_ok X G (c.fact 3 (f := .glo "_law_no_texts") rfl)
    m_is_word := He.glo_ok X G (c.fact 4 (f := .glo "is_word") rfl)
    m_law_due := He.glo_ok X G (c.fact 5 (f := .glo "_law_due") rfl)
    m_law_right := He.glo_ok X G (c.fact 6 (f := .glo "_law_right") rfl)
    m_law := He.glo_ok X G (c.fact 7 (f := .glo "law") rfl)
    sys := Option.isSome_iff_exists.mp (Bool.and_eq_true_iff.mp (Bool.and_eq_true_iff.mp c0.more).1).2
    n_abs := He.free_ok X G (c.fact 8 (f := .free "abs") rfl)
    n_all := He.free_ok X G (c.fact 9 (f := .free "all") rfl)
    n_bool := He.free_ok X G (c.fact 10 (f := .free "bool") rfl)
    n_isinstance := He.free_ok X G (c.fact 11 (f := .free "isinstance") rfl)
    n_len := He.free_ok X G (c.fact 12 (f := .free "len") rfl)
    n_list := He.free_ok X G (c.fact 13 (f := .free "list") rfl)
    n_max := He.free_ok X G (c.fact 14 (f := .free "max") rfl)
    n_min := He.free_ok X G (c.fact 15 (f := .free "min") rfl)
    n_range := He.free_ok X G (c.fact 16 (f := .free "range") rfl)
    n_repr := He.free_ok X G (c.fact 17 (f := .free "repr") rfl)
    n_str := He.free_ok X G (c.fact 18 (f := .free "str") rfl)
    n_tuple := He.free_ok X G (c.fact 19 (f := .free "tuple") rfl)
    c_LETTERS := He.str_ok X G (c.fact 20 (f := .str "LETTERS" "abcdefghijklmnopqrstuvwxyz") rfl)
    c_KEPT_WORDS := ⟨_, He.glo_ok X G (c.fact 21 (f := .glo "KEPT_WORDS") rfl), tup_fact (Bool.and_eq_true_iff.mp c0.more).2⟩ }
  have e := hfa.symm.trans T.m_law
  cases e
  have b := FunD.bindsA (ps := ["script"]) FD_law fun _ _ _ _ _ _ us hl => match us, hl with | [_], _ => rfl
  exact ⟨fd_law, fun s v => b s [v] rfl, fun base _ _ => all_ok T (fun_of (st := s_law_cell_at) FD_law_cell_at) (fun_of (st := s_law_tape) FD_law_tape) (fun_of (st := s_law_digit) FD_law_digit) (fun_of (st := s_law_no_texts) FD_law_no_texts) (fun_of (st := s_is_word) FD_is_word) (fun_of (st := s_law_due) FD_law_due) (fun_of (st := s_law_right) FD_law_right) (fun_of (st := s_law) FD_law)⟩
/-- the whole, from the law over deep values -/
theorem holds_of (law_true : ∀ ns : List Int, ns.length ≤ 63 → sp_law [.rl (ns.map .int)] (fun _ => none) fun d _ => d = .bl true) : PySem.Challenge.rw_sparecount_k09_words.Holds := by
  open PySem.W PySem.Calls in
  w_on; o_law
  refine HandSHeadRun.head_any (r := PySem.W.OpenLaw.row PySem.Challenge.rw_sparecount_k09_words) (q := PySem.W.view (PySem.W.OpenLaw.row PySem.Challenge.rw_sparecount_k09_words).prog [11]) (H := hk) (ob := ob) (M := 6000) (loose := loose0) (d := HandSHeadRun.topDef (PySem.W.OpenLaw.row PySem.Challenge.rw_sparecount_k09_words).prog 11) (kwd := []) ob_eq
    (by kernel_rfl) (fun s => by kernel_rfl) run (by kernel_rfl) (by kernel_rfl) (by kernel_rfl) (by rfl) (by first | assumption | decide +kernel) (by decide +kernel) ⟨rfl, rfl, rfl, rfl, rfl, by decide +kernel⟩ ?hw ?hc
  case hw => w_witness2
  case hc =>
    refine walk_ofG (l := PySem.Challenge.rw_sparecount_k09_words) (n := 63) (k := 3) (x := "script") (CX := L2.CX0) rfl (by decide) (by kernel_rfl) ⟨⟨rfl, by decide, by decide⟩, rfl⟩ ?F (fun _ _ _ _ z => z)
    intro w mg fa h Y G hmg0
    obtain ⟨K, KX, c⟩ := Y
    have hmg : mg ("law" : PySem.Str) = some (.ref fa) := by
      have e : (HandSHeadRun.topDef (PySem.W.OpenLaw.row PySem.Challenge.rw_sparecount_k09_words).prog 11).name = ("law" : PySem.Str) := by kernel_rfl
      rw [← e]
      exact hmg0
    obtain ⟨fd, hb, hF⟩ := facts (P := (PySem.Challenge.rw_sparecount_k09_words).prog) (w := w) KX G hmg c
    exact ⟨K, fd, liftSp K sp_law, KX, hb, fun H a ns hl _ hS => law_sp law_true H a ns hl hS, hF⟩
end DL.WK09
theorem PySem.Challenge.cw_sparecount_k09_words_holds : PySem.Challenge.rw_sparecount_k09_words.Holds := by
  exact DL.WK09.holds_of DL.law_true
