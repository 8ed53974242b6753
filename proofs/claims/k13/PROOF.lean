import PyProof.Rows.All
import Wide.All
import OpenK.AllK
import Wide.FinOn
import HandS.ForMost
import HandS.EndBits
import HandS.Wide
import HandS.IsInst
import HandS.StrMore
import HandS.RevRange
import HandS.Style
import HandS.TupAny
import HandS.TupMul
import HandS.Walk
import HandS.Zip
import HandS.Flow
import HandS.Deep
import KE.KeyNested
import PyProof.ListStr
import HandS.Strs
import HandS.Conv
import KE.DataCmp
import HandS.Exc
import HandS.ExcOwn
import HandS.WordsExc
import HandS.ExcIs
import HandS.TryOnly
import HandS.SortInts
import HandS.Set
import HandS.More
import PyProof.Rows.StrMeet
import KE.KDictKeyed
import KE.KDictWalk
import KE.KDictCopyH
import KE.KDictList
import PyProof.Rows.SeqRoads
import KE.KDictDisplayH
import KE.SortData
import KE.DataMinMax
import PySem.Challenge.RW_cutwidths_k13_whole_ends_exchanged
set_option Elab.async false
set_option linter.all false
set_option maxRecDepth 100000
set_option autoImplicit false
/-! the data layer: plain values, their place in a heap, a frame of slots -/
namespace PD
open PySem L2

inductive D where
  | non | bl (b : Bool) | int (i : Int) | str (s : List Nat) | lst (xs : List D) | tup (xs : List D) | scr (xs : List D) | dct (ks xs : List D)

def mk (s : List Nat) : Str := ⟨s.toArray⟩
theorem mk_tl (s : List Nat) : (mk s).cps.toList = s := rfl
theorem mk_len (s : List Nat) : (mk s).length = s.length := by simp [mk, Str.length]
theorem mk_of (x : Str) : mk x.cps.toList = x := by cases x; rfl
theorem mk_inj {a b : List Nat} (h : mk a = mk b) : a = b := by
  have := congrArg (fun x : Str => x.cps.toList) h
  exact this
theorem mk_app (a b : List Nat) : mk a ++ mk b = mk (a ++ b) := by
  have h : (mk a ++ mk b).cps.toList = a ++ b := TL.tl_append (mk a) (mk b)
  rw [← mk_of (mk a ++ mk b), h]

/-- a list, a tuple that may be read and is not among M; or one of the written part -/
def KnT (K : PySem.W.Frag) (a : Addr) (xs : List V) : Prop :=
  ∃ (o : Obj) (its : Array Value) (n : Nat), K.lookup a = some o ∧ o.cls = .type "tuple" ∧ o.data = .seq its n ∧ its.size ≤ sizeLine ∧ Vals xs its.toList
def LM (M : Addr → Prop) (H : Hp) (a : Addr) (xs : List V) : Prop := ¬ M a ∧ H a = some (.lst xs)
def KnL (K : PySem.W.Frag) (a : Addr) (xs : List V) : Prop :=
  ∃ (o : Obj) (its : Array Value) (n : Nat), K.lookup a = some o ∧ o.cls = .type "list" ∧ o.dict = none ∧ o.data = .seq its n ∧ its.size ≤ sizeLine ∧ Vals xs its.toList
def SM (K : PySem.W.Frag) (M : Addr → Prop) (H : Hp) (a : Addr) (xs : List V) : Prop := (¬ M a ∧ ∃ o, H a = some (.frz o (.lst xs))) ∨ KnL K a xs
/-- a key's hash where no text stands in it -/
def numD : D → Option Int
  | .int i => some i | .bl b => some (if b = true then 1 else 0) | _ => none
mutual
/-- data as keys -/
def nkD : D → NestedKey
  | .int i => .num i | .bl b => .num (if b = true then 1 else 0) | .str s => .text (mk s) | .tup ds => .tup (nkDL ds) | _ => .none
def nkDL : List D → List NestedKey
  | [] => [] | d :: ds => nkD d :: nkDL ds
end
mutual
/-- .. of whole numbers, bools, tuples of them, to a depth -/
def inK : Nat → D → Bool
  | _, .int _ => true | _, .bl _ => true | n + 1, .tup ds => inKL n ds | _, _ => false
def inKL : Nat → List D → Bool
  | _, [] => true | n, d :: ds => inK n d && inKL n ds
end
def isTK : D → Bool
  | .tup ds => inKL 7 ds | _ => false
mutual
def hashK : NestedKey → Int
  | .num i => hashInt i | .tup ks => reduceHash (Builtin.Tuple.tupleHashOf (hashKL ks)) | _ => 0
def hashKL : List NestedKey → List Int
  | [] => [] | k :: ks => hashK k :: hashKL ks
end
/-- a dict whose keys are tuples, at a: its entries by what their hashes, keys and values are -/
def tD (a : Addr) (hs : List Int) (kus us : List V) : HO := .ext fun h => (a == sysModules) = false ∧ ∃ o es ep, h.get? a = some o ∧ o.ExactDict ∧ o.data = .dict es ep ∧
  es.toList.map (·.hash) = hs ∧ Vals kus (es.toList.map (·.key)) ∧ Vals us (es.toList.map (·.val))
/-- a thing that is a dict: its keys, its values -/
def DObj (a : Addr) (u : HO) (ks : List D) (kus us : List V) : Prop := (∃ kvs : List (Key × V), u = .dK kvs ∧ kus = kvs.map (fun p => kV p.1) ∧ us = kvs.map (·.2)) ∨
  (u = tD a (ks.map fun d => hashK (nkD d)) kus us ∧ ks ≠ [] ∧ (∀ k, k ∈ ks → isTK k = true) ∧ (ks.map nkD).Nodup ∧ ks.length ≤ sizeLine ∧ kus.length = us.length)
def FM (M : Addr → Prop) (H : Hp) (a : Addr) (ks : List D) (kus us : List V) : Prop := ¬ M a ∧ ∃ o u, H a = some (.frz o u) ∧ DObj a u ks kus us
def TM (K : PySem.W.Frag) (M : Addr → Prop) (H : Hp) (a : Addr) (xs : List V) : Prop := (¬ M a ∧ Rd H a (.tup xs)) ∨ KnT K a xs
section
variable {K : PySem.W.Frag} {M M' : Addr → Prop} {H H' : Hp} {a : Addr} {xs : List V}
theorem LM.seq (h : LM M H a xs) : SqL K H a xs := .inl (.inl h.2)
theorem SM.seq (h : SM K M H a xs) : SqL K H a xs := h.elim (fun h => .inl (.inr h.2)) .inr
theorem TM.seq (h : TM K M H a xs) : SqT K H a xs := h.elim (fun h => .inl h.2) .inr
/-- what stays: whatever is tracked and not among M is as it was, and is not among M' -/
def Keep (M M' : Addr → Prop) (H H' : Hp) : Prop := ∀ b o, H b = some o → ¬ M b → H' b = some o ∧ ¬ M' b
theorem Keep.rd (k : Keep M M' H H') (u : HO) (hm : ¬ M a) (h : Rd H a u) : ¬ M' a ∧ Rd H' a u := by
  rcases h with h | ⟨o, h⟩
  · exact ⟨(k _ _ h hm).2, .inl (k _ _ h hm).1⟩
  · exact ⟨(k _ _ h hm).2, .inr ⟨o, (k _ _ h hm).1⟩⟩
theorem LM.keep (k : Keep M M' H H') (h : LM M H a xs) : LM M' H' a xs := ⟨(k _ _ h.2 h.1).2, (k _ _ h.2 h.1).1⟩
theorem SM.keep (k : Keep M M' H H') (h : SM K M H a xs) : SM K M' H' a xs := h.elim (fun h => let ⟨o, e⟩ := h.2; .inl ⟨(k _ _ e h.1).2, o, (k _ _ e h.1).1⟩) .inr
theorem FM.keep {ks : List D} {us : List V} (k : Keep M M' H H') (h : FM M H a ks xs us) : FM M' H' a ks xs us := let ⟨n, o, u, e, d⟩ := h; ⟨(k _ _ e n).2, o, u, (k _ _ e n).1, d⟩
theorem TM.keep (k : Keep M M' H H') (h : TM K M H a xs) : TM K M' H' a xs := h.elim (fun h => .inl (k.rd _ h.1 h.2)) .inr
end

mutual
def Rep (K : PySem.W.Frag) (M : Addr → Prop) (H : Hp) : D → V → Prop
  | .non, v => v = .non
  | .bl b, v => v = .bl b
  | .int i, v => v = .int i
  | .str s, v => v = .str (mk s)
  | .lst ds, v => ∃ a vs, v = .ref a ∧ LM M H a vs ∧ RepL K M H ds vs
  | .scr ds, v => ∃ a vs, v = .ref a ∧ SM K M H a vs ∧ RepL K M H ds vs
  | .tup ds, v => ∃ a vs, v = .ref a ∧ TM K M H a vs ∧ RepL K M H ds vs
  | .dct ks ds, v => ∃ a kus vs, v = .ref a ∧ FM M H a ks kus vs ∧ RepL K M H ks kus ∧ RepL K M H ds vs
def RepL (K : PySem.W.Frag) (M : Addr → Prop) (H : Hp) : List D → List V → Prop
  | [], vs => vs = []
  | d :: ds, vs => ∃ v r, vs = v :: r ∧ Rep K M H d v ∧ RepL K M H ds r
end
section
variable {K : PySem.W.Frag} {M M' : Addr → Prop} {H H' : Hp} {a : Addr} {xs : List V}
mutual
theorem Rep.keep (k : Keep M M' H H') : ∀ {d : D} {v : V}, Rep K M H d v → Rep K M' H' d v
  | .non, _, h => by simpa only [Rep] using h
  | .bl b, _, h => by simpa only [Rep] using h
  | .int i, _, h => by simpa only [Rep] using h
  | .str s, _, h => by simpa only [Rep] using h
  | .lst ds, _, h => by
    simp only [Rep] at h ⊢
    obtain ⟨a, vs, e, l, r⟩ := h
    exact ⟨a, vs, e, l.keep k, RepL.keep k r⟩
  | .tup ds, _, h => by
    simp only [Rep] at h ⊢
    obtain ⟨a, vs, e, l, r⟩ := h
    exact ⟨a, vs, e, l.keep k, RepL.keep k r⟩
  | .scr ds, _, h => by
    simp only [Rep] at h ⊢
    obtain ⟨a, vs, e, l, r⟩ := h
    exact ⟨a, vs, e, l.keep k, RepL.keep k r⟩
  | .dct ks ds, _, h => by
    simp only [Rep] at h ⊢
    obtain ⟨a, kus, vs, e, l, r1, r⟩ := h
    exact ⟨a, kus, vs, e, l.keep k, RepL.keep k r1, RepL.keep k r⟩
theorem RepL.keep (k : Keep M M' H H') : ∀ {ds : List D} {vs : List V}, RepL K M H ds vs → RepL K M' H' ds vs
  | [], _, h => by simpa only [RepL] using h
  | d :: ds, _, h => by
    simp only [RepL] at h ⊢
    obtain ⟨v, r, e, h1, h2⟩ := h
    exact ⟨v, r, e, Rep.keep k h1, RepL.keep k h2⟩
end
theorem RepL.length : ∀ {ds : List D} {vs : List V}, RepL K M H ds vs → vs.length = ds.length
  | [], _, h => by simp only [RepL] at h; subst h; rfl
  | d :: ds, _, h => by
    simp only [RepL] at h
    obtain ⟨v, r, e, h1, h2⟩ := h
    subst e
    simp [RepL.length h2]
theorem RepL.nil : RepL K M H [] [] := by simp only [RepL]
theorem RepL.cons {d : D} {v : V} {ds : List D} {vs : List V} (h : Rep K M H d v) (t : RepL K M H ds vs) : RepL K M H (d :: ds) (v :: vs) := by
  simp only [RepL]; exact ⟨v, vs, rfl, h, t⟩
theorem RepL.app : ∀ {ds es : List D} {vs us : List V}, RepL K M H ds vs → RepL K M H es us → RepL K M H (ds ++ es) (vs ++ us)
  | [], _, _, _, h, t => by simp only [RepL] at h; subst h; simpa using t
  | d :: ds, _, _, _, h, t => by
    simp only [RepL] at h
    obtain ⟨v, r, e, h1, h2⟩ := h
    subst e
    exact RepL.cons h1 (RepL.app h2 t)
theorem RepL.get : ∀ {ds : List D} {vs : List V} {i : Nat} {d : D}, RepL K M H ds vs → ds[i]? = some d → ∃ v, vs[i]? = some v ∧ Rep K M H d v
  | [], _, _, _, _, e => by simp at e
  | d :: ds, _, 0, _, h, e => by
    simp only [RepL] at h
    obtain ⟨v, r, e', h1, h2⟩ := h
    subst e'
    simp at e; subst e
    exact ⟨v, rfl, h1⟩
  | d :: ds, _, i + 1, _, h, e => by
    simp only [RepL] at h
    obtain ⟨v, r, e', h1, h2⟩ := h
    subst e'
    exact RepL.get (i := i) h2 (by simpa using e)
theorem RepL.set : ∀ {ds : List D} {vs : List V} {i : Nat} {d : D} {v : V}, RepL K M H ds vs → Rep K M H d v → RepL K M H (ds.set i d) (vs.set i v)
  | [], _, _, _, _, h, _ => by simp only [RepL] at h; subst h; exact RepL.nil
  | d :: ds, _, 0, _, _, h, q => by
    simp only [RepL] at h
    obtain ⟨v, r, e', h1, h2⟩ := h
    subst e'
    exact RepL.cons q h2
  | d :: ds, _, i + 1, _, _, h, q => by
    simp only [RepL] at h
    obtain ⟨v, r, e', h1, h2⟩ := h
    subst e'
    exact RepL.cons h1 (RepL.set (i := i) h2 q)
theorem RepL.take : ∀ {ds : List D} {vs : List V} (n : Nat), RepL K M H ds vs → RepL K M H (ds.take n) (vs.take n)
  | _, _, 0, _ => by simpa using RepL.nil
  | [], _, _ + 1, h => by simp only [RepL] at h; subst h; exact RepL.nil
  | d :: ds, _, n + 1, h => by
    simp only [RepL] at h
    obtain ⟨v, r, e', h1, h2⟩ := h
    subst e'
    exact RepL.cons h1 (RepL.take n h2)
theorem RepL.drop : ∀ {ds : List D} {vs : List V} (n : Nat), RepL K M H ds vs → RepL K M H (ds.drop n) (vs.drop n)
  | _, _, 0, h => h
  | [], _, _ + 1, h => by simp only [RepL] at h; subst h; exact RepL.nil
  | d :: ds, _, n + 1, h => by
    simp only [RepL] at h
    obtain ⟨v, r, e', h1, h2⟩ := h
    subst e'
    exact RepL.drop n h2
theorem RepL.reverse {ds : List D} {vs : List V} (h : RepL K M H ds vs) : RepL K M H ds.reverse vs.reverse := by
  induction ds generalizing vs with
  | nil => simp only [RepL] at h; subst h; exact RepL.nil
  | cons d ds ih =>
    simp only [RepL] at h
    obtain ⟨v, r, e', h1, h2⟩ := h
    subst e'
    rw [List.reverse_cons, List.reverse_cons]
    exact RepL.app (ih h2) (RepL.cons h1 RepL.nil)
end

/-! ### slots -/
inductive Sl where
  | emp | dat (d : D) | own (ds : List D) | ino (ds : List D) | dic (ks vs : List D)
abbrev Rho := List Sl
/-- what an owned slot holds: a list, a dict -/
inductive Cn where
  | L (ds : List D) | M (ks vs : List D)
def IsOwn (ρ : Rho) (i : Nat) : Cn → Prop
  | .L ds => ρ[i]? = some (Sl.own ds) ∨ ρ[i]? = some (Sl.ino ds)
  | .M ks vs => ρ[i]? = some (Sl.dic ks vs)
def Own (ρ : Rho) (as : Nat → Addr) (a : Addr) : Prop := ∃ i ds, IsOwn ρ i ds ∧ as i = a
def Held (K : PySem.W.Frag) (M : Addr → Prop) (H : Hp) (a : Addr) : Cn → Prop
  | .L ds => ∃ vs, H a = some (.lst vs) ∧ vs.length ≤ sizeLine ∧ RepL K M H ds vs
  | .M ks ds => ∃ kus vs u, H a = some u ∧ DObj a u ks kus vs ∧ RepL K M H ks kus ∧ RepL K M H ds vs
theorem Held.keep {K : PySem.W.Frag} {M M' : Addr → Prop} {H H' : Hp} {a : Addr} {c : Cn} (h : Held K M H a c) (k : Keep M M' H H') (e : ∀ o, H a = some o → H' a = some o) : Held K M' H' a c := by
  cases c with
  | L ds => obtain ⟨vs, e1, z, r⟩ := h; exact ⟨vs, e _ e1, z, r.keep k⟩
  | M ks ds => obtain ⟨kus, vs, u, e1, z, r1, r⟩ := h; exact ⟨kus, vs, u, e _ e1, z, r1.keep k, r.keep k⟩
theorem Held.trk {K : PySem.W.Frag} {M : Addr → Prop} {H : Hp} {a : Addr} {c : Cn} (h : Held K M H a c) : ∃ o, H a = some o := by
  cases c with
  | L ds => obtain ⟨vs, e1, _⟩ := h; exact ⟨_, e1⟩
  | M ks ds => obtain ⟨_, _, u, e1, _⟩ := h; exact ⟨_, e1⟩
/-- which slots are owned, of two frames alike -/
theorem isOwn_cong {ρ ρ' : Rho} {i j : Nat} {c : Cn} (e : ρ[i]? = ρ'[j]?) : IsOwn ρ i c ↔ IsOwn ρ' j c := by
  cases c <;> simp only [IsOwn, e]
theorem isOwn_not {ρ : Rho} {i : Nat} {c : Cn} (h : IsOwn ρ i c) : (∃ ds, ρ[i]? = some (.own ds)) ∨ (∃ ds, ρ[i]? = some (.ino ds)) ∨ ∃ ks vs, ρ[i]? = some (.dic ks vs) := by
  cases c with
  | L ds => exact h.elim (fun z => .inl ⟨_, z⟩) fun z => .inr (.inl ⟨_, z⟩)
  | M ks vs => exact .inr (.inr ⟨_, _, h⟩)
def MM (Ex : Addr → Prop) (ρ : Rho) (as : Nat → Addr) (a : Addr) : Prop := Ex a ∨ Own ρ as a
structure Ok (K : PySem.W.Frag) (Ex : Addr → Prop) (σ : St) (H : Hp) (ρ : Rho) (as : Nat → Addr) : Prop where
  len : ρ.length = σ.length
  exs : ∀ a, Ex a → ∃ o, H a = some o
  dat : ∀ (i : Nat) (d : D), ρ[i]? = some (Sl.dat d) → ∃ v, σ[i]? = some (some v) ∧ Rep K (MM Ex ρ as) H d v
  own : ∀ (i : Nat) (ds : Cn), IsOwn ρ i ds → σ[i]? = some (some (.ref (as i))) ∧ ¬ Ex (as i) ∧ Held K (MM Ex ρ as) H (as i) ds
  inj : ∀ (i j : Nat) (ds es : Cn), IsOwn ρ i ds → IsOwn ρ j es → as i = as j → i = j
/-- all that was tracked, but O, is as it was; all stays tracked -/
def Fr (O : Addr → Prop) (H H' : Hp) : Prop := ∀ a o, H a = some o → (¬ O a → H' a = some o) ∧ ∃ o', H' a = some o'
/-- from one frame of slots to a later one: new owned things are new; what came in by reference stays so -/
structure Go (H : Hp) (ρ : Rho) (as : Nat → Addr) (ρ' : Rho) (as' : Nat → Addr) : Prop where
  own : ∀ a, Own ρ' as' a → Own ρ as a ∨ H a = none
  ino : ∀ (i : Nat) (ds : List D), ρ[i]? = some (Sl.ino ds) → (∃ ds', ρ'[i]? = some (Sl.ino ds')) ∧ as' i = as i
  ini : ∀ (i : Nat) (ds : List D), ρ'[i]? = some (Sl.ino ds) → ∃ ds', ρ[i]? = some (Sl.ino ds')
theorem Go.refl {H : Hp} {ρ : Rho} {as : Nat → Addr} : Go H ρ as ρ as := ⟨fun _ h => .inl h, fun _ ds h => ⟨⟨ds, h⟩, rfl⟩, fun _ ds h => ⟨ds, h⟩⟩
theorem Fr.refl {O : Addr → Prop} {H : Hp} : Fr O H H := fun _ o h => ⟨fun _ => h, o, h⟩
theorem Fr.of_same {O : Addr → Prop} {H H' : Hp} (s : Same H H') : Fr O H H' := fun a o h => ⟨fun _ => s a o h, o, s a o h⟩
theorem Fr.free {O : Addr → Prop} {H H' : Hp} (f : Fr O H H') {a : Addr} (h : H' a = none) : H a = none := by
  cases q : H a with
  | none => rfl
  | some o =>
    obtain ⟨_, o', e⟩ := f a o q
    rw [h] at e; cases e
section
variable {K : PySem.W.Frag} {Ex Ex' : Addr → Prop} {σ : St} {H H1 H2 : Hp} {ρ ρ1 ρ2 : Rho} {as as1 as2 : Nat → Addr}
theorem Ok.ownTrk (k : Ok K Ex σ H ρ as) {a : Addr} (h : Own ρ as a) : ∃ o, H a = some o := by
  obtain ⟨i, ds, h, e⟩ := h
  obtain ⟨_, _, h1⟩ := k.own i ds h
  exact e ▸ h1.trk
theorem Ok.trk (k : Ok K Ex σ H ρ as) {a : Addr} (h : MM Ex ρ as a) : ∃ o, H a = some o := by
  rcases h with h | h
  · exact k.exs a h
  · exact k.ownTrk h
theorem Fr.trans (f1 : Fr (Own ρ as) H H1) (g1 : Go H ρ as ρ1 as1) (f2 : Fr (Own ρ1 as1) H1 H2) : Fr (Own ρ as) H H2 := fun a o h => by
  obtain ⟨e1, o1, t1⟩ := f1 a o h
  refine ⟨fun hO => (f2 a o (e1 hO)).1 fun h1 => (g1.own a h1).elim hO fun z => ?_, (f2 a o1 t1).2⟩
  rw [h] at z; cases z
theorem Go.trans (f1 : Fr (Own ρ as) H H1) (g1 : Go H ρ as ρ1 as1) (g2 : Go H1 ρ1 as1 ρ2 as2) : Go H ρ as ρ2 as2 where
  own := fun a h => by
    rcases g2.own a h with h | h
    · exact g1.own a h
    · exact .inr (f1.free h)
  ino := fun i ds h => by
    obtain ⟨⟨ds1, h1⟩, e1⟩ := g1.ino i ds h
    obtain ⟨h2, e2⟩ := g2.ino i ds1 h1
    exact ⟨h2, e2.trans e1⟩
  ini := fun i ds h => by
    obtain ⟨ds1, h1⟩ := g2.ini i ds h
    exact g1.ini i ds1 h1
/-- data that stand aside stay -/
theorem Keep.of (f : Fr (Own ρ as) H H1) (g : Go H ρ as ρ1 as1) : Keep (MM Ex ρ as) (MM Ex ρ1 as1) H H1 := fun b o h hm =>
  ⟨(f b o h).1 fun z => hm (.inr z), fun z => z.elim (fun z => hm (.inl z)) fun z => (g.own b z).elim (fun z => hm (.inr z)) fun z => by rw [h] at z; cases z⟩
/-- only new things -/
theorem Keep.same {M : Addr → Prop} (s : Same H H1) : Keep M M H H1 := fun b o h hm => ⟨s b o h, hm⟩
theorem Ok.same (k : Ok K Ex σ H ρ as) (s : Same H H1) : Ok K Ex σ H1 ρ as where
  len := k.len
  exs := fun a h => let ⟨o, e⟩ := k.exs a h; ⟨o, s a o e⟩
  dat := fun i d h => let ⟨v, e, r⟩ := k.dat i d h; ⟨v, e, r.keep (Keep.same s)⟩
  own := fun i ds h => let ⟨e, n, r⟩ := k.own i ds h; ⟨e, n, r.keep (Keep.same s) fun o q => s _ o q⟩
  inj := k.inj
end
theorem Keep.sub {M M' : Addr → Prop} {H : Hp} (h : ∀ a, M' a → M a) : Keep M M' H H := fun _ _ e hm => ⟨e, fun z => hm (h _ z)⟩
abbrev C (α : Type) := Rho → Option (α × Rho)
def Bot : Addr → Prop := fun _ => False
theorem Keep.bot {M : Addr → Prop} {H : Hp} : Keep M Bot H H := fun _ _ h _ => ⟨h, fun z => z⟩

/-! ### judgements -/
/-- an expression, its value data that stand aside of all that is owned -/
structure DE (X : Cx) (e : Expr) (f : C D) : Prop where
  ex : ∃ t, PE X e t ∧ ∀ (Ex : Addr → Prop) (σ : St) (H : Hp) (ρ : Rho) (as : Nat → Addr) (d : D) (ρ' : Rho) (Q : VK), Ok X.K Ex σ H ρ as → f ρ = some (d, ρ') →
    (∀ v H', Ok X.K Ex σ H' ρ' as → Fr (Own ρ as) H H' → Go H ρ as ρ' as → Rep X.K (MM Ex ρ' as) H' d v → Q v H') → t σ H Q
/-- several -/
structure DA (X : Cx) (es : List Expr) (f : C (List D)) : Prop where
  ex : ∃ t, PA X es t ∧ ∀ (Ex : Addr → Prop) (σ : St) (H : Hp) (ρ : Rho) (as : Nat → Addr) (ds : List D) (ρ' : Rho) (Q : List V → Hp → Prop), Ok X.K Ex σ H ρ as → f ρ = some (ds, ρ') →
    (∀ vs H', Ok X.K Ex σ H' ρ' as → Fr (Own ρ as) H H' → Go H ρ as ρ' as → RepL X.K (MM Ex ρ' as) H' ds vs → Q vs H') → t σ H Q
/-- a new list that nothing else holds -/
structure DO (X : Cx) (e : Expr) (f : C (List D)) : Prop where
  ex : ∃ t, PE X e t ∧ ∀ (Ex : Addr → Prop) (σ : St) (H : Hp) (ρ : Rho) (as : Nat → Addr) (ds : List D) (ρ' : Rho) (Q : VK), Ok X.K Ex σ H ρ as → f ρ = some (ds, ρ') →
    (∀ a vs H', Ok X.K (fun b => Ex b ∨ b = a) σ H' ρ' as → Fr (Own ρ as) H H' → Go H ρ as ρ' as → H a = none → H' a = some (.lst vs) → vs.length ≤ sizeLine → RepL X.K (MM (fun b => Ex b ∨ b = a) ρ' as) H' ds vs → Q (.ref a) H') → t σ H Q
/-- a look at a thing, that is not kept -/
structure DP (X : Cx) (e : Expr) (f : Rho → Option D) : Prop where
  ex : ∃ t, PE X e t ∧ ∀ (Ex : Addr → Prop) (σ : St) (H : Hp) (ρ : Rho) (as : Nat → Addr) (d : D) (Q : VK), Ok X.K Ex σ H ρ as → f ρ = some d → (∀ v, Rep X.K Bot H d v → Q v H) → t σ H Q
/-- a test -/
structure DT (X : Cx) (e : Expr) (f : C Bool) : Prop where
  ex : ∃ t, PT X e t ∧ ∀ (Ex : Addr → Prop) (σ : St) (H : Hp) (ρ : Rho) (as : Nat → Addr) (b : Bool) (ρ' : Rho) (Q : Bool → Hp → Prop), Ok X.K Ex σ H ρ as → f ρ = some (b, ρ') →
    (∀ H', Ok X.K Ex σ H' ρ' as → Fr (Own ρ as) H H' → Go H ρ as ρ' as → Q b H') → t σ H Q
/-- a test in a chain of and, or -/
structure DW (X : Cx) (e : Expr) (f : C Bool) : Prop where
  ex : ∃ t, PW X e t ∧ ∀ (Ex : Addr → Prop) (σ : St) (H : Hp) (ρ : Rho) (as : Nat → Addr) (b : Bool) (ρ' : Rho) (Q : Bool → Hp → Prop), Ok X.K Ex σ H ρ as → f ρ = some (b, ρ') →
    (∀ H', Ok X.K Ex σ H' ρ' as → Fr (Own ρ as) H H' → Go H ρ as ρ' as → Q b H') → t σ H Q
inductive Out where
  | nx (ρ : Rho) | rt (d : D) (ρ : Rho) | bk (ρ : Rho) | ct (ρ : Rho)
/-- how a def's value is handed back: as data, or as a list that nothing else holds -/
def RR (ow : Bool) (K : PySem.W.Frag) (Ex : Addr → Prop) (ρ : Rho) (as : Nat → Addr) (ρ' : Rho) (as' : Nat → Addr) (H H' : Hp) (d : D) (v : V) : Prop :=
  if ow = true then ∃ a vs ds, v = .ref a ∧ d = .lst ds ∧ (Own ρ as a ∨ H a = none) ∧ ¬ Ex a ∧ H' a = some (.lst vs) ∧ vs.length ≤ sizeLine ∧ (∀ (i : Nat) (es : List D), ρ'[i]? = some (Sl.ino es) → as' i ≠ a) ∧
    RepL K (fun b => Ex b ∨ b = a ∨ ∃ (i : Nat) (es : List D), ρ'[i]? = some (Sl.ino es) ∧ as' i = b) H' ds vs
  else Rep K (MM Ex ρ' as') H' d v
def Post (X : Cx) (ow : Bool) (Ex : Addr → Prop) (H : Hp) (ρ : Rho) (as : Nat → Addr) (D : Ends) : Out → Prop
  | .nx ρ' => ∀ σ' H' as', Ok X.K Ex σ' H' ρ' as' → Fr (Own ρ as) H H' → Go H ρ as ρ' as' → D.nx σ' H'
  | .bk ρ' => ∀ σ' H' as', Ok X.K Ex σ' H' ρ' as' → Fr (Own ρ as) H H' → Go H ρ as ρ' as' → D.bk σ' H'
  | .ct ρ' => ∀ σ' H' as', Ok X.K Ex σ' H' ρ' as' → Fr (Own ρ as) H H' → Go H ρ as ρ' as' → D.ct σ' H'
  | .rt d ρ' => ∀ v σ' H' as', Ok X.K Ex σ' H' ρ' as' → Fr (Own ρ as) H H' → Go H ρ as ρ' as' → RR ow X.K Ex ρ as ρ' as' H H' d v → D.rt v H'
structure DS (X : Cx) (ow : Bool) (st : Stmt) (f : Rho → Option Out) : Prop where
  ex : ∃ t, PS X st t ∧ ∀ (Ex : Addr → Prop) (σ : St) (H : Hp) (ρ : Rho) (as : Nat → Addr) (o : Out) (D : Ends), Ok X.K Ex σ H ρ as → f ρ = some o → Post X ow Ex H ρ as D o → t D σ H
structure DSs (X : Cx) (ow : Bool) (st : List Stmt) (f : Rho → Option Out) : Prop where
  ex : ∃ t, PSs X st t ∧ ∀ (Ex : Addr → Prop) (σ : St) (H : Hp) (ρ : Rho) (as : Nat → Addr) (o : Out) (D : Ends), Ok X.K Ex σ H ρ as → f ρ = some o → Post X ow Ex H ρ as D o → t D σ H
end PD

namespace PD
open PySem L2

/-! ### values by values -/
abbrev Trk (M : Addr → Prop) (H : Hp) : Prop := ∀ a, M a → ∃ o, H a = some o
def V1 (K : PySem.W.Frag) (r : V → Hp → VK → Prop) (fn : D → Option D) : Prop := ∀ (M : Addr → Prop) (H : Hp) (x : V) (d res : D) (Q : VK), Trk M H → Rep K M H d x → fn d = some res → (∀ v H', Same H H' → Rep K M H' res v → Q v H') → r x H Q
def V2 (K : PySem.W.Frag) (r : R2) (fn : D → D → Option D) : Prop := ∀ (M : Addr → Prop) (H : Hp) (x y : V) (d e res : D) (Q : VK), Trk M H → Rep K M H d x → Rep K M H e y → fn d e = some res → (∀ v H', Same H H' → Rep K M H' res v → Q v H') → r x y H Q
def VN (K : PySem.W.Frag) (r : List V → Hp → VK → Prop) (fn : List D → Option D) : Prop := ∀ (M : Addr → Prop) (H : Hp) (xs : List V) (ds : List D) (res : D) (Q : VK), Trk M H → RepL K M H ds xs → fn ds = some res → (∀ v H', Same H H' → Rep K M H' res v → Q v H') → r xs H Q
/-- .. with a new list -/
def V1o (K : PySem.W.Frag) (r : V → Hp → VK → Prop) (fn : D → Option (List D)) : Prop := ∀ (M : Addr → Prop) (H : Hp) (x : V) (d : D) (res : List D) (Q : VK), Trk M H → Rep K M H d x → fn d = some res → (∀ p vs, H p = none → vs.length ≤ sizeLine → RepL K M H res vs → Q (.ref p) (upd H p (.lst vs))) → r x H Q
def V2o (K : PySem.W.Frag) (r : R2) (fn : D → D → Option (List D)) : Prop := ∀ (M : Addr → Prop) (H : Hp) (x y : V) (d e : D) (res : List D) (Q : VK), Trk M H → Rep K M H d x → Rep K M H e y → fn d e = some res → (∀ p vs, H p = none → vs.length ≤ sizeLine → RepL K M H res vs → Q (.ref p) (upd H p (.lst vs))) → r x y H Q
def VNo (K : PySem.W.Frag) (r : List V → Hp → VK → Prop) (fn : List D → Option (List D)) : Prop := ∀ (M : Addr → Prop) (H : Hp) (xs : List V) (ds res : List D) (Q : VK), Trk M H → RepL K M H ds xs → fn ds = some res → (∀ p vs, H p = none → vs.length ≤ sizeLine → RepL K M H res vs → Q (.ref p) (upd H p (.lst vs))) → r xs H Q
theorem same_upd {H : Hp} {p : Addr} {o : HO} (h : H p = none) : Same H (upd H p o) := fun b u e => by
  rw [upd_ne (ne_of_none e h)]; exact e
theorem Rep.up {K : PySem.W.Frag} {M : Addr → Prop} {H : Hp} {p : Addr} {o : HO} (h : H p = none) {d : D} {v : V} (r : Rep K M H d v) : Rep K M (upd H p o) d v := r.keep (Keep.same (same_upd h))
theorem RepL.up {K : PySem.W.Frag} {M : Addr → Prop} {H : Hp} {p : Addr} {o : HO} (h : H p = none) {d : List D} {v : List V} (r : RepL K M H d v) : RepL K M (upd H p o) d v := r.keep (Keep.same (same_upd h))
theorem Trk.not {M : Addr → Prop} {H : Hp} {p : Addr} (t : Trk M H) (h : H p = none) : ¬ M p := fun z => by
  obtain ⟨o, e⟩ := t p z
  rw [h] at e; cases e

/-! ### reading values -/
section
variable {K : PySem.W.Frag} {M : Addr → Prop} {H : Hp} {v : V}
theorem rep_int {i : Int} : Rep K M H (.int i) v ↔ v = .int i := by simp only [Rep]
theorem rep_str {s : List Nat} : Rep K M H (.str s) v ↔ v = .str (mk s) := by simp only [Rep]
theorem rep_bl {b : Bool} : Rep K M H (.bl b) v ↔ v = .bl b := by simp only [Rep]
theorem rep_non : Rep K M H .non v ↔ v = .non := by simp only [Rep]
theorem rep_lst {ds : List D} : Rep K M H (.lst ds) v ↔ ∃ a vs, v = .ref a ∧ LM M H a vs ∧ RepL K M H ds vs := by simp only [Rep]
theorem rep_scr {ds : List D} : Rep K M H (.scr ds) v ↔ ∃ a vs, v = .ref a ∧ SM K M H a vs ∧ RepL K M H ds vs := by simp only [Rep]
theorem rep_tup {ds : List D} : Rep K M H (.tup ds) v ↔ ∃ a vs, v = .ref a ∧ TM K M H a vs ∧ RepL K M H ds vs := by simp only [Rep]
theorem repL_cons {d : D} {ds : List D} {vs : List V} : RepL K M H (d :: ds) vs ↔ ∃ v r, vs = v :: r ∧ Rep K M H d v ∧ RepL K M H ds r := by simp only [RepL]
theorem repL_nil {vs : List V} : RepL K M H [] vs ↔ vs = [] := by simp only [RepL]
theorem repL_one {d : D} {vs : List V} (h : RepL K M H [d] vs) : ∃ v, vs = [v] ∧ Rep K M H d v := by
  obtain ⟨v, r, e, h1, h2⟩ := repL_cons.mp h
  rw [repL_nil.mp h2] at e
  exact ⟨v, e, h1⟩
theorem repL_two {d e : D} {vs : List V} (h : RepL K M H [d, e] vs) : ∃ v w, vs = [v, w] ∧ Rep K M H d v ∧ Rep K M H e w := by
  obtain ⟨v, r, e1, h1, h2⟩ := repL_cons.mp h
  obtain ⟨w, e2, h3⟩ := repL_one h2
  subst e2
  exact ⟨v, w, e1, h1, h3⟩
end
/-- a list of D's that is new, as data -/
theorem rep_newL {K : PySem.W.Frag} {M : Addr → Prop} {H : Hp} {p : Addr} {ds : List D} {vs : List V} (t : Trk M H) (h : H p = none) (r : RepL K M H ds vs) : Rep K M (upd H p (.lst vs)) (.lst ds) (.ref p) :=
  rep_lst.mpr ⟨p, vs, rfl, ⟨t.not h, upd_same⟩, r.up h⟩
theorem rep_newT {K : PySem.W.Frag} {M : Addr → Prop} {H : Hp} {p : Addr} {ds : List D} {vs : List V} (t : Trk M H) (h : H p = none) (r : RepL K M H ds vs) : Rep K M (upd H p (.tup vs)) (.tup ds) (.ref p) :=
  rep_tup.mpr ⟨p, vs, rfl, .inl ⟨t.not h, .inl upd_same⟩, r.up h⟩
/-! ### slots: small facts -/
section
variable {K : PySem.W.Frag} {Ex : Addr → Prop} {σ : St} {H : Hp} {ρ : Rho} {as : Nat → Addr} {i : Nat}
theorem not_own {s : Option Sl} {c : Cn} (hs : s = none ∨ s = some .emp ∨ ∃ d, s = some (.dat d)) (e : ρ[i]? = s) : ¬ IsOwn ρ i c := fun h => by
  rcases isOwn_not h with ⟨_, h⟩ | ⟨_, h⟩ | ⟨_, _, h⟩ <;> rw [e] at h <;> rcases hs with z | z | ⟨_, z⟩ <;> rw [z] at h <;> cases h
theorem own_set_dat {d : D} {j : Nat} {ds : Cn} (h : IsOwn (ρ.set i (.dat d)) j ds) : IsOwn ρ j ds := by
  by_cases e : i = j
  · subst e
    by_cases hl : i < ρ.length
    · exact absurd h (not_own (.inr (.inr ⟨_, rfl⟩)) (List.getElem?_set_self hl))
    · exact absurd h (not_own (.inl rfl) (by rw [List.getElem?_eq_none_iff, List.length_set]; omega))
  · exact (isOwn_cong (List.getElem?_set_ne e)).mp h
theorem Own.set_dat {d : D} {a : Addr} (h : Own (ρ.set i (.dat d)) as a) : Own ρ as a := by
  obtain ⟨j, ds, h, e⟩ := h
  exact ⟨j, ds, own_set_dat h, e⟩
theorem Go.set_dat {d : D} (hn : ∀ ds, ρ[i]? ≠ some (Sl.ino ds)) : Go H ρ as (ρ.set i (.dat d)) as where
  own := fun a h => .inl (Own.set_dat h)
  ino := fun j ds h => by
    have ne : i ≠ j := fun e => hn ds (e ▸ h)
    exact ⟨⟨ds, by rw [List.getElem?_set_ne ne]; exact h⟩, rfl⟩
  ini := fun j ds h => by
    by_cases e : i = j
    · subst e
      by_cases hl : i < ρ.length
      · rw [List.getElem?_set_self hl] at h; cases h
      · have : (ρ.set i (.dat d))[i]? = none := by rw [List.getElem?_eq_none_iff, List.length_set]; omega
        rw [this] at h; cases h
    · rw [List.getElem?_set_ne e] at h
      exact ⟨ds, h⟩
/-- a slot is given data -/
theorem Ok.set_dat {d : D} {v : V} (k : Ok K Ex σ H ρ as) (r : Rep K (MM Ex ρ as) H d v) (hi : i < ρ.length) : Ok K Ex (σ.set i (some v)) H (ρ.set i (.dat d)) as where
  len := by rw [List.length_set, List.length_set]; exact k.len
  exs := k.exs
  dat := fun j e h => by
    have sub : Keep (MM Ex ρ as) (MM Ex (ρ.set i (.dat d)) as) H H := Keep.sub fun a z => z.elim .inl fun z => .inr (Own.set_dat z)
    by_cases q : i = j
    · subst q
      rw [List.getElem?_set_self hi] at h; cases h
      exact ⟨v, List.getElem?_set_self (by rw [← k.len]; exact hi), r.keep sub⟩
    · rw [List.getElem?_set_ne q] at h
      obtain ⟨w, e1, r1⟩ := k.dat j e h
      exact ⟨w, by rw [List.getElem?_set_ne q]; exact e1, r1.keep sub⟩
  own := fun j ds h => by
    have sub : Keep (MM Ex ρ as) (MM Ex (ρ.set i (.dat d)) as) H H := Keep.sub fun a z => z.elim .inl fun z => .inr (Own.set_dat z)
    have q : i ≠ j := fun q => by
      subst q
      exact not_own (.inr (.inr ⟨_, rfl⟩)) (List.getElem?_set_self hi) h
    obtain ⟨e1, n, r1⟩ := k.own j ds (own_set_dat h)
    exact ⟨by rw [List.getElem?_set_ne q]; exact e1, n, r1.keep sub fun _ z => z⟩
  inj := fun j l ds es h1 h2 e => k.inj j l ds es (own_set_dat h1) (own_set_dat h2) e
/-- an owned list is let go: data from now on -/
theorem Ok.let_go {ds : List D} (k : Ok K Ex σ H ρ as) (h : ρ[i]? = some (Sl.own ds)) :
    Rep K (MM Ex (ρ.set i (.dat (.lst ds))) as) H (.lst ds) (.ref (as i)) ∧ Ok K Ex σ H (ρ.set i (.dat (.lst ds))) as ∧ Go H ρ as (ρ.set i (.dat (.lst ds))) as := by
  have hi : i < ρ.length := (List.getElem?_eq_some_iff.mp h).1
  obtain ⟨e1, n, vs, e2, z, r⟩ := k.own i (.L ds) (.inl h)
  have sub : Keep (MM Ex ρ as) (MM Ex (ρ.set i (.dat (.lst ds))) as) H H := Keep.sub fun a z => z.elim .inl fun z => .inr (Own.set_dat z)
  have hn : ¬ MM Ex (ρ.set i (.dat (.lst ds))) as (as i) := fun q => by
    rcases q with q | ⟨j, es, q, e⟩
    · exact n q
    · have q' := own_set_dat q
      have := k.inj j i es (.L ds) q' (.inl h) e
      subst this
      exact not_own (.inr (.inr ⟨_, rfl⟩)) (List.getElem?_set_self hi) q
  have rr : Rep K (MM Ex (ρ.set i (.dat (.lst ds))) as) H (.lst ds) (.ref (as i)) := rep_lst.mpr ⟨_, vs, rfl, ⟨hn, e2⟩, r.keep sub⟩
  refine ⟨rr, ⟨by rw [List.length_set]; exact k.len, k.exs, fun j e hj => ?_, fun j es hj => ?_, fun j l ds es h1 h2 e => k.inj j l ds es (own_set_dat h1) (own_set_dat h2) e⟩, Go.set_dat fun es q => by rw [h] at q; cases q⟩
  · by_cases q : i = j
    · subst q
      rw [List.getElem?_set_self hi] at hj; cases hj
      exact ⟨_, e1, rr⟩
    · rw [List.getElem?_set_ne q] at hj
      obtain ⟨w, e3, r1⟩ := k.dat j e hj
      exact ⟨w, e3, r1.keep sub⟩
  · obtain ⟨e3, n3, r3⟩ := k.own j es (own_set_dat hj)
    exact ⟨e3, n3, r3.keep sub fun _ z => z⟩
end

/-! ### names, constants -/
def eVar (i : Nat) : C D := fun ρ => match ρ[i]? with
  | some (.dat d) => some (d, ρ)
  | some (.own ds) => some (.lst ds, ρ.set i (.dat (.lst ds)))
  | _ => none
def eC (d : D) : C D := fun ρ => some (d, ρ)
section
variable {X : Cx}
theorem de_var (i : Nat) {e : Expr} (h : PE X e (tVar i)) : DE X e (eVar i) := ⟨_, h, fun Ex σ H ρ as d ρ' Q k e q => by
  unfold eVar at e
  split at e
  · rename_i d' h1
    cases e
    obtain ⟨v, e1, r⟩ := k.dat i _ h1
    exact ⟨v, e1, q v H k .refl .refl r⟩
  · rename_i ds h1
    cases e
    obtain ⟨e1, _⟩ := k.own i (.L ds) (.inl h1)
    obtain ⟨r, k', g⟩ := k.let_go h1
    exact ⟨_, e1, q _ H k' .refl g r⟩
  · cases e⟩
/-- a constant, a name of the module whose value is known -/
theorem de_c {e : Expr} {v : V} {d : D} (h : PE X e (tC v)) (r : ∀ M H, Rep X.K M H d v) : DE X e (eC d) := ⟨_, h, fun Ex σ H ρ as d' ρ' Q k e q => by
  cases e
  exact q v H k .refl .refl (r _ _)⟩
theorem de_int {i : Int} {k : Nat} {pos : Pos} : DE X (.Constant (.int i) k pos) (eC (.int i)) := de_c pe_int fun _ _ => rep_int.mpr rfl
theorem de_bl {b : Bool} {k : Nat} {pos : Pos} : DE X (.Constant (.bool b) k pos) (eC (.bl b)) := de_c pe_bl fun _ _ => rep_bl.mpr rfl
theorem de_non {k : Nat} {pos : Pos} : DE X (.Constant .none k pos) (eC .non) := de_c pe_non fun _ _ => rep_non.mpr rfl
theorem de_str {x : Str} {s : List Nat} {k : Nat} {pos : Pos} (h : x = mk s) : DE X (.Constant (.str x) k pos) (eC (.str s)) := de_c pe_str fun _ _ => rep_str.mpr (by rw [h])
end

/-! ### operators -/
def eUn (fn : D → Option D) (f : C D) : C D := fun ρ => match f ρ with
  | some (d, ρ1) => (match fn d with | some r => some (r, ρ1) | none => none)
  | none => none
def eBin (fn : D → D → Option D) (f g : C D) : C D := fun ρ => match f ρ with
  | some (d, ρ1) => (match g ρ1 with
    | some (e, ρ2) => (match fn d e with | some r => some (r, ρ2) | none => none)
    | none => none)
  | none => none
def oUn (fn : D → Option (List D)) (f : C D) : C (List D) := fun ρ => match f ρ with
  | some (d, ρ1) => (match fn d with | some r => some (r, ρ1) | none => none)
  | none => none
def oBin (fn : D → D → Option (List D)) (f g : C D) : C (List D) := fun ρ => match f ρ with
  | some (d, ρ1) => (match g ρ1 with
    | some (e, ρ2) => (match fn d e with | some r => some (r, ρ2) | none => none)
    | none => none)
  | none => none
/-- a new list at p: nothing else holds it -/
theorem Ok.newL {K : PySem.W.Frag} {Ex : Addr → Prop} {σ : St} {H : Hp} {ρ : Rho} {as : Nat → Addr} {p : Addr} {vs : List V} {ds : List D} (k : Ok K Ex σ H ρ as) (hp : H p = none) (r : RepL K (MM Ex ρ as) H ds vs) :
    Ok K (fun b => Ex b ∨ b = p) σ (upd H p (.lst vs)) ρ as ∧ RepL K (MM (fun b => Ex b ∨ b = p) ρ as) (upd H p (.lst vs)) ds vs := by
  have kp : Keep (MM Ex ρ as) (MM (fun b => Ex b ∨ b = p) ρ as) H (upd H p (.lst vs)) := fun b o e hm => by
    have ne := ne_of_none e hp
    refine ⟨by rw [upd_ne ne]; exact e, fun z => ?_⟩
    rcases z with (z | z) | z
    · exact hm (.inl z)
    · exact ne z
    · exact hm (.inr z)
  refine ⟨⟨k.len, fun a h => ?_, fun i d h => ?_, fun i es h => ?_, k.inj⟩, r.keep kp⟩
  · rcases h with h | h
    · obtain ⟨o, e⟩ := k.exs a h
      exact ⟨o, same_upd hp a o e⟩
    · subst h
      exact ⟨_, upd_same⟩
  · obtain ⟨v, e, r⟩ := k.dat i d h
    exact ⟨v, e, r.keep kp⟩
  · obtain ⟨e, n, r⟩ := k.own i es h
    refine ⟨e, fun q => ?_, r.keep kp fun o z => same_upd hp _ _ z⟩
    rcases q with q | q
    · exact n q
    · obtain ⟨o, e1⟩ := r.trk
      rw [q, hp] at e1; cases e1
section
variable {X : Cx} {a b : Expr} {f g : C D}
theorem de_un {e : Expr} {r : V → Hp → VK → Prop} {fn : D → Option D} (hv : V1 X.K r fn) (ha : DE X a f) (he : ∀ t, PE X a t → PE X e (tUn r t)) : DE X e (eUn fn f) := by
  obtain ⟨t, h, run⟩ := ha.ex
  refine ⟨_, he t h, fun Ex σ H ρ as d ρ' Q k e q => ?_⟩
  unfold eUn at e
  split at e
  · rename_i d1 ρ1 h1
    split at e
    · rename_i r1 h2
      cases e
      exact run Ex σ H ρ as d1 _ _ k h1 fun v H1 k1 f1 g1 rv => hv _ H1 v d1 _ Q (fun a => k1.trk) rv h2 fun w H2 s rw => q w H2 (k1.same s) (f1.trans g1 (.of_same s)) (Go.trans f1 g1 .refl) rw
    · cases e
  · cases e
theorem de_bin {e : Expr} {r : R2} {fn : D → D → Option D} (hv : V2 X.K r fn) (ha : DE X a f) (hb : DE X b g) (he : ∀ ta tb, PE X a ta → PE X b tb → PE X e (tOp r ta tb)) : DE X e (eBin fn f g) := by
  obtain ⟨ta, h1, run1⟩ := ha.ex
  obtain ⟨tb, h2, run2⟩ := hb.ex
  refine ⟨_, he ta tb h1 h2, fun Ex σ H ρ as d ρ' Q k e q => ?_⟩
  unfold eBin at e
  split at e
  · rename_i d1 ρ1 e1
    split at e
    · rename_i d2 ρ2 e2
      split at e
      · rename_i r1 e3
        cases e
        exact run1 Ex σ H ρ as d1 _ _ k e1 fun v H1 k1 f1 g1 rv => run2 Ex σ H1 ρ1 as d2 _ _ k1 e2 fun w H2 k2 f2 g2 rw =>
          hv _ H2 v w d1 d2 _ Q (fun a => k2.trk) (rv.keep (Keep.of f2 g2)) rw e3 fun u H3 s ru => q u H3 (k2.same s) ((f1.trans g1 f2).trans (Go.trans f1 g1 g2) (.of_same s)) (Go.trans f1 g1 g2) ru
      · cases e
    · cases e
  · cases e
theorem do_un {e : Expr} {r : V → Hp → VK → Prop} {fn : D → Option (List D)} (hv : V1o X.K r fn) (ha : DE X a f) (he : ∀ t, PE X a t → PE X e (tUn r t)) : DO X e (oUn fn f) := by
  obtain ⟨t, h, run⟩ := ha.ex
  refine ⟨_, he t h, fun Ex σ H ρ as d ρ' Q k e q => ?_⟩
  unfold oUn at e
  split at e
  · rename_i d1 ρ1 h1
    split at e
    · rename_i r1 h2
      cases e
      exact run Ex σ H ρ as d1 _ _ k h1 fun v H1 k1 f1 g1 rv => hv _ H1 v d1 _ Q (fun a => k1.trk) rv h2 fun p vs hp z r => by
        obtain ⟨k2, r2⟩ := k1.newL hp r
        exact q p vs _ k2 (f1.trans g1 (.of_same (same_upd hp))) g1 (f1.free hp) upd_same z r2
    · cases e
  · cases e
theorem do_bin {e : Expr} {r : R2} {fn : D → D → Option (List D)} (hv : V2o X.K r fn) (ha : DE X a f) (hb : DE X b g) (he : ∀ ta tb, PE X a ta → PE X b tb → PE X e (tOp r ta tb)) : DO X e (oBin fn f g) := by
  obtain ⟨ta, h1, run1⟩ := ha.ex
  obtain ⟨tb, h2, run2⟩ := hb.ex
  refine ⟨_, he ta tb h1 h2, fun Ex σ H ρ as d ρ' Q k e q => ?_⟩
  unfold oBin at e
  split at e
  · rename_i d1 ρ1 e1
    split at e
    · rename_i d2 ρ2 e2
      split at e
      · rename_i r1 e3
        cases e
        exact run1 Ex σ H ρ as d1 _ _ k e1 fun v H1 k1 f1 g1 rv => run2 Ex σ H1 ρ1 as d2 _ _ k1 e2 fun w H2 k2 f2 g2 rw =>
          hv _ H2 v w d1 d2 _ Q (fun a => k2.trk) (rv.keep (Keep.of f2 g2)) rw e3 fun p vs hp z r => by
            obtain ⟨k3, r3⟩ := k2.newL hp r
            exact q p vs _ k3 ((f1.trans g1 f2).trans (Go.trans f1 g1 g2) (.of_same (same_upd hp))) (Go.trans f1 g1 g2) (f1.free (f2.free hp)) upd_same z r3
      · cases e
    · cases e
  · cases e
/-- a new list as data -/
def eOfO (f : C (List D)) : C D := fun ρ => match f ρ with | some (ds, ρ') => some (.lst ds, ρ') | none => none
theorem Ok.sub {K : PySem.W.Frag} {Ex Ex' : Addr → Prop} {σ : St} {H : Hp} {ρ : Rho} {as : Nat → Addr} (k : Ok K Ex' σ H ρ as) (h : ∀ a, Ex a → Ex' a) : Ok K Ex σ H ρ as where
  len := k.len
  exs := fun a z => k.exs a (h a z)
  dat := fun i d z => let ⟨v, e, r⟩ := k.dat i d z; ⟨v, e, r.keep (Keep.sub fun a z => z.elim (fun z => .inl (h a z)) .inr)⟩
  own := fun i ds z => let ⟨e, n, r⟩ := k.own i ds z; ⟨e, fun z => n (h _ z), r.keep (Keep.sub fun a z => z.elim (fun z => .inl (h a z)) .inr) fun _ q => q⟩
  inj := k.inj
theorem de_o {e : Expr} {f : C (List D)} (h : DO X e f) : DE X e (eOfO f) := by
  obtain ⟨t, h, run⟩ := h.ex
  refine ⟨_, h, fun Ex σ H ρ as d ρ' Q k e q => ?_⟩
  unfold eOfO at e
  split at e
  · rename_i ds ρ1 e1
    cases e
    refine run Ex σ H ρ as _ _ _ k e1 fun p vs H' k' f' g' hp hp' z r => q _ _ (k'.sub fun a z => .inl z) f' g' (rep_lst.mpr ⟨p, vs, rfl, ⟨fun z => ?_, hp'⟩, r.keep (Keep.sub fun a z => z.elim (fun z => .inl (.inl z)) .inr)⟩)
    rcases z with z | ⟨i, es, h1, h2⟩
    · obtain ⟨o, e⟩ := k.exs p z
      rw [hp] at e; cases e
    · obtain ⟨_, n, _⟩ := k'.own i es h1
      exact n (.inr h2)
  · cases e
end

/-! ### argument lists -/
def eNil : C (List D) := fun ρ => some ([], ρ)
def eCons (f : C D) (g : C (List D)) : C (List D) := fun ρ => match f ρ with
  | some (d, ρ1) => (match g ρ1 with | some (ds, ρ2) => some (d :: ds, ρ2) | none => none)
  | none => none
section
variable {X : Cx}
theorem da_nil : DA X [] eNil := ⟨_, pa_nil, fun Ex σ H ρ as ds ρ' Q k e q => by cases e; exact q [] H k .refl .refl RepL.nil⟩
theorem da_cons {e : Expr} {es : List Expr} {f : C D} {g : C (List D)} (h1 : DE X e f) (h2 : DA X es g) (hs : starEach (e :: es) X.env = (false, eval e X.env) :: starEach es X.env := by rfl) : DA X (e :: es) (eCons f g) := by
  obtain ⟨t, h, run⟩ := h1.ex
  obtain ⟨ts, hh, runs⟩ := h2.ex
  refine ⟨_, pa_cons h hh hs, fun Ex σ H ρ as ds ρ' Q k e q => ?_⟩
  unfold eCons at e
  split at e
  · rename_i d1 ρ1 e1
    split at e
    · rename_i ds2 ρ2 e2
      cases e
      exact run Ex σ H ρ as d1 _ _ k e1 fun v H1 k1 f1 g1 rv => runs Ex σ H1 ρ1 as ds2 _ _ k1 e2 fun vs H2 k2 f2 g2 rs =>
        q (v :: vs) H2 k2 (f1.trans g1 f2) (Go.trans f1 g1 g2) (RepL.cons (rv.keep (Keep.of f2 g2)) rs)
    · cases e
  · cases e
/-- a tuple, a list of written items -/
def eTup (f : C (List D)) : C D := fun ρ => match f ρ with | some (ds, ρ') => if ds.length ≤ 1000 then some (.tup ds, ρ') else none | none => none
def oLst (f : C (List D)) : C (List D) := fun ρ => match f ρ with | some (ds, ρ') => if ds.length ≤ 1000 then some (ds, ρ') else none | none => none
theorem le_line {n : Nat} (h : n ≤ 1000) : n ≤ sizeLine := Nat.le_trans h (by rw [sizeLine_eq]; decide)
theorem de_tup {es : List Expr} {f : C (List D)} {k : Nat} {pos : Pos} (h : DA X es f) : DE X (.Tuple es k pos) (eTup f) := by
  obtain ⟨t, h, run⟩ := h.ex
  refine ⟨_, pe_tup h, fun Ex σ H ρ as d ρ' Q k e q => ?_⟩
  unfold eTup at e
  split at e
  · rename_i ds ρ1 e1
    split at e
    · rename_i hl
      cases e
      refine run Ex σ H ρ as _ _ _ k e1 fun vs H1 k1 f1 g1 r => ⟨by rw [r.length]; exact le_line hl, fun p hp => ?_⟩
      exact q _ _ (k1.same (same_upd hp)) (f1.trans g1 (.of_same (same_upd hp))) g1 (rep_newT (fun a => k1.trk) hp r)
    · cases e
  · cases e
theorem do_lst {es : List Expr} {f : C (List D)} {pos : Pos} (h : DA X es f) : DO X (.List es pos) (oLst f) := by
  obtain ⟨t, h, run⟩ := h.ex
  refine ⟨_, pe_lst h, fun Ex σ H ρ as d ρ' Q k e q => ?_⟩
  unfold oLst at e
  split at e
  · rename_i ds ρ1 e1
    split at e
    · rename_i hl
      cases e
      refine run Ex σ H ρ as _ _ _ k e1 fun vs H1 k1 f1 g1 r => ⟨by rw [r.length]; exact le_line hl, fun p hp => ?_⟩
      obtain ⟨k2, r2⟩ := k1.newL hp r
      exact q p vs _ k2 (f1.trans g1 (.of_same (same_upd hp))) g1 (f1.free hp) upd_same (by rw [r.length]; exact le_line hl) r2
    · cases e
  · cases e
/-- a built-in's call -/
def eCall (fn : List D → Option D) (f : C (List D)) : C D := fun ρ => match f ρ with
  | some (ds, ρ1) => (match fn ds with | some r => some (r, ρ1) | none => none)
  | none => none
def oCall (fn : List D → Option (List D)) (f : C (List D)) : C (List D) := fun ρ => match f ρ with
  | some (ds, ρ1) => (match fn ds with | some r => some (r, ρ1) | none => none)
  | none => none
theorem de_call {e : Expr} {es : List Expr} {f : C (List D)} {r : List V → Hp → VK → Prop} {fn : List D → Option D} (hv : VN X.K r fn) (h : DA X es f) (he : ∀ t, PA X es t → PE X e (tCB r t)) : DE X e (eCall fn f) := by
  obtain ⟨t, h, run⟩ := h.ex
  refine ⟨_, he t h, fun Ex σ H ρ as d ρ' Q k e q => ?_⟩
  unfold eCall at e
  split at e
  · rename_i d1 ρ1 h1
    split at e
    · rename_i r1 h2
      cases e
      exact run Ex σ H ρ as d1 _ _ k h1 fun v H1 k1 f1 g1 rv => hv _ H1 v d1 _ Q (fun a => k1.trk) rv h2 fun w H2 s rw => q w H2 (k1.same s) (f1.trans g1 (.of_same s)) g1 rw
    · cases e
  · cases e
theorem do_call {e : Expr} {es : List Expr} {f : C (List D)} {r : List V → Hp → VK → Prop} {fn : List D → Option (List D)} (hv : VNo X.K r fn) (h : DA X es f) (he : ∀ t, PA X es t → PE X e (tCB r t)) : DO X e (oCall fn f) := by
  obtain ⟨t, h, run⟩ := h.ex
  refine ⟨_, he t h, fun Ex σ H ρ as d ρ' Q k e q => ?_⟩
  unfold oCall at e
  split at e
  · rename_i d1 ρ1 h1
    split at e
    · rename_i r1 h2
      cases e
      exact run Ex σ H ρ as d1 _ _ k h1 fun v H1 k1 f1 g1 rv => hv _ H1 v d1 _ Q (fun a => k1.trk) rv h2 fun p vs hp z r => by
        obtain ⟨k2, r2⟩ := k1.newL hp r
        exact q p vs _ k2 (f1.trans g1 (.of_same (same_upd hp))) g1 (f1.free hp) upd_same z r2
    · cases e
  · cases e
end
end PD

namespace PD
open PySem L2

/-! ### looks: what is used up at once -/
/-- weak: the value is looked at, not kept -/
structure DX (X : Cx) (e : Expr) (f : C D) : Prop where
  ex : ∃ t, PE X e t ∧ ∀ (Ex : Addr → Prop) (σ : St) (H : Hp) (ρ : Rho) (as : Nat → Addr) (d : D) (ρ' : Rho) (Q : VK), Ok X.K Ex σ H ρ as → f ρ = some (d, ρ') →
    (∀ v H', Ok X.K Ex σ H' ρ' as → Fr (Own ρ as) H H' → Go H ρ as ρ' as → Rep X.K Bot H' d v → Q v H') → t σ H Q
def flatD : D → Bool
  | .non => true | .bl _ => true | .int _ => true | .str _ => true | _ => false
theorem Rep.flat {K : PySem.W.Frag} {M M' : Addr → Prop} {H H' : Hp} {d : D} {v : V} (h : Rep K M H d v) (f : flatD d = true) : Rep K M' H' d v := by
  cases d <;> first | (simp only [Rep] at h ⊢; exact h) | cases f
theorem Rep.bot {K : PySem.W.Frag} {M : Addr → Prop} {H : Hp} {d : D} {v : V} (h : Rep K M H d v) : Rep K Bot H d v := h.keep Keep.bot
def pVar (i : Nat) : Rho → Option D := fun ρ => match ρ[i]? with
  | some (.dat d) => some d | some (.own ds) => some (.lst ds) | some (.ino ds) => some (.lst ds) | _ => none
def eP (p : Rho → Option D) : C D := fun ρ => match p ρ with | some d => some (d, ρ) | none => none
section
variable {X : Cx} {e a b : Expr} {f g : C D} {p : Rho → Option D}
theorem dx_e (h : DE X e f) : DX X e f := by
  obtain ⟨t, h, run⟩ := h.ex
  exact ⟨_, h, fun Ex σ H ρ as d ρ' Q k e q => run Ex σ H ρ as d ρ' Q k e fun v H' k' f' g' r => q v H' k' f' g' r.bot⟩
theorem dx_p (h : DP X e p) : DX X e (eP p) := by
  obtain ⟨t, h, run⟩ := h.ex
  refine ⟨_, h, fun Ex σ H ρ as d ρ' Q k e q => ?_⟩
  unfold eP at e
  split at e
  · rename_i d1 h1
    cases e
    exact run Ex σ H ρ as _ Q k h1 fun v r => q v H k .refl .refl r
  · cases e
theorem dp_var (i : Nat) (h : PE X e (tVar i)) : DP X e (pVar i) := ⟨_, h, fun Ex σ H ρ as d Q k e q => by
  unfold pVar at e
  split at e
  · rename_i d' h1
    cases e
    obtain ⟨v, e1, r⟩ := k.dat i _ h1
    exact ⟨v, e1, q v r.bot⟩
  · rename_i ds h1
    cases e
    obtain ⟨e1, n, vs, e2, z, r⟩ := k.own i (.L ds) (.inl h1)
    exact ⟨_, e1, q _ (rep_lst.mpr ⟨_, vs, rfl, ⟨fun z => z, e2⟩, r.keep Keep.bot⟩)⟩
  · rename_i ds h1
    cases e
    obtain ⟨e1, n, vs, e2, z, r⟩ := k.own i (.L ds) (.inr h1)
    exact ⟨_, e1, q _ (rep_lst.mpr ⟨_, vs, rfl, ⟨fun z => z, e2⟩, r.keep Keep.bot⟩)⟩
  · cases e⟩
/-- an operator whose answer is flat -/
def eUnX (fn : D → Option D) (f : C D) : C D := fun ρ => match f ρ with
  | some (d, ρ1) => (match fn d with | some r => if flatD r = true then some (r, ρ1) else none | none => none)
  | none => none
def eBinX (fn : D → D → Option D) (f : C D) (p : Rho → Option D) : C D := fun ρ => match f ρ with
  | some (d, ρ1) => (match p ρ1 with
    | some e => (match fn d e with | some r => if flatD r = true then some (r, ρ1) else none | none => none)
    | none => none)
  | none => none
theorem dx_un {r : V → Hp → VK → Prop} {fn : D → Option D} (hv : V1 X.K r fn) (ha : DX X a f) (he : ∀ t, PE X a t → PE X e (tUn r t)) : DE X e (eUnX fn f) := by
  obtain ⟨t, h, run⟩ := ha.ex
  refine ⟨_, he t h, fun Ex σ H ρ as d ρ' Q k e q => ?_⟩
  unfold eUnX at e
  split at e
  · rename_i d1 ρ1 h1
    split at e
    · rename_i r1 h2
      split at e
      · rename_i fl
        cases e
        exact run Ex σ H ρ as d1 _ _ k h1 fun v H1 k1 f1 g1 rv => hv Bot H1 v d1 _ Q (fun a z => z.elim) rv h2 fun w H2 s rw => q w H2 (k1.same s) (f1.trans g1 (.of_same s)) g1 (rw.flat fl)
      · cases e
    · cases e
  · cases e
theorem dx_bin {r : R2} {fn : D → D → Option D} (hv : V2 X.K r fn) (ha : DX X a f) (hb : DP X b p) (he : ∀ ta tb, PE X a ta → PE X b tb → PE X e (tOp r ta tb)) : DE X e (eBinX fn f p) := by
  obtain ⟨ta, h1, run1⟩ := ha.ex
  obtain ⟨tb, h2, run2⟩ := hb.ex
  refine ⟨_, he ta tb h1 h2, fun Ex σ H ρ as d ρ' Q k e q => ?_⟩
  unfold eBinX at e
  split at e
  · rename_i d1 ρ1 e1
    split at e
    · rename_i d2 e2
      split at e
      · rename_i r1 e3
        split at e
        · rename_i fl
          cases e
          exact run1 Ex σ H ρ as d1 _ _ k e1 fun v H1 k1 f1 g1 rv => run2 Ex σ H1 _ as d2 _ k1 e2 fun w rw =>
            hv Bot H1 v w d1 d2 _ Q (fun a z => z.elim) rv rw e3 fun u H3 s ru => q u H3 (k1.same s) (f1.trans g1 (.of_same s)) g1 (ru.flat fl)
        · cases e
      · cases e
    · cases e
  · cases e
/-- a built-in of one argument that is looked at -/
theorem dx_call1 {r : List V → Hp → VK → Prop} {fn : List D → Option D} (hv : VN X.K r fn) (ha : DX X a f) (hs : starEach [a] X.env = (false, eval a X.env) :: starEach [] X.env) (he : ∀ t, PA X [a] t → PE X e (tCB r t)) : DE X e (eUnX (fun d => fn [d]) f) := by
  obtain ⟨t, h, run⟩ := ha.ex
  refine ⟨_, he _ (pa_cons h pa_nil hs), fun Ex σ H ρ as d ρ' Q k e q => ?_⟩
  unfold eUnX at e
  split at e
  · rename_i d1 ρ1 h1
    split at e
    · rename_i r1 h2
      split at e
      · rename_i fl
        cases e
        exact run Ex σ H ρ as d1 _ _ k h1 fun v H1 k1 f1 g1 rv => hv Bot H1 [v] [d1] _ Q (fun a z => z.elim) (RepL.cons rv RepL.nil) h2 fun w H2 s rw => q w H2 (k1.same s) (f1.trans g1 (.of_same s)) g1 (rw.flat fl)
      · cases e
    · cases e
  · cases e
end

/-! ### tests -/
def cT (f : C D) : C Bool := fun ρ => match f ρ with | some (.bl b, ρ') => some (b, ρ') | _ => none
def cNot (f : C Bool) : C Bool := fun ρ => match f ρ with | some (b, ρ') => some (!b, ρ') | none => none
def cAnd (f g : C Bool) : C Bool := fun ρ => match f ρ with | some (true, ρ1) => g ρ1 | some (false, ρ1) => some (false, ρ1) | none => none
def cOr (f g : C Bool) : C Bool := fun ρ => match f ρ with | some (false, ρ1) => g ρ1 | some (true, ρ1) => some (true, ρ1) | none => none
section
variable {X : Cx} {e a b : Expr} {rest : List Expr} {f g : C Bool} {pos : Pos}
theorem dt_val {f : C D} (h : DE X e f) (he : ∀ t, PE X e t → PT X e (tB t)) : DT X e (cT f) := by
  obtain ⟨t, h, run⟩ := h.ex
  refine ⟨_, he t h, fun Ex σ H ρ as d ρ' Q k e q => ?_⟩
  unfold cT at e
  split at e
  · rename_i b1 ρ1 e1
    cases e
    exact run Ex σ H ρ as _ _ _ k e1 fun v H1 k1 f1 g1 rv => ⟨d, rep_bl.mp rv, q H1 k1 f1 g1⟩
  · cases e
theorem dt_not (h : DT X a f) : DT X (.UnaryOp .Not a pos) (cNot f) := by
  obtain ⟨t, h, run⟩ := h.ex
  refine ⟨_, pt_not h, fun Ex σ H ρ as d ρ' Q k e q => ?_⟩
  unfold cNot at e
  split at e
  · rename_i b1 ρ1 e1
    cases e
    exact run Ex σ H ρ as _ _ _ k e1 fun H1 k1 f1 g1 => q H1 k1 f1 g1
  · cases e
theorem dt_w (h : DW X e f) : DT X e f := by
  obtain ⟨t, h, run⟩ := h.ex
  exact ⟨_, h.pt, run⟩
theorem dw_and1 (h : DT X a f) : DW X (.BoolOp .And [a] pos) f := by
  obtain ⟨t, h, run⟩ := h.ex
  exact ⟨_, pw_and1 h, run⟩
theorem dw_or1 (h : DT X a f) : DW X (.BoolOp .Or [a] pos) f := by
  obtain ⟨t, h, run⟩ := h.ex
  exact ⟨_, pw_or1 h, run⟩
theorem dw_and (h1 : DT X a f) (h2 : DW X (.BoolOp .And (b :: rest) pos) g) : DW X (.BoolOp .And (a :: b :: rest) pos) (cAnd f g) := by
  obtain ⟨t1, h1, run1⟩ := h1.ex
  obtain ⟨t2, h2, run2⟩ := h2.ex
  refine ⟨_, pw_and h1 h2, fun Ex σ H ρ as d ρ' Q k e q => ?_⟩
  unfold cAnd at e
  split at e
  · rename_i ρ1 e1
    exact run1 Ex σ H ρ as _ _ _ k e1 fun H1 k1 f1 g1 => iteT (run2 Ex σ H1 _ as _ _ _ k1 e fun H2 k2 f2 g2 => q H2 k2 (f1.trans g1 f2) (Go.trans f1 g1 g2))
  · rename_i ρ1 e1
    cases e
    exact run1 Ex σ H ρ as _ _ _ k e1 fun H1 k1 f1 g1 => iteF (q H1 k1 f1 g1)
  · cases e
theorem dw_or (h1 : DT X a f) (h2 : DW X (.BoolOp .Or (b :: rest) pos) g) : DW X (.BoolOp .Or (a :: b :: rest) pos) (cOr f g) := by
  obtain ⟨t1, h1, run1⟩ := h1.ex
  obtain ⟨t2, h2, run2⟩ := h2.ex
  refine ⟨_, pw_or h1 h2, fun Ex σ H ρ as d ρ' Q k e q => ?_⟩
  unfold cOr at e
  split at e
  · rename_i ρ1 e1
    exact run1 Ex σ H ρ as _ _ _ k e1 fun H1 k1 f1 g1 => iteF (run2 Ex σ H1 _ as _ _ _ k1 e fun H2 k2 f2 g2 => q H2 k2 (f1.trans g1 f2) (Go.trans f1 g1 g2))
  · rename_i ρ1 e1
    cases e
    exact run1 Ex σ H ρ as _ _ _ k e1 fun H1 k1 f1 g1 => iteT (q H1 k1 f1 g1)
  · cases e
/-- a comparison as a test: the comparison as a value -/
theorem pt_of_cmpR {op : CmpOp} {t : TE} (h : PE X (.Compare a [op] [b] pos) t) (hm : behindInMarks op b = false) : True := trivial
end

/-! ### and, or, not as values -/
def eB (c : Bool) : D := .bl c
def eAndV (f g : C D) : C D := fun ρ => match f ρ with | some (.bl true, ρ1) => g ρ1 | some (.bl false, ρ1) => some (.bl false, ρ1) | _ => none
def eOrV (f g : C D) : C D := fun ρ => match f ρ with | some (.bl false, ρ1) => g ρ1 | some (.bl true, ρ1) => some (.bl true, ρ1) | _ => none
def eNotV (f : C D) : C D := fun ρ => match f ρ with | some (.bl b, ρ1) => some (.bl (!b), ρ1) | _ => none
def eIf (c : C Bool) (f g : C D) : C D := fun ρ => match c ρ with | some (true, ρ1) => f ρ1 | some (false, ρ1) => g ρ1 | none => none
section
variable {X : Cx} {e a b c : Expr} {rest : List Expr} {f g : C D} {pos : Pos}
theorem de_one {op : BoolOp} (h : DE X a f) : DE X (.BoolOp op [a] pos) f := by
  obtain ⟨t, h, run⟩ := h.ex
  exact ⟨_, pe_one h, run⟩
theorem de_and (h1 : DE X a f) (h2 : DE X (.BoolOp .And (b :: rest) pos) g) : DE X (.BoolOp .And (a :: b :: rest) pos) (eAndV f g) := by
  obtain ⟨t1, h1, run1⟩ := h1.ex
  obtain ⟨t2, h2, run2⟩ := h2.ex
  refine ⟨_, pe_and h1 h2, fun Ex σ H ρ as d ρ' Q k e q => ?_⟩
  unfold eAndV at e
  split at e
  · rename_i ρ1 e1
    exact run1 Ex σ H ρ as _ _ _ k e1 fun v H1 k1 f1 g1 rv => ⟨true, rep_bl.mp rv, iteT (run2 Ex σ H1 _ as _ _ _ k1 e fun v H2 k2 f2 g2 rv => q v H2 k2 (f1.trans g1 f2) (Go.trans f1 g1 g2) rv)⟩
  · rename_i ρ1 e1
    cases e
    exact run1 Ex σ H ρ as _ _ _ k e1 fun v H1 k1 f1 g1 rv => ⟨false, rep_bl.mp rv, iteF (q _ H1 k1 f1 g1 (rep_bl.mpr rfl))⟩
  · cases e
theorem de_or (h1 : DE X a f) (h2 : DE X (.BoolOp .Or (b :: rest) pos) g) : DE X (.BoolOp .Or (a :: b :: rest) pos) (eOrV f g) := by
  obtain ⟨t1, h1, run1⟩ := h1.ex
  obtain ⟨t2, h2, run2⟩ := h2.ex
  refine ⟨_, pe_or h1 h2, fun Ex σ H ρ as d ρ' Q k e q => ?_⟩
  unfold eOrV at e
  split at e
  · rename_i ρ1 e1
    exact run1 Ex σ H ρ as _ _ _ k e1 fun v H1 k1 f1 g1 rv => ⟨false, rep_bl.mp rv, iteF (run2 Ex σ H1 _ as _ _ _ k1 e fun v H2 k2 f2 g2 rv => q v H2 k2 (f1.trans g1 f2) (Go.trans f1 g1 g2) rv)⟩
  · rename_i ρ1 e1
    cases e
    exact run1 Ex σ H ρ as _ _ _ k e1 fun v H1 k1 f1 g1 rv => ⟨true, rep_bl.mp rv, iteT (q _ H1 k1 f1 g1 (rep_bl.mpr rfl))⟩
  · cases e
theorem de_not (h : DE X a f) : DE X (.UnaryOp .Not a pos) (eNotV f) := by
  obtain ⟨t, h, run⟩ := h.ex
  refine ⟨_, pe_not h, fun Ex σ H ρ as d ρ' Q k e q => ?_⟩
  unfold eNotV at e
  split at e
  · rename_i b1 ρ1 e1
    cases e
    exact run Ex σ H ρ as _ _ _ k e1 fun v H1 k1 f1 g1 rv => ⟨_, rep_bl.mp rv, q _ H1 k1 f1 g1 (rep_bl.mpr rfl)⟩
  · cases e
theorem de_if {fc : C Bool} (hc : DT X c fc) (ha : DE X a f) (hb : DE X b g) : DE X (.IfExp c a b pos) (eIf fc f g) := by
  obtain ⟨t0, h0, run0⟩ := hc.ex
  obtain ⟨t1, h1, run1⟩ := ha.ex
  obtain ⟨t2, h2, run2⟩ := hb.ex
  refine ⟨_, pe_ifExp h0 h1 h2, fun Ex σ H ρ as d ρ' Q k e q => ?_⟩
  unfold eIf at e
  split at e
  · rename_i ρ1 e1
    exact run0 Ex σ H ρ as _ _ _ k e1 fun H1 k1 f1 g1 => iteT (run1 Ex σ H1 _ as _ _ _ k1 e fun v H2 k2 f2 g2 rv => q v H2 k2 (f1.trans g1 f2) (Go.trans f1 g1 g2) rv)
  · rename_i ρ1 e1
    exact run0 Ex σ H ρ as _ _ _ k e1 fun H1 k1 f1 g1 => iteF (run2 Ex σ H1 _ as _ _ _ k1 e fun v H2 k2 f2 g2 rv => q v H2 k2 (f1.trans g1 f2) (Go.trans f1 g1 g2) rv)
  · cases e
end

/-! ### comparisons -/
mutual
def py : D → PyData
  | .non => .none | .bl b => .bool b | .int i => .int i | .str s => .str (mk s) | .lst ds => .list (pyL ds) | .scr ds => .list (pyL ds) | .tup ds => .tuple (pyL ds) | .dct _ _ => .dict []
def pyL : List D → List PyData
  | [] => [] | d :: ds => py d :: pyL ds
end
section
variable {K : PySem.W.Frag} {M : Addr → Prop} {H : Hp}
mutual
theorem Rep.dp : ∀ {d : D} {v : V}, Rep K M H d v → (py d).canLay0 = true → Dp K H v (py d)
  | .non, _, h, _ => by rw [rep_non.mp h, py]; exact .non
  | .bl b, _, h, _ => by rw [rep_bl.mp h, py]; exact .bl b
  | .int i, _, h, _ => by rw [rep_int.mp h, py]; exact .int i
  | .str s, _, h, _ => by rw [rep_str.mp h, py]; exact .str _
  | .lst ds, _, h, c => by
    obtain ⟨a, vs, e, l, r⟩ := rep_lst.mp h
    rw [e, py]; exact .lst l.seq (RepL.dp r (by simpa [py, PyData.canLay0] using c))
  | .scr ds, _, h, c => by
    obtain ⟨a, vs, e, l, r⟩ := rep_scr.mp h
    rw [e, py]; exact .lst l.seq (RepL.dp r (by simpa [py, PyData.canLay0] using c))
  | .tup ds, _, h, c => by
    obtain ⟨a, vs, e, l, r⟩ := rep_tup.mp h
    rw [e, py]; exact .tup l.seq (RepL.dp r (by simpa [py, PyData.canLay0] using c))
  | .dct _ _, _, _, c => by simp [py, PyData.canLay0] at c
theorem RepL.dp : ∀ {ds : List D} {vs : List V}, RepL K M H ds vs → PyData.canLayAll0 (pyL ds) = true → DpAll K H vs (pyL ds)
  | [], _, h, _ => by rw [repL_nil.mp h, pyL]; exact .nil
  | d :: ds, _, h, c => by
    obtain ⟨v, r, e, h1, h2⟩ := repL_cons.mp h
    have c' : (py d).canLay0 = true ∧ PyData.canLayAll0 (pyL ds) = true := by simpa [pyL, PyData.canLayAll0] using c
    rw [e, pyL]; exact .cons (Rep.dp h1 c'.1) (RepL.dp h2 c'.2)
end
end
def okD (d : D) : Bool := SeqAt.shaped (py d)
/-- == of data; of scalars at once, of others by their shapes -/
def eqD (d e : D) : Option Bool := match d, e with
  | .int i, .int j => some (decide (i = j))
  | .str s, .str t => some (decide (s = t))
  | .bl a, .bl b => some (decide (a = b))
  | .non, .non => some true
  | .non, .str _ => some false
  | .str _, .non => some false
  | d, e => if okD d && okD e then some (PyData.eqv (py d) (py e)) else none
def fEq (d e : D) : Option D := match eqD d e with | some b => some (.bl b) | none => none
def fNe (d e : D) : Option D := match eqD d e with | some b => some (.bl (!b)) | none => none
def rEqA (K : PySem.W.Frag) : R2 := fun x y H Q => rEq x y H Q ∨ rEqD K x y H Q
def rNeA (K : PySem.W.Frag) : R2 := fun x y H Q => rNe x y H Q ∨ rNeD K x y H Q
theorem V.str_mk {s t : List Nat} : (V.str (mk s) = V.str (mk t)) ↔ s = t := ⟨fun h => mk_inj (V.str.inj h), fun h => by rw [h]⟩
theorem eqD_cases {K : PySem.W.Frag} {M : Addr → Prop} {H : Hp} {x y : V} {d e : D} {b : Bool} (rx : Rep K M H d x) (ry : Rep K M H e y) (h : eqD d e = some b) :
    (scal x y = true ∧ decide (x = y) = b) ∨ (SeqAt.shaped (py d) = true ∧ SeqAt.shaped (py e) = true ∧ PyData.eqv (py d) (py e) = b) := by
  unfold eqD at h
  split at h
  · rw [rep_int.mp rx, rep_int.mp ry]
    refine .inl ⟨rfl, ?_⟩
    cases h
    simp
  · rw [rep_str.mp rx, rep_str.mp ry]
    refine .inl ⟨rfl, ?_⟩
    cases h
    simp only [V.str_mk]
  · rw [rep_bl.mp rx, rep_bl.mp ry]
    refine .inl ⟨rfl, ?_⟩
    cases h
    simp
  · rw [rep_non.mp rx, rep_non.mp ry]
    cases h
    exact .inl ⟨rfl, by simp⟩
  · rw [rep_non.mp rx, rep_str.mp ry]
    cases h
    exact .inl ⟨rfl, by simp⟩
  · rw [rep_str.mp rx, rep_non.mp ry]
    cases h
    exact .inl ⟨rfl, by simp⟩
  · split at h
    · rename_i hc
      simp only [okD, Bool.and_eq_true] at hc
      cases h
      exact .inr ⟨hc.1, hc.2, rfl⟩
    · cases h
theorem v_eq {K : PySem.W.Frag} : V2 K (rEqA K) fEq := fun M H x y d e res Q t rx ry h q => by
  unfold fEq at h
  split at h
  · rename_i b hb
    cases h
    rcases eqD_cases rx ry hb with ⟨h1, h2⟩ | ⟨h1, h2, h3⟩
    · exact .inl ⟨h1, by rw [h2]; exact q _ H (fun _ _ h => h) (rep_bl.mpr rfl)⟩
    · exact .inr ⟨_, _, rx.dp (SeqAt.canLay_of_shaped h1), ry.dp (SeqAt.canLay_of_shaped h2), h1, h2, by rw [h3]; exact q _ H (fun _ _ h => h) (rep_bl.mpr rfl)⟩
  · cases h
theorem v_ne {K : PySem.W.Frag} : V2 K (rNeA K) fNe := fun M H x y d e res Q t rx ry h q => by
  unfold fNe at h
  split at h
  · rename_i b hb
    cases h
    rcases eqD_cases rx ry hb with ⟨h1, h2⟩ | ⟨h1, h2, h3⟩
    · exact .inl ⟨h1, by rw [h2]; exact q _ H (fun _ _ h => h) (rep_bl.mpr rfl)⟩
    · exact .inr ⟨_, _, rx.dp (SeqAt.canLay_of_shaped h1), ry.dp (SeqAt.canLay_of_shaped h2), h1, h2, by rw [h3]; exact q _ H (fun _ _ h => h) (rep_bl.mpr rfl)⟩
  · cases h
theorem op_eqA {X : Cx} (hu : X.A.units + 64 < cLine) : OpR X (compareOp .Eq) (rEqA X.K) := op_eq.or (op_eqD hu)
theorem op_neA {X : Cx} (hu : X.A.units + 64 < cLine) : OpR X (compareOp .NotEq) (rNeA X.K) := op_ne.or (op_neD hu)
def fLt (d e : D) : Option D := match d, e with | .int i, .int j => some (.bl (decide (i < j))) | _, _ => none
def fLe (d e : D) : Option D := match d, e with | .int i, .int j => some (.bl (decide (i ≤ j))) | _, _ => none
def fGt (d e : D) : Option D := match d, e with | .int i, .int j => some (.bl (decide (j < i))) | _, _ => none
def fGe (d e : D) : Option D := match d, e with | .int i, .int j => some (.bl (decide (j ≤ i))) | _, _ => none
theorem v_int2 {K : PySem.W.Frag} {g : Int → Int → V} {C : Int → Int → Prop} {fn : D → D → Option D}
    (h : ∀ d e res, fn d e = some res → ∃ i j, d = .int i ∧ e = .int j ∧ C i j ∧ ∀ M H, Rep K M H res (g i j)) : V2 K (rI C g) fn := fun M H x y d e res Q t rx ry hf q => by
  obtain ⟨i, j, rfl, rfl, hc, hr⟩ := h d e res hf
  exact ⟨i, j, rep_int.mp rx, rep_int.mp ry, hc, q _ H (fun _ _ h => h) (hr M H)⟩
theorem v_int2' {K : PySem.W.Frag} {g : Int → Int → V} {fn : D → D → Option D}
    (h : ∀ d e res, fn d e = some res → ∃ i j, d = .int i ∧ e = .int j ∧ ∀ M H, Rep K M H res (g i j)) : V2 K (rI0 g) fn := fun M H x y d e res Q t rx ry hf q => by
  obtain ⟨i, j, rfl, rfl, hr⟩ := h d e res hf
  exact ⟨i, j, rep_int.mp rx, rep_int.mp ry, q _ H (fun _ _ h => h) (hr M H)⟩
theorem v_lt {K : PySem.W.Frag} : V2 K (rI0 fun i j => .bl (decide (i < j))) fLt := v_int2' fun d e res h => by
  unfold fLt at h; split at h <;> cases h; exact ⟨_, _, rfl, rfl, fun _ _ => rep_bl.mpr rfl⟩
theorem v_le {K : PySem.W.Frag} : V2 K (rI0 fun i j => .bl (decide (i ≤ j))) fLe := v_int2' fun d e res h => by
  unfold fLe at h; split at h <;> cases h; exact ⟨_, _, rfl, rfl, fun _ _ => rep_bl.mpr rfl⟩
theorem v_gt {K : PySem.W.Frag} : V2 K (rI0 fun i j => .bl (decide (j < i))) fGt := v_int2' fun d e res h => by
  unfold fGt at h; split at h <;> cases h; exact ⟨_, _, rfl, rfl, fun _ _ => rep_bl.mpr rfl⟩
theorem v_ge {K : PySem.W.Frag} : V2 K (rI0 fun i j => .bl (decide (j ≤ i))) fGe := v_int2' fun d e res h => by
  unfold fGe at h; split at h <;> cases h; exact ⟨_, _, rfl, rfl, fun _ _ => rep_bl.mpr rfl⟩
/-- is: None, True, False -/
def fIs (d e : D) : Option D := match d, e with
  | .non, .non => some (.bl true) | .bl a, .bl b => some (.bl (decide (a = b))) | d, .non => some (.bl false) | _, _ => none
def fIsNot (d e : D) : Option D := match d, e with
  | .non, .non => some (.bl false) | .bl a, .bl b => some (.bl (!decide (a = b))) | d, .non => some (.bl true) | _, _ => none
def rIsA : R2 := fun x y H Q => (y = .non ∧ Q (.bl (decide (x = .non))) H) ∨ rIsB x y H Q
def rIsNotA : R2 := fun x y H Q => (y = .non ∧ Q (.bl (!decide (x = .non))) H) ∨ rNotB x y H Q
theorem Rep.non_iff {K : PySem.W.Frag} {M : Addr → Prop} {H : Hp} {x : V} {d : D} (r : Rep K M H d x) (h : d ≠ .non) : x ≠ .non := by
  intro e
  subst e
  cases d <;> simp [Rep] at r h
theorem v_is {K : PySem.W.Frag} : V2 K rIsA fIs := fun M H x y d e res Q t rx ry h q => by
  unfold fIs at h
  split at h
  · cases h
    rw [rep_non.mp rx, rep_non.mp ry]
    exact .inl ⟨rfl, q _ H (fun _ _ h => h) (rep_bl.mpr (by simp))⟩
  · cases h
    exact .inr ⟨_, _, rep_bl.mp rx, rep_bl.mp ry, q _ H (fun _ _ h => h) (rep_bl.mpr rfl)⟩
  · rename_i hn
    cases h
    rw [rep_non.mp ry]
    have hx := rx.non_iff hn
    exact .inl ⟨rfl, q _ H (fun _ _ h => h) (rep_bl.mpr (by simp [hx]))⟩
  · cases h
theorem v_isnot {K : PySem.W.Frag} : V2 K rIsNotA fIsNot := fun M H x y d e res Q t rx ry h q => by
  unfold fIsNot at h
  split at h
  · cases h
    rw [rep_non.mp rx, rep_non.mp ry]
    exact .inl ⟨rfl, q _ H (fun _ _ h => h) (rep_bl.mpr (by simp))⟩
  · cases h
    exact .inr ⟨_, _, rep_bl.mp rx, rep_bl.mp ry, q _ H (fun _ _ h => h) (rep_bl.mpr rfl)⟩
  · rename_i hn
    cases h
    rw [rep_non.mp ry]
    have hx := rx.non_iff hn
    exact .inl ⟨rfl, q _ H (fun _ _ h => h) (rep_bl.mpr (by simp [hx]))⟩
  · cases h
theorem op_isA {X : Cx} : OpR X (compareOp .Is) rIsA := op_isN.or op_isBl
theorem op_isnotA {X : Cx} : OpR X (compareOp .IsNot) rIsNotA := op_notN.or op_notBl
/-- in: a sign in a text; flat things in a list or tuple; other data in a list -/
def eqF : D → D → Bool
  | .non, .non => true | .bl a, .bl b => a == b | .bl a, .int b => (if a then 1 else 0) == b | .int a, .bl b => a == (if b then 1 else 0)
  | .int a, .int b => a == b | .str a, .str b => decide (a = b) | _, _ => false
def inD (d e : D) : Option Bool := match e with
  | .str z => (match d with | .str [c] => some (decide (c ∈ z)) | _ => none)
  | .tup ds => if flatD d && ds.all flatD then some (ds.any fun y => eqF y d) else none
  | .lst ds => if flatD d && ds.all flatD then some (ds.any fun y => eqF y d) else if okD d && okD (.lst ds) then some (ds.any fun y => PyData.eqv (py y) (py d)) else none
  | _ => none
def fIn (d e : D) : Option D := match inD d e with | some b => some (.bl b) | none => none
def fNotIn (d e : D) : Option D := match inD d e with | some b => some (.bl (!b)) | none => none
def rInA (K : PySem.W.Frag) (neg : Bool) : R2 := fun x y H Q => (∃ (c : Nat) (z : Str), x = .str ⟨#[c]⟩ ∧ y = .str z ∧ Q (.bl (if neg then !decide (c ∈ z.cps.toList) else decide (c ∈ z.cps.toList))) H) ∨ rIn K neg x y H Q ∨
  (∃ d ds, Dp K H x d ∧ Dp K H y (.list ds) ∧ SeqAt.shaped d = true ∧ SeqAt.shaped (.list ds) = true ∧ Q (.bl (if neg then !(ds.any fun z => PyData.eqv z d) else ds.any fun z => PyData.eqv z d)) H)
theorem op_inA {X : Cx} (hu : X.A.units + 65 < cLine) : OpR X (compareOp .In) (rInA X.K false) := op_in_sign.or (op_in_seq.or (op_inD hu))
theorem op_notinA {X : Cx} (hu : X.A.units + 65 < cLine) : OpR X (compareOp .NotIn) (rInA X.K true) := op_notIn_sign.or (op_notIn_seq.or (op_notInD hu))
theorem Rep.flatV {K : PySem.W.Frag} {M : Addr → Prop} {H : Hp} {d : D} {v : V} (r : Rep K M H d v) (f : flatD d = true) : flatV v = true := by
  cases d <;> first | (simp only [Rep] at r; subst r; rfl) | cases f
theorem Rep.eqV {K : PySem.W.Frag} {M : Addr → Prop} {H : Hp} {d e : D} {v w : V} (r : Rep K M H d v) (q : Rep K M H e w) (f : flatD d = true) (g : flatD e = true) : eqV v w = eqF d e := by
  have estr : ∀ a b : List Nat, (mk a == mk b) = decide (a = b) := fun a b => by
    rw [Bool.eq_iff_iff]; simp only [beq_iff_eq, decide_eq_true_eq]; exact ⟨mk_inj, fun h => by rw [h]⟩
  cases d <;> first | cases f | skip
  all_goals (cases e <;> first | cases g | skip)
  all_goals (simp only [Rep] at r q; subst r; subst q; first | rfl | exact estr _ _)
theorem RepL.flatV {K : PySem.W.Frag} {M : Addr → Prop} {H : Hp} : ∀ {ds : List D} {vs : List V}, RepL K M H ds vs → ds.all flatD = true → vs.all L2.flatV = true
  | [], _, r, _ => by rw [repL_nil.mp r]; rfl
  | d :: ds, _, r, f => by
    obtain ⟨v, t, e, h1, h2⟩ := repL_cons.mp r
    subst e
    simp only [List.all_cons, Bool.and_eq_true] at f ⊢
    exact ⟨h1.flatV f.1, RepL.flatV h2 f.2⟩
theorem RepL.inV {K : PySem.W.Frag} {M : Addr → Prop} {H : Hp} {d : D} {v : V} (r : Rep K M H d v) (f : flatD d = true) : ∀ {ds : List D} {vs : List V}, RepL K M H ds vs → ds.all flatD = true → inV v vs = ds.any fun y => eqF y d
  | [], _, r, _ => by rw [repL_nil.mp r]; rfl
  | e :: ds, _, q, g => by
    obtain ⟨w, t, e, h1, h2⟩ := repL_cons.mp q
    subst e
    simp only [List.all_cons, Bool.and_eq_true] at g
    have ih := RepL.inV r f h2 g.2
    unfold L2.inV at ih ⊢
    rw [List.any_cons, List.any_cons, ih, h1.eqV r g.1 f]
theorem pyL_map : ∀ ds : List D, pyL ds = ds.map py
  | [] => by rw [pyL]; rfl
  | d :: ds => by rw [pyL, pyL_map ds]; rfl
theorem v_inG {K : PySem.W.Frag} {neg : Bool} {M : Addr → Prop} {H : Hp} {x y : V} {d e : D} {b : Bool} {Q : VK} (rx : Rep K M H d x) (ry : Rep K M H e y) (h : inD d e = some b) (q : Q (.bl (if neg then !b else b)) H) : rInA K neg x y H Q := by
  unfold inD at h
  split at h
  · split at h
    · cases h
      exact .inl ⟨_, mk _, rep_str.mp rx, rep_str.mp ry, q⟩
    · cases h
  · split at h
    · rename_i hf
      simp only [Bool.and_eq_true] at hf
      obtain ⟨a, vs, e, l, r⟩ := rep_tup.mp ry
      cases h
      exact .inr (.inl ⟨a, vs, e, .inr l.seq, rx.flatV hf.1, r.flatV hf.2, by rw [RepL.inV rx hf.1 r hf.2]; exact q⟩)
    · cases h
  · split at h
    · rename_i hf
      simp only [Bool.and_eq_true] at hf
      obtain ⟨a, vs, e, l, r⟩ := rep_lst.mp ry
      cases h
      exact .inr (.inl ⟨a, vs, e, .inl l.seq, rx.flatV hf.1, r.flatV hf.2, by rw [RepL.inV rx hf.1 r hf.2]; exact q⟩)
    · split at h
      · rename_i hf
        simp only [Bool.and_eq_true, okD] at hf
        cases h
        refine .inr (.inr ⟨_, _, rx.dp (SeqAt.canLay_of_shaped hf.1), by have := ry.dp (SeqAt.canLay_of_shaped hf.2); rw [py] at this; exact this, hf.1, by have := hf.2; rw [py] at this; exact this, ?_⟩)
        rw [pyL_map, List.any_map]
        exact q
      · cases h
  · cases h
theorem v_in {K : PySem.W.Frag} : V2 K (rInA K false) fIn := fun M H x y d e res Q t rx ry h q => by
  unfold fIn at h
  split at h
  · rename_i b hb
    cases h
    exact v_inG rx ry hb (q _ H (fun _ _ h => h) (rep_bl.mpr rfl))
  · cases h
theorem v_notin {K : PySem.W.Frag} : V2 K (rInA K true) fNotIn := fun M H x y d e res Q t rx ry h q => by
  unfold fNotIn at h
  split at h
  · rename_i b hb
    cases h
    exact v_inG rx ry hb (q _ H (fun _ _ h => h) (rep_bl.mpr rfl))
  · cases h
end PD

namespace PD
open PySem L2
abbrev lim : Nat := 1000000
theorem lim_line : lim ≤ sizeLine := by rw [sizeLine_eq]; decide

/-! ### arithmetic -/
def fAdd (d e : D) : Option D := match d, e with
  | .int i, .int j => some (.int (i + j))
  | .str s, .str t => if s.length + t.length ≤ lim then some (.str (s ++ t)) else none
  | .tup xs, .tup ys => if xs.length + ys.length ≤ lim then some (.tup (xs ++ ys)) else none
  | _, _ => none
def fSub (d e : D) : Option D := match d, e with | .int i, .int j => some (.int (i - j)) | _, _ => none
def small64 (i : Int) : Bool := decide (-(2 ^ 64) < i) && decide (i < 2 ^ 64)
def repN {α : Type} (n : Nat) (xs : List α) : List α := (List.replicate n xs).flatten
def fMul (d e : D) : Option D := match d, e with
  | .int i, .int j => if small64 i || small64 j then some (.int (i * j)) else none
  | .str s, .int j => if 0 ≤ j ∧ j ≤ 1000 ∧ s.length ≤ 1000 then some (.str (repN j.toNat s)) else none
  | _, _ => none
def fDiv (d e : D) : Option D := match d, e with | .int i, .int j => if 0 < j ∧ j < 1073741824 then some (.int (i / j)) else none | _, _ => none
def fMod (d e : D) : Option D := match d, e with | .int i, .int j => if 0 < j then some (.int (i % j)) else none | _, _ => none
def fPow (d e : D) : Option D := match d, e with | .int i, .int j => if 0 ≤ j ∧ j ≤ 1000 ∧ i.natAbs < 2 ^ 64 then some (.int (i ^ j.toNat)) else none | _, _ => none
def fNeg (d : D) : Option D := match d with | .int i => some (.int (-i)) | _ => none
def rAddA (K : PySem.W.Frag) : R2 := fun x y H Q => rI0 (fun i j => .int (i + j)) x y H Q ∨ (∃ i j, x = .str i ∧ y = .str j ∧ i.length + j.length ≤ sizeLine ∧ Q (.str (i ++ j)) H) ∨ rCatA K x y H Q
theorem op_addA {X : Cx} : OpR X (binaryOp .Add) (rAddA X.K) := op_add.or (op_add_str.or op_catA)
theorem RepL.nil_iff {K : PySem.W.Frag} {M : Addr → Prop} {H : Hp} {ds : List D} {vs : List V} (r : RepL K M H ds vs) : vs = [] ↔ ds = [] := by
  have h := r.length
  cases ds <;> cases vs <;> simp at h ⊢
theorem v_add {K : PySem.W.Frag} : V2 K (rAddA K) fAdd := fun M H x y d e res Q t rx ry h q => by
  unfold fAdd at h
  split at h
  · cases h
    exact .inl ⟨_, _, rep_int.mp rx, rep_int.mp ry, q _ H (fun _ _ h => h) (rep_int.mpr rfl)⟩
  · split at h
    · rename_i hl
      cases h
      refine .inr (.inl ⟨_, _, rep_str.mp rx, rep_str.mp ry, ?_, ?_⟩)
      · rw [mk_len, mk_len]; exact Nat.le_trans hl lim_line
      · rw [mk_app]; exact q _ H (fun _ _ h => h) (rep_str.mpr rfl)
    · cases h
  · split at h
    · rename_i xs ys hl
      cases h
      obtain ⟨a, vs, e1, l1, r1⟩ := rep_tup.mp rx
      obtain ⟨b, us, e2, l2, r2⟩ := rep_tup.mp ry
      refine .inr (.inr ⟨a, b, vs, us, e1, e2, l1.seq, l2.seq, ?_, fun z => ?_, fun _ z => ?_, fun _ _ p hp => ?_⟩)
      · rw [r1.length, r2.length]; exact Nat.le_trans hl lim_line
      · rw [r1.nil_iff] at z
        subst z
        rw [← e2]
        exact q _ H (fun _ _ h => h) (by simpa using ry)
      · rw [r2.nil_iff] at z
        subst z
        rw [← e1]
        exact q _ H (fun _ _ h => h) (by simpa using rx)
      · exact q _ _ (same_upd hp) (rep_newT t hp (r1.app r2))
    · cases h
  · cases h
theorem v_sub {K : PySem.W.Frag} : V2 K (rI0 fun i j => .int (i - j)) fSub := v_int2' fun d e res h => by
  unfold fSub at h; split at h <;> cases h; exact ⟨_, _, rfl, rfl, fun _ _ => rep_int.mpr rfl⟩
/-- text times int -/
def rRepS : R2 := fun x y H Q => ∃ z k, x = .str z ∧ y = .int k ∧ 0 ≤ k ∧ k ≤ 1000 ∧ z.length ≤ 1000 ∧ Q (.str (mk (repN k.toNat z.cps.toList))) H
theorem fold_app (xs : Array Nat) : ∀ (n : Nat) (acc : Array Nat), (List.replicate n xs).foldl (· ++ ·) acc = (acc.toList ++ repN n xs.toList).toArray
  | 0, acc => by simp [repN]
  | n + 1, acc => by
    rw [List.replicate_succ, List.foldl_cons, fold_app xs n]
    simp [repN, List.replicate_succ]
theorem op_repS {X : Cx} : OpR X (binaryOp .Mult) rRepS := by
  intro pins s σ H x y v u Q I rx ry h
  obtain ⟨z, k, rfl, rfl, h0, h1, hz, q⟩ := h
  obtain ⟨t, rfl⟩ := rx
  obtain ⟨t', rfl⟩ := ry
  have hk : z.length * k.toNat ≤ sizeLine := by
    have h2 : k.toNat ≤ 1000 := by omega
    exact Nat.le_trans (Nat.mul_le_mul hz h2) (by rw [sizeLine_eq]; decide)
  refine P.mul_str ?_ (fun h2 _ hc => ?_) (fun _ _ => ?_) ?_
  · rw [decide_eq_false (by omega), decide_eq_false (by omega)]; rfl
  · have h3 : (2 ^ 63 - 1 : Int) / 1000 ≤ (2 ^ 63 - 1) / k := by
      have h5 : (0 : Int) < k := by omega
      rw [Int.le_ediv_iff_mul_le h5]
      have h6 : (2 ^ 63 - 1 : Int) / 1000 * k ≤ (2 ^ 63 - 1 : Int) / 1000 * 1000 := Int.mul_le_mul_of_nonneg_left (by omega) (by decide)
      exact Int.le_trans h6 (by decide)
    have h4 : (1000 : Int) ≤ (2 ^ 63 - 1 : Int) / 1000 := by decide
    omega
  · unfold Builtin.Str.tooLong
    simp only [decide_eq_false_iff_not, gt_iff_lt, Nat.not_lt]
    first | exact hk | exact Nat.le_trans hk (by decide)
  · have hr : z.length ≤ sizeLine := Nat.le_trans hz (by rw [sizeLine_eq]; decide)
    by_cases c : k < 1
    · rw [if_pos c]
      have e : k.toNat = 0 := by omega
      rw [e] at q
      exact ⟨by decide, .str _, H, I.tok _, ⟨_, rfl⟩, q⟩
    · rw [if_neg c]
      by_cases c2 : (k == 1 || z.length == 0) = true
      · rw [if_pos c2]
        have e : mk (repN k.toNat z.cps.toList) = z := by
          rw [← mk_of z]
          simp only [Bool.or_eq_true, beq_iff_eq] at c2
          rcases c2 with c2 | c2
          · rw [c2]
            simp [repN, mk_tl]
          · have : z.cps.toList = [] := by simpa [Str.length] using c2
            rw [this]
            simp [repN, mk]
        rw [e] at q
        exact ⟨.str z, H, I, ⟨t, rfl⟩, q⟩
      · rw [if_neg c2]
        have e : (⟨(List.replicate k.toNat z.cps).foldl (· ++ ·) #[]⟩ : Str) = mk (repN k.toNat z.cps.toList) := by
          rw [fold_app]
          simp [mk]
        rw [e]
        refine ⟨?_, .str _, H, I.tok _, ⟨_, rfl⟩, q⟩
        rw [mk_len]
        have : (repN k.toNat z.cps.toList).length = k.toNat * z.length := by
          simp [repN, Str.length]
        rw [this, Nat.mul_comm]
        exact hk
def rMulA : R2 := fun x y H Q => rI CMul (fun i j => .int (i * j)) x y H Q ∨ rRepS x y H Q
theorem op_mulA {X : Cx} : OpR X (binaryOp .Mult) rMulA := op_mul.or op_repS
theorem v_mul {K : PySem.W.Frag} : V2 K rMulA fMul := fun M H x y d e res Q t rx ry h q => by
  unfold fMul at h
  split at h
  · split at h
    · rename_i hc
      cases h
      refine .inl ⟨_, _, rep_int.mp rx, rep_int.mp ry, ?_, q _ H (fun _ _ h => h) (rep_int.mpr rfl)⟩
      simp only [small64, Bool.or_eq_true, Bool.and_eq_true, decide_eq_true_eq] at hc
      exact hc
    · cases h
  · split at h
    · rename_i hc
      cases h
      exact .inr ⟨_, _, rep_str.mp rx, rep_int.mp ry, hc.1, hc.2.1, by rw [mk_len]; exact hc.2.2, q _ H (fun _ _ h => h) (rep_str.mpr rfl)⟩
    · cases h
  · cases h
theorem v_div {K : PySem.W.Frag} : V2 K (rI CDiv fun i j => .int (i / j)) fDiv := v_int2 fun d e res h => by
  unfold fDiv at h; split at h
  · split at h
    · rename_i hc; cases h; exact ⟨_, _, rfl, rfl, hc, fun _ _ => rep_int.mpr rfl⟩
    · cases h
  · cases h
theorem v_mod {K : PySem.W.Frag} : V2 K (rI (fun _ j => 0 < j) fun i j => .int (i % j)) fMod := v_int2 fun d e res h => by
  unfold fMod at h; split at h
  · split at h
    · rename_i hc; cases h; exact ⟨_, _, rfl, rfl, hc, fun _ _ => rep_int.mpr rfl⟩
    · cases h
  · cases h
theorem v_pow {K : PySem.W.Frag} : V2 K (rI CPow fun i j => .int (i ^ j.toNat)) fPow := v_int2 fun d e res h => by
  unfold fPow at h; split at h
  · split at h
    · rename_i hc; cases h; exact ⟨_, _, rfl, rfl, ⟨hc.1, by omega, hc.2.2⟩, fun _ _ => rep_int.mpr rfl⟩
    · cases h
  · cases h
theorem v_neg {K : PySem.W.Frag} : V1 K (rU fun i => .int (-i)) fNeg := fun M H x d res Q t rx h q => by
  unfold fNeg at h; split at h <;> cases h
  exact ⟨_, rep_int.mp rx, q _ H (fun _ _ h => h) (rep_int.mpr rfl)⟩
/-- lists: +, times -/
def gAdd (d e : D) : Option (List D) := match d, e with | .lst xs, .lst ys => if xs.length + ys.length ≤ lim then some (xs ++ ys) else none | _, _ => none
def gMul (d e : D) : Option (List D) := match d, e with | .lst xs, .int j => if 0 ≤ j ∧ j ≤ 1000 ∧ xs.length ≤ 1000 then some (repN j.toNat xs) else none | _, _ => none
theorem v_addL {K : PySem.W.Frag} : V2o K rCat gAdd := fun M H x y d e res Q t rx ry h q => by
  unfold gAdd at h
  split at h
  · split at h
    · rename_i hl
      cases h
      obtain ⟨a, vs, e1, l1, r1⟩ := rep_lst.mp rx
      obtain ⟨b, us, e2, l2, r2⟩ := rep_lst.mp ry
      have hz : vs.length + us.length ≤ sizeLine := by rw [r1.length, r2.length]; exact Nat.le_trans hl lim_line
      exact ⟨a, b, vs, us, e1, e2, l1.2, l2.2, hz, fun p hp => q p _ hp (by rw [List.length_append]; exact hz) (r1.app r2)⟩
    · cases h
  · cases h
theorem RepL.rep {K : PySem.W.Frag} {M : Addr → Prop} {H : Hp} {ds : List D} {vs : List V} (r : RepL K M H ds vs) : ∀ n : Nat, RepL K M H (repN n ds) (repN n vs)
  | 0 => by simpa [repN] using RepL.nil
  | n + 1 => by
    have := r.app (RepL.rep r n)
    simpa [repN, List.replicate_succ] using this
theorem repN_len {α : Type} (n : Nat) (xs : List α) : (repN n xs).length = n * xs.length := by simp [repN]
theorem v_mulL {K : PySem.W.Frag} : V2o K rRep gMul := fun M H x y d e res Q t rx ry h q => by
  unfold gMul at h
  split at h
  · split at h
    · rename_i xs j hl
      cases h
      obtain ⟨a, vs, e1, l1, r1⟩ := rep_lst.mp rx
      have hz : vs.length * j.toNat ≤ sizeLine := by
        rw [r1.length]
        exact Nat.le_trans (Nat.mul_le_mul hl.2.2 (show j.toNat ≤ 1000 by omega)) (by rw [sizeLine_eq]; decide)
      exact ⟨a, j, vs, e1, rep_int.mp ry, l1.2, by omega, by omega, hz, fun p hp => q p (repN j.toNat vs) hp (by rw [repN_len, Nat.mul_comm]; exact hz) (r1.rep _)⟩
    · cases h
  · cases h

/-! ### items -/
def fIdx (d i : D) : Option D := match d, i with
  | .lst ds, .int i => atI ds i
  | .tup ds, .int i => atI ds i
  | .scr ds, .int i => atI ds i
  | .str s, .int i => if s.length ≤ lim then (match atI s i with | some c => some (.str [c]) | none => none) else none
  | _, _ => none
theorem RepL.at {K : PySem.W.Frag} {M : Addr → Prop} {H : Hp} {ds : List D} {vs : List V} (r : RepL K M H ds vs) {i : Int} {d : D} (h : atI ds i = some d) : ∃ v, atI vs i = some v ∧ Rep K M H d v := by
  unfold atI at h ⊢
  rw [r.length]
  cases e : ixN ds.length i with
  | none => rw [e] at h; cases h
  | some j =>
    rw [e] at h
    exact r.get h
theorem v_idx {K : PySem.W.Frag} : V2 K (rIx K) fIdx := fun M H x y d e res Q t rx ry h q => by
  unfold fIdx at h
  split at h
  · obtain ⟨a, vs, e1, l1, r1⟩ := rep_lst.mp rx
    obtain ⟨v, e2, r2⟩ := r1.at h
    exact .inl ⟨a, vs, _, v, e1, rep_int.mp ry, l1.seq, e2, q _ H (fun _ _ h => h) r2⟩
  · obtain ⟨a, vs, e1, l1, r1⟩ := rep_tup.mp rx
    obtain ⟨v, e2, r2⟩ := r1.at h
    exact .inr (.inl ⟨a, vs, _, v, e1, rep_int.mp ry, l1.seq, e2, q _ H (fun _ _ h => h) r2⟩)
  · obtain ⟨a, vs, e1, l1, r1⟩ := rep_scr.mp rx
    obtain ⟨v, e2, r2⟩ := r1.at h
    exact .inl ⟨a, vs, _, v, e1, rep_int.mp ry, l1.seq, e2, q _ H (fun _ _ h => h) r2⟩
  · split at h
    · rename_i hl
      split at h
      · rename_i c hc
        cases h
        exact .inr (.inr ⟨mk _, _, c, rep_str.mp rx, rep_int.mp ry, by rw [mk_len]; exact Nat.le_trans hl lim_line, hc, q _ H (fun _ _ h => h) (rep_str.mpr rfl)⟩)
      · cases h
    · cases h
  · cases h
/-- an item of a list that is owned here: its items are data -/
def eOwnIdx (i : Nat) (f : C D) : C D := fun ρ => match pVar i ρ with
  | none => none
  | some _ => (match f ρ with
    | some (.int k, ρ1) => (match ρ1[i]? with
      | some (.own ds) => (match atI ds k with | some d => some (d, ρ1) | none => none)
      | some (.ino ds) => (match atI ds k with | some d => some (d, ρ1) | none => none)
      | _ => none)
    | _ => none)
theorem Ok.slot {K : PySem.W.Frag} {Ex : Addr → Prop} {σ : St} {H : Hp} {ρ : Rho} {as : Nat → Addr} {i : Nat} {d : D} (k : Ok K Ex σ H ρ as) (h : pVar i ρ = some d) : ∃ v, σ[i]? = some (some v) := by
  unfold pVar at h
  split at h
  · rename_i h1; obtain ⟨v, e, _⟩ := k.dat i _ h1; exact ⟨v, e⟩
  · rename_i h1; exact ⟨_, (k.own i (.L _) (.inl h1)).1⟩
  · rename_i h1; exact ⟨_, (k.own i (.L _) (.inr h1)).1⟩
  · cases h
theorem de_ownIdx {X : Cx} {i : Nat} {o b e : Expr} {f : C D} (ho : PE X o (tVar i)) (hb : DE X b f) (he : ∀ ta tb, PE X o ta → PE X b tb → PE X e (tOp (rIxL X.K) ta tb)) : DE X e (eOwnIdx i f) := by
  obtain ⟨tb, h2, run2⟩ := hb.ex
  refine ⟨_, he _ tb ho h2, fun Ex σ H ρ as d ρ' Q k e q => ?_⟩
  unfold eOwnIdx at e
  split at e
  · cases e
  · rename_i d0 h0
    obtain ⟨v, hv⟩ := k.slot h0
    have fin : ∀ {ρ1 : Rho} {H1 : Hp} {ds : List D} {kk : Int} {d1 : D} {w : V}, Ok X.K Ex σ H1 ρ1 as → Fr (Own ρ as) H H1 → Go H ρ as ρ1 as → Rep X.K (MM Ex ρ1 as) H1 (.int kk) w → IsOwn ρ1 i (.L ds) → atI ds kk = some d1 →
        (∀ v H', Ok X.K Ex σ H' ρ1 as → Fr (Own ρ as) H H' → Go H ρ as ρ1 as → Rep X.K (MM Ex ρ1 as) H' d1 v → Q v H') → rIxL X.K v w H1 Q := fun {ρ1 H1 ds kk d1 w} k1 f1 g1 rw ho hd q => by
      obtain ⟨e1, _, vs, e2, _, r⟩ := k1.own i (.L ds) ho
      rw [hv] at e1
      cases e1
      obtain ⟨u, e3, r3⟩ := r.at hd
      exact ⟨_, vs, kk, u, rfl, rep_int.mp rw, .inl (.inl e2), e3, q u H1 k1 f1 g1 r3⟩
    refine ⟨v, hv, ?_⟩
    split at e
    · rename_i kk ρ1 e1
      split at e
      · rename_i ds h1
        split at e
        · rename_i d1 hd
          cases e
          exact run2 Ex σ H ρ as _ _ _ k e1 fun w H1 k1 f1 g1 rw => fin k1 f1 g1 rw (.inl h1) hd q
        · cases e
      · rename_i ds h1
        split at e
        · rename_i d1 hd
          cases e
          exact run2 Ex σ H ρ as _ _ _ k e1 fun w H1 k1 f1 g1 rw => fin k1 f1 g1 rw (.inr h1) hd q
        · cases e
      · cases e
    · cases e

/-! ### slices -/
def cutL {α : Type} (xs : List α) (lo hi : Option Int) : List α := (xs.drop (HT.sIx xs.length 0 lo)).take (HT.sIx xs.length xs.length hi - HT.sIx xs.length 0 lo)
structure DQ (X : Cx) (e : Option Expr) (f : C (Option Int)) : Prop where
  ex : ∃ t, PO X e t ∧ ∀ (Ex : Addr → Prop) (σ : St) (H : Hp) (ρ : Rho) (as : Nat → Addr) (o : Option Int) (ρ' : Rho) (Q : Option Int → Hp → Prop), Ok X.K Ex σ H ρ as → f ρ = some (o, ρ') →
    (∀ H', Ok X.K Ex σ H' ρ' as → Fr (Own ρ as) H H' → Go H ρ as ρ' as → Q o H') → t σ H Q
def qNone : C (Option Int) := fun ρ => some (none, ρ)
def qSome (f : C D) : C (Option Int) := fun ρ => match f ρ with | some (.int i, ρ') => some (some i, ρ') | _ => none
section
variable {X : Cx} {e : Expr} {f : C D}
theorem dq_none : DQ X none qNone := ⟨_, po_none, fun Ex σ H ρ as o ρ' Q k e q => by cases e; exact q H k .refl .refl⟩
theorem dq_some (h : DE X e f) : DQ X (some e) (qSome f) := by
  obtain ⟨t, h, run⟩ := h.ex
  refine ⟨_, po_some h, fun Ex σ H ρ as o ρ' Q k e q => ?_⟩
  unfold qSome at e
  split at e
  · rename_i i ρ1 e1
    cases e
    exact run Ex σ H ρ as _ _ _ k e1 fun v H1 k1 f1 g1 rv => ⟨i, rep_int.mp rv, q H1 k1 f1 g1⟩
  · cases e
end
def fCut (d : D) (lo hi : Option Int) : Option D := match d with
  | .str s => if s.length ≤ lim then some (.str (cutL s lo hi)) else none
  | .tup ds => some (.tup (cutL ds lo hi))
  | _ => none
def gCut (d : D) (lo hi : Option Int) : Option (List D) := match d with | .lst ds => if ds.length ≤ lim then some (cutL ds lo hi) else none | _ => none
def eCut (f : C D) (l h : C (Option Int)) : C D := fun ρ => match f ρ with
  | some (d, ρ1) => (match l ρ1 with
    | some (lo, ρ2) => (match h ρ2 with
      | some (hi, ρ3) => (match fCut d lo hi with | some r => some (r, ρ3) | none => none)
      | none => none)
    | none => none)
  | none => none
def oCut (f : C D) (l h : C (Option Int)) : C (List D) := fun ρ => match f ρ with
  | some (d, ρ1) => (match l ρ1 with
    | some (lo, ρ2) => (match h ρ2 with
      | some (hi, ρ3) => (match gCut d lo hi with | some r => some (r, ρ3) | none => none)
      | none => none)
    | none => none)
  | none => none
def rCutA (K : PySem.W.Frag) : V → Option Int → Option Int → Hp → VK → Prop := fun x lo hi H Q => rSlS x lo hi H Q ∨ rSlA K x lo hi H Q
theorem sl_A {X : Cx} : SlR X (rCutA X.K) := sl_str.or sl_tupA
theorem RepL.cut {K : PySem.W.Frag} {M : Addr → Prop} {H : Hp} {ds : List D} {vs : List V} (r : RepL K M H ds vs) (lo hi : Option Int) : RepL K M H (cutL ds lo hi) (cutV vs lo hi) := by
  unfold cutL cutV
  rw [r.length]
  exact (r.drop _).take _
theorem cutL_whole {α : Type} {xs : List α} {lo hi : Option Int} (h : HT.sIx xs.length 0 lo = 0 ∧ HT.sIx xs.length xs.length hi = xs.length) : cutL xs lo hi = xs := by
  unfold cutL
  rw [h.1, h.2]
  simp
theorem v_cut {K : PySem.W.Frag} {M : Addr → Prop} {H : Hp} {x : V} {d res : D} {lo hi : Option Int} {Q : VK} (t : Trk M H) (rx : Rep K M H d x) (h : fCut d lo hi = some res) (q : ∀ v H', Same H H' → Rep K M H' res v → Q v H') : rCutA K x lo hi H Q := by
  unfold fCut at h
  split at h
  · split at h
    · rename_i s hl
      cases h
      refine .inl ⟨mk s, rep_str.mp rx, by rw [mk_len]; exact Nat.le_trans hl lim_line, q _ H (fun _ _ h => h) (rep_str.mpr ?_)⟩
      unfold cutS cutL
      rw [mk_len]
      rfl
    · cases h
  · cases h
    obtain ⟨a, vs, e1, l1, r1⟩ := rep_tup.mp rx
    refine .inr ⟨a, vs, e1, l1.seq, fun hw => ?_, fun hw p hp => ?_⟩
    · rw [r1.length] at hw
      rw [← e1]
      exact q _ H (fun _ _ h => h) (by rw [cutL_whole hw]; exact rx)
    · exact q _ _ (same_upd hp) (rep_newT t hp (r1.cut lo hi))
  · cases h
section
variable {X : Cx} {a : Expr} {lo hi : Option Expr} {f : C D} {l h : C (Option Int)} {pos p2 : Pos}
theorem de_cut (ha : DE X a f) (hl : DQ X lo l) (hh : DQ X hi h) : DE X (.Subscript a (.Slice lo hi none p2) pos) (eCut f l h) := by
  obtain ⟨t, ha, run⟩ := ha.ex
  obtain ⟨tl, hl, runl⟩ := hl.ex
  obtain ⟨th, hh, runh⟩ := hh.ex
  refine ⟨_, pe_slice sl_A ha hl hh, fun Ex σ H ρ as d ρ' Q k e q => ?_⟩
  unfold eCut at e
  split at e
  · rename_i d1 ρ1 e1
    split at e
    · rename_i lo ρ2 e2
      split at e
      · rename_i hi ρ3 e3
        split at e
        · rename_i r e4
          cases e
          exact run Ex σ H ρ as _ _ _ k e1 fun v H1 k1 f1 g1 rv => runl Ex σ H1 ρ1 as _ _ _ k1 e2 fun H2 k2 f2 g2 => runh Ex σ H2 ρ2 as _ _ _ k2 e3 fun H3 k3 f3 g3 =>
            v_cut (fun a => k3.trk) ((rv.keep (Keep.of f2 g2)).keep (Keep.of f3 g3)) e4 fun u H4 s ru => q u H4 (k3.same s)
              ((f1.trans g1 (f2.trans g2 f3)).trans (Go.trans f1 g1 (Go.trans f2 g2 g3)) (.of_same s)) (Go.trans f1 g1 (Go.trans f2 g2 g3)) ru
        · cases e
      · cases e
    · cases e
  · cases e
theorem do_cut (ha : DE X a f) (hl : DQ X lo l) (hh : DQ X hi h) : DO X (.Subscript a (.Slice lo hi none p2) pos) (oCut f l h) := by
  obtain ⟨t, ha, run⟩ := ha.ex
  obtain ⟨tl, hl, runl⟩ := hl.ex
  obtain ⟨th, hh, runh⟩ := hh.ex
  refine ⟨_, pe_slice sl_list ha hl hh, fun Ex σ H ρ as d ρ' Q k e q => ?_⟩
  unfold oCut at e
  split at e
  · rename_i d1 ρ1 e1
    split at e
    · rename_i lo ρ2 e2
      split at e
      · rename_i hi ρ3 e3
        split at e
        · rename_i r e4
          cases e
          refine run Ex σ H ρ as _ _ _ k e1 fun v H1 k1 f1 g1 rv => runl Ex σ H1 ρ1 as _ _ _ k1 e2 fun H2 k2 f2 g2 => runh Ex σ H2 ρ2 as _ _ _ k2 e3 fun H3 k3 f3 g3 => ?_
          have rv3 := (rv.keep (Keep.of f2 g2)).keep (Keep.of (Ex := Ex) f3 g3)
          unfold gCut at e4
          split at e4
          · split at e4
            · rename_i ds hl
              cases e4
              obtain ⟨a, vs, e5, l5, r5⟩ := rep_lst.mp rv3
              refine ⟨a, vs, e5, l5.seq, fun p hp => ?_⟩
              obtain ⟨k4, r4⟩ := k3.newL hp (r5.cut lo hi)
              exact q p _ _ k4 ((f1.trans g1 (f2.trans g2 f3)).trans (Go.trans f1 g1 (Go.trans f2 g2 g3)) (.of_same (same_upd hp))) (Go.trans f1 g1 (Go.trans f2 g2 g3)) (f1.free (f2.free (f3.free hp))) upd_same
                (Nat.le_trans (cutV_length vs lo hi) (by rw [r5.length]; exact Nat.le_trans hl lim_line)) r4
            · cases e4
          · cases e4
        · cases e
      · cases e
    · cases e
  · cases e
end
end PD

namespace PD
open PySem L2

/-! ### turned about -/
theorem picks_rev (x : Str) : ((Builtin.Str.strSliceIndices none none (-1) x.length).filterMap (x.cps[·]?)).toArray = x.cps.toList.reverse.toArray := by
  have h : Builtin.Str.strSliceIndices none none (-1) x.length = (List.range x.length).reverse := by
    show sliceRange ((x.length : Int) - 1) (-1) (-1) = _
    rw [PySem.W.krv_sliceRange, PySem.W.krv_range]
  rw [h, List.filterMap_reverse]
  have := PySem.W.krv_all x.cps
  unfold Str.length
  rw [this]
def tRevS (te : TE) : TE := fun σ H Q => te σ H fun x H1 => ∃ z, x = .str z ∧ z.length ≤ sizeLine ∧ Q (.str (mk z.cps.toList.reverse)) H1
theorem pe_revS {X : Cx} {e : Expr} {te : TE} {k : Nat} {p1 p2 p3 pos : Pos} (he : PE X e te) : PE X (.Subscript e (.Slice none none (some (.UnaryOp .USub (.Constant (.int 1) k p1) p2)) p3) pos) (tRevS te) := by
  constructor
  intro pins s σ H Q I h
  apply PyProof.Rows.Subscript_
  refine thn (he.run pins s σ H _ I h) ?_
  rintro v s1 ⟨x, H1, I1, r1, z, ex, hz, q⟩
  subst ex
  obtain ⟨t, rfl⟩ := r1
  have hst : PO X (some (.UnaryOp .USub (.Constant (.int 1) k p1) p2)) (tPart (tUn (rU fun i => .int (-i)) (tC (.int 1)))) := po_some (pe_un un_neg pe_int)
  apply wpAny_Slice
  refine thn (po_none.run pins s1 σ H1 (fun o H2 => o = none ∧ H2 = H1) I1 ⟨rfl, rfl⟩) ?_
  rintro vl s2 ⟨l, H2, I2, pl, el, e2⟩
  subst el e2
  refine thn (po_none.run pins s2 σ H2 (fun o H3 => o = none ∧ H3 = H2) I2 ⟨rfl, rfl⟩) ?_
  rintro vu s3 ⟨u, H3, I3, pu, eu, e3⟩
  subst eu e3
  refine thn (hst.run pins s3 σ H3 (fun o H4 => o = some (-1) ∧ H4 = H3) I3 ⟨1, rfl, -1, rfl, rfl, rfl⟩) ?_
  rintro vs s4 ⟨o, H4, I4, ps, eo, e4⟩
  subst eo e4
  have I5 : Inv X pins σ H4 { s4 with heap := s4.heap.push { cls := .type "slice", data := .fields #[vl, vu, vs] } } := I4.kept (t' := s4.toks) fun b ob q => Heap.get?_push_of_some _ q
  obtain ⟨a1, ea1, ea2⟩ := IsPart.raw pl
  obtain ⟨a2, eb1, eb2⟩ := IsPart.raw pu
  obtain ⟨a3, ec1, ec2⟩ := IsPart.raw ps
  have hs : (s4.heap.push { cls := .type "slice", data := .fields #[vl, vu, vs] }).IsSlice s4.heap.objs.size a1 a2 a3 := ⟨_, Heap.get?_push_size _ rfl, rfl, by rw [ea1, eb1, ec1]⟩
  refine PyProof.Rows.tail_any (T := "str") (ops := [.str z t, .ref s4.heap.objs.size]) (typeIs_str _ _ _) F.slot_str_getitem.lookup ?_ (by with_unfolding_all rfl)
  refine wpAny_getItem_str_slice hs (by rw [ec2]; rfl) ?_
  have e5 : (slicePicked z a1 a2 a3) = Builtin.Str.strSliceIndices none none (-1) z.length := by
    unfold slicePicked
    rw [ea2, eb2, ec2]
    rfl
  unfold sliceMade
  rw [e5, ec2]
  have c : ((((some (-1) : Option Int)).getD 1 == 1 && (Builtin.Str.strSliceIndices none none (-1) z.length).length == z.length)) = false := rfl
  rw [if_neg (by rw [c]; exact Bool.false_ne_true), picks_rev]
  refine ⟨?_, .str (mk z.cps.toList.reverse), H4, I5.tok _, ⟨_, rfl⟩, q⟩
  show (mk z.cps.toList.reverse).length ≤ sizeLine
  rw [mk_len, List.length_reverse]
  exact hz
def fRev (d : D) : Option D := match d with | .str s => if s.length ≤ lim then some (.str s.reverse) else none | _ => none
def gRev (d : D) : Option (List D) := match d with | .lst ds => if ds.length ≤ lim then some ds.reverse else none | _ => none
section
variable {X : Cx} {e : Expr} {f : C D} {k : Nat} {p1 p2 p3 pos : Pos}
theorem de_rev (h : DE X e f) : DE X (.Subscript e (.Slice none none (some (.UnaryOp .USub (.Constant (.int 1) k p1) p2)) p3) pos) (eUn fRev f) :=
  de_un (r := fun x H Q => ∃ z, x = .str z ∧ z.length ≤ sizeLine ∧ Q (.str (mk z.cps.toList.reverse)) H) (fun M H x d res Q t rx h q => by
    unfold fRev at h
    split at h
    · split at h
      · rename_i s hl
        cases h
        exact ⟨mk s, rep_str.mp rx, by rw [mk_len]; exact Nat.le_trans hl lim_line, q _ H (fun _ _ h => h) (rep_str.mpr rfl)⟩
      · cases h
    · cases h) h fun t ht => pe_revS ht
theorem do_rev (h : DE X e f) : DO X (.Subscript e (.Slice none none (some (.UnaryOp .USub (.Constant (.int 1) k p1) p2)) p3) pos) (oUn gRev f) :=
  do_un (r := fun x H Q => ∃ a xs, x = .ref a ∧ SqL X.K H a xs ∧ ∀ p, H p = none → Q (.ref p) (upd H p (.lst xs.reverse))) (fun M H x d res Q t rx h q => by
    unfold gRev at h
    split at h
    · split at h
      · rename_i s hl
        cases h
        obtain ⟨a, vs, e1, l1, r1⟩ := rep_lst.mp rx
        exact ⟨a, vs, e1, l1.seq, fun p hp => q p _ hp (by rw [List.length_reverse, r1.length]; exact Nat.le_trans hl lim_line) r1.reverse⟩
      · cases h
    · cases h) h fun t ht => pe_revL ht
end

/-! ### built-ins -/
def fLen (ds : List D) : Option D := match ds with
  | [.str s] => if s.length ≤ lim then some (.int s.length) else none
  | [.lst xs] => some (.int xs.length)
  | [.tup xs] => some (.int xs.length)
  | [.scr xs] => some (.int xs.length)
  | _ => none
theorem v_len {K : PySem.W.Frag} : VN K (fun xs H Q => ∃ x n, xs = [x] ∧ LenV K x H n ∧ Q (.int n) H) fLen := fun M H xs ds res Q t r h q => by
  unfold fLen at h
  split at h
  · split at h
    · rename_i s hl
      cases h
      obtain ⟨v, e, rv⟩ := repL_one r
      rw [rep_str.mp rv] at e
      exact ⟨_, s.length, e, ⟨by rw [mk_len]; exact Nat.le_trans hl lim_line, (mk_len s).symm⟩, q _ H (fun _ _ h => h) (rep_int.mpr rfl)⟩
    · cases h
  · cases h
    obtain ⟨v, e, rv⟩ := repL_one r
    obtain ⟨a, vs, e1, l1, r1⟩ := rep_lst.mp rv
    subst e1
    exact ⟨_, _, e, .inl ⟨vs, l1.seq, r1.length.symm⟩, q _ H (fun _ _ h => h) (rep_int.mpr rfl)⟩
  · cases h
    obtain ⟨v, e, rv⟩ := repL_one r
    obtain ⟨a, vs, e1, l1, r1⟩ := rep_tup.mp rv
    subst e1
    exact ⟨_, _, e, .inr ⟨vs, l1.seq, r1.length.symm⟩, q _ H (fun _ _ h => h) (rep_int.mpr rfl)⟩
  · cases h
    obtain ⟨v, e, rv⟩ := repL_one r
    obtain ⟨a, vs, e1, l1, r1⟩ := rep_scr.mp rv
    subst e1
    exact ⟨_, _, e, .inl ⟨vs, l1.seq, r1.length.symm⟩, q _ H (fun _ _ h => h) (rep_int.mpr rfl)⟩
  · cases h
def fAbs (ds : List D) : Option D := match ds with | [.int i] => some (.int (if i < 0 then -i else i)) | _ => none
theorem v_abs {K : PySem.W.Frag} : VN K (fun xs H Q => ∃ i, xs = [.int i] ∧ Q (.int (if i < 0 then -i else i)) H) fAbs := fun M H xs ds res Q t r h q => by
  unfold fAbs at h
  split at h <;> cases h
  obtain ⟨v, e, rv⟩ := repL_one r
  rw [rep_int.mp rv] at e
  exact ⟨_, e, q _ H (fun _ _ h => h) (rep_int.mpr rfl)⟩
def fMin2 (ds : List D) : Option D := match ds with | [.int i, .int j] => some (.int (if j < i then j else i)) | _ => none
def fMax2 (ds : List D) : Option D := match ds with | [.int i, .int j] => some (.int (if j > i then j else i)) | _ => none
theorem v_min2 {K : PySem.W.Frag} : VN K (fun xs H Q => ∃ i j, xs = [.int i, .int j] ∧ Q (.int (if j < i then j else i)) H) fMin2 := fun M H xs ds res Q t r h q => by
  unfold fMin2 at h
  split at h <;> cases h
  obtain ⟨v, w, e, rv, rw'⟩ := repL_two r
  rw [rep_int.mp rv, rep_int.mp rw'] at e
  exact ⟨_, _, e, q _ H (fun _ _ h => h) (rep_int.mpr rfl)⟩
theorem v_max2 {K : PySem.W.Frag} : VN K (fun xs H Q => ∃ i j, xs = [.int i, .int j] ∧ Q (.int (if j > i then j else i)) H) fMax2 := fun M H xs ds res Q t r h q => by
  unfold fMax2 at h
  split at h <;> cases h
  obtain ⟨v, w, e, rv, rw'⟩ := repL_two r
  rw [rep_int.mp rv, rep_int.mp rw'] at e
  exact ⟨_, _, e, q _ H (fun _ _ h => h) (rep_int.mpr rfl)⟩
def fInt1 (ds : List D) : Option D := match ds with | [.int i] => some (.int i) | [.bl k] => some (.int (if k then 1 else 0)) | _ => none
theorem v_int1 {K : PySem.W.Frag} : VN K (fun xs H Q => (∃ i, xs = [.int i] ∧ Q (.int i) H) ∨ ∃ k, xs = [.bl k] ∧ Q (.int (if k then 1 else 0)) H) fInt1 := fun M H xs ds res Q t r h q => by
  unfold fInt1 at h
  split at h <;> cases h
  · obtain ⟨v, e, rv⟩ := repL_one r
    rw [rep_int.mp rv] at e
    exact .inl ⟨_, e, q _ H (fun _ _ h => h) (rep_int.mpr rfl)⟩
  · obtain ⟨v, e, rv⟩ := repL_one r
    rw [rep_bl.mp rv] at e
    exact .inr ⟨_, e, q _ H (fun _ _ h => h) (rep_int.mpr rfl)⟩
/-- list(x): a copy of a list or tuple; the signs of a text -/
def signsD (s : List Nat) : List D := s.map fun c => .str [c]
def gList (ds : List D) : Option (List D) := match ds with
  | [.lst xs] => if xs.length ≤ lim then some xs else none
  | [.tup xs] => if xs.length ≤ lim then some xs else none
  | [.str s] => if s.length ≤ lim then some (signsD s) else none
  | _ => none
def rListA (K : PySem.W.Frag) : List V → Hp → VK → Prop := fun xs H Q => (∃ p ys, xs = [.ref p] ∧ (SqL K H p ys ∨ SqT K H p ys) ∧ ∀ l, H l = none → Q (.ref l) (upd H l (.lst ys))) ∨
  (∃ z, xs = [.str z] ∧ z.length ≤ sizeLine ∧ ∀ l, H l = none → Q (.ref l) (upd H l (.lst (z.cps.toList.map fun c => V.str ⟨#[c]⟩))))
theorem signs_vals (x : Str) : ∀ (acc : Array Value), ItemsOf (SignAt x) acc x.cps.size → Vals (x.cps.toList.map fun c => V.str ⟨#[c]⟩) acc.toList := by
  intro acc h
  obtain ⟨hz, hi⟩ := h
  have gen : ∀ (l : List Nat) (us : List Value), us.length = l.length → (∀ (j : Nat) (u : Value), us[j]? = some u → ∃ c t, l[j]? = some c ∧ u = .str ⟨#[c]⟩ t) → Vals (l.map fun c => V.str ⟨#[c]⟩) us := by
    intro l
    induction l with
    | nil => intro us hl _; cases us with
      | nil => exact .nil
      | cons u us => simp at hl
    | cons c l ih => intro us hl hj; cases us with
      | nil => simp at hl
      | cons u us =>
        obtain ⟨c', t, e1, e2⟩ := hj 0 u rfl
        simp at e1
        subst e1
        exact .cons ⟨t, e2⟩ (ih us (by simpa using hl) fun j w hw => by simpa using hj (j + 1) w (by simpa using hw))
  exact gen _ _ (by simpa using hz) fun j u hu => by
    obtain ⟨c, t, e1, e2⟩ := hi j u (by simpa using hu)
    exact ⟨c, t, by simpa using e1, e2⟩
theorem call_listA {X : Cx} (hc : X.calm = true) : CallR X (.type "list") (rListA X.K) := by
  refine call_list_of.or ?_
  intro pins s σ H xs us Q I r h
  obtain ⟨z, rfl, hz, q⟩ := h
  obtain ⟨u, rfl, rx⟩ := vals1 r
  obtain ⟨t, rfl⟩ := rx
  refine call_list_str (I.ok.hd hc) z t (fun h' tk acc' c' kp e items => ?_) hz
  have rv := signs_vals z acc' items
  have e' : h'.get? s.heap.objs.size = some { cls := .type "list", data := .seq acc'.toList.toArray c' } := by simpa using e
  refine ⟨.ref s.heap.objs.size, _, I.laid (t' := tk) kp (Nat.le_refl _) (?_ : ObjOk X.prog X.w _ h' _ (.lst (z.cps.toList.map fun c => V.str ⟨#[c]⟩))), rfl, q _ (I.hok.fresh (Nat.le_refl _))⟩
  exact ⟨by simpa [Str.length] using hz, _, c', rv, e'⟩
theorem signs_rep {K : PySem.W.Frag} {M : Addr → Prop} {H : Hp} : ∀ s : List Nat, RepL K M H (signsD s) (s.map fun c => V.str ⟨#[c]⟩)
  | [] => RepL.nil
  | c :: s => RepL.cons (rep_str.mpr rfl) (signs_rep s)
theorem v_list {K : PySem.W.Frag} : VNo K (rListA K) gList := fun M H xs ds res Q t r h q => by
  unfold gList at h
  split at h
  · split at h
    · rename_i xs hl
      cases h
      obtain ⟨v, e, rv⟩ := repL_one r
      obtain ⟨a, vs, e1, l1, r1⟩ := rep_lst.mp rv
      subst e1
      exact .inl ⟨_, vs, e, .inl l1.seq, fun p hp => q p vs hp (by rw [r1.length]; exact Nat.le_trans hl lim_line) r1⟩
    · cases h
  · split at h
    · rename_i xs hl
      cases h
      obtain ⟨v, e, rv⟩ := repL_one r
      obtain ⟨a, vs, e1, l1, r1⟩ := rep_tup.mp rv
      subst e1
      exact .inl ⟨_, vs, e, .inr l1.seq, fun p hp => q p vs hp (by rw [r1.length]; exact Nat.le_trans hl lim_line) r1⟩
    · cases h
  · split at h
    · rename_i s hl
      cases h
      obtain ⟨v, e, rv⟩ := repL_one r
      rw [rep_str.mp rv] at e
      have hz : s.length ≤ sizeLine := Nat.le_trans hl lim_line
      exact .inr ⟨mk s, e, by rw [mk_len]; exact hz, fun p hp => q p _ hp (by simpa [mk] using hz) (signs_rep s)⟩
    · cases h
  · cases h
/-- tuple(x) -/
def fTuple (ds : List D) : Option D := match ds with | [.lst xs] => some (.tup xs) | [.tup xs] => some (.tup xs) | _ => none
theorem v_tuple {K : PySem.W.Frag} : VN K (fun xs H Q => ∃ p ys, xs = [.ref p] ∧ ((SqL K H p ys ∧ ∀ l, H l = none → Q (.ref l) (upd H l (.tup ys))) ∨ (SqT K H p ys ∧ Q (.ref p) H))) fTuple := fun M H xs ds res Q t r h q => by
  unfold fTuple at h
  split at h <;> cases h
  · obtain ⟨v, e, rv⟩ := repL_one r
    obtain ⟨a, vs, e1, l1, r1⟩ := rep_lst.mp rv
    subst e1
    exact ⟨_, vs, e, .inl ⟨l1.seq, fun p hp => q _ _ (same_upd hp) (rep_newT t hp r1)⟩⟩
  · obtain ⟨v, e, rv⟩ := repL_one r
    have rv' := rv
    obtain ⟨a, vs, e1, l1, r1⟩ := rep_tup.mp rv
    subst e1
    exact ⟨_, vs, e, .inr ⟨l1.seq, q _ H (fun _ _ h => h) rv'⟩⟩
/-- all, any of a list of truths -/
def allB : List D → Option Bool
  | [] => some true
  | .bl b :: ds => (match allB ds with | some c => some (b && c) | none => none)
  | _ => none
def anyB : List D → Option Bool
  | [] => some false
  | .bl b :: ds => (match anyB ds with | some c => some (b || c) | none => none)
  | _ => none
def fAll (ds : List D) : Option D := match ds with | [.lst xs] => (match allB xs with | some b => some (.bl b) | none => none) | _ => none
def fAny (ds : List D) : Option D := match ds with | [.lst xs] => (match anyB xs with | some b => some (.bl b) | none => none) | _ => none
theorem allB_spec {K : PySem.W.Frag} {M : Addr → Prop} {H : Hp} : ∀ {ds : List D} {vs : List V} {b : Bool}, RepL K M H ds vs → allB ds = some b → ∃ bs : List Bool, vs = bs.map V.bl ∧ bs.all id = b
  | [], _, _, r, h => by rw [allB] at h; cases h; exact ⟨[], repL_nil.mp r, rfl⟩
  | d :: ds, _, _, r, h => by
    obtain ⟨v, t, e, h1, h2⟩ := repL_cons.mp r
    cases d with
    | bl c =>
      rw [allB] at h
      split at h
      · rename_i c' hc
        cases h
        obtain ⟨bs, e2, e3⟩ := allB_spec h2 hc
        rw [rep_bl.mp h1] at e
        exact ⟨c :: bs, by rw [e, e2]; rfl, by rw [List.all_cons, e3]; rfl⟩
      · cases h
    | _ => simp [allB] at h
theorem anyB_spec {K : PySem.W.Frag} {M : Addr → Prop} {H : Hp} : ∀ {ds : List D} {vs : List V} {b : Bool}, RepL K M H ds vs → anyB ds = some b → ∃ bs : List Bool, vs = bs.map V.bl ∧ bs.any id = b
  | [], _, _, r, h => by rw [anyB] at h; cases h; exact ⟨[], repL_nil.mp r, rfl⟩
  | d :: ds, _, _, r, h => by
    obtain ⟨v, t, e, h1, h2⟩ := repL_cons.mp r
    cases d with
    | bl c =>
      rw [anyB] at h
      split at h
      · rename_i c' hc
        cases h
        obtain ⟨bs, e2, e3⟩ := anyB_spec h2 hc
        rw [rep_bl.mp h1] at e
        exact ⟨c :: bs, by rw [e, e2]; rfl, by rw [List.any_cons, e3]; rfl⟩
      · cases h
    | _ => simp [anyB] at h
theorem v_all {K : PySem.W.Frag} : VN K (rAll K) fAll := fun M H xs ds res Q t r h q => by
  unfold fAll at h
  split at h
  · split at h
    · rename_i b hb
      cases h
      obtain ⟨v, e, rv⟩ := repL_one r
      obtain ⟨a, vs, e1, l1, r1⟩ := rep_lst.mp rv
      obtain ⟨bs, e2, e3⟩ := allB_spec r1 hb
      subst e1 e2
      exact ⟨a, bs, e, l1.seq, by rw [e3]; exact q _ H (fun _ _ h => h) (rep_bl.mpr rfl)⟩
    · cases h
  · cases h
theorem v_any {K : PySem.W.Frag} : VN K (rAny K) fAny := fun M H xs ds res Q t r h q => by
  unfold fAny at h
  split at h
  · split at h
    · rename_i b hb
      cases h
      obtain ⟨v, e, rv⟩ := repL_one r
      obtain ⟨a, vs, e1, l1, r1⟩ := rep_lst.mp rv
      obtain ⟨bs, e2, e3⟩ := anyB_spec r1 hb
      subst e1 e2
      exact ⟨a, bs, e, l1.seq, by rw [e3]; exact q _ H (fun _ _ h => h) (rep_bl.mpr rfl)⟩
    · cases h
  · cases h
/-- sum, max, min of a list of ints -/
def intsD : List D → Option (List Int)
  | [] => some []
  | .int i :: ds => (match intsD ds with | some is => some (i :: is) | none => none)
  | _ => none
theorem intsD_spec {K : PySem.W.Frag} {M : Addr → Prop} {H : Hp} : ∀ {ds : List D} {vs : List V} {ns : List Int}, RepL K M H ds vs → intsD ds = some ns → vs = ns.map V.int
  | [], _, _, r, h => by rw [intsD] at h; cases h; exact repL_nil.mp r
  | d :: ds, _, _, r, h => by
    obtain ⟨v, t, e, h1, h2⟩ := repL_cons.mp r
    cases d with
    | int i =>
      rw [intsD] at h
      split at h
      · rename_i is hi
        cases h
        rw [e, rep_int.mp h1, intsD_spec h2 hi]
        rfl
      · cases h
    | _ => simp [intsD] at h
def fSum (ds : List D) : Option D := match ds with | [.lst xs] => (match intsD xs with | some ns => some (.int ns.sum) | none => none) | _ => none
theorem v_sum {K : PySem.W.Frag} : VN K (rSum K) fSum := fun M H xs ds res Q t r h q => by
  unfold fSum at h
  split at h
  · split at h
    · rename_i b hb
      cases h
      obtain ⟨v, e, rv⟩ := repL_one r
      obtain ⟨a, vs, e1, l1, r1⟩ := rep_lst.mp rv
      have e2 := intsD_spec r1 hb
      subst e1 e2
      exact ⟨a, _, e, l1.seq, q _ H (fun _ _ h => h) (rep_int.mpr rfl)⟩
    · cases h
  · cases h
def maxI : List Int → Option Int
  | [] => none
  | i :: is => (match maxI is with | none => some i | some m => some (if m < i then i else m))
def minI : List Int → Option Int
  | [] => none
  | i :: is => (match minI is with | none => some i | some m => some (if i < m then i else m))
theorem maxI_spec : ∀ {is : List Int} {m : Int}, maxI is = some m → m ∈ is ∧ ∀ y ∈ is, y ≤ m
  | [], _, h => by cases h
  | i :: is, m, h => by
    rw [maxI] at h
    split at h
    · rename_i h0
      cases h
      have : is = [] := by
        cases is with
        | nil => rfl
        | cons a b => rw [maxI] at h0; split at h0 <;> cases h0
      subst this
      simp
    · rename_i m' hm
      cases h
      obtain ⟨h1, h2⟩ := maxI_spec hm
      refine ⟨?_, fun y hy => ?_⟩
      · split
        · exact List.mem_cons_self
        · exact List.mem_cons_of_mem _ h1
      · rcases List.mem_cons.mp hy with rfl | hy
        · split <;> omega
        · have := h2 y hy
          split <;> omega
theorem minI_spec : ∀ {is : List Int} {m : Int}, minI is = some m → m ∈ is ∧ ∀ y ∈ is, m ≤ y
  | [], _, h => by cases h
  | i :: is, m, h => by
    rw [minI] at h
    split at h
    · rename_i h0
      cases h
      have : is = [] := by
        cases is with
        | nil => rfl
        | cons a b => rw [minI] at h0; split at h0 <;> cases h0
      subst this
      simp
    · rename_i m' hm
      cases h
      obtain ⟨h1, h2⟩ := minI_spec hm
      refine ⟨?_, fun y hy => ?_⟩
      · split
        · exact List.mem_cons_self
        · exact List.mem_cons_of_mem _ h1
      · rcases List.mem_cons.mp hy with rfl | hy
        · split <;> omega
        · have := h2 y hy
          split <;> omega
def fMaxL (ds : List D) : Option D := match ds with | [.lst xs] => (match intsD xs with | some ns => (match maxI ns with | some m => some (.int m) | none => none) | none => none) | _ => none
def fMinL (ds : List D) : Option D := match ds with | [.lst xs] => (match intsD xs with | some ns => (match minI ns with | some m => some (.int m) | none => none) | none => none) | _ => none
theorem v_maxL {K : PySem.W.Frag} : VN K (rMax K) fMaxL := fun M H xs ds res Q t r h q => by
  unfold fMaxL at h
  split at h
  · split at h
    · rename_i ns hb
      split at h
      · rename_i m hm
        cases h
        obtain ⟨v, e, rv⟩ := repL_one r
        obtain ⟨a, vs, e1, l1, r1⟩ := rep_lst.mp rv
        have e2 := intsD_spec r1 hb
        subst e1 e2
        obtain ⟨h1, h2⟩ := maxI_spec hm
        refine ⟨a, ns, e, l1.seq, List.length_pos_of_mem h1, fun m' hm' hle => ?_⟩
        have : m' = m := Int.le_antisymm (h2 m' hm') (hle m h1)
        subst this
        exact q _ H (fun _ _ h => h) (rep_int.mpr rfl)
      · cases h
    · cases h
  · cases h
theorem v_minL {K : PySem.W.Frag} : VN K (rMin K) fMinL := fun M H xs ds res Q t r h q => by
  unfold fMinL at h
  split at h
  · split at h
    · rename_i ns hb
      split at h
      · rename_i m hm
        cases h
        obtain ⟨v, e, rv⟩ := repL_one r
        obtain ⟨a, vs, e1, l1, r1⟩ := rep_lst.mp rv
        have e2 := intsD_spec r1 hb
        subst e1 e2
        obtain ⟨h1, h2⟩ := minI_spec hm
        refine ⟨a, ns, e, l1.seq, List.length_pos_of_mem h1, fun m' hm' hle => ?_⟩
        have : m' = m := Int.le_antisymm (hle m h1) (h2 m' hm')
        subst this
        exact q _ H (fun _ _ h => h) (rep_int.mpr rfl)
      · cases h
    · cases h
  · cases h
/-- isinstance, one built-in class -/
def tyD : D → String
  | .non => "NoneType" | .bl _ => "bool" | .int _ => "int" | .str _ => "str" | .lst _ => "list" | .scr _ => "list" | .tup _ => "tuple" | .dct _ _ => "?"
def noDct : D → Bool
  | .dct _ _ => false | _ => true
def fIsi (T : String) (d : D) : Option D := match (if noDct d = true then kitB (tyD d) T else none) with | some b => some (.bl b) | none => none
theorem Rep.ty {K : PySem.W.Frag} {M : Addr → Prop} {H : Hp} : ∀ {d : D} {v : V}, Rep K M H d v → noDct d = true → TyX K H v (.type (tyD d))
  | .non, _, h, _ => by rw [rep_non.mp h]; exact .base .non
  | .bl b, _, h, _ => by rw [rep_bl.mp h]; exact .base (.bl b)
  | .int b, _, h, _ => by rw [rep_int.mp h]; exact .base (.int b)
  | .str b, _, h, _ => by rw [rep_str.mp h]; exact .base (.str _)
  | .dct _ _, _, _, h => by cases h
  | .lst ds, _, h, _ => by obtain ⟨a, vs, e, l, r⟩ := rep_lst.mp h; rw [e]; exact .base (.lst l.2)
  | .scr ds, _, h, _ => by
    obtain ⟨a, vs, e, l, r⟩ := rep_scr.mp h
    rw [e]
    rcases l with ⟨_, o, l⟩ | ⟨o, its, n, h1, h2, _⟩
    · exact .base (.frz l)
    · exact .kList h1 h2
  | .tup ds, _, h, _ => by
    obtain ⟨a, vs, e, l, r⟩ := rep_tup.mp h
    rw [e]
    rcases l with ⟨_, l | ⟨o, l⟩⟩ | ⟨o, its, n, h1, h2, _⟩
    · exact .base (.tup l)
    · exact .fTuple l
    · exact .kTuple h1 h2
theorem de_isi {X : Cx} {a e : Expr} {n : Expr} {f : C D} {T : String} (ha : DX X a f) (hn : PE X n (tC (.ty T))) (hs : starEach [a, n] X.env = (false, eval a X.env) :: starEach [n] X.env) (hs2 : starEach [n] X.env = (false, eval n X.env) :: starEach [] X.env)
    (he : ∀ t, PA X [a, n] t → PE X e (tCB (rIsi X.K) t)) : DE X e (eUnX (fIsi T) f) := by
  obtain ⟨t, h, run⟩ := ha.ex
  refine ⟨_, he _ (pa_cons h (pa_cons hn pa_nil hs2) hs), fun Ex σ H ρ as d ρ' Q k e q => ?_⟩
  unfold eUnX at e
  split at e
  · rename_i d1 ρ1 h1
    unfold fIsi at e
    split at e
    · rename_i b hb
      split at hb
      · rename_i b' hb0
        have hnd : noDct d1 = true := by cases hq : noDct d1 <;> simp [hq] at hb0 ⊢
        have hb' : kitB (tyD d1) T = some b' := by simpa [hnd] using hb0
        cases hb
        split at e
        · cases e
          exact run Ex σ H ρ as d1 _ _ k h1 fun v H1 k1 f1 g1 rv => ⟨v, .ty T, _, _, _, rfl, .ty T, rv.ty hnd, kit_ty hb', q _ H1 k1 f1 g1 (rep_bl.mpr rfl)⟩
        · cases e
      · cases hb
    · cases e
  · cases e

/-! ### methods of texts, of one argument -/
def eM1 (fn : D → D → Option D) (f g : C D) : C D := fun ρ => match f ρ with
  | some (.str s, ρ1) => (match g ρ1 with
    | some (e, ρ2) => (match fn (.str s) e with | some r => some (r, ρ2) | none => none)
    | none => none)
  | _ => none
theorem de_m1 {X : Cx} {o a e : Expr} {f g : C D} {r : V → List V → Hp → VK → Prop} {fn : D → D → Option D} (hv : V2 X.K (fun x y H Q => r x [y] H Q) fn) (ho : DE X o f) (ha : DE X a g) (he : ∀ to te, PE X o to → PE X a te → PE X e (tM1 r to te)) : DE X e (eM1 fn f g) := by
  obtain ⟨ta, h1, run1⟩ := ho.ex
  obtain ⟨tb, h2, run2⟩ := ha.ex
  refine ⟨_, he ta tb h1 h2, fun Ex σ H ρ as d ρ' Q k e q => ?_⟩
  unfold eM1 at e
  split at e
  · rename_i s ρ1 e1
    split at e
    · rename_i d2 ρ2 e2
      split at e
      · rename_i r1 e3
        cases e
        exact run1 Ex σ H ρ as _ _ _ k e1 fun v H1 k1 f1 g1 rv => ⟨⟨_, rep_str.mp rv⟩, run2 Ex σ H1 ρ1 as d2 _ _ k1 e2 fun w H2 k2 f2 g2 rw =>
          hv _ H2 v w _ d2 _ Q (fun a => k2.trk) (rv.keep (Keep.of f2 g2)) rw e3 fun u H3 s ru => q u H3 (k2.same s) ((f1.trans g1 f2).trans (Go.trans f1 g1 g2) (.of_same s)) (Go.trans f1 g1 g2) ru⟩
      · cases e
    · cases e
  · cases e
/-- the last place of a sign -/
def rfindL (c : Nat) : List Nat → Int
  | [] => -1
  | x :: xs => if 0 ≤ rfindL c xs then rfindL c xs + 1 else if x = c then 0 else -1
theorem rfindL_spec (c : Nat) : ∀ s : List Nat, (rfindL c s = -1 ∧ ∀ i : Nat, s[i]? ≠ some c) ∨ ∃ i : Nat, rfindL c s = (i : Int) ∧ s[i]? = some c ∧ ∀ k : Nat, i < k → s[k]? ≠ some c
  | [] => .inl ⟨rfl, fun i => by simp⟩
  | x :: xs => by
    rcases rfindL_spec c xs with ⟨h1, h2⟩ | ⟨i, h1, h2, h3⟩
    · by_cases e : x = c
      · subst e
        refine .inr ⟨0, ?_, rfl, fun k hk => ?_⟩
        · rw [rfindL, h1]; simp
        · obtain ⟨j, rfl⟩ : ∃ j, k = j + 1 := ⟨k - 1, by omega⟩
          simpa using h2 j
      · refine .inl ⟨?_, fun k => ?_⟩
        · rw [rfindL, h1]; simp [e]
        · cases k with
          | zero => simpa using e
          | succ j => simpa using h2 j
    · refine .inr ⟨i + 1, ?_, by simpa using h2, fun k hk => ?_⟩
      · rw [rfindL, h1, if_pos (by omega)]; simp
      · obtain ⟨j, rfl⟩ : ∃ j, k = j + 1 := ⟨k - 1, by omega⟩
        simpa using h3 j (by omega)
theorem at_sign {s : List Nat} {c i : Nat} : StrLaws.At (mk s) (mk [c]) (mk s).length i ↔ s[i]? = some c := by
  rw [TL.at_iff (by simp [TL.tl, mk])]
  show TL.pre [c] (s.drop i) = true ↔ _
  unfold TL.pre
  rw [beq_iff_eq]
  show List.take 1 (s.drop i) = [c] ↔ _
  cases e : s.drop i with
  | nil =>
    have : s.length ≤ i := by simpa using e
    have h2 : s[i]? = none := by rw [List.getElem?_eq_none_iff]; exact this
    rw [h2]
    simp
  | cons x xs =>
    have h2 : s[i]? = some x := by
      have := congrArg (fun l => l[0]?) e
      simpa using this
    rw [h2]
    simp
theorem rfind_eq (s : List Nat) (c : Nat) : Txt.rfind (mk s) (mk [c]) = rfindL c s := by
  rcases PyProof.Rows.rfind_whole (mk s) (mk [c]) with ⟨h1, h2⟩ | ⟨i, h1, h2, h3⟩
  · rcases rfindL_spec c s with ⟨g1, g2⟩ | ⟨j, g1, g2, g3⟩
    · rw [h1, g1]
    · exact absurd (at_sign.mpr g2) (h2 j)
  · rw [at_sign] at h2
    rcases rfindL_spec c s with ⟨g1, g2⟩ | ⟨j, g1, g2, g3⟩
    · exact absurd h2 (g2 i)
    · rw [h1, g1]
      rcases Nat.lt_trichotomy i j with h | h | h
      · exact absurd (at_sign.mpr g2) (h3 j h)
      · rw [h]
      · exact absurd h2 (g3 i h)
def fRfind (d e : D) : Option D := match d, e with | .str s, .str [c] => some (.int (rfindL c s)) | _, _ => none
theorem v_rfind {K : PySem.W.Frag} : V2 K (fun x y H Q => ∃ a b, x = .str a ∧ [y] = [.str b] ∧ Q (.int (Txt.rfind a b)) H) fRfind := fun M H x y d e res Q t rx ry h q => by
  unfold fRfind at h
  split at h <;> cases h
  exact ⟨_, _, rep_str.mp rx, by rw [rep_str.mp ry], by rw [rfind_eq]; exact q _ H (fun _ _ h => h) (rep_int.mpr rfl)⟩
/-- join -/
def strsD : List D → Option (List (List Nat))
  | [] => some []
  | .str s :: ds => (match strsD ds with | some ss => some (s :: ss) | none => none)
  | _ => none
theorem strsD_spec {K : PySem.W.Frag} {M : Addr → Prop} {H : Hp} : ∀ {ds : List D} {vs : List V} {ss : List (List Nat)}, RepL K M H ds vs → strsD ds = some ss → vs = (ss.map mk).map V.str
  | [], _, _, r, h => by rw [strsD] at h; cases h; exact repL_nil.mp r
  | d :: ds, _, _, r, h => by
    obtain ⟨v, t, e, h1, h2⟩ := repL_cons.mp r
    cases d with
    | str i =>
      rw [strsD] at h
      split at h
      · rename_i is hi
        cases h
        rw [e, rep_str.mp h1, strsD_spec h2 hi]
        rfl
      · cases h
    | _ => simp [strsD] at h
def joinD (sep : List Nat) : List (List Nat) → List Nat := TL.joinL sep
def fJoin (d e : D) : Option D := match d with
  | .str sep => (match e with
    | .lst xs => (match strsD xs with | some ss => if (ss.map List.length).sum + ss.length * sep.length ≤ lim then some (.str (joinD sep ss)) else none | none => none)
    | .tup xs => (match strsD xs with | some ss => if (ss.map List.length).sum + ss.length * sep.length ≤ lim then some (.str (joinD sep ss)) else none | none => none)
    | _ => none)
  | _ => none
theorem join_mk (sep : List Nat) (ss : List (List Nat)) : Txt.join (mk sep) (ss.map mk) = mk (joinD sep ss) := by
  rw [TL.join_eq]
  have h := TL.tl_join (mk sep) (ss.map mk)
  have e : (ss.map mk).map TL.tl = ss := by
    rw [List.map_map]
    exact List.map_id _
  rw [e] at h
  rw [← mk_of (Str.join (mk sep) (ss.map mk))]
  exact congrArg mk h
theorem v_join {K : PySem.W.Frag} : V2 K (fun x y H Q => ∃ a p, ∃ ys : List Str, x = .str a ∧ [y] = [.ref p] ∧ (SqL K H p (ys.map V.str) ∨ SqT K H p (ys.map V.str)) ∧ (ys.map (·.length)).sum + ys.length * a.length ≤ 16777216 ∧ Q (.str (Txt.join a ys)) H) fJoin :=
  fun M H x y d e res Q t rx ry h q => by
  have len : ∀ (ss : List (List Nat)) (sep : List Nat), (ss.map List.length).sum + ss.length * sep.length ≤ lim → ((ss.map mk).map (·.length)).sum + (ss.map mk).length * (mk sep).length ≤ 16777216 := fun ss sep h => by
    have e : (ss.map mk).map (·.length) = ss.map List.length := by
      rw [List.map_map]
      exact List.map_congr_left fun s _ => mk_len s
    rw [e, List.length_map, mk_len]
    unfold lim at h
    omega
  unfold fJoin at h
  split at h
  · split at h
    · split at h
      · rename_i ss hs
        split at h
        · rename_i hl
          cases h
          obtain ⟨a, vs, e1, l1, r1⟩ := rep_lst.mp ry
          have e2 := strsD_spec r1 hs
          subst e2
          exact ⟨_, a, _, rep_str.mp rx, by rw [e1], .inl l1.seq, len _ _ hl, by rw [join_mk]; exact q _ H (fun _ _ h => h) (rep_str.mpr rfl)⟩
        · cases h
      · cases h
    · split at h
      · rename_i ss hs
        split at h
        · rename_i hl
          cases h
          obtain ⟨a, vs, e1, l1, r1⟩ := rep_tup.mp ry
          have e2 := strsD_spec r1 hs
          subst e2
          exact ⟨_, a, _, rep_str.mp rx, by rw [e1], .inr l1.seq, len _ _ hl, by rw [join_mk]; exact q _ H (fun _ _ h => h) (rep_str.mpr rfl)⟩
        · cases h
      · cases h
    · cases h
  · cases h
end PD

namespace PD
open PySem L2

/-! ### statements -/
section
variable {X : Cx} {ow : Bool} {Ex : Addr → Prop} {H H1 : Hp} {ρ ρ1 : Rho} {as as1 : Nat → Addr} {D : Ends} {o : Out}
theorem RR.step {K : PySem.W.Frag} {ρ' : Rho} {as' : Nat → Addr} {H' : Hp} {d : PD.D} {v : V} (f1 : Fr (Own ρ as) H H1) (g1 : Go H ρ as ρ1 as1) (r : RR ow K Ex ρ1 as1 ρ' as' H1 H' d v) : RR ow K Ex ρ as ρ' as' H H' d v := by
  unfold RR at r ⊢
  cases ow with
  | false => exact r
  | true =>
    rw [if_pos rfl] at r ⊢
    obtain ⟨a, vs, ds, e1, e2, h1, h2, h3, h4, h5, h6⟩ := r
    exact ⟨a, vs, ds, e1, e2, h1.elim (fun z => g1.own a z) fun z => .inr (f1.free z), h2, h3, h4, h5, h6⟩
theorem Post.step (f1 : Fr (Own ρ as) H H1) (g1 : Go H ρ as ρ1 as1) (p : Post X ow Ex H ρ as D o) : Post X ow Ex H1 ρ1 as1 D o := by
  cases o with
  | nx ρ' => exact fun σ' H' as' k f g => p σ' H' as' k (f1.trans g1 f) (Go.trans f1 g1 g)
  | bk ρ' => exact fun σ' H' as' k f g => p σ' H' as' k (f1.trans g1 f) (Go.trans f1 g1 g)
  | ct ρ' => exact fun σ' H' as' k f g => p σ' H' as' k (f1.trans g1 f) (Go.trans f1 g1 g)
  | rt d ρ' => exact fun v σ' H' as' k f g r => p v σ' H' as' k (f1.trans g1 f) (Go.trans f1 g1 g) (RR.step f1 g1 r)
end
abbrev S := Rho → Option Out
def sNil : S := fun ρ => some (.nx ρ)
def sSeq (f g : S) : S := fun ρ => match f ρ with | some (.nx ρ1) => g ρ1 | o => o
def sNever : S := fun _ => none
def sBreak : S := fun ρ => some (.bk ρ)
def sCont : S := fun ρ => some (.ct ρ)
def sIf (c : C Bool) (f g : S) : S := fun ρ => match c ρ with | some (true, ρ1) => f ρ1 | some (false, ρ1) => g ρ1 | none => none
def sDrop (f : C D) : S := fun ρ => match f ρ with | some (_, ρ1) => some (.nx ρ1) | none => none
def sRet (f : C D) : S := fun ρ => match f ρ with | some (d, ρ1) => some (.rt d ρ1) | none => none
def sRetN : S := fun ρ => some (.rt .non ρ)
def sRetO (f : C (List D)) : S := fun ρ => match f ρ with | some (ds, ρ1) => some (.rt (.lst ds) ρ1) | none => none
def sRetV (i : Nat) : S := fun ρ => match ρ[i]? with | some (.own ds) => some (.rt (.lst ds) ρ) | _ => none
def sSet (i : Nat) (f : C D) : S := fun ρ => match f ρ with
  | some (d, ρ1) => (match ρ1[i]? with | some (.ino _) => none | some _ => some (.nx (ρ1.set i (.dat d))) | none => none)
  | none => none
def sSetO (i : Nat) (f : C (List D)) : S := fun ρ => match f ρ with
  | some (ds, ρ1) => (match ρ1[i]? with | some (.ino _) => none | some _ => some (.nx (ρ1.set i (.own ds))) | none => none)
  | none => none
section
variable {X : Cx} {ow : Bool} {st : Stmt} {rest : List Stmt} {f g : S} {e a : Expr} {pos : Pos}
theorem dss_nil : DSs X ow [] sNil := ⟨_, pss_nil, fun Ex σ H ρ as o D k e q => by cases e; exact q σ H as k .refl .refl⟩
theorem dss_one (h : DS X ow st f) : DSs X ow [st] f := by
  obtain ⟨t, h, run⟩ := h.ex
  exact ⟨_, pss_one h, run⟩
theorem dss_cons (h1 : DS X ow st f) (h2 : DSs X ow rest g) : DSs X ow (st :: rest) (sSeq f g) := by
  obtain ⟨t, h1, run1⟩ := h1.ex
  obtain ⟨u, h2, run2⟩ := h2.ex
  refine ⟨_, pss_cons h1 h2, fun Ex σ H ρ as o D k e q => ?_⟩
  show t { D with nx := u D } σ H
  unfold sSeq at e
  split at e
  · rename_i ρ1 e1
    exact run1 Ex σ H ρ as _ _ k e1 fun σ' H' as' k' f' g' => run2 Ex σ' H' ρ1 as' o D k' e (q.step f' g')
  · rename_i hn
    refine run1 Ex σ H ρ as o _ k e ?_
    cases o with
    | nx ρ' => exact absurd e (hn ρ')
    | bk ρ' => exact q
    | ct ρ' => exact q
    | rt d ρ' => exact q
theorem ds_never : DS X ow st sNever := ⟨_, ps_never, fun _ _ _ _ _ _ _ _ e _ => by cases e⟩
theorem dss_never {sts : List Stmt} : DSs X ow sts sNever := ⟨_, pss_never, fun _ _ _ _ _ _ _ _ e _ => by cases e⟩
theorem ds_pass : DS X ow (.Pass pos) sNil := ⟨_, ps_pass, fun Ex σ H ρ as o D k e q => by cases e; exact q σ H as k .refl .refl⟩
theorem ds_break : DS X ow (.Break pos) sBreak := ⟨_, ps_break, fun Ex σ H ρ as o D k e q => by cases e; exact q σ H as k .refl .refl⟩
theorem ds_cont : DS X ow (.Continue pos) sCont := ⟨_, ps_continue, fun Ex σ H ρ as o D k e q => by cases e; exact q σ H as k .refl .refl⟩
theorem ds_if {c : Expr} {l r : List Stmt} {fc : C Bool} (hc : DT X c fc) (hl : DSs X ow l f) (hr : DSs X ow r g) : DS X ow (.If c l r pos) (sIf fc f g) := by
  obtain ⟨t0, h0, run0⟩ := hc.ex
  obtain ⟨t1, h1, run1⟩ := hl.ex
  obtain ⟨t2, h2, run2⟩ := hr.ex
  refine ⟨_, ps_if h0 h1 h2, fun Ex σ H ρ as o D k e q => ?_⟩
  unfold sIf at e
  split at e
  · rename_i ρ1 e1
    exact run0 Ex σ H ρ as _ _ _ k e1 fun H' k' f' g' => iteT (run1 Ex σ H' ρ1 as o D k' e (q.step f' g'))
  · rename_i ρ1 e1
    exact run0 Ex σ H ρ as _ _ _ k e1 fun H' k' f' g' => iteF (run2 Ex σ H' ρ1 as o D k' e (q.step f' g'))
  · cases e
theorem ds_drop {fe : C D} (h : DE X e fe) (hp : ∀ t, PE X e t → PS X st (tDrop t)) : DS X ow st (sDrop fe) := by
  obtain ⟨t, h, run⟩ := h.ex
  refine ⟨_, hp t h, fun Ex σ H ρ as o D k e q => ?_⟩
  unfold sDrop at e
  split at e
  · rename_i d ρ1 e1
    cases e
    exact run Ex σ H ρ as _ _ _ k e1 fun v H' k' f' g' r => q σ H' as k' f' g'
  · cases e
theorem ds_ret {fe : C D} (h : DE X e fe) : DS X false (.Return (some e) pos) (sRet fe) := by
  obtain ⟨t, h, run⟩ := h.ex
  refine ⟨_, ps_ret h, fun Ex σ H ρ as o D k e q => ?_⟩
  unfold sRet at e
  split at e
  · rename_i d ρ1 e1
    cases e
    exact run Ex σ H ρ as _ _ _ k e1 fun v H' k' f' g' r => q v σ H' as k' f' g' r
  · cases e
theorem ds_retN : DS X false (.Return none pos) sRetN := ⟨_, ps_retN, fun Ex σ H ρ as o D k e q => by cases e; exact q .non σ H as k .refl .refl (by unfold RR; rw [if_neg Bool.false_ne_true]; exact rep_non.mpr rfl)⟩
theorem ds_retO {fe : C (List D)} (h : DO X e fe) : DS X true (.Return (some e) pos) (sRetO fe) := by
  obtain ⟨t, h, run⟩ := h.ex
  refine ⟨_, ps_ret h, fun Ex σ H ρ as o D k e q => ?_⟩
  unfold sRetO at e
  split at e
  · rename_i ds ρ1 e1
    cases e
    refine run Ex σ H ρ as _ _ _ k e1 fun a vs H' k' f' g' hn ha z r => q _ σ H' as (k'.sub fun b z => .inl z) f' g' ?_
    show RR true X.K Ex ρ as ρ1 as H H' (.lst ds) (.ref a)
    unfold RR
    rw [if_pos rfl]
    refine ⟨a, vs, ds, rfl, rfl, .inr hn, fun z => ?_, ha, z, fun i es hi => ?_, r.keep (Keep.sub fun b z => ?_)⟩
    · obtain ⟨o, e⟩ := k.exs a z
      rw [hn] at e; cases e
    · obtain ⟨_, n, _⟩ := k'.own i (.L es) (.inr hi)
      exact fun z => n (.inr z)
    · rcases z with z | z | ⟨i, es, h1, h2⟩
      · exact .inl (.inl z)
      · exact .inl (.inr z)
      · exact .inr ⟨i, .L es, .inr h1, h2⟩
  · cases e
theorem ds_retV {i : Nat} (h : PE X e (tVar i)) : DS X true (.Return (some e) pos) (sRetV i) := by
  refine ⟨_, ps_ret h, fun Ex σ H ρ as o D k e q => ?_⟩
  unfold sRetV at e
  split at e
  · rename_i ds e1
    cases e
    obtain ⟨e2, n, vs, e3, z, r⟩ := k.own i (.L ds) (.inl e1)
    refine ⟨_, e2, q _ σ H as k .refl .refl ?_⟩
    show RR true X.K Ex ρ as ρ as H H (.lst ds) (.ref (as i))
    unfold RR
    rw [if_pos rfl]
    refine ⟨as i, vs, ds, rfl, rfl, .inl ⟨i, .L ds, .inl e1, rfl⟩, n, e3, z, fun j es hj hij => ?_, r.keep (Keep.sub fun b z => ?_)⟩
    · have := k.inj j i (.L es) (.L ds) (.inr hj) (.inl e1) hij
      subst this
      rw [e1] at hj; cases hj
    · rcases z with z | z | ⟨j, es, h1, h2⟩
      · exact .inl z
      · exact .inr ⟨i, .L ds, .inl e1, z.symm⟩
      · exact .inr ⟨j, .L es, .inr h1, h2⟩
  · cases e
theorem lt_of_get {ρ : Rho} {i : Nat} {s : Sl} (h : ρ[i]? = some s) : i < ρ.length := (List.getElem?_eq_some_iff.mp h).1
theorem ds_set {i : Nat} {fe : C D} (h : DE X e fe) (hp : ∀ t, PE X e t → PS X st (tAsg t (gName i))) : DS X ow st (sSet i fe) := by
  obtain ⟨t, h, run⟩ := h.ex
  refine ⟨_, hp t h, fun Ex σ H ρ as o D k e q => ?_⟩
  unfold sSet at e
  split at e
  · rename_i d ρ1 e1
    split at e
    · cases e
    · rename_i sl hn hs
      cases e
      refine run Ex σ H ρ as _ _ _ k e1 fun v H' k' f' g' r => ?_
      exact q _ H' as (k'.set_dat r (lt_of_get hs)) f' (Go.trans f' g' (Go.set_dat fun es z => by rw [hs] at z; exact hn es (Option.some.inj z)))
    · cases e
  · cases e
def slOf : Cn → Sl
  | .L ds => .own ds | .M ks vs => .dic ks vs
theorem isOwn_lt {ρ : Rho} {i : Nat} {c : Cn} (h : IsOwn ρ i c) : i < ρ.length := by
  rcases isOwn_not h with ⟨_, h⟩ | ⟨_, h⟩ | ⟨_, _, h⟩ <;> exact lt_of_get h
theorem isOwn_slOf {ρ : Rho} {i : Nat} {c e : Cn} (hs : ρ[i]? = some (slOf c)) (h : IsOwn ρ i e) : e = c := by
  cases c <;> cases e <;> simp only [IsOwn, hs, slOf] at h
  · rcases h with h | h <;> cases h; rfl
  · cases h
  · rcases h with h | h <;> cases h
  · cases h; rfl
theorem isOwn_of {ρ : Rho} {i : Nat} {c : Cn} (hs : ρ[i]? = some (slOf c)) : IsOwn ρ i c := by
  cases c <;> simp only [IsOwn, hs, slOf]
  exact .inl trivial
theorem isOwn_set {ρ : Rho} {i j : Nat} {ds es : Cn} (h : IsOwn (ρ.set i (slOf ds)) j es) : (j = i ∧ es = ds) ∨ (j ≠ i ∧ IsOwn ρ j es) := by
  by_cases e : i = j
  · subst e
    have hl : i < ρ.length := by
      have := isOwn_lt h
      simpa using this
    exact .inl ⟨rfl, isOwn_slOf (List.getElem?_set_self hl) h⟩
  · exact .inr ⟨fun z => e z.symm, (isOwn_cong (List.getElem?_set_ne e)).mp h⟩
def asSet (as : Nat → Addr) (i : Nat) (a : Addr) : Nat → Addr := fun j => if j = i then a else as j
theorem Own.set_own {ρ : Rho} {as : Nat → Addr} {i : Nat} {a b : Addr} {ds : Cn} (h : Own (ρ.set i (slOf ds)) (asSet as i a) b) : b = a ∨ Own ρ as b := by
  obtain ⟨j, es, h, e⟩ := h
  rcases isOwn_set h with ⟨h1, h2⟩ | ⟨h1, h2⟩
  · left; rw [← e, h1]; exact if_pos rfl
  · right
    refine ⟨j, es, h2, ?_⟩
    rw [← e]; exact (if_neg h1).symm
/-- a slot is given a new list -/
theorem Ok.set_cn {K : PySem.W.Frag} {Ex : Addr → Prop} {σ : St} {H : Hp} {ρ : Rho} {as : Nat → Addr} {i : Nat} {a : Addr} {ds : Cn} (k : Ok K (fun b => Ex b ∨ b = a) σ H ρ as) (hx : ¬ Ex a) (r : Held K (MM (fun b => Ex b ∨ b = a) ρ as) H a ds) (hi : i < ρ.length) :
    Ok K Ex (σ.set i (some (.ref a))) H (ρ.set i (slOf ds)) (asSet as i a) := by
  have sub : Keep (MM (fun b => Ex b ∨ b = a) ρ as) (MM Ex (ρ.set i (slOf ds)) (asSet as i a)) H H := Keep.sub fun b z => by
    rcases z with z | z
    · exact .inl (.inl z)
    · rcases Own.set_own z with z | z
      · exact .inl (.inr z)
      · exact .inr z
  refine ⟨by rw [List.length_set, List.length_set]; exact k.len, fun b z => k.exs b (.inl z), fun j d h => ?_, fun j es h => ?_, fun j l es fs h1 h2 e => ?_⟩
  · by_cases e : i = j
    · subst e
      rw [List.getElem?_set_self hi] at h; cases ds <;> cases h
    · rw [List.getElem?_set_ne e] at h
      obtain ⟨v, e1, r1⟩ := k.dat j d h
      exact ⟨v, by rw [List.getElem?_set_ne e]; exact e1, r1.keep sub⟩
  · rcases isOwn_set h with ⟨h1, h2⟩ | ⟨h1, h2⟩
    · subst h1 h2
      have e : asSet as j a j = a := if_pos rfl
      rw [e]
      exact ⟨List.getElem?_set_self (by rw [← k.len]; exact hi), hx, r.keep sub fun _ z => z⟩
    · have e : asSet as i a j = as j := if_neg h1
      rw [e]
      obtain ⟨e1, n, r1⟩ := k.own j es h2
      exact ⟨by rw [List.getElem?_set_ne fun z => h1 z.symm]; exact e1, fun z => n (.inl z), r1.keep sub fun _ z => z⟩
  · rcases isOwn_set h1 with ⟨h3, h4⟩ | ⟨h3, h4⟩ <;> rcases isOwn_set h2 with ⟨h5, h6⟩ | ⟨h5, h6⟩
    · rw [h3, h5]
    · exfalso
      obtain ⟨_, n, _⟩ := k.own l fs h6
      have e1 : asSet as i a j = a := by rw [h3]; exact if_pos rfl
      have e2 : asSet as i a l = as l := if_neg h5
      rw [e1, e2] at e
      exact n (.inr e.symm)
    · exfalso
      obtain ⟨_, n, _⟩ := k.own j es h4
      have e1 : asSet as i a l = a := by rw [h5]; exact if_pos rfl
      have e2 : asSet as i a j = as j := if_neg h3
      rw [e1, e2] at e
      exact n (.inr e)
    · have e1 : asSet as i a l = as l := if_neg h5
      have e2 : asSet as i a j = as j := if_neg h3
      rw [e1, e2] at e
      exact k.inj j l es fs h4 h6 e
theorem Go.set_cn {H : Hp} {ρ : Rho} {as : Nat → Addr} {i : Nat} {a : Addr} {ds : Cn} (ha : H a = none) (hn : ∀ es, ρ[i]? ≠ some (Sl.ino es)) : Go H ρ as (ρ.set i (slOf ds)) (asSet as i a) where
  own := fun b h => (Own.set_own h).elim (fun z => .inr (z ▸ ha)) .inl
  ino := fun j es h => by
    have ne : i ≠ j := fun e => hn es (e ▸ h)
    exact ⟨⟨es, by rw [List.getElem?_set_ne ne]; exact h⟩, if_neg fun z => ne z.symm⟩
  ini := fun j es h => by
    rcases isOwn_set (es := .L es) (.inr h) with ⟨h1, h2⟩ | ⟨h1, h2⟩
    · subst h1
      have hl : j < ρ.length := by have := lt_of_get h; simpa using this
      rw [List.getElem?_set_self hl] at h; cases ds <;> cases h
    · rw [List.getElem?_set_ne fun z => h1 z.symm] at h
      exact ⟨es, h⟩
/-- .. where the new thing is new since an earlier heap -/
theorem Go.set_cn' {H : Hp} {ρ ρ' : Rho} {as as1 : Nat → Addr} {i : Nat} {a : Addr} {ds : Cn} (g : Go H ρ as ρ' as1) (ha : H a = none) (hn : ∀ es, ρ'[i]? ≠ some (Sl.ino es)) : Go H ρ as (ρ'.set i (slOf ds)) (asSet as1 i a) where
  own := fun b h => (Own.set_own h).elim (fun z => .inr (z ▸ ha)) (g.own b)
  ino := fun j es h => by
    obtain ⟨⟨es', h'⟩, ea⟩ := g.ino j es h
    have ne : i ≠ j := fun e => hn es' (e ▸ h')
    exact ⟨⟨es', by rw [List.getElem?_set_ne ne]; exact h'⟩, (if_neg fun z => ne z.symm).trans ea⟩
  ini := fun j es h => by
    rcases isOwn_set (es := .L es) (.inr h) with ⟨h1, h2⟩ | ⟨h1, h2⟩
    · subst h1
      have hl : j < ρ'.length := by have := lt_of_get h; simpa using this
      rw [List.getElem?_set_self hl] at h; cases ds <;> cases h
    · rw [List.getElem?_set_ne fun z => h1 z.symm] at h
      exact g.ini j es h
theorem Ok.set_own {K : PySem.W.Frag} {Ex : Addr → Prop} {σ : St} {H : Hp} {ρ : Rho} {as : Nat → Addr} {i : Nat} {a : Addr} {vs : List V} {ds : List D} (k : Ok K (fun b => Ex b ∨ b = a) σ H ρ as) (hx : ¬ Ex a) (ha : H a = some (.lst vs)) (hz : vs.length ≤ sizeLine) (r : RepL K (MM (fun b => Ex b ∨ b = a) ρ as) H ds vs) (hi : i < ρ.length) :
    Ok K Ex (σ.set i (some (.ref a))) H (ρ.set i (.own ds)) (asSet as i a) := k.set_cn (ds := .L ds) hx ⟨vs, ha, hz, r⟩ hi
theorem Go.set_own {H : Hp} {ρ : Rho} {as : Nat → Addr} {i : Nat} {a : Addr} {ds : List D} (ha : H a = none) (hn : ∀ es, ρ[i]? ≠ some (Sl.ino es)) : Go H ρ as (ρ.set i (.own ds)) (asSet as i a) := Go.set_cn (ds := .L ds) ha hn
theorem Go.set_own' {H : Hp} {ρ ρ' : Rho} {as as1 : Nat → Addr} {i : Nat} {a : Addr} {ds : List D} (g : Go H ρ as ρ' as1) (ha : H a = none) (hn : ∀ es, ρ'[i]? ≠ some (Sl.ino es)) : Go H ρ as (ρ'.set i (.own ds)) (asSet as1 i a) := Go.set_cn' (ds := .L ds) g ha hn
theorem new_not_ex {K : PySem.W.Frag} {Ex : Addr → Prop} {σ : St} {H : Hp} {ρ : Rho} {as : Nat → Addr} {a : Addr} (k : Ok K Ex σ H ρ as) (h : H a = none) : ¬ Ex a := fun z => by
  obtain ⟨o, e⟩ := k.exs a z
  rw [h] at e; cases e
theorem ds_setO {i : Nat} {fe : C (List D)} (h : DO X e fe) (hp : ∀ t, PE X e t → PS X st (tAsg t (gName i))) : DS X ow st (sSetO i fe) := by
  obtain ⟨t, h, run⟩ := h.ex
  refine ⟨_, hp t h, fun Ex σ H ρ as o D k e q => ?_⟩
  unfold sSetO at e
  split at e
  · rename_i ds ρ1 e1
    split at e
    · cases e
    · rename_i sl hn hs
      cases e
      refine run Ex σ H ρ as _ _ _ k e1 fun a vs H' k' f' g' ha ha' hz r => ?_
      exact q _ H' _ (k'.set_own (new_not_ex k ha) ha' hz r (lt_of_get hs)) f' (g'.set_own' ha fun es z => by rw [hs] at z; exact hn es (Option.some.inj z))
    · cases e
  · cases e
end
end PD

namespace PD
open PySem L2

/-! ### targets -/
/-- only the slots is are stored -/
def Only' (is : List Nat) (σ σ' : St) : Prop := σ'.length = σ.length ∧ ∀ j, j ∉ is → σ'[j]? = σ[j]?
structure DG (X : Cx) (tg : Expr) (is : List Nat) (b : D → Rho → Option Rho) : Prop where
  ex : ∃ t, PG X tg t ∧ ∀ (Ex : Addr → Prop) (σ : St) (H : Hp) (ρ : Rho) (as : Nat → Addr) (d : D) (v : V) (ρ' : Rho) (Q : St → Hp → Prop), Ok X.K Ex σ H ρ as → Rep X.K (MM Ex ρ as) H d v → b d ρ = some ρ' →
    (∀ σ', Ok X.K Ex σ' H ρ' as → Go H ρ as ρ' as → Only' is σ σ' → Q σ' H) → t v σ H Q
structure DGs (X : Cx) (tgs : List Expr) (is : List Nat) (b : List D → Rho → Option Rho) : Prop where
  ex : ∃ t, PGs X tgs t ∧ ∀ (Ex : Addr → Prop) (σ : St) (H : Hp) (ρ : Rho) (as : Nat → Addr) (ds : List D) (vs : List V) (ρ' : Rho) (Q : St → Hp → Prop), Ok X.K Ex σ H ρ as → RepL X.K (MM Ex ρ as) H ds vs → b ds ρ = some ρ' →
    (∀ σ', Ok X.K Ex σ' H ρ' as → Go H ρ as ρ' as → Only' is σ σ' → Q σ' H) → t vs σ H Q
def bName (i : Nat) : D → Rho → Option Rho := fun d ρ => match ρ[i]? with | some (.ino _) => none | some _ => some (ρ.set i (.dat d)) | none => none
def bNil : List D → Rho → Option Rho := fun ds ρ => match ds with | [] => some ρ | _ => none
def bCons (b : D → Rho → Option Rho) (bs : List D → Rho → Option Rho) : List D → Rho → Option Rho := fun ds ρ => match ds with
  | d :: r => (match b d ρ with | some ρ1 => bs r ρ1 | none => none)
  | [] => none
def bTup (n : Nat) (bs : List D → Rho → Option Rho) : D → Rho → Option Rho := fun d ρ => match d with | .tup ds => if ds.length = n then bs ds ρ else none | _ => none
section
variable {X : Cx} {e : Expr} {es : List Expr} {is js : List Nat} {b : D → Rho → Option Rho} {bs : List D → Rho → Option Rho} {pos : Pos}
theorem dg_name {i : Nat} (h : PG X e (gName i)) : DG X e [i] (bName i) := ⟨_, h, fun Ex σ H ρ as d v ρ' Q k r e q => by
  unfold bName at e
  split at e
  · cases e
  · rename_i sl hn hs
    cases e
    exact q _ (k.set_dat r (lt_of_get hs)) (Go.set_dat fun es z => by rw [hs] at z; exact hn es (Option.some.inj z)) ⟨List.length_set, fun j hj => List.getElem?_set_ne fun z => hj (by simp [z])⟩
  · cases e⟩
theorem dgs_nil : DGs X [] [] bNil := ⟨_, pgs_nil, fun Ex σ H ρ as ds vs ρ' Q k r e q => by
  unfold bNil at e
  split at e
  · cases e; exact ⟨repL_nil.mp r, q σ k .refl ⟨rfl, fun _ _ => rfl⟩⟩
  · cases e⟩
theorem dgs_cons (h1 : DG X e is b) (h2 : DGs X es js bs) (hs : (assignEach (e :: es) X.env).map (·.2) = assign e X.env :: (assignEach es X.env).map (·.2) := by rfl) : DGs X (e :: es) (is ++ js) (bCons b bs) := by
  obtain ⟨t, h1, run1⟩ := h1.ex
  obtain ⟨u, h2, run2⟩ := h2.ex
  refine ⟨_, pgs_cons h1 h2 hs, fun Ex σ H ρ as ds vs ρ' Q k r e q => ?_⟩
  unfold bCons at e
  split at e
  · rename_i d ds
    split at e
    · rename_i ρ1 e1
      obtain ⟨v, vs, e2, r1, r2⟩ := repL_cons.mp r
      exact ⟨v, vs, e2, run1 Ex σ H ρ as d v ρ1 _ k r1 e1 fun σ1 k1 g1 o1 => run2 Ex σ1 H ρ1 as ds vs ρ' Q k1 (r2.keep (Keep.of .refl g1)) e fun σ2 k2 g2 o2 => q σ2 k2 (Go.trans .refl g1 g2)
        ⟨o2.1.trans o1.1, fun j hj => (o2.2 j fun z => hj (List.mem_append_right _ z)).trans (o1.2 j fun z => hj (List.mem_append_left _ z))⟩⟩
    · cases e
  · cases e
theorem dg_tup {k n : Nat} (hc : X.calm = true) (h : DGs X es is bs) (hn : (assignEach es X.env).length = n := by rfl) (hst : (assignEach es X.env).findIdx? (·.1) = none := by rfl) : DG X (.Tuple es k pos) is (bTup n bs) := by
  obtain ⟨t, h, run⟩ := h.ex
  refine ⟨_, pg_tup hc h hn hst, fun Ex σ H ρ as d v ρ' Q k r e q => ?_⟩
  unfold bTup at e
  split at e
  · split at e
    · rename_i ds hl
      obtain ⟨a, vs, e1, l1, r1⟩ := rep_tup.mp r
      exact ⟨a, vs, e1, l1.seq, by rw [r1.length, hl], run Ex σ H ρ as ds vs ρ' Q k r1 e q⟩
    · cases e
  · cases e
end
def sUnpack (f : C D) (b : D → Rho → Option Rho) : S := fun ρ => match f ρ with
  | some (d, ρ1) => (match b d ρ1 with | some ρ2 => some (.nx ρ2) | none => none)
  | none => none
def setD : List Nat → List D → Rho → Option Rho
  | [], [], ρ => some ρ
  | i :: is, d :: ds, ρ => (match ρ[i]? with | some (.ino _) => none | some _ => setD is ds (ρ.set i (.dat d)) | none => none)
  | _, _, _ => none
def setV : List Nat → List V → St → St
  | i :: is, v :: vs, σ => setV is vs (σ.set i (some v))
  | _, _, σ => σ
def sParD (is : List Nat) (f : C (List D)) : S := fun ρ => match f ρ with
  | some (ds, ρ1) => (match setD is ds ρ1 with | some ρ2 => some (.nx ρ2) | none => none)
  | none => none
theorem setD_ok {K : PySem.W.Frag} {Ex : Addr → Prop} {H : Hp} {as : Nat → Addr} : ∀ {is : List Nat} {ds : List D} {vs : List V} {σ : St} {ρ ρ' : Rho}, Ok K Ex σ H ρ as → RepL K (MM Ex ρ as) H ds vs → setD is ds ρ = some ρ' → Ok K Ex (setV is vs σ) H ρ' as ∧ Go H ρ as ρ' as
  | [], [], _, _, _, _, k, r, e => by rw [setD] at e; cases e; exact ⟨by rw [repL_nil.mp r]; exact k, .refl⟩
  | i :: is, d :: ds, _, _, ρ, _, k, r, e => by
    rw [setD] at e
    obtain ⟨v, vs, e2, r1, r2⟩ := repL_cons.mp r
    subst e2
    split at e
    · cases e
    · rename_i sl hn hs
      have g1 : Go H ρ as (ρ.set i (.dat d)) as := Go.set_dat fun es z => by rw [hs] at z; exact hn es (Option.some.inj z)
      obtain ⟨k2, g2⟩ := setD_ok (k.set_dat r1 (lt_of_get hs)) (r2.keep (Keep.of .refl g1)) e
      exact ⟨k2, Go.trans .refl g1 g2⟩
    · cases e
  | [], _ :: _, _, _, _, _, _, _, e => by simp [setD] at e
  | _ :: _, [], _, _, _, _, _, _, e => by simp [setD] at e
section
variable {X : Cx} {ow : Bool} {st : Stmt} {e : Expr} {es : List Expr} {b : D → Rho → Option Rho}
theorem ds_unpack {tg : Expr} {is : List Nat} {f : C D} (h : DE X e f) (hg : DG X tg is b) (hp : ∀ t g, PE X e t → PG X tg g → PS X st (tAsg t g)) : DS X ow st (sUnpack f b) := by
  obtain ⟨t, h, run⟩ := h.ex
  obtain ⟨u, hg, runG⟩ := hg.ex
  refine ⟨_, hp t u h hg, fun Ex σ H ρ as o D k e q => ?_⟩
  unfold sUnpack at e
  split at e
  · rename_i d ρ1 e1
    split at e
    · rename_i ρ2 e2
      cases e
      exact run Ex σ H ρ as _ _ _ k e1 fun v H' k' f' g' r => runG Ex σ H' ρ1 as d v ρ2 _ k' r e2 fun σ2 k2 g2 _ => q σ2 H' as k2 f' (Go.trans f' g' g2)
    · cases e
  · cases e
theorem ds_par2D {i j : Nat} {f : C (List D)} (h : DA X es f) (hp : ∀ t, PA X es t → PS X st (tPar i j t)) : DS X ow st (sParD [i, j] f) := by
  obtain ⟨t, h, run⟩ := h.ex
  refine ⟨_, hp t h, fun Ex σ H ρ as o D k e q => ?_⟩
  unfold sParD at e
  split at e
  · rename_i ds ρ1 e1
    split at e
    · rename_i ρ2 e2
      cases e
      refine run Ex σ H ρ as _ _ _ k e1 fun vs H' k' f' g' r => ?_
      obtain ⟨k2, g2⟩ := setD_ok k' r e2
      have hl : vs.length = 2 := by
        rw [r.length]
        match ds, e2 with
        | [_, _], _ => rfl
        | [], e2 => simp [setD] at e2
        | [_], e2 => simp only [setD] at e2; split at e2 <;> simp at e2
        | _ :: _ :: _ :: _, e2 => simp only [setD] at e2; split at e2 <;> try (simp at e2; done)
                                  split at e2 <;> simp at e2
      match vs, hl with
      | [v, w], _ => exact ⟨v, w, rfl, q _ H' as k2 f' (Go.trans f' g' g2)⟩
    · cases e
  · cases e
theorem ds_par3D {i j l : Nat} {f : C (List D)} (h : DA X es f) (hp : ∀ t, PA X es t → PS X st (tPar3 i j l t)) : DS X ow st (sParD [i, j, l] f) := by
  obtain ⟨t, h, run⟩ := h.ex
  refine ⟨_, hp t h, fun Ex σ H ρ as o D k e q => ?_⟩
  unfold sParD at e
  split at e
  · rename_i ds ρ1 e1
    split at e
    · rename_i ρ2 e2
      cases e
      refine run Ex σ H ρ as _ _ _ k e1 fun vs H' k' f' g' r => ?_
      obtain ⟨k2, g2⟩ := setD_ok k' r e2
      have hl : vs.length = 3 := by
        rw [r.length]
        match ds, e2 with
        | [_, _, _], _ => rfl
        | [], e2 => simp [setD] at e2
        | [_], e2 => simp only [setD] at e2; split at e2 <;> simp at e2
        | [_, _], e2 => simp only [setD] at e2; split at e2 <;> try (simp at e2; done)
                        split at e2 <;> simp at e2
        | _ :: _ :: _ :: _ :: _, e2 => simp only [setD] at e2; split at e2 <;> try (simp at e2; done)
                                       split at e2 <;> try (simp at e2; done)
                                       split at e2 <;> simp at e2
      match vs, hl with
      | [v, w, u], _ => exact ⟨v, w, u, rfl, q _ H' as k2 f' (Go.trans f' g' g2)⟩
    · cases e
  · cases e
end

/-! ### a value of either kind; a, b = .. with new lists among them -/
def VNew (X : Cx) (Ex : Addr → Prop) (σ : St) (H : Hp) (as : Nat → Addr) (ρ' : Rho) (H' : Hp) (v : V) (c : Cn) : Prop :=
  ∃ a, v = .ref a ∧ Ok X.K (fun b => Ex b ∨ b = a) σ H' ρ' as ∧ H a = none ∧ Held X.K (MM (fun b => Ex b ∨ b = a) ρ' as) H' a c
def VPost (X : Cx) (Ex : Addr → Prop) (σ : St) (H : Hp) (as : Nat → Addr) (ρ' : Rho) (H' : Hp) (v : V) : Sl → Prop
  | .dat d => Ok X.K Ex σ H' ρ' as ∧ Rep X.K (MM Ex ρ' as) H' d v
  | .own ds => VNew X Ex σ H as ρ' H' v (.L ds)
  | .dic ks vs => VNew X Ex σ H as ρ' H' v (.M ks vs)
  | _ => False
theorem VPost.cases {X : Cx} {Ex : Addr → Prop} {σ : St} {H : Hp} {as : Nat → Addr} {ρ' : Rho} {H' : Hp} {v : V} {s : Sl} (h : VPost X Ex σ H as ρ' H' v s) :
    (∃ d, s = .dat d ∧ Ok X.K Ex σ H' ρ' as ∧ Rep X.K (MM Ex ρ' as) H' d v) ∨ ∃ c, s = slOf c ∧ VNew X Ex σ H as ρ' H' v c := by
  cases s with
  | emp => exact h.elim
  | ino _ => exact h.elim
  | dat d => exact .inl ⟨d, rfl, h⟩
  | own ds => exact .inr ⟨.L ds, rfl, h⟩
  | dic ks vs => exact .inr ⟨.M ks vs, rfl, h⟩
structure DV (X : Cx) (e : Expr) (f : C Sl) : Prop where
  ex : ∃ t, PE X e t ∧ ∀ (Ex : Addr → Prop) (σ : St) (H : Hp) (ρ : Rho) (as : Nat → Addr) (r : Sl) (ρ' : Rho) (Q : VK), Ok X.K Ex σ H ρ as → f ρ = some (r, ρ') →
    (∀ v H', Fr (Own ρ as) H H' → Go H ρ as ρ' as → VPost X Ex σ H as ρ' H' v r → Q v H') → t σ H Q
def vDat (f : C D) : C Sl := fun ρ => match f ρ with | some (d, ρ') => some (.dat d, ρ') | none => none
def vOwn (f : C (List D)) : C Sl := fun ρ => match f ρ with | some (d, ρ') => some (.own d, ρ') | none => none
section
variable {X : Cx} {ow : Bool} {st : Stmt} {e a b : Expr}
theorem dv_e {f : C D} (h : DE X e f) : DV X e (vDat f) := by
  obtain ⟨t, h, run⟩ := h.ex
  refine ⟨_, h, fun Ex σ H ρ as r ρ' Q k e q => ?_⟩
  unfold vDat at e
  split at e
  · cases e
    exact run Ex σ H ρ as _ _ _ k ‹_› fun v H' k' f' g' r => q v H' f' g' ⟨k', r⟩
  · cases e
theorem dv_o {f : C (List D)} (h : DO X e f) : DV X e (vOwn f) := by
  obtain ⟨t, h, run⟩ := h.ex
  refine ⟨_, h, fun Ex σ H ρ as r ρ' Q k e q => ?_⟩
  unfold vOwn at e
  split at e
  · cases e
    exact run Ex σ H ρ as _ _ _ k ‹_› fun a vs H' k' f' g' h1 h2 z r => q _ H' f' g' ⟨a, rfl, k', h1, vs, h2, z, r⟩
  · cases e
def okSlot (ρ : Rho) (i : Nat) : Bool := match ρ[i]? with | some (.ino _) => false | some _ => true | none => false
theorem okSlot.spec {ρ : Rho} {i : Nat} (h : okSlot ρ i = true) : i < ρ.length ∧ ∀ es, ρ[i]? ≠ some (Sl.ino es) := by
  unfold okSlot at h
  split at h
  · cases h
  · rename_i s hn hs
    exact ⟨lt_of_get hs, fun es z => by rw [hs] at z; exact hn es (Option.some.inj z)⟩
  · cases h
theorem okSlot.set_dat {ρ : Rho} {i j : Nat} {d : D} (h : okSlot ρ i = true) : okSlot (ρ.set j (.dat d)) i = true := by
  by_cases e : j = i
  · subst e
    have := okSlot.spec h
    unfold okSlot
    rw [List.getElem?_set_self this.1]
  · unfold okSlot at h ⊢
    rw [List.getElem?_set_ne e]
    exact h
theorem okSlot.set_cn {ρ : Rho} {i j : Nat} {d : Cn} (h : okSlot ρ i = true) : okSlot (ρ.set j (slOf d)) i = true := by
  by_cases e : j = i
  · subst e
    have := okSlot.spec h
    unfold okSlot
    rw [List.getElem?_set_self this.1]
    cases d <;> rfl
  · unfold okSlot at h ⊢
    rw [List.getElem?_set_ne e]
    exact h
def sPar2 (i j : Nat) (f g : C Sl) : S := fun ρ => match f ρ with
  | some (r, ρ1) => (match g ρ1 with
    | some (u, ρ2) => if okSlot ρ2 i && okSlot ρ2 j then some (.nx ((ρ2.set i r).set j u)) else none
    | none => none)
  | none => none
theorem Keep.of2 {Ex : Addr → Prop} {H H1 : Hp} {ρ ρ1 : Rho} {as as1 : Nat → Addr} {p : Addr} (f : Fr (Own ρ as) H H1) (g : Go H ρ as ρ1 as1) (hp : H p = none) : Keep (MM Ex ρ as) (MM (fun b => Ex b ∨ b = p) ρ1 as1) H H1 := fun b o h hm => by
  obtain ⟨h1, h2⟩ := Keep.of (Ex := Ex) f g b o h hm
  refine ⟨h1, fun z => ?_⟩
  rcases z with (z | z) | z
  · exact h2 (.inl z)
  · rw [z, hp] at h; cases h
  · exact h2 (.inr z)
theorem ds_par2 {i j : Nat} {f g : C Sl} (hij : i ≠ j) (h1 : DV X a f) (h2 : DV X b g) (hs : starEach [a, b] X.env = (false, eval a X.env) :: starEach [b] X.env) (hs2 : starEach [b] X.env = (false, eval b X.env) :: starEach [] X.env)
    (hp : ∀ t, PA X [a, b] t → PS X st (tPar i j t)) : DS X ow st (sPar2 i j f g) := by
  obtain ⟨t1, h1, run1⟩ := h1.ex
  obtain ⟨t2, h2, run2⟩ := h2.ex
  refine ⟨_, hp _ (pa_cons h1 (pa_cons h2 pa_nil hs2) hs), fun Ex σ H ρ as o D k e q => ?_⟩
  unfold sPar2 at e
  split at e
  · rename_i r ρ1 e1
    split at e
    · rename_i u ρ2 e2
      split at e
      · rename_i hok
        cases e
        simp only [Bool.and_eq_true] at hok
        obtain ⟨oi, oj⟩ := hok
        obtain ⟨li, ni⟩ := okSlot.spec oi
        obtain ⟨lj, nj⟩ := okSlot.spec oj
        refine run1 Ex σ H ρ as r ρ1 _ k e1 fun v1 H1 f1 g1 P1 => ?_
        rcases P1.cases with ⟨d, rfl, k1, r1⟩ | ⟨c1, rfl, a1, rfl, k1, hn1, r1⟩
        · refine run2 Ex σ H1 ρ1 as u ρ2 _ k1 e2 fun v2 H2 f2 g2 P2 => ⟨v1, v2, rfl, ?_⟩
          have f12 := f1.trans g1 f2
          have g12 := Go.trans f1 g1 g2
          have gi : Go H ρ as (ρ2.set i (.dat d)) as := Go.trans f12 g12 (Go.set_dat (H := H2) ni)
          rcases P2.cases with ⟨e, rfl, k2, r2⟩ | ⟨c2, rfl, a2, rfl, k2, hn2, r2⟩
          · have k3 := k2.set_dat (r1.keep (Keep.of f2 g2)) li
            have k4 := k3.set_dat (r2.keep (Keep.of .refl (Go.set_dat ni))) (by rw [List.length_set]; exact lj)
            exact q _ H2 as k4 f12 (Go.trans f12 gi (Go.set_dat (okSlot.spec (okSlot.set_dat oj)).2))
          · have k3 := k2.set_dat (r1.keep (Keep.of2 f2 g2 hn2)) li
            have k4 := k3.set_cn (new_not_ex k1 hn2) (r2.keep (Keep.of .refl (Go.set_dat ni)) fun _ z => z) (by rw [List.length_set]; exact lj)
            exact q _ H2 _ k4 f12 (gi.set_cn' (f1.free hn2) (okSlot.spec (okSlot.set_dat oj)).2)
        · refine run2 (fun b => Ex b ∨ b = a1) σ H1 ρ1 as u ρ2 _ k1 e2 fun v2 H2 f2 g2 P2 => ⟨.ref a1, v2, rfl, ?_⟩
          have f12 := f1.trans g1 f2
          have g12 := Go.trans f1 g1 g2
          have no1 : ¬ Own ρ1 as a1 := fun ⟨j, es, h1, h2⟩ => (k1.own j es h1).2.1 (.inr h2)
          have ha2' : ∀ o, H1 a1 = some o → H2 a1 = some o := fun o z => (f2 a1 _ z).1 no1
          have comm : ∀ w : V, (σ.set i (some (V.ref a1))).set j (some w) = (σ.set j (some w)).set i (some (V.ref a1)) := fun w => List.set_comm _ _ hij
          have commr : ∀ s : Sl, (ρ2.set i (slOf c1)).set j s = (ρ2.set j s).set i (slOf c1) := fun s => List.set_comm _ _ hij
          rw [comm]
          rcases P2.cases with ⟨e, rfl, k2, r2⟩ | ⟨c2, rfl, a2, rfl, k2, hn2, r2⟩
          · have k3 := k2.set_dat r2 lj
            have k4 := k3.set_cn (new_not_ex k hn1) ((r1.keep (Keep.of f2 g2) ha2').keep (Keep.of .refl (Go.set_dat nj)) fun _ z => z) (by rw [List.length_set]; exact li)
            rw [commr] at q
            exact q _ H2 _ k4 f12 ((Go.trans f12 g12 (Go.set_dat (H := H2) nj)).set_cn' hn1 (okSlot.spec (okSlot.set_dat oi)).2)
          · have k3 := k2.set_cn (new_not_ex k1 hn2) r2 lj
            have rr := r1.keep (Keep.of2 f2 g2 hn2) ha2'
            have rr2 : Held X.K (MM (fun b => Ex b ∨ b = a1) (ρ2.set j (slOf c2)) (asSet as j a2)) H2 a1 c1 := rr.keep (Keep.sub fun b z => by
              rcases z with z | z
              · exact .inl (.inl z)
              · rcases Own.set_own z with z | z
                · exact .inl (.inr z)
                · exact .inr z) fun _ z => z
            have k4 := k3.set_cn (new_not_ex k hn1) rr2 (by rw [List.length_set]; exact li)
            rw [commr] at q
            exact q _ H2 _ k4 f12 ((g12.set_cn' (f1.free hn2) nj).set_cn' hn1 (okSlot.spec (okSlot.set_cn oi)).2)
      · cases e
    · cases e
  · cases e
end

/-! ### changes in place -/
def sAppend (i : Nat) (f : C D) : S := fun ρ => match ρ[i]? with
  | some (.own _) => (match f ρ with
    | some (d, ρ1) => (match ρ1[i]? with
      | some (.own ds) => if ds.length < lim then some (.nx (ρ1.set i (.own (ds ++ [d])))) else none
      | _ => none)
    | none => none)
  | _ => none
def sSetIx (i : Nat) (f g : C D) : S := fun ρ => match f ρ with
  | some (d, ρ1) => (match pVar i ρ1 with
    | none => none
    | some _ => (match g ρ1 with
      | some (.int k, ρ2) => (match ρ2[i]? with
        | some (.own ds) => (match ixN ds.length k with | some j => some (.nx (ρ2.set i (.own (ds.set j d)))) | none => none)
        | some (.ino ds) => (match ixN ds.length k with | some j => some (.nx (ρ2.set i (.ino (ds.set j d)))) | none => none)
        | _ => none)
      | _ => none))
  | none => none
/-- the thing owned at slot i gets other items -/
theorem isOwn_swap {ρ : Rho} {i j : Nat} {s : Sl} {c e : Cn} (h : IsOwn ρ i c) (hj : IsOwn (ρ.set i s) j e) : ∃ es', IsOwn ρ j es' := by
  by_cases q : i = j
  · subst q; exact ⟨c, h⟩
  · exact ⟨e, (isOwn_cong (List.getElem?_set_ne q)).mp hj⟩
theorem Own.swap {ρ : Rho} {i : Nat} {s : Sl} {as : Nat → Addr} {c : Cn} {b : Addr} (h : IsOwn ρ i c) (hb : Own (ρ.set i s) as b) : Own ρ as b := by
  obtain ⟨j, es, h1, h2⟩ := hb
  obtain ⟨es', h3⟩ := isOwn_swap h h1
  exact ⟨j, es', h3, h2⟩
theorem Ok.swapC {K : PySem.W.Frag} {Ex : Addr → Prop} {σ : St} {H H' : Hp} {ρ : Rho} {as : Nat → Addr} {i : Nat} {c c' : Cn} {s : Sl} (k : Ok K Ex σ H ρ as) (h : IsOwn ρ i c)
    (hs : (s = slOf c' ∧ ∃ c0, ρ[i]? = some (slOf c0)) ∨ ∃ ds' ds0, s = .ino ds' ∧ c' = .L ds' ∧ ρ[i]? = some (.ino ds0)) (hf : Fr (fun b => b = as i) H H') (r : Held K (MM Ex ρ as) H' (as i) c') :
    Ok K Ex σ H' (ρ.set i s) as ∧ Fr (Own ρ as) H H' ∧ Go H ρ as (ρ.set i s) as ∧ ∀ b, MM Ex (ρ.set i s) as b → MM Ex ρ as b := by
  have hi : i < ρ.length := isOwn_lt h
  obtain ⟨e0, n0, r0⟩ := k.own i c h
  have hown : Own ρ as (as i) := ⟨i, c, h, rfl⟩
  have fr : Fr (Own ρ as) H H' := fun a o ho => ⟨fun z => (hf a o ho).1 fun q => z (q ▸ hown), (hf a o ho).2⟩
  have go : Go H ρ as (ρ.set i s) as := ⟨fun a z => .inl (Own.swap h z), fun j es hj => by
      by_cases e : i = j
      · subst e
        rcases hs with ⟨h1, c0, h2⟩ | ⟨ds', ds0, h1, _, h2⟩
        · rw [h2] at hj; cases c0 <;> cases hj
        · subst h1
          exact ⟨⟨ds', List.getElem?_set_self hi⟩, rfl⟩
      · exact ⟨⟨es, by rw [List.getElem?_set_ne e]; exact hj⟩, rfl⟩, fun j es hj => by
      by_cases e : i = j
      · subst e
        rw [List.getElem?_set_self hi] at hj
        rcases hs with ⟨h1, c0, h2⟩ | ⟨ds', ds0, h1, _, h2⟩
        · rw [h1] at hj; cases c' <;> cases hj
        · exact ⟨ds0, h2⟩
      · rw [List.getElem?_set_ne e] at hj
        exact ⟨es, hj⟩⟩
  have kp : Keep (MM Ex ρ as) (MM Ex (ρ.set i s) as) H H' := Keep.of fr go
  have sb : ∀ b, MM Ex (ρ.set i s) as b → MM Ex ρ as b := fun b z => z.elim .inl fun z => .inr (Own.swap h z)
  refine ⟨⟨by rw [List.length_set]; exact k.len, fun a z => ?_, fun j d hj => ?_, fun j es hj => ?_, fun j l es fs h1 h2 e => ?_⟩, fr, go, sb⟩
  · obtain ⟨o, e⟩ := k.exs a z
    exact (fr a o e).2
  · by_cases e : i = j
    · subst e
      rw [List.getElem?_set_self hi] at hj
      rcases hs with ⟨h1, _⟩ | ⟨_, _, h1, _⟩
      · rw [h1] at hj; cases c' <;> cases hj
      · rw [h1] at hj; cases hj
    · rw [List.getElem?_set_ne e] at hj
      obtain ⟨v, e1, r1⟩ := k.dat j d hj
      exact ⟨v, e1, r1.keep kp⟩
  · by_cases e : i = j
    · subst e
      have : es = c' := by
        rcases hs with ⟨h1, _⟩ | ⟨ds', _, h1, h2, _⟩
        · exact isOwn_slOf (by rw [List.getElem?_set_self hi, h1]) hj
        · subst h1 h2
          cases es <;> simp only [IsOwn, List.getElem?_set_self hi] at hj
          · rcases hj with hj | hj <;> cases hj; rfl
          · cases hj
      subst this
      exact ⟨e0, n0, r.keep (Keep.sub sb) fun _ z => z⟩
    · obtain ⟨e1, n1, r1⟩ := k.own j es ((isOwn_cong (List.getElem?_set_ne e)).mp hj)
      have ne : as j ≠ as i := fun q => e (k.inj i j c es h ((isOwn_cong (List.getElem?_set_ne e)).mp hj) q.symm)
      exact ⟨e1, n1, r1.keep kp fun o z => (hf _ _ z).1 ne⟩
  · obtain ⟨es', h1⟩ := isOwn_swap h h1
    obtain ⟨fs', h2⟩ := isOwn_swap h h2
    exact k.inj j l es' fs' h1 h2 e
theorem Ok.swap2 {K : PySem.W.Frag} {Ex : Addr → Prop} {σ : St} {H H' : Hp} {ρ : Rho} {as : Nat → Addr} {i : Nat} {ds ds' : List D} {vs' : List V} {s : Sl} (k : Ok K Ex σ H ρ as) (h : IsOwn ρ i (.L ds))
    (hs : (s = .own ds' ∧ ρ[i]? = some (.own ds)) ∨ (s = .ino ds' ∧ ρ[i]? = some (.ino ds))) (hz : vs'.length ≤ sizeLine) (hf : Fr (fun b => b = as i) H H') (ha' : H' (as i) = some (.lst vs')) (r : RepL K (MM Ex ρ as) H' ds' vs') :
    Ok K Ex σ H' (ρ.set i s) as ∧ Fr (Own ρ as) H H' ∧ Go H ρ as (ρ.set i s) as ∧ ∀ b, MM Ex (ρ.set i s) as b → MM Ex ρ as b :=
  k.swapC (c' := .L ds') h (hs.elim (fun z => .inl ⟨z.1, .L ds, z.2⟩) fun z => .inr ⟨ds', ds, z.1, rfl, z.2⟩) hf ⟨vs', ha', hz, r⟩
theorem Fr.upd {H : Hp} {a : Addr} {u : HO} : Fr (fun b => b = a) H (upd H a u) := fun b o ho => by
  by_cases e : b = a
  · subst e; exact ⟨fun z => absurd rfl z, _, upd_same⟩
  · rw [upd_ne e]; exact ⟨fun _ => ho, o, ho⟩
theorem Keep.updO {H : Hp} {ρ : Rho} {as : Nat → Addr} {Ex : Addr → Prop} {i : Nat} {c : Cn} {u : HO} (h : IsOwn ρ i c) : Keep (MM Ex ρ as) (MM Ex ρ as) H (upd H (as i) u) := fun b o e hm =>
  ⟨by rw [upd_ne fun z => hm (.inr ⟨i, c, h, z.symm⟩)]; exact e, hm⟩
theorem Ok.swap {K : PySem.W.Frag} {Ex : Addr → Prop} {σ : St} {H : Hp} {ρ : Rho} {as : Nat → Addr} {i : Nat} {ds ds' : List D} {vs' : List V} {s : Sl} (k : Ok K Ex σ H ρ as) (h : IsOwn ρ i (.L ds))
    (hs : (s = .own ds' ∧ ρ[i]? = some (.own ds)) ∨ (s = .ino ds' ∧ ρ[i]? = some (.ino ds))) (hz : vs'.length ≤ sizeLine) (r : RepL K (MM Ex ρ as) H ds' vs') :
    Ok K Ex σ (upd H (as i) (.lst vs')) (ρ.set i s) as ∧ Fr (Own ρ as) H (upd H (as i) (.lst vs')) ∧ Go H ρ as (ρ.set i s) as :=
  let ⟨a, b, c, _⟩ := k.swap2 h hs hz Fr.upd upd_same (r.keep (Keep.updO h)); ⟨a, b, c⟩
section
variable {X : Cx} {ow : Bool} {st : Stmt} {o a b : Expr}
theorem ds_append {i : Nat} {e : Expr} {f : C D} (ho : PE X o (tVar i)) (h : DE X a f) (hs : starEach [a] X.env = (false, eval a X.env) :: starEach [] X.env) (he : ∀ to t, PE X o to → PA X [a] t → PE X e (tBM X.K "list" rAppend to t)) (hp : ∀ t, PE X e t → PS X st (tDrop t)) : DS X ow st (sAppend i f) := by
  obtain ⟨t, h, run⟩ := h.ex
  refine ⟨_, hp _ (he _ _ ho (pa_cons h pa_nil hs)), fun Ex σ H ρ as oo D k e q => ?_⟩
  unfold sAppend at e
  split at e
  · rename_i ds0 h0
    obtain ⟨hv, _, vs0, hvs, _⟩ := k.own i (.L ds0) (.inl h0)
    split at e
    · rename_i d ρ1 e1
      split at e
      · rename_i ds hds
        split at e
        · rename_i hl
          cases e
          -- the list itself is read ahead of its new item
          refine ⟨_, hv, .inl ⟨rfl, vs0, .inl (.inl hvs)⟩, ?_⟩
          refine run Ex σ H ρ as d ρ1 _ k e1 fun w H1 k1 f1 g1 r => ?_
          obtain ⟨e2, n, vs, ha, z, rr⟩ := k1.own i (.L ds) (.inl hds)
          have hz : vs.length < lim := by rw [rr.length]; exact hl
          refine ⟨as i, vs, w, rfl, rfl, ha, Nat.lt_of_lt_of_le hz lim_line, ?_⟩
          obtain ⟨k2, f2, g2⟩ := k1.swap (.inl hds) (.inl ⟨rfl, hds⟩) (vs' := vs ++ [w]) (ds' := ds ++ [d]) (by rw [List.length_append]; exact Nat.le_trans hz lim_line) (rr.app (RepL.cons r RepL.nil))
          exact q _ _ as k2 (f1.trans g1 f2) (Go.trans f1 g1 g2)
        · cases e
      · cases e
    · cases e
  · cases e
theorem ds_setIx {i : Nat} {f g : C D} (ho : PE X o (tVar i)) (h : DE X a f) (hi : DE X b g) (hp : ∀ te to ti, PE X a te → PE X o to → PE X b ti → PS X st (tAsg te (gSub to ti rSetL))) : DS X ow st (sSetIx i f g) := by
  obtain ⟨t, h, run⟩ := h.ex
  obtain ⟨u, hi, runi⟩ := hi.ex
  refine ⟨_, hp _ _ _ h ho hi, fun Ex σ H ρ as oo D k e q => ?_⟩
  unfold sSetIx at e
  split at e
  · rename_i d ρ1 e1
    split at e
    · cases e
    · rename_i d0 h0
      split at e
      · rename_i kk ρ2 e2
        refine run Ex σ H ρ as d ρ1 _ k e1 fun w H1 k1 f1 g1 r => ?_
        obtain ⟨v, hv⟩ := k1.slot h0
        refine ⟨v, hv, runi Ex σ H1 ρ1 as _ ρ2 _ k1 e2 fun iv H2 k2 f2 g2 ri => ?_⟩
        have r2 := r.keep (Keep.of (Ex := Ex) f2 g2)
        have fin : ∀ {ds : List PD.D} {s : Sl} {j : Nat}, IsOwn ρ2 i (.L ds) → ((s = .own (ds.set j d) ∧ ρ2[i]? = some (.own ds)) ∨ (s = .ino (ds.set j d) ∧ ρ2[i]? = some (.ino ds))) → ixN ds.length kk = some j → Post X ow Ex H ρ as D (.nx (ρ2.set i s)) →
            rSetL v iv w H2 fun H3 => D.nx σ H3 := fun {ds s j} hds hs hj q => by
          obtain ⟨e3, n, vs, ha, z, rr⟩ := k2.own i (.L ds) hds
          rw [hv] at e3
          cases e3
          refine ⟨as i, vs, kk, j, rfl, rep_int.mp ri, ha, by rw [rr.length]; exact hj, ?_⟩
          obtain ⟨k3, f3, g3⟩ := k2.swap hds hs (vs' := vs.set j w) (by rw [List.length_set]; exact z) (rr.set r2)
          exact q _ _ as k3 (f1.trans g1 (f2.trans g2 f3)) (Go.trans f1 g1 (Go.trans f2 g2 g3))
        split at e
        · rename_i ds hds
          split at e
          · rename_i j hj
            cases e
            exact fin (.inl hds) (.inl ⟨rfl, hds⟩) hj q
          · cases e
        · rename_i ds hds
          split at e
          · rename_i j hj
            cases e
            exact fin (.inr hds) (.inr ⟨rfl, hds⟩) hj q
          · cases e
        · cases e
      · cases e
  · cases e
end
end PD

namespace PD
open PySem L2

/-! ### what is walked -/
structure DI (X : Cx) (tg iter : Expr) (f : C (List D)) : Prop where
  ex : ∃ wi, PI X tg iter wi ∧ ∀ (Ex : Addr → Prop) (σ : St) (H : Hp) (ρ : Rho) (as : Nat → Addr) (ds : List D) (ρ' : Rho) (R : It → Hp → Prop), Ok X.K Ex σ H ρ as → f ρ = some (ds, ρ') →
    (∀ J H' G Y, Ok X.K Ex σ H' ρ' as → Fr (Own ρ as) H H' → Go H ρ as ρ' as → Walk J ds.length G Y → (∀ H2 M2, Keep (MM Ex ρ' as) M2 H' H2 → G H2) →
      (∀ i H2 x H3 M2, i < ds.length → Keep (MM Ex ρ' as) M2 H' H2 → Trk M2 H2 → Y i H2 x H3 → Same H2 H3 ∧ ∃ d, ds[i]? = some d ∧ Rep X.K M2 H3 d x) → R J H') → wi σ H R
def itemsD : D → Option (List D)
  | .lst ds => some ds | .tup ds => some ds | .scr ds => some ds | .str s => some (signsD s) | _ => none
def iAny (f : C D) : C (List D) := fun ρ => match f ρ with | some (d, ρ1) => (match itemsD d with | some ds => some (ds, ρ1) | none => none) | none => none
def rangeD (lo : Int) (n : Nat) : List D := (List.range n).map fun k => .int (lo + (k : Nat))
def downD (hi : Int) (n : Nat) : List D := (List.range n).map fun k => .int (hi + (k : Nat) * (-1))
def big62 (i : Int) : Bool := decide (-(2 ^ 62) ≤ i) && decide (i < 2 ^ 62)
def iRange1 (f : C (List D)) : C (List D) := fun ρ => match f ρ with
  | some ([.int j], ρ1) => if big62 j then some (rangeD 0 j.toNat, ρ1) else none
  | _ => none
def iRange2 (f : C (List D)) : C (List D) := fun ρ => match f ρ with
  | some ([.int i, .int j], ρ1) => if big62 i && big62 j then some (rangeD i (j - i).toNat, ρ1) else none
  | _ => none
def iRange3 (f : C (List D)) : C (List D) := fun ρ => match f ρ with
  | some ([.int i, .int j, .int c], ρ1) => if big62 i && big62 j && c == -1 then some (downD i (i - j).toNat, ρ1) else none
  | _ => none
section
variable {X : Cx} {tg e : Expr} {es : List Expr} {f : C D} {fs : C (List D)}
theorem di_any (h : DE X e f) (hl : ∀ t, PE X e t → PI X tg e (iList X.K t)) (ht : ∀ t, PE X e t → PI X tg e (iTup X.K t)) (hs : ∀ t, PE X e t → PI X tg e (iStr t)) : DI X tg e (iAny f) := by
  obtain ⟨t, h, run⟩ := h.ex
  refine ⟨fun σ H R => iList X.K t σ H R ∨ iTup X.K t σ H R ∨ iStr t σ H R, ⟨fun pins s σ H R I q => ?_⟩, fun Ex σ H ρ as ds ρ' R k e q => ?_⟩
  · rcases q with q | q | q
    · exact (hl t h).run pins s σ H R I q
    · exact (ht t h).run pins s σ H R I q
    · exact (hs t h).run pins s σ H R I q
  · unfold iAny at e
    split at e
    · rename_i d ρ1 e1
      split at e
      · rename_i ds1 e2
        cases e
        unfold itemsD at e2
        split at e2 <;> cases e2
        · refine .inl (run Ex σ H ρ as _ _ _ k e1 fun v H' k' f' g' r => ?_)
          obtain ⟨a, vs, e3, l, rr⟩ := rep_lst.mp r
          refine ⟨a, e3, ⟨vs, l.seq⟩, q _ H' _ _ k' f' g' (by rw [← rr.length]; exact walk_list (K := X.K) (a := a) (xs := vs)) (fun H2 M2 kp => (l.keep kp).seq) fun i H2 x H3 M2 hi kp tk y => ?_⟩
          obtain ⟨e4, e5⟩ := y
          subst e4
          obtain ⟨d, hd⟩ : ∃ d, ds[i]? = some d := ⟨_, List.getElem?_eq_getElem hi⟩
          obtain ⟨w, e6, rw'⟩ := rr.get hd
          rw [e5] at e6
          cases e6
          exact ⟨fun _ _ h => h, d, hd, rw'.keep kp⟩
        · refine .inr (.inl (run Ex σ H ρ as _ _ _ k e1 fun v H' k' f' g' r => ?_))
          obtain ⟨a, vs, e3, l, rr⟩ := rep_tup.mp r
          refine ⟨a, e3, ⟨vs, l.seq⟩, q _ H' _ _ k' f' g' (by rw [← rr.length]; exact walk_tup (K := X.K) (a := a) (xs := vs)) (fun H2 M2 kp => (l.keep kp).seq) fun i H2 x H3 M2 hi kp tk y => ?_⟩
          obtain ⟨e4, e5⟩ := y
          subst e4
          obtain ⟨d, hd⟩ : ∃ d, ds[i]? = some d := ⟨_, List.getElem?_eq_getElem hi⟩
          obtain ⟨w, e6, rw'⟩ := rr.get hd
          rw [e5] at e6
          cases e6
          exact ⟨fun _ _ h => h, d, hd, rw'.keep kp⟩
        · refine .inl (run Ex σ H ρ as _ _ _ k e1 fun v H' k' f' g' r => ?_)
          obtain ⟨a, vs, e3, l, rr⟩ := rep_scr.mp r
          refine ⟨a, e3, ⟨vs, l.seq⟩, q _ H' _ _ k' f' g' (by rw [← rr.length]; exact walk_list (K := X.K) (a := a) (xs := vs)) (fun H2 M2 kp => (l.keep kp).seq) fun i H2 x H3 M2 hi kp tk y => ?_⟩
          obtain ⟨e4, e5⟩ := y
          subst e4
          obtain ⟨d, hd⟩ : ∃ d, ds[i]? = some d := ⟨_, List.getElem?_eq_getElem hi⟩
          obtain ⟨w, e6, rw'⟩ := rr.get hd
          rw [e5] at e6
          cases e6
          exact ⟨fun _ _ h => h, d, hd, rw'.keep kp⟩
        · rename_i s
          refine .inr (.inr (run Ex σ H ρ as _ _ _ k e1 fun v H' k' f' g' r => ?_))
          refine ⟨mk s, rep_str.mp r, q _ H' _ _ k' f' g' (by rw [show (signsD s).length = (mk s).cps.size by simp [signsD, mk]]; exact walk_str (z := mk s)) (fun _ _ _ => trivial) fun i H2 x H3 M2 hi kp tk y => ?_⟩
          obtain ⟨e4, c, e5, e6⟩ := y
          subst e4 e6
          have e7 : s[i]? = some c := by simpa [mk] using e5
          exact ⟨fun _ _ h => h, .str [c], by simp [signsD, e7], rep_str.mpr rfl⟩
      · cases e
    · cases e
theorem rangeD_get {lo : Int} {n i : Nat} (h : i < n) : (rangeD lo n)[i]? = some (.int (lo + (i : Nat))) := by simp [rangeD, h]
theorem downD_get {lo : Int} {n i : Nat} (h : i < n) : (downD lo n)[i]? = some (.int (lo + (i : Nat) * (-1))) := by simp [downD, h]
theorem di_range1 (h : DA X es fs) (hp : ∀ t, PA X es t → PI X tg e (iRng1 t)) : DI X tg e (iRange1 fs) := by
  obtain ⟨t, h, run⟩ := h.ex
  refine ⟨_, hp t h, fun Ex σ H ρ as ds ρ' R k e q => ?_⟩
  unfold iRange1 at e
  split at e
  · rename_i j ρ1 e1
    split at e
    · rename_i hb
      cases e
      simp only [big62, Bool.and_eq_true, decide_eq_true_eq] at hb
      refine run Ex σ H ρ as _ _ _ k e1 fun vs H' k' f' g' r => ?_
      obtain ⟨v, ev, rv⟩ := repL_one r
      rw [rep_int.mp rv] at ev
      refine ⟨j, ev, hb.1, hb.2, q _ H' _ _ k' f' g' (by rw [show (rangeD 0 j.toNat).length = j.toNat by simp [rangeD]]; exact walk_range) (fun _ _ _ => trivial) fun i H2 x H3 M2 hi kp tk y => ?_⟩
      obtain ⟨e4, e5⟩ := y
      subst e4 e5
      exact ⟨fun _ _ h => h, _, rangeD_get (by simpa [rangeD] using hi), rep_int.mpr rfl⟩
    · cases e
  · cases e
theorem di_range2 (h : DA X es fs) (hp : ∀ t, PA X es t → PI X tg e (iRng2 t)) : DI X tg e (iRange2 fs) := by
  obtain ⟨t, h, run⟩ := h.ex
  refine ⟨_, hp t h, fun Ex σ H ρ as ds ρ' R k e q => ?_⟩
  unfold iRange2 at e
  split at e
  · rename_i i j ρ1 e1
    split at e
    · rename_i hb
      cases e
      simp only [big62, Bool.and_eq_true, decide_eq_true_eq] at hb
      refine run Ex σ H ρ as _ _ _ k e1 fun vs H' k' f' g' r => ?_
      obtain ⟨v, w, ev, rv, rw'⟩ := repL_two r
      rw [rep_int.mp rv, rep_int.mp rw'] at ev
      refine ⟨i, j, ev, ⟨hb.1.1, hb.1.2, hb.2.1, hb.2.2⟩, q _ H' _ _ k' f' g' (by rw [show (rangeD i (j - i).toNat).length = (j - i).toNat by simp [rangeD]]; exact walk_range) (fun _ _ _ => trivial) fun l H2 x H3 M2 hi kp tk y => ?_⟩
      obtain ⟨e4, e5⟩ := y
      subst e4 e5
      exact ⟨fun _ _ h => h, _, rangeD_get (by simpa [rangeD] using hi), rep_int.mpr rfl⟩
    · cases e
  · cases e
end
/-! ### for -/
def forL (b : D → Rho → Option Rho) (g : S) : List D → S
  | [], ρ => some (.nx ρ)
  | d :: ds, ρ => match b d ρ with
    | none => none
    | some ρ1 => match g ρ1 with
      | some (.nx ρ2) => forL b g ds ρ2
      | some (.ct ρ2) => forL b g ds ρ2
      | some (.bk ρ2) => some (.nx ρ2)
      | some (.rt d ρ2) => some (.rt d ρ2)
      | none => none
def sFor (f : C (List D)) (b : D → Rho → Option Rho) (g : S) : S := fun ρ => match f ρ with | some (ds, ρ1) => forL b g ds ρ1 | none => none
theorem drop_cons {α : Type} {ds : List α} {i : Nat} {d : α} (h : ds[i]? = some d) : ds.drop i = d :: ds.drop (i + 1) := by
  obtain ⟨hi, e⟩ := List.getElem?_eq_some_iff.mp h
  rw [List.drop_eq_getElem_cons hi, e]
section
variable {X : Cx} {ow : Bool} {tg iter : Expr} {body : List Stmt} {f : C (List D)} {is : List Nat} {b : D → Rho → Option Rho} {g : S} {pos : Pos}
theorem ds_for (hc : X.calm = true) (hi : DI X tg iter f) (hg : DG X tg is b) (hb : DSs X ow body g) (hp : ∀ wi t u, PI X tg iter wi → PG X tg t → PSs X body u → PS X (.For tg iter body [] pos) (tFor wi t u)) : DS X ow (.For tg iter body [] pos) (sFor f b g) := by
  obtain ⟨wi, hi, runI⟩ := hi.ex
  obtain ⟨t, hg, runG⟩ := hg.ex
  obtain ⟨u, hb, runB⟩ := hb.ex
  refine ⟨_, hp _ _ _ hi hg hb, fun Ex σ H ρ as o D k e q => ?_⟩
  unfold sFor at e
  split at e
  · rename_i ds ρ1 e1
    refine runI Ex σ H ρ as ds ρ1 _ k e1 fun J H1 G Y k1 f1 g1 W stab item => ?_
    refine for_it W (fun i σ' H' => ∃ ρi asi, Ok X.K Ex σ' H' ρi asi ∧ Fr (Own ρ1 as) H1 H' ∧ Go H1 ρ1 as ρi asi ∧ forL b g (ds.drop i) ρi = some o) ⟨ρ1, as, k1, .refl, .refl, by simpa using e⟩ (fun i σ' H' _ ⟨ρi, asi, ki, fi, gi, _⟩ => stab H' _ (Keep.of fi gi)) ?_ ?_
    · rintro i x σ' Hc H' hi' ⟨ρi, asi, ki, fi, gi, ei⟩ y
      obtain ⟨sm, d, hd, rd⟩ := item i Hc x H' (MM Ex ρi asi) hi' (Keep.of fi gi) (fun a => ki.trk) y
      rw [drop_cons hd] at ei
      unfold forL at ei
      split at ei
      · cases ei
      · rename_i ρ2 e2
        refine runG Ex σ' H' ρi asi d x ρ2 _ (ki.same sm) rd e2 fun σ2 k2 g2 _ => ?_
        have fi' : Fr (Own ρ1 as) H1 H' := fi.trans gi (.of_same sm)
        have gi' : Go H1 ρ1 as ρ2 asi := Go.trans fi' (Go.trans fi gi .refl) g2
        have all : ∀ {H2 : Hp} {ρ3 : Rho} {as3 : Nat → Addr}, Fr (Own ρ2 asi) H' H2 → Go H' ρ2 asi ρ3 as3 → Fr (Own ρ1 as) H1 H2 ∧ Go H1 ρ1 as ρ3 as3 := fun {H2 ρ3 as3} f3 g3 => ⟨fi'.trans gi' f3, Go.trans fi' gi' g3⟩
        split at ei
        · rename_i ρ3 e3
          exact runB Ex σ2 H' ρ2 asi (.nx ρ3) _ k2 e3 fun σ3 H3 as3 k3 f3 g3 => ⟨ρ3, as3, k3, (all f3 g3).1, (all f3 g3).2, ei⟩
        · rename_i ρ3 e3
          exact runB Ex σ2 H' ρ2 asi (.ct ρ3) _ k2 e3 fun σ3 H3 as3 k3 f3 g3 => ⟨ρ3, as3, k3, (all f3 g3).1, (all f3 g3).2, ei⟩
        · rename_i ρ3 e3
          cases ei
          exact runB Ex σ2 H' ρ2 asi (.bk ρ3) _ k2 e3 fun σ3 H3 as3 k3 f3 g3 => q σ3 H3 as3 k3 (f1.trans g1 (all f3 g3).1) (Go.trans f1 g1 (all f3 g3).2)
        · rename_i d3 ρ3 e3
          cases ei
          exact runB Ex σ2 H' ρ2 asi (.rt d3 ρ3) _ k2 e3 fun v σ3 H3 as3 k3 f3 g3 r3 => q v σ3 H3 as3 k3 (f1.trans g1 (all f3 g3).1) (Go.trans f1 g1 (all f3 g3).2) (RR.step f1 g1 (RR.step fi' gi' r3))
        · cases ei
    · rintro σ' H' ⟨ρi, asi, ki, fi, gi, ei⟩
      rw [List.drop_length] at ei
      unfold forL at ei
      cases ei
      exact q σ' H' asi ki (f1.trans g1 fi) (Go.trans f1 g1 gi)
  · cases e
end
/-! ### while -/
def whileL (c : C Bool) (g : S) : Nat → S
  | 0, _ => none
  | n + 1, ρ => match c ρ with
    | some (true, ρ1) => (match g ρ1 with
      | some (.nx ρ2) => whileL c g n ρ2
      | some (.ct ρ2) => whileL c g n ρ2
      | some (.bk ρ2) => some (.nx ρ2)
      | some (.rt d ρ2) => some (.rt d ρ2)
      | none => none)
    | some (false, ρ1) => some (.nx ρ1)
    | none => none
def sWhile (c : C Bool) (g : S) : S := whileL c g (2 ^ 40)
section
variable {X : Cx} {ow : Bool} {c : Expr} {body : List Stmt} {fc : C Bool} {g : S} {pos : Pos}
theorem ds_while (hc : DT X c fc) (hb : DSs X ow body g) (hp : ∀ t u, PT X c t → PSs X body u → PS X (.While c body [] pos) (tWhile t u)) : DS X ow (.While c body [] pos) (sWhile fc g) := by
  obtain ⟨t, hc, runC⟩ := hc.ex
  obtain ⟨u, hb, runB⟩ := hb.ex
  refine ⟨_, hp _ _ hc hb, fun Ex σ H ρ as o D k e q => ?_⟩
  unfold sWhile at e
  generalize 2 ^ 40 = n0 at e
  refine ⟨fun m σ' H' => ∃ ρi asi, Ok X.K Ex σ' H' ρi asi ∧ Fr (Own ρ as) H H' ∧ Go H ρ as ρi asi ∧ whileL fc g m ρi = some o, ⟨n0, ρ, as, k, .refl, .refl, e⟩, ?_⟩
  rintro m σ' H' ⟨ρi, asi, ki, fi, gi, ei⟩
  cases m with
  | zero => unfold whileL at ei; cases ei
  | succ m =>
    unfold whileL at ei
    split at ei
    · rename_i ρ1 e1
      refine runC Ex σ' H' ρi asi _ _ _ ki e1 fun H1 k1 f1 g1 => iteT ?_
      refine ⟨fun σ2 H2 => ∃ ρj asj, Ok X.K Ex σ2 H2 ρj asj ∧ Fr (Own ρ as) H H2 ∧ Go H ρ as ρj asj ∧ whileL fc g m ρj = some o, fun σ2 H2 h => ⟨m, Nat.lt_succ_self m, h⟩, ?_⟩
      have fi' := fi.trans gi f1
      have gi' := Go.trans fi gi g1
      split at ei
      · rename_i ρ3 e3
        exact runB Ex σ' H1 ρ1 asi (.nx ρ3) _ k1 e3 fun σ3 H3 as3 k3 f3 g3 => ⟨ρ3, as3, k3, fi'.trans gi' f3, Go.trans fi' gi' g3, ei⟩
      · rename_i ρ3 e3
        exact runB Ex σ' H1 ρ1 asi (.ct ρ3) _ k1 e3 fun σ3 H3 as3 k3 f3 g3 => ⟨ρ3, as3, k3, fi'.trans gi' f3, Go.trans fi' gi' g3, ei⟩
      · rename_i ρ3 e3
        cases ei
        exact runB Ex σ' H1 ρ1 asi (.bk ρ3) _ k1 e3 fun σ3 H3 as3 k3 f3 g3 => q σ3 H3 as3 k3 (fi'.trans gi' f3) (Go.trans fi' gi' g3)
      · rename_i d3 ρ3 e3
        cases ei
        exact runB Ex σ' H1 ρ1 asi (.rt d3 ρ3) _ k1 e3 fun v σ3 H3 as3 k3 f3 g3 r3 => q v σ3 H3 as3 k3 (fi'.trans gi' f3) (Go.trans fi' gi' g3) (RR.step fi' gi' r3)
      · cases ei
    · rename_i ρ1 e1
      cases ei
      exact runC Ex σ' H' ρi asi _ _ _ ki e1 fun H1 k1 f1 g1 => iteF (q σ' H1 asi k1 (fi.trans gi f1) (Go.trans fi gi g1))
    · cases ei
end
end PD

namespace PD
open PySem L2
section
variable {X : Cx} {tg e : Expr} {es : List Expr} {fs : C (List D)}
theorem di_range3 (h : DA X es fs) (hp : ∀ t, PA X es t → PI X tg e (iRng3 t)) : DI X tg e (iRange3 fs) := by
  obtain ⟨t, h, run⟩ := h.ex
  refine ⟨_, hp t h, fun Ex σ H ρ as ds ρ' R k e q => ?_⟩
  unfold iRange3 at e
  split at e
  · rename_i i j c ρ1 e1
    split at e
    · rename_i hb
      cases e
      simp only [big62, Bool.and_eq_true, decide_eq_true_eq, beq_iff_eq] at hb
      obtain ⟨⟨hb1, hb2⟩, hc⟩ := hb
      subst hc
      refine run Ex σ H ρ as _ _ _ k e1 fun vs H' k' f' g' r => ?_
      obtain ⟨v, r', ev, rv, r2⟩ := repL_cons.mp r
      obtain ⟨w, u, ev2, rw', ru⟩ := repL_two r2
      rw [rep_int.mp rw', rep_int.mp ru] at ev2
      rw [rep_int.mp rv, ev2] at ev
      refine ⟨i, j, -1, (i - j).toNat, ev, RgC.neg hb1.1 hb1.2 hb2.1 hb2.2, q _ H' _ _ k' f' g' (by rw [show (downD i (i - j).toNat).length = (i - j).toNat by simp [downD]]; exact walk_rangeC) (fun _ _ _ => trivial) fun l H2 x H3 M2 hi kp tk y => ?_⟩
      obtain ⟨e4, e5⟩ := y
      subst e4 e5
      exact ⟨fun _ _ h => h, _, downD_get (by simpa [downD] using hi), rep_int.mpr rfl⟩
    · cases e
  · cases e
end

/-! ### list comprehensions -/
def wipeR (vs : List Nat) (ρ : Rho) : Rho := ρ.mapIdx fun i s => if i ∈ vs then .emp else s
def backR (vs : List Nat) (ρ0 ρ : Rho) : Rho := ρ.mapIdx fun i s => if i ∈ vs then ρ0.getD i .emp else s
def lcL (vs : List Nat) (b : D → Rho → Option Rho) (tt : C Bool) (f : C D) : List D → Rho → Option (List D × Rho)
  | [], ρ => some ([], ρ)
  | d :: ds, ρ => match b d ρ with
    | none => none
    | some ρ1 => match tt ρ1 with
      | some (true, ρ2) => (match f ρ2 with
        | some (y, ρ3) => (match lcL vs b tt f ds (wipeR vs ρ3) with | some (ys, ρ4) => some (y :: ys, ρ4) | none => none)
        | none => none)
      | some (false, ρ2) => lcL vs b tt f ds (wipeR vs ρ2)
      | none => none
def datSlot (ρ : Rho) (i : Nat) : Bool := match ρ[i]? with | some .emp => true | some (.dat _) => true | _ => false
def oComp (vs : List Nat) (it : C (List D)) (b : D → Rho → Option Rho) (tt : C Bool) (f : C D) : C (List D) := fun ρ => match it ρ with
  | some (ds, ρ1) => if vs.all (datSlot ρ1) && decide (ds.length ≤ lim) then (match lcL vs b tt f ds (wipeR vs ρ1) with | some (ys, ρ2) => some (ys, backR vs ρ1 ρ2) | none => none) else none
  | none => none
def cYes : C Bool := fun ρ => some (true, ρ)
structure DTs (X : Cx) (es : List Expr) (f : C Bool) : Prop where
  ex : ∃ t, PTs X es t ∧ ∀ (Ex : Addr → Prop) (σ : St) (H : Hp) (ρ : Rho) (as : Nat → Addr) (b : Bool) (ρ' : Rho) (Q : Bool → Hp → Prop), Ok X.K Ex σ H ρ as → f ρ = some (b, ρ') →
    (∀ H', Ok X.K Ex σ H' ρ' as → Fr (Own ρ as) H H' → Go H ρ as ρ' as → Q b H') → t σ H Q
theorem dts_nil {X : Cx} : DTs X [] cYes := ⟨_, pts_nil, fun Ex σ H ρ as b ρ' Q k e q => by cases e; exact q H k .refl .refl⟩
theorem dts_one {X : Cx} {e : Expr} {f : C Bool} (h : DT X e f) : DTs X [e] f := by
  obtain ⟨t, h, run⟩ := h.ex
  exact ⟨_, pts_one h, run⟩
theorem wipe_get : ∀ {vs : List Nat} {σ : St} {i : Nat}, i ∉ vs → (wipe σ vs)[i]? = σ[i]? := fun {vs σ i} h => wipe_out h
theorem wipe_eq {vs : List Nat} {σ σ' : St} (hl : σ'.length = σ.length) (h : ∀ j, j ∉ vs → σ'[j]? = σ[j]?) : wipe σ' vs = wipe σ vs := by
  have gen : ∀ (vs : List Nat) (σ : St) (j : Nat), j ∈ vs → j < σ.length → (wipe σ vs)[j]? = some none := by
    intro vs
    induction vs with
    | nil => intro σ j h; cases h
    | cons v vs ih =>
      intro σ j hj hlt
      have unf : wipe σ (v :: vs) = (wipe σ vs).set v none ∨ wipe σ (v :: vs) = wipe (σ.set v none) vs := by
        first | exact .inl rfl | exact .inr rfl
      rcases unf with e | e
      · rw [e]
        by_cases hv : v = j
        · subst hv
          rw [List.getElem?_set_self (by rw [wipe_length]; exact hlt)]
        · rw [List.getElem?_set_ne hv]
          rcases List.mem_cons.mp hj with z | z
          · exact absurd z.symm hv
          · exact ih σ j z hlt
      · rw [e]
        by_cases hm : j ∈ vs
        · exact ih _ j hm (by rw [List.length_set]; exact hlt)
        · rw [wipe_get hm]
          rcases List.mem_cons.mp hj with z | z
          · subst z; rw [List.getElem?_set_self hlt]
          · exact absurd z hm
  apply List.ext_getElem?
  intro j
  by_cases hm : j ∈ vs
  · by_cases hlt : j < σ.length
    · rw [gen vs σ' j hm (by rw [hl]; exact hlt), gen vs σ j hm hlt]
    · rw [List.getElem?_eq_none_iff.mpr (by rw [wipe_length, hl]; omega), List.getElem?_eq_none_iff.mpr (by rw [wipe_length]; omega)]
  · rw [wipe_get hm, wipe_get hm, h j hm]
theorem wipeR_get {vs : List Nat} {ρ : Rho} {i : Nat} : (wipeR vs ρ)[i]? = (ρ[i]?).map fun s => if i ∈ vs then .emp else s := by
  unfold wipeR; rw [List.getElem?_mapIdx]
theorem backR_get {vs : List Nat} {ρ0 ρ : Rho} {i : Nat} : (backR vs ρ0 ρ)[i]? = (ρ[i]?).map fun s => if i ∈ vs then ρ0.getD i .emp else s := by
  unfold backR; rw [List.getElem?_mapIdx]
theorem isOwn_wipe {vs : List Nat} {ρ : Rho} {i : Nat} {ds : Cn} (h : IsOwn (wipeR vs ρ) i ds) : i ∉ vs ∧ IsOwn ρ i ds := by
  have g := wipeR_get (vs := vs) (ρ := ρ) (i := i)
  cases e : ρ[i]? with
  | none => rw [e] at g; exact absurd h (not_own (.inl rfl) g)
  | some s =>
    rw [e] at g
    by_cases hm : i ∈ vs
    · rw [Option.map_some, if_pos hm] at g
      exact absurd h (not_own (.inr (.inl rfl)) g)
    · rw [Option.map_some, if_neg hm] at g
      exact ⟨hm, (isOwn_cong (g.trans e.symm)).mp h⟩
theorem Own.wipe {vs : List Nat} {ρ : Rho} {as : Nat → Addr} {a : Addr} (h : Own (wipeR vs ρ) as a) : Own ρ as a := by
  obtain ⟨i, ds, h, e⟩ := h
  exact ⟨i, ds, (isOwn_wipe h).2, e⟩
theorem Ok.wipe {K : PySem.W.Frag} {Ex : Addr → Prop} {σ : St} {H : Hp} {ρ : Rho} {as : Nat → Addr} (vs : List Nat) (k : Ok K Ex σ H ρ as) : Ok K Ex (L2.wipe σ vs) H (wipeR vs ρ) as := by
  have sub : Keep (MM Ex ρ as) (MM Ex (wipeR vs ρ) as) H H := Keep.sub fun a z => z.elim .inl fun z => .inr (Own.wipe z)
  refine ⟨by rw [wipe_length]; unfold wipeR; rw [List.length_mapIdx]; exact k.len, k.exs, fun i d h => ?_, fun i ds h => ?_, fun i j ds es h1 h2 e => k.inj i j ds es (isOwn_wipe h1).2 (isOwn_wipe h2).2 e⟩
  · rw [wipeR_get] at h
    cases e : ρ[i]? with
    | none => rw [e] at h; simp at h
    | some s =>
      rw [e] at h
      by_cases hm : i ∈ vs
      · simp [hm] at h
      · simp only [Option.map_some, hm, if_false] at h
        obtain ⟨v, e1, r⟩ := k.dat i d (by rw [e, h])
        exact ⟨v, by rw [wipe_get hm]; exact e1, r.keep sub⟩
  · obtain ⟨hm, h⟩ := isOwn_wipe h
    obtain ⟨e1, n, r⟩ := k.own i ds h
    exact ⟨by rw [wipe_get hm]; exact e1, n, r.keep sub fun _ z => z⟩
theorem all_dat {vs : List Nat} {ρ : Rho} (h : vs.all (datSlot ρ) = true) {i : Nat} (hi : i ∈ vs) : ∀ ds, ¬ IsOwn ρ i ds := fun ds z => by
  have := List.all_eq_true.mp h i hi
  unfold datSlot at this
  rcases isOwn_not z with ⟨_, z⟩ | ⟨_, z⟩ | ⟨_, _, z⟩ <;> (rw [z] at this; cases this)
theorem Go.wipe {H : Hp} {ρ ρ5 : Rho} {as : Nat → Addr} {vs : List Nat} (h : vs.all (datSlot ρ) = true) (g : Go H ρ as ρ5 as) : Go H ρ as (wipeR vs ρ5) as where
  own := fun a z => g.own a (Own.wipe z)
  ino := fun i ds z => by
    have hm : i ∉ vs := fun hm => all_dat h hm (.L ds) (.inr z)
    obtain ⟨⟨ds', z'⟩, _⟩ := g.ino i ds z
    exact ⟨⟨ds', by rw [wipeR_get, z']; simp [hm]⟩, rfl⟩
  ini := fun i ds z => by
    obtain ⟨hm, h2⟩ := isOwn_wipe (ds := .L ds) (.inr z)
    rw [wipeR_get] at z
    cases e : ρ5[i]? with
    | none => rw [e] at z; simp at z
    | some s =>
      rw [e] at z
      simp only [Option.map_some, hm, if_false] at z
      exact g.ini i ds (by rw [e, z])
theorem isOwn_back {vs : List Nat} {ρ0 ρ : Rho} {i : Nat} {ds : Cn} (h0 : vs.all (datSlot ρ0) = true) (h : IsOwn (backR vs ρ0 ρ) i ds) : i ∉ vs ∧ IsOwn ρ i ds := by
  have g := backR_get (vs := vs) (ρ0 := ρ0) (ρ := ρ) (i := i)
  cases e : ρ[i]? with
  | none => rw [e] at g; exact absurd h (not_own (.inl rfl) g)
  | some s =>
    rw [e] at g
    by_cases hm : i ∈ vs
    · exfalso
      have := List.all_eq_true.mp h0 i hm
      rw [Option.map_some, if_pos hm, List.getD_eq_getElem?_getD] at g
      unfold datSlot at this
      cases e0 : ρ0[i]? with
      | none => rw [e0] at this; cases this
      | some s0 =>
        rw [e0] at this g
        rw [Option.getD_some] at g
        rcases isOwn_not h with ⟨_, z⟩ | ⟨_, z⟩ | ⟨_, _, z⟩ <;> (rw [g] at z; cases z; cases this)
    · rw [Option.map_some, if_neg hm] at g
      exact ⟨hm, (isOwn_cong (g.trans e.symm)).mp h⟩
theorem Own.back {vs : List Nat} {ρ0 ρ : Rho} {as : Nat → Addr} {a : Addr} (h0 : vs.all (datSlot ρ0) = true) (h : Own (backR vs ρ0 ρ) as a) : Own ρ as a := by
  obtain ⟨i, ds, h, e⟩ := h
  exact ⟨i, ds, (isOwn_back h0 h).2, e⟩
theorem Go.back {H : Hp} {ρ ρ2 : Rho} {as : Nat → Addr} {vs : List Nat} (h : vs.all (datSlot ρ) = true) (g : Go H ρ as ρ2 as) : Go H ρ as (backR vs ρ ρ2) as where
  own := fun a z => g.own a (Own.back h z)
  ino := fun i ds z => by
    have hm : i ∉ vs := fun hm => all_dat h hm (.L ds) (.inr z)
    obtain ⟨⟨ds', z'⟩, _⟩ := g.ino i ds z
    exact ⟨⟨ds', by rw [backR_get, z']; simp [hm]⟩, rfl⟩
  ini := fun i ds z => by
    obtain ⟨hm, h2⟩ := isOwn_back (ds := .L ds) h (.inr z)
    rw [backR_get] at z
    cases e : ρ2[i]? with
    | none => rw [e] at z; simp at z
    | some s =>
      rw [e] at z
      simp only [Option.map_some, hm, if_false] at z
      exact g.ini i ds (by rw [e, z])
section
variable {X : Cx} {tg iter elt : Expr} {ifs : List Expr} {scope : Scope} {own : List (Str × Nat)} {fi : C (List D)} {is : List Nat} {b : D → Rho → Option Rho} {tt : C Bool} {f : C D}
/-- what an expression, a test, a target, a walk mean -/
abbrev SemE (K : PySem.W.Frag) (f : C D) (t : TE) : Prop := ∀ (Ex : Addr → Prop) (σ : St) (H : Hp) (ρ : Rho) (as : Nat → Addr) (d : D) (ρ' : Rho) (Q : VK), Ok K Ex σ H ρ as → f ρ = some (d, ρ') →
    (∀ v H', Ok K Ex σ H' ρ' as → Fr (Own ρ as) H H' → Go H ρ as ρ' as → Rep K (MM Ex ρ' as) H' d v → Q v H') → t σ H Q
abbrev SemT (K : PySem.W.Frag) (f : C Bool) (t : TT) : Prop := ∀ (Ex : Addr → Prop) (σ : St) (H : Hp) (ρ : Rho) (as : Nat → Addr) (b : Bool) (ρ' : Rho) (Q : Bool → Hp → Prop), Ok K Ex σ H ρ as → f ρ = some (b, ρ') →
    (∀ H', Ok K Ex σ H' ρ' as → Fr (Own ρ as) H H' → Go H ρ as ρ' as → Q b H') → t σ H Q
abbrev SemG (K : PySem.W.Frag) (is : List Nat) (b : D → Rho → Option Rho) (t : TG) : Prop := ∀ (Ex : Addr → Prop) (σ : St) (H : Hp) (ρ : Rho) (as : Nat → Addr) (d : D) (v : V) (ρ' : Rho) (Q : St → Hp → Prop), Ok K Ex σ H ρ as → Rep K (MM Ex ρ as) H d v → b d ρ = some ρ' →
    (∀ σ', Ok K Ex σ' H ρ' as → Go H ρ as ρ' as → Only' is σ σ' → Q σ' H) → t v σ H Q
abbrev SemI (K : PySem.W.Frag) (f : C (List D)) (wi : TI) : Prop := ∀ (Ex : Addr → Prop) (σ : St) (H : Hp) (ρ : Rho) (as : Nat → Addr) (ds : List D) (ρ' : Rho) (R : It → Hp → Prop), Ok K Ex σ H ρ as → f ρ = some (ds, ρ') →
    (∀ J H' G Y, Ok K Ex σ H' ρ' as → Fr (Own ρ as) H H' → Go H ρ as ρ' as → Walk J ds.length G Y → (∀ H2 M2, Keep (MM Ex ρ' as) M2 H' H2 → G H2) →
      (∀ i H2 x H3 M2, i < ds.length → Keep (MM Ex ρ' as) M2 H' H2 → Trk M2 H2 → Y i H2 x H3 → Same H2 H3 ∧ ∃ d, ds[i]? = some d ∧ Rep K M2 H3 d x) → R J H') → wi σ H R
abbrev SemO (K : PySem.W.Frag) (f : C (List D)) (t : TE) : Prop := ∀ (Ex : Addr → Prop) (σ : St) (H : Hp) (ρ : Rho) (as : Nat → Addr) (ds : List D) (ρ' : Rho) (Q : VK), Ok K Ex σ H ρ as → f ρ = some (ds, ρ') →
    (∀ a vs H', Ok K (fun b => Ex b ∨ b = a) σ H' ρ' as → Fr (Own ρ as) H H' → Go H ρ as ρ' as → H a = none → H' a = some (.lst vs) → vs.length ≤ sizeLine → RepL K (MM (fun b => Ex b ∨ b = a) ρ' as) H' ds vs → Q (.ref a) H') → t σ H Q
/-- the meaning of a comprehension's reading, whatever it stands in -/
theorem lc_sem {K : PySem.W.Frag} {wi : TI} {t : TG} {tc : TT} {te : TE} {vs : List Nat} (runI : SemI K fi wi) (hsub : ∀ i ∈ is, i ∈ vs) (runG : SemG K is b t) (runT : SemT K tt tc) (runE : SemE K f te) : SemO K (oComp vs fi b tt f) (tLc wi t tc te vs) := by
  intro Ex σ H ρ as ds ρ' Q k e q
  unfold oComp at e
  split at e
  · rename_i xs ρ1 e1
    split at e
    · rename_i hc
      simp only [Bool.and_eq_true, decide_eq_true_eq] at hc
      obtain ⟨hdat, hlen⟩ := hc
      split at e
      · rename_i ys ρ2 e2
        cases e
        refine runI Ex σ H ρ as xs ρ1 _ k e1 fun J H1 G Y k1 f1 g1 W stab item => ?_
        intro Dl hD
        obtain ⟨k1', _⟩ := k1.newL (p := Dl) (vs := []) (ds := []) hD RepL.nil
        have sD : Same H1 (upd H1 Dl (.lst [])) := same_upd hD
        have kw := k1'.wipe vs
        have gw : Go H1 ρ1 as (wipeR vs ρ1) as := Go.wipe hdat .refl
        refine lc_it W (fun i H' => ∃ ρi acc us, Ok K (fun b => Ex b ∨ b = Dl) (wipe σ vs) H' ρi as ∧ Fr (Own ρ1 as) H1 H' ∧ Go H1 ρ1 as ρi as ∧ H' Dl = some (.lst us) ∧ RepL K (MM (fun b => Ex b ∨ b = Dl) ρi as) H' acc us ∧
          acc.length ≤ i ∧ ∃ rest, lcL vs b tt f (xs.drop i) ρi = some (rest, ρ2) ∧ acc ++ rest = ds)
          ⟨wipeR vs ρ1, [], [], kw, .of_same sD, gw, upd_same, RepL.nil, Nat.zero_le _, ds, by simpa using e2, rfl⟩ (fun i H' _ ⟨ρi, acc, us, ki, fi', gi, _⟩ => stab H' _ (Keep.of fi' gi)) ?_ ?_
        · rintro i x Hc H' hi ⟨ρi, acc, us, ki, fi', gi, hDl, racc, hacc, rest, erest, eapp⟩ y
          obtain ⟨sm, d, hd, rd⟩ := item i Hc x H' _ hi (Keep.of2 fi' gi hD) (fun a => ki.trk) y
          rw [drop_cons hd] at erest
          unfold lcL at erest
          split at erest
          · cases erest
          · rename_i ρ3 e3
            refine runG _ (wipe σ vs) H' ρi as d x ρ3 _ (ki.same sm) rd e3 fun σ3 k3 g3 o3 => ?_
            have hw : wipe σ3 vs = wipe σ vs := by
              have := wipe_eq (vs := vs) o3.1 fun j hj => o3.2 j fun z => hj (hsub j z)
              rw [this]
              exact wipe_eq (by rw [wipe_length]) fun j hj => wipe_get hj
            refine ⟨hw, ?_⟩
            have fi2 : Fr (Own ρ1 as) H1 H' := fi'.trans gi (.of_same sm)
            have gi2 : Go H1 ρ1 as ρ3 as := Go.trans fi2 (Go.trans fi' gi .refl) g3
            have nD : ∀ {ρx : Rho} {Hx : Hp} {σx : St}, Ok K (fun b => Ex b ∨ b = Dl) σx Hx ρx as → ¬ Own ρx as Dl := fun kx ⟨j, es, h1, h2⟩ => (kx.own j es h1).2.1 (.inr h2)
            split at erest
            · rename_i ρ4 e4
              refine runT _ σ3 H' ρ3 as _ _ _ k3 e4 fun H4 k4 f4 g4 => iteT ?_
              split at erest
              · rename_i yd ρ5 e5
                split at erest
                · rename_i yr ρ6 e6
                  cases erest
                  refine runE _ σ3 H4 ρ4 as _ _ _ k4 e5 fun w H5 k5 f5 g5 rw' => ?_
                  -- the list at D is as it was
                  have hD4 : H4 Dl = some (.lst us) := (f4 Dl _ (sm _ _ hDl)).1 (nD k3)
                  have hD5 : H5 Dl = some (.lst us) := (f5 Dl _ hD4).1 (nD k4)
                  have racc5 := ((racc.keep (Keep.same sm)).keep (Keep.of (Ex := fun b => Ex b ∨ b = Dl) .refl g3)).keep (Keep.of (Ex := fun b => Ex b ∨ b = Dl) f4 g4) |>.keep (Keep.of (Ex := fun b => Ex b ∨ b = Dl) f5 g5)
                  have hus : us.length = acc.length := racc.length
                  have hz : us.length < lim := by rw [hus]; omega
                  refine ⟨us, hD5, Nat.lt_of_lt_of_le hz lim_line, ?_⟩
                  -- one item more
                  have kpD : Keep (MM (fun b => Ex b ∨ b = Dl) ρ5 as) (MM (fun b => Ex b ∨ b = Dl) ρ5 as) H5 (upd H5 Dl (.lst (us ++ [w]))) := fun c o hc hm => by
                    have ne : c ≠ Dl := fun z => hm (.inl (.inr z))
                    exact ⟨by rw [upd_ne ne]; exact hc, hm⟩
                  have k5' : Ok K (fun b => Ex b ∨ b = Dl) σ3 (upd H5 Dl (.lst (us ++ [w]))) ρ5 as := by
                    refine ⟨k5.len, fun c hc => ?_, fun j dj hj => ?_, fun j es hj => ?_, k5.inj⟩
                    · by_cases ne : c = Dl
                      · subst ne; exact ⟨_, upd_same⟩
                      · obtain ⟨o, ho⟩ := k5.exs c hc
                        exact ⟨o, by rw [upd_ne ne]; exact ho⟩
                    · obtain ⟨v, h1, r1⟩ := k5.dat j dj hj
                      exact ⟨v, h1, r1.keep kpD⟩
                    · obtain ⟨h1, n1, r1⟩ := k5.own j es hj
                      exact ⟨h1, n1, r1.keep kpD fun o h2 => by rw [upd_ne fun z => n1 (.inr z)]; exact h2⟩
                  have f15 : Fr (Own ρ1 as) H1 H5 := (fi2.trans gi2 f4).trans (Go.trans fi2 gi2 g4) f5
                  have g15 : Go H1 ρ1 as ρ5 as := Go.trans (fi2.trans gi2 f4) (Go.trans fi2 gi2 g4) g5
                  have fD : Fr (Own ρ1 as) H1 (upd H5 Dl (.lst (us ++ [w]))) := fun c o hc => by
                    have ne : c ≠ Dl := ne_of_none hc hD
                    rw [upd_ne ne]
                    exact f15 c o hc
                  have sub : ∀ {H' : Hp}, Keep (MM (fun b => Ex b ∨ b = Dl) ρ5 as) (MM (fun b => Ex b ∨ b = Dl) (wipeR vs ρ5) as) H' H' := Keep.sub fun b z => z.elim .inl fun z => .inr (Own.wipe z)
                  have k6 := k5'.wipe vs
                  rw [hw] at k6
                  exact ⟨wipeR vs ρ5, acc ++ [yd], us ++ [w], k6, fD, Go.wipe hdat g15, upd_same, ((racc5.keep kpD).app (RepL.cons (rw'.keep kpD) RepL.nil)).keep sub, by rw [List.length_append]; simp; exact hacc, yr, e6, by rw [← eapp]; simp⟩
                · cases erest
              · cases erest
            · rename_i ρ4 e4
              refine runT _ σ3 H' ρ3 as _ _ _ k3 e4 fun H4 k4 f4 g4 => iteF ?_
              have hD4 : H4 Dl = some (.lst us) := (f4 Dl _ (sm _ _ hDl)).1 (nD k3)
              have racc4 := ((racc.keep (Keep.same sm)).keep (Keep.of (Ex := fun b => Ex b ∨ b = Dl) .refl g3)).keep (Keep.of (Ex := fun b => Ex b ∨ b = Dl) f4 g4)
              have sub : ∀ {H' : Hp}, Keep (MM (fun b => Ex b ∨ b = Dl) ρ4 as) (MM (fun b => Ex b ∨ b = Dl) (wipeR vs ρ4) as) H' H' := Keep.sub fun b z => z.elim .inl fun z => .inr (Own.wipe z)
              have k6 := k4.wipe vs
              rw [hw] at k6
              exact ⟨wipeR vs ρ4, acc, us, k6, fi2.trans gi2 f4, Go.wipe hdat (Go.trans fi2 gi2 g4), hD4, racc4.keep sub, by omega, rest, erest, eapp⟩
            · cases erest
        · rintro H' ⟨ρi, acc, us, ki, fi', gi, hDl, racc, hacc, rest, erest, eapp⟩
          rw [List.drop_length] at erest
          unfold lcL at erest
          cases erest
          rw [List.append_nil] at eapp
          subst eapp
          have gb : Go H1 ρ1 as (backR vs ρ1 ρ2) as := Go.back hdat gi
          have kp1 : Keep (MM Ex ρ1 as) (MM (fun b => Ex b ∨ b = Dl) (backR vs ρ1 ρ2) as) H1 H' := Keep.of2 fi' gb hD
          have sub : Keep (MM (fun b => Ex b ∨ b = Dl) ρ2 as) (MM (fun b => Ex b ∨ b = Dl) (backR vs ρ1 ρ2) as) H' H' := Keep.sub fun b z => z.elim .inl fun z => .inr (Own.back hdat z)
          refine q Dl us H' ⟨?_, ki.exs, fun i d hi => ?_, fun i es hi => ?_, fun i j es fs h1 h2 e => ki.inj i j es fs (isOwn_back hdat h1).2 (isOwn_back hdat h2).2 e⟩ (f1.trans g1 fi') (Go.trans f1 g1 gb) (f1.free hD) hDl (by
            rw [racc.length]
            exact Nat.le_trans hacc (Nat.le_trans hlen lim_line)) (racc.keep sub)
          · have := ki.len
            rw [wipe_length] at this
            unfold backR
            rw [List.length_mapIdx]
            exact this
          · rw [backR_get] at hi
            cases e2 : ρ2[i]? with
            | none => rw [e2] at hi; simp at hi
            | some s =>
              rw [e2] at hi
              by_cases hm : i ∈ vs
              · simp only [Option.map_some, hm, if_true, List.getD_eq_getElem?_getD, Option.some.injEq] at hi
                cases e0 : ρ1[i]? with
                | none => rw [e0] at hi; cases hi
                | some s0 =>
                  rw [e0] at hi
                  simp only [Option.getD_some] at hi
                  obtain ⟨v, h1, r1⟩ := k1.dat i d (by rw [e0, hi])
                  exact ⟨v, h1, r1.keep kp1⟩
              · simp only [Option.map_some, hm, if_false] at hi
                obtain ⟨v, h1, r1⟩ := ki.dat i d (by rw [e2, hi])
                rw [wipe_get hm] at h1
                exact ⟨v, h1, r1.keep sub⟩
          · obtain ⟨hm, hi⟩ := isOwn_back hdat hi
            obtain ⟨h1, n1, r1⟩ := ki.own i es hi
            rw [wipe_get hm] at h1
            exact ⟨h1, n1, r1.keep sub fun _ z => z⟩
      · cases e
    · cases e
  · cases e
end
/-! a comprehension: its parts in the block's own context, whichever it is -/
structure DB (X : Cx) (scope : Scope) (tg : Expr) (ifs : List Expr) (elt : Expr) (is : List Nat) (b : D → Rho → Option Rho) (tt : C Bool) (f : C D) : Prop where
  ex : ∃ (t : TG) (tc : TT) (te : TE),
    (∀ (s : Shared) (H : Hp) (C : Addr) (cl : List (Str × Addr)) (fp : List Addr), PG (X.blk s H scope (compEnvC scope cl C X.env) fp) tg t) ∧
    (∀ (s : Shared) (H : Hp) (C : Addr) (cl : List (Str × Addr)) (fp : List Addr), PTs (X.blk s H scope (compEnvC scope cl C X.env) fp) ifs tc) ∧
    (∀ (s : Shared) (H : Hp) (C : Addr) (cl : List (Str × Addr)) (fp : List Addr), PE (X.blk s H scope (compEnvC scope cl C X.env) fp) elt te) ∧
    SemG X.K is b t ∧ SemT X.K tt tc ∧ SemE X.K f te
end PD

namespace PD
open PySem L2
/-! ### readings by meaning -/
def cE (K : PySem.W.Frag) (f : C D) : TE := fun σ H Q => ∃ (Ex : Addr → Prop) (ρ : Rho) (as : Nat → Addr) (d : D) (ρ' : Rho), Ok K Ex σ H ρ as ∧ f ρ = some (d, ρ') ∧ ∀ v H', Ok K Ex σ H' ρ' as → Fr (Own ρ as) H H' → Go H ρ as ρ' as → Rep K (MM Ex ρ' as) H' d v → Q v H'
def cTt (K : PySem.W.Frag) (f : C Bool) : TT := fun σ H Q => ∃ (Ex : Addr → Prop) (ρ : Rho) (as : Nat → Addr) (d : Bool) (ρ' : Rho), Ok K Ex σ H ρ as ∧ f ρ = some (d, ρ') ∧ ∀ H', Ok K Ex σ H' ρ' as → Fr (Own ρ as) H H' → Go H ρ as ρ' as → Q d H'
def cG (K : PySem.W.Frag) (is : List Nat) (b : D → Rho → Option Rho) : TG := fun v σ H Q => ∃ (Ex : Addr → Prop) (ρ : Rho) (as : Nat → Addr) (d : D) (ρ' : Rho), Ok K Ex σ H ρ as ∧ Rep K (MM Ex ρ as) H d v ∧ b d ρ = some ρ' ∧ ∀ σ', Ok K Ex σ' H ρ' as → Go H ρ as ρ' as → Only' is σ σ' → Q σ' H
section
variable {X : Cx} {e : Expr} {es : List Expr}
theorem pe_c {f : C D} (h : DE X e f) : PE X e (cE X.K f) := by
  obtain ⟨t, h, run⟩ := h.ex
  exact ⟨fun pins s σ H Q I ⟨Ex, ρ, as, d, ρ', k, e1, q⟩ => h.run pins s σ H Q I (run Ex σ H ρ as d ρ' Q k e1 q)⟩
theorem pts_c {f : C Bool} (h : DTs X es f) : PTs X es (cTt X.K f) := by
  obtain ⟨t, h, run⟩ := h.ex
  exact ⟨fun pins s σ H Q I ⟨Ex, ρ, as, d, ρ', k, e1, q⟩ => h.run pins s σ H Q I (run Ex σ H ρ as d ρ' Q k e1 q)⟩
theorem pg_c {is : List Nat} {b : D → Rho → Option Rho} (h : DG X e is b) : PG X e (cG X.K is b) := by
  obtain ⟨t, h, run⟩ := h.ex
  exact ⟨fun pins s σ H v u Q I r ⟨Ex, ρ, as, d, ρ', k, rd, e1, q⟩ => h.run pins s σ H v u Q I r (run Ex σ H ρ as d v ρ' Q k rd e1 q)⟩
end
theorem semE_c (K : PySem.W.Frag) (f : C D) : SemE K f (cE K f) := fun Ex σ H ρ as d ρ' Q k e q => ⟨Ex, ρ, as, d, ρ', k, e, q⟩
theorem semT_c (K : PySem.W.Frag) (f : C Bool) : SemT K f (cTt K f) := fun Ex σ H ρ as d ρ' Q k e q => ⟨Ex, ρ, as, d, ρ', k, e, q⟩
theorem semG_c (K : PySem.W.Frag) (is : List Nat) (b : D → Rho → Option Rho) : SemG K is b (cG K is b) := fun Ex σ H ρ as d v ρ' Q k r e q => ⟨Ex, ρ, as, d, ρ', k, r, e, q⟩
section
variable {X : Cx} {tg iter elt : Expr} {ifs : List Expr} {scope : Scope} {own : List (Str × Nat)} {fi : C (List D)} {is : List Nat} {b : D → Rho → Option Rho} {tt : C Bool} {f : C D} {pos : Pos}
theorem do_lc (hc : X.calm = true) (hN : X.N.Nodup) (hi : DI X tg iter fi) (ok : BlkOk X.N X.env.scope scope own)
    (hg : ∀ (s : Shared) (H : Hp) (C : Addr) (cl : List (Str × Addr)) (fp : List Addr), DG (X.blk s H scope (compEnvC scope cl C X.env) fp) tg is b)
    (ht : ∀ (s : Shared) (H : Hp) (C : Addr) (cl : List (Str × Addr)) (fp : List Addr), DTs (X.blk s H scope (compEnvC scope cl C X.env) fp) ifs tt)
    (he : ∀ (s : Shared) (H : Hp) (C : Addr) (cl : List (Str × Addr)) (fp : List Addr), DE (X.blk s H scope (compEnvC scope cl C X.env) fp) elt f)
    (hsub : ∀ i ∈ is, i ∈ own.map (·.2)) (hs : ∀ x, foldedSetIterable iter X.env x = pure x) : DO X (.ListComp elt [⟨tg, iter, ifs, 0⟩] scope pos) (oComp (own.map (·.2)) fi b tt f) := by
  obtain ⟨wi, hi, runI⟩ := hi.ex
  exact ⟨_, pe_lc hc hN hi ok (fun s H C cl fp => pg_c (hg s H C cl fp)) (fun s H C cl fp => pts_c (ht s H C cl fp)) (fun s H C cl fp => pe_c (he s H C cl fp)) hs, lc_sem runI hsub (semG_c _ _ _) (semT_c _ _) (semE_c _ _)⟩
theorem ds_setO' {ow : Bool} {st : Stmt} {i : Nat} {fe : C (List D)} {t : TE} (hp : PS X st (tAsg t (gName i))) (run : SemO X.K fe t) : DS X ow st (sSetO i fe) := by
  refine ⟨_, hp, fun Ex σ H ρ as o D k e q => ?_⟩
  unfold sSetO at e
  split at e
  · rename_i ds ρ1 e1
    split at e
    · cases e
    · rename_i sl hn hs
      cases e
      refine run Ex σ H ρ as _ _ _ k e1 fun a vs H' k' f' g' ha ha' hz r => ?_
      exact q _ H' _ (k'.set_own (new_not_ex k ha) ha' hz r (lt_of_get hs)) f' (g'.set_own' ha fun es z => by rw [hs] at z; exact hn es (Option.some.inj z))
    · cases e
  · cases e
theorem ds_setLc {ow : Bool} {i : Nat} {y : Str} {py spos : Pos} (hc : X.calm = true) (hN : X.N.Nodup) (hy : X.N[i]? = some y) (hyl : X.env.scope.names.lookup y = some .local)
    (hsw : swapsWith (.ListComp elt [⟨tg, iter, ifs, 0⟩] scope pos) (some (.Name y py)) spos.line X.env = pure true) (hi : DI X tg iter fi) (ok : BlkOk X.N X.env.scope scope own)
    (hg : ∀ (s : Shared) (H : Hp) (C : Addr) (cl : List (Str × Addr)) (fp : List Addr), DG (X.blk s H scope (compEnvC scope cl C X.env) fp) tg is b)
    (ht : ∀ (s : Shared) (H : Hp) (C : Addr) (cl : List (Str × Addr)) (fp : List Addr), DTs (X.blk s H scope (compEnvC scope cl C X.env) fp) ifs tt)
    (he : ∀ (s : Shared) (H : Hp) (C : Addr) (cl : List (Str × Addr)) (fp : List Addr), DE (X.blk s H scope (compEnvC scope cl C X.env) fp) elt f)
    (hsub : ∀ i ∈ is, i ∈ own.map (·.2)) (hs : ∀ x, foldedSetIterable iter X.env x = pure x) :
    DS X ow (.Assign [.Name y py] (.ListComp elt [⟨tg, iter, ifs, 0⟩] scope pos) spos) (sSetO i (oComp (own.map (·.2)) fi b tt f)) := by
  obtain ⟨wi, hi, runI⟩ := hi.ex
  exact ds_setO' (ps_setLc hc hN hy hyl hsw hi ok (fun s H C cl fp => pg_c (hg s H C cl fp)) (fun s H C cl fp => pts_c (ht s H C cl fp)) (fun s H C cl fp => pe_c (he s H C cl fp)) hs) (lc_sem runI hsub (semG_c _ _ _) (semT_c _ _) (semE_c _ _))
end

/-! ### defs -/
def spA (K : PySem.W.Frag) (m : List D → Option D) : Sp := fun vs H Q _ => ∃ (Ex : Addr → Prop) (ds : List D) (d : D), Trk Ex H ∧ RepL K Ex H ds vs ∧ m ds = some d ∧ ∀ v H', Same H H' → Rep K Ex H' d v → Q v H'
def spO (K : PySem.W.Frag) (m : List D → Option (List D)) : Sp := fun vs H Q _ => ∃ (Ex : Addr → Prop) (ds : List D) (d : List D), Trk Ex H ∧ RepL K Ex H ds vs ∧ m ds = some d ∧
  ∀ a us H', Same H H' → H a = none → H' a = some (.lst us) → us.length ≤ sizeLine → RepL K (fun b => Ex b ∨ b = a) H' d us → Q (.ref a) H'
def spB (K : PySem.W.Frag) (m : List D → List D → Option (D × List D)) : Sp := fun vs H Q _ => ∃ (Ex : Addr → Prop) (a : Addr) (src : List D) (us : List V) (ws : List V) (ds : List D) (d : D) (src' : List D), vs = .ref a :: ws ∧ Trk Ex H ∧ ¬ Ex a ∧ H a = some (.lst us) ∧ us.length ≤ sizeLine ∧
  RepL K (fun b => Ex b ∨ b = a) H src us ∧ RepL K (fun b => Ex b ∨ b = a) H ds ws ∧ m src ds = some (d, src') ∧
  ∀ v H' us', Fr (fun b => b = a) H H' → H' a = some (.lst us') → us'.length ≤ sizeLine → RepL K (fun b => Ex b ∨ b = a) H' src' us' → Rep K (fun b => Ex b ∨ b = a) H' d v → Q v H'
def frame (nl : Nat) (ds : List D) : Rho := ds.map Sl.dat ++ List.replicate (nl - ds.length) Sl.emp
def mA (np nl : Nat) (g : S) (ds : List D) : Option D := if ds.length = np then match g (frame nl ds) with | some (.rt d _) => some d | some (.nx _) => some .non | _ => none else none
def mO (np nl : Nat) (g : S) (ds : List D) : Option (List D) := if ds.length = np then match g (frame nl ds) with | some (.rt (.lst d) _) => some d | _ => none else none
def mB (np nl : Nat) (g : S) (src ds : List D) : Option (D × List D) := if ds.length + 1 = np then match g (.ino src :: frame (nl - 1) ds) with
  | some (.rt d ρ) => (match ρ[0]? with | some (Sl.ino src') => some (d, src') | _ => none)
  | some (.nx ρ) => (match ρ[0]? with | some (Sl.ino src') => some (.non, src') | _ => none)
  | _ => none else none
theorem frame_get {nl : Nat} {ds : List D} {i : Nat} {s : Sl} (h : (frame nl ds)[i]? = some s) : (∃ d, s = .dat d ∧ ds[i]? = some d) ∨ s = .emp := by
  unfold frame at h
  by_cases hi : i < ds.length
  · rw [List.getElem?_append_left (by simpa using hi), List.getElem?_map] at h
    cases e : ds[i]? with
    | none => rw [e] at h; cases h
    | some d => rw [e] at h; cases h; exact .inl ⟨d, rfl, rfl⟩
  · rw [List.getElem?_append_right (by simpa using hi), List.getElem?_replicate] at h
    split at h
    · cases h; exact .inr rfl
    · cases h
theorem start_get {N : List Str} {vs : List V} {i : Nat} {v : V} (h : vs[i]? = some v) : (L2.start N vs)[i]? = some (some v) := by
  unfold L2.start
  have hi : i < vs.length := (List.getElem?_eq_some_iff.mp h).1
  rw [List.getElem?_append_left (by simpa using hi), List.getElem?_map, h]
  rfl
theorem frame_own {nl : Nat} {ds : List D} {i : Nat} {es : Cn} : ¬ IsOwn (frame nl ds) i es := fun h => by
  rcases isOwn_not h with ⟨_, h⟩ | ⟨_, h⟩ | ⟨_, _, h⟩ <;> (rcases frame_get h with ⟨d, e, _⟩ | e <;> cases e)
theorem frame_ok {K : PySem.W.Frag} {Ex : Addr → Prop} {N : List Str} {vs : List V} {H : Hp} {ds : List D} (t : Trk Ex H) (r : RepL K Ex H ds vs) (hl : ds.length ≤ N.length) : Ok K Ex (L2.start N vs) H (frame N.length ds) (fun _ => 0) where
  len := by
    unfold frame L2.start
    have := r.length
    simp
    omega
  exs := t
  dat := fun i d h => by
    rcases frame_get h with ⟨d', e, h'⟩ | e
    · cases e
      obtain ⟨v, hv, rv⟩ := r.get h'
      exact ⟨v, start_get hv, rv.keep (Keep.sub fun a z => z.elim id fun ⟨j, es, z, _⟩ => absurd z frame_own)⟩
    · cases e
  own := fun i ds h => absurd h frame_own
  inj := fun i j ds es h => absurd h frame_own
section
variable {P : Program} {w : World} {K : PySem.W.Frag} {mg : Str → Option Value} {base : Heap} {x qual : Str} {st : Stmt} {f : Addr} {fd : FuncData} {N ps : List Str} {k : Nat} {g : S}
/-- a def that takes data and hands back data -/
theorem fn_A (F : Fun K x qual st f fd) (Sc : FnScope N ps (defScope st)) (hN : ps.length ≤ N.length)
    (body : ∀ (cdv : Value) (A : Around) (outer : List Env) (s : Shared) (H : Hp) (E : XK), Room k (A.deeper (PyProof.Rows.envOfC qual (defScope st) s.heap.objs.size f cdv)) → DSs (cxOf CX0 P w K mg base N qual (defScope st) f cdv A outer s H E).nox false (defBody st) g) :
    FnOk P w K mg base CX0 (k + 1) f fd ps (spA K (mA ps.length N.length g)) := by
  refine F.ok Sc (fun vs H Q E h => ?_) (fun cdv A outer s H vs Q E hr h => ?_)
  · obtain ⟨Ex, ds, d, t, r, e, q⟩ := h
    unfold mA at e
    split at e
    · rw [r.length]; assumption
    · cases e
  · obtain ⟨Ex, ds, d, t, r, e, q⟩ := h
    obtain ⟨u, hu, run⟩ := (body cdv A outer s H E hr).ex
    refine ⟨u, hu, ?_⟩
    unfold mA at e
    split at e
    · rename_i hl
      have k0 := frame_ok (N := N) t r (by omega)
      have nown : ∀ a, ¬ Own (frame N.length ds) (fun _ => 0) a := fun a ⟨i, es, z, _⟩ => frame_own z
      split at e
      · rename_i d' ρ' e1
        cases e
        refine run Ex _ H _ _ _ _ k0 e1 fun v σ' H' as' k' f' g' rr => q v H' (fun b o hb => (f' b o hb).1 (nown b)) ?_
        unfold RR at rr
        rw [if_neg Bool.false_ne_true] at rr
        exact rr.keep (Keep.sub fun a z => .inl z)
      · rename_i ρ' e1
        cases e
        refine run Ex _ H _ _ _ _ k0 e1 fun σ' H' as' k' f' g' => q .non H' (fun b o hb => (f' b o hb).1 (nown b)) (rep_non.mpr rfl)
      · cases e
    · cases e
/-- .. and hands back a new list -/
theorem fn_O (F : Fun K x qual st f fd) (Sc : FnScope N ps (defScope st)) (hN : ps.length ≤ N.length)
    (body : ∀ (cdv : Value) (A : Around) (outer : List Env) (s : Shared) (H : Hp) (E : XK), Room k (A.deeper (PyProof.Rows.envOfC qual (defScope st) s.heap.objs.size f cdv)) → DSs (cxOf CX0 P w K mg base N qual (defScope st) f cdv A outer s H E).nox true (defBody st) g) :
    FnOk P w K mg base CX0 (k + 1) f fd ps (spO K (mO ps.length N.length g)) := by
  refine F.ok Sc (fun vs H Q E h => ?_) (fun cdv A outer s H vs Q E hr h => ?_)
  · obtain ⟨Ex, ds, d, t, r, e, q⟩ := h
    unfold mO at e
    split at e
    · rw [r.length]; assumption
    · cases e
  · obtain ⟨Ex, ds, d, t, r, e, q⟩ := h
    obtain ⟨u, hu, run⟩ := (body cdv A outer s H E hr).ex
    refine ⟨u, hu, ?_⟩
    unfold mO at e
    split at e
    · rename_i hl
      have k0 := frame_ok (N := N) t r (by omega)
      have nown : ∀ a, ¬ Own (frame N.length ds) (fun _ => 0) a := fun a ⟨i, es, z, _⟩ => frame_own z
      split at e
      · rename_i d' ρ' e1
        cases e
        refine run Ex _ H _ _ _ _ k0 e1 fun v σ' H' as' k' f' g' rr => ?_
        unfold RR at rr
        rw [if_pos rfl] at rr
        obtain ⟨a, vs', ds', e2, e3, h1, h2, h3, h4, h5, h6⟩ := rr
        cases e2
        cases e3
        exact q a vs' H' (fun b o hb => (f' b o hb).1 (nown b)) (h1.elim (fun z => absurd z (nown a)) id) h3 h4 (h6.keep (Keep.sub fun b z => z.elim .inl fun z => .inr (.inl z)))
      · cases e
    · cases e
/-- .. that takes a list by reference first, and changes it -/
theorem fn_B (F : Fun K x qual st f fd) (Sc : FnScope N ps (defScope st)) (hN : ps.length ≤ N.length)
    (body : ∀ (cdv : Value) (A : Around) (outer : List Env) (s : Shared) (H : Hp) (E : XK), Room k (A.deeper (PyProof.Rows.envOfC qual (defScope st) s.heap.objs.size f cdv)) → DSs (cxOf CX0 P w K mg base N qual (defScope st) f cdv A outer s H E).nox false (defBody st) g) :
    FnOk P w K mg base CX0 (k + 1) f fd ps (spB K (mB ps.length N.length g)) := by
  refine F.ok Sc (fun vs H Q E h => ?_) (fun cdv A outer s H vs Q E hr h => ?_)
  · obtain ⟨Ex, a, src, us, ws, ds, d, src', ev, t, na, ha, hz, r1, r2, e, q⟩ := h
    subst ev
    unfold mB at e
    split at e
    · rw [List.length_cons, r2.length]; assumption
    · cases e
  · obtain ⟨Ex, a, src, us, ws, ds, d, src', ev, t, na, ha, hz, r1, r2, e, q⟩ := h
    subst ev
    obtain ⟨u, hu, run⟩ := (body cdv A outer s H E hr).ex
    refine ⟨u, hu, ?_⟩
    unfold mB at e
    split at e
    · rename_i hl
      have isO : ∀ {i es}, IsOwn (.ino src :: frame (N.length - 1) ds) i es → i = 0 ∧ es = .L src := fun {i es} h => by
        cases i with
        | zero => cases es <;> simp [IsOwn] at h; exact ⟨rfl, by rw [h]⟩
        | succ i => exact absurd (show IsOwn (frame (N.length - 1) ds) i es from (isOwn_cong (by simp)).mp h) frame_own
      have own : ∀ b, Own (.ino src :: frame (N.length - 1) ds) (fun _ => a) b → b = a := fun b ⟨i, es, z, e⟩ => e.symm
      have sub : Keep (fun b => Ex b ∨ b = a) (MM Ex (.ino src :: frame (N.length - 1) ds) (fun _ => a)) H H := Keep.sub fun b z => z.elim .inl fun z => .inr (own b z)
      have k0 : Ok K Ex (L2.start N (.ref a :: ws)) H (.ino src :: frame (N.length - 1) ds) (fun _ => a) := by
        refine ⟨?_, t, fun i d h => ?_, fun i es h => ?_, fun i j es fs h1 h2 _ => by rw [(isO h1).1, (isO h2).1]⟩
        · unfold frame L2.start
          have := r2.length
          simp
          omega
        · cases i with
          | zero => simp at h
          | succ i =>
            rcases frame_get (show (frame (N.length - 1) ds)[i]? = some (.dat d) by simpa using h) with ⟨d', e, h'⟩ | e
            · cases e
              obtain ⟨v, hv, rv⟩ := r2.get h'
              exact ⟨v, start_get (by simpa using hv), rv.keep sub⟩
            · cases e
        · obtain ⟨h1, h2⟩ := isO h
          subst h1 h2
          exact ⟨start_get rfl, na, us, ha, hz, r1.keep sub⟩
      have fin : ∀ {ρ' : Rho} {σ' : St} {H' : Hp} {as' : Nat → Addr} {s' : List D} {d : D} {v : V}, Ok K Ex σ' H' ρ' as' → Fr (Own (.ino src :: frame (N.length - 1) ds) (fun _ => a)) H H' → Go H (.ino src :: frame (N.length - 1) ds) (fun _ => a) ρ' as' → ρ'[0]? = some (.ino s') →
          Rep K (MM Ex ρ' as') H' d v → (∀ v H' us', Fr (fun b => b = a) H H' → H' a = some (.lst us') → us'.length ≤ sizeLine → RepL K (fun b => Ex b ∨ b = a) H' s' us' → Rep K (fun b => Ex b ∨ b = a) H' d v → Q v H') → Q v H' := fun {ρ' σ' H' as' s' d v} k' f' g' h0 rr q => by
        obtain ⟨_, ea⟩ := g'.ino 0 src rfl
        obtain ⟨_, n, us', h1, h2, h3⟩ := k'.own 0 (.L s') (.inr h0)
        rw [ea] at h1 n
        have sub' : Keep (MM Ex ρ' as') (fun b => Ex b ∨ b = a) H' H' := Keep.sub fun b z => z.elim .inl fun z => .inr ⟨0, .L s', .inr h0, ea.trans z.symm⟩
        exact q v H' us' (fun b o hb => ⟨fun nb => (f' b o hb).1 fun z => nb (own b z), (f' b o hb).2⟩) h1 h2 (h3.keep sub') (rr.keep sub')
      split at e
      · rename_i d' ρ' e1
        split at e
        · rename_i s' h0
          cases e
          refine run Ex _ H _ _ _ _ k0 e1 fun v σ' H' as' k' f' g' rr => ?_
          unfold RR at rr
          rw [if_neg Bool.false_ne_true] at rr
          exact fin k' f' g' h0 rr q
        · cases e
      · rename_i ρ' e1
        split at e
        · rename_i s' h0
          cases e
          exact run Ex _ H _ _ _ _ k0 e1 fun σ' H' as' k' f' g' => fin k' f' g' h0 (rep_non.mpr rfl) q
        · cases e
      · cases e
    · cases e
end
/-! ### calls of such defs -/
section
variable {X : Cx} {e : Expr} {es : List Expr} {f : C (List D)} {E : XK}
theorem de_fnA {m : List D → Option D} (h : DA X es f) (he : ∀ t, PA X es t → PE X e (tCall (spA X.K m) [] E t)) : DE X e (eCall m f) := by
  obtain ⟨t, h, run⟩ := h.ex
  refine ⟨_, he t h, fun Ex σ H ρ as d ρ' Q k e q => ?_⟩
  unfold eCall at e
  split at e
  · rename_i ds ρ1 e1
    split at e
    · rename_i r e2
      cases e
      refine run Ex σ H ρ as _ _ _ k e1 fun vs H1 k1 f1 g1 rv => ?_
      rw [List.append_nil]
      exact ⟨MM Ex ρ' as, ds, d, fun a => k1.trk, rv, e2, fun v H' s r => q v H' (k1.same s) (f1.trans g1 (.of_same s)) g1 r⟩
    · cases e
  · cases e
theorem do_fnO {m : List D → Option (List D)} (h : DA X es f) (he : ∀ t, PA X es t → PE X e (tCall (spO X.K m) [] E t)) : DO X e (oCall m f) := by
  obtain ⟨t, h, run⟩ := h.ex
  refine ⟨_, he t h, fun Ex σ H ρ as d ρ' Q k e q => ?_⟩
  unfold oCall at e
  split at e
  · rename_i ds ρ1 e1
    split at e
    · rename_i r e2
      cases e
      refine run Ex σ H ρ as _ _ _ k e1 fun vs H1 k1 f1 g1 rv => ?_
      rw [List.append_nil]
      refine ⟨MM Ex ρ' as, ds, d, fun a => k1.trk, rv, e2, fun a us H' s ha ha' hz r => ?_⟩
      have kp : Keep (MM Ex ρ' as) (MM (fun b => Ex b ∨ b = a) ρ' as) H1 H' := fun b o hb hm => ⟨s b o hb, fun z => by
        rcases z with (z | z) | z
        · exact hm (.inl z)
        · rw [z, ha] at hb; cases hb
        · exact hm (.inr z)⟩
      have k2 := k1.same s
      refine q a us H' ⟨k2.len, fun b hb => ?_, fun i d hi => ?_, fun i es hi => ?_, k2.inj⟩ (f1.trans g1 (.of_same s)) g1 (f1.free ha) ha' hz (r.keep (Keep.sub fun b z => ?_))
      · rcases hb with hb | hb
        · exact k2.exs b hb
        · subst hb; exact ⟨_, ha'⟩
      · obtain ⟨v, h1, r1⟩ := k1.dat i d hi
        exact ⟨v, h1, r1.keep kp⟩
      · obtain ⟨h1, n1, r1⟩ := k1.own i es hi
        refine ⟨h1, fun z => ?_, r1.keep kp fun o h2 => s _ _ h2⟩
        rcases z with z | z
        · exact n1 z
        · obtain ⟨o, h2⟩ := r1.trk
          rw [z, ha] at h2; cases h2
      · rcases z with (z | z) | z
        · exact .inl (.inl z)
        · exact .inr z
        · exact .inl (.inr z)
    · cases e
  · cases e
/-- the first argument a list that is owned here (or came in by reference): the callee changes it -/
def eCallS (i : Nat) (m : List D → List D → Option (D × List D)) (f : C (List D)) : C D := fun ρ => match pVar i ρ with
  | none => none
  | some _ => match f ρ with
    | none => none
    | some (ds, ρ1) => match ρ1[i]? with
      | some (.own src) => (match m src ds with | some (d, src') => some (d, ρ1.set i (.own src')) | none => none)
      | some (.ino src) => (match m src ds with | some (d, src') => some (d, ρ1.set i (.ino src')) | none => none)
      | _ => none
theorem de_fnB {i : Nat} {a : Expr} {m : List D → List D → Option (D × List D)} (ha : PE X a (tVar i)) (h : DA X es f) (hs : starEach (a :: es) X.env = (false, eval a X.env) :: starEach es X.env) (he : ∀ t, PA X (a :: es) t → PE X e (tCall (spB X.K m) [] E t)) : DE X e (eCallS i m f) := by
  obtain ⟨t, h, run⟩ := h.ex
  refine ⟨_, he _ (pa_cons ha h hs), fun Ex σ H ρ as d ρ' Q k e q => ?_⟩
  unfold eCallS at e
  split at e
  · cases e
  · rename_i d0 h0
    obtain ⟨v, hv⟩ := k.slot h0
    split at e
    · cases e
    · rename_i ds ρ1 e1
      refine ⟨v, hv, ?_⟩
      have fin : ∀ {src src' : List D} {s : Sl} {d : D}, IsOwn ρ1 i (.L src) → ((s = .own src' ∧ ρ1[i]? = some (.own src)) ∨ (s = .ino src' ∧ ρ1[i]? = some (.ino src))) → m src ds = some (d, src') →
          (∀ v H', Ok X.K Ex σ H' (ρ1.set i s) as → Fr (Own ρ as) H H' → Go H ρ as (ρ1.set i s) as → Rep X.K (MM Ex (ρ1.set i s) as) H' d v → Q v H') →
          t σ H fun xs H1 => spB X.K m ((v :: xs) ++ []) H1 Q E := fun {src src' s d} ho hs hm q => by
        refine run Ex σ H ρ as ds ρ1 _ k e1 fun ws H1 k1 f1 g1 rv => ?_
        obtain ⟨e2, n, us, hu, hz, rr⟩ := k1.own i (.L src) ho
        rw [hv] at e2
        cases e2
        rw [List.append_nil]
        have sub : Keep (MM Ex ρ1 as) (fun b => (MM Ex ρ1 as b ∧ b ≠ as i) ∨ b = as i) H1 H1 := Keep.sub fun b z => z.elim (·.1) fun z => z ▸ .inr ⟨i, .L src, ho, rfl⟩
        refine ⟨fun b => MM Ex ρ1 as b ∧ b ≠ as i, as i, src, us, ws, ds, d, src', rfl, fun b z => k1.trk z.1, fun z => z.2 rfl, hu, hz, rr.keep sub, rv.keep sub, hm, fun w H' us' hf hu' hz' r1 r2 => ?_⟩
        have sup : ∀ {H' : Hp}, Keep (fun b => (MM Ex ρ1 as b ∧ b ≠ as i) ∨ b = as i) (MM Ex ρ1 as) H' H' := Keep.sub fun b z => by
          by_cases e : b = as i
          · exact .inr e
          · exact .inl ⟨z, e⟩
        obtain ⟨k2, f2, g2, sb⟩ := k1.swap2 ho hs hz' hf hu' (r1.keep sup)
        exact q w H' k2 (f1.trans g1 f2) (Go.trans f1 g1 g2) ((r2.keep sup).keep (Keep.sub sb))
      split at e
      · rename_i src hs
        split at e
        · rename_i d' src' hm
          cases e
          exact fin (.inl hs) (.inl ⟨rfl, hs⟩) hm q
        · cases e
      · rename_i src hs
        split at e
        · rename_i d' src' hm
          cases e
          exact fin (.inr hs) (.inr ⟨rfl, hs⟩) hm q
        · cases e
      · cases e
end
end PD

namespace PD
open PySem L2
/-! ### by syntax -/
section
variable {K : PySem.W.Frag} {f g h : C D} {ta tb tc : TE}
theorem sem_bin {r : R2} {fn : D → D → Option D} (hv : V2 K r fn) (ha : SemE K f ta) (hb : SemE K g tb) : SemE K (eBin fn f g) (tOp r ta tb) := fun Ex σ H ρ as d ρ' Q k e q => by
  unfold eBin at e
  split at e
  · rename_i d1 ρ1 e1
    split at e
    · rename_i d2 ρ2 e2
      split at e
      · rename_i r1 e3
        cases e
        exact ha Ex σ H ρ as d1 _ _ k e1 fun v H1 k1 f1 g1 rv => hb Ex σ H1 ρ1 as d2 _ _ k1 e2 fun w H2 k2 f2 g2 rw =>
          hv _ H2 v w d1 d2 _ Q (fun a => k2.trk) (rv.keep (Keep.of f2 g2)) rw e3 fun u H3 s ru => q u H3 (k2.same s) ((f1.trans g1 f2).trans (Go.trans f1 g1 g2) (.of_same s)) (Go.trans f1 g1 g2) ru
      · cases e
    · cases e
  · cases e
theorem semT_of {t : TE} (h : SemE K f t) : SemT K (cT f) (tTest t) := fun Ex σ H ρ as d ρ' Q k e q => by
  unfold cT at e
  split at e
  · rename_i b1 ρ1 e1
    cases e
    exact h Ex σ H ρ as _ _ _ k e1 fun v H1 k1 f1 g1 rv => ⟨d, rep_bl.mp rv, q H1 k1 f1 g1⟩
  · cases e
/-- a op b op' c of ints -/
def eChain (fn fn' : D → D → Option D) (f g h : C D) : C D := fun ρ => match f ρ with
  | some (d, ρ1) => (match g ρ1 with
    | some (e, ρ2) => (match fn d e with
      | some (.bl true) => (match h ρ2 with
        | some (c, ρ3) => (match fn' e c with | some r => some (r, ρ3) | none => none)
        | none => none)
      | some (.bl false) => some (.bl false, ρ2)
      | _ => none)
    | none => none)
  | none => none
theorem sem_chain {r r' : R2} {fn fn' : D → D → Option D} (hv : V2 K r fn) (hv' : V2 K r' fn') (ha : SemE K f ta) (hb : SemE K g tb) (hc : SemE K h tc) : SemE K (eChain fn fn' f g h) (tChain r r' ta tb tc) := fun Ex σ H ρ as d ρ' Q k e q => by
  unfold eChain at e
  split at e
  · rename_i d1 ρ1 e1
    split at e
    · rename_i d2 ρ2 e2
      split at e
      · rename_i e3
        split at e
        · rename_i d4 ρ4 e4
          split at e
          · rename_i r5 e5
            cases e
            exact ha Ex σ H ρ as d1 _ _ k e1 fun v H1 k1 f1 g1 rv => hb Ex σ H1 ρ1 as d2 _ _ k1 e2 fun w H2 k2 f2 g2 rw =>
              hv _ H2 v w d1 d2 _ _ (fun a => k2.trk) (rv.keep (Keep.of f2 g2)) rw e3 fun u H3 s ru => ⟨true, rep_bl.mp ru, iteT (hc Ex σ H3 ρ2 as d4 _ _ (k2.same s) e4 fun z H4 k4 f4 g4 rz =>
                hv' _ H4 w z d2 d4 _ Q (fun a => k4.trk) ((rw.keep (Keep.same s)).keep (Keep.of f4 g4)) rz e5 fun y H5 s5 ry => by
                  have f13 := ((f1.trans g1 f2).trans (Go.trans f1 g1 g2) (.of_same s))
                  have g13 := Go.trans f13 (Go.trans f1 g1 g2) (Go.refl (H := H3))
                  exact q y H5 (k4.same s5) ((f13.trans g13 f4).trans (Go.trans f13 g13 g4) (.of_same s5)) (Go.trans f13 g13 g4) ry)⟩
          · cases e
        · cases e
      · rename_i e3
        cases e
        exact ha Ex σ H ρ as d1 _ _ k e1 fun v H1 k1 f1 g1 rv => hb Ex σ H1 ρ1 as d2 _ _ k1 e2 fun w H2 k2 f2 g2 rw =>
          hv _ H2 v w d1 d2 _ _ (fun a => k2.trk) (rv.keep (Keep.of f2 g2)) rw e3 fun u H3 s ru => ⟨false, rep_bl.mp ru, iteF (q _ H3 (k2.same s) ((f1.trans g1 f2).trans (Go.trans f1 g1 g2) (.of_same s)) (Go.trans f1 g1 g2) (rep_bl.mpr rfl))⟩
      · cases e
    · cases e
  · cases e
theorem sem_binX {r : R2} {fn : D → D → Option D} {p : Rho → Option D} (hv : V2 K r fn)
    (ha : ∀ (Ex : Addr → Prop) (σ : St) (H : Hp) (ρ : Rho) (as : Nat → Addr) (d : D) (ρ' : Rho) (Q : VK), Ok K Ex σ H ρ as → f ρ = some (d, ρ') → (∀ v H', Ok K Ex σ H' ρ' as → Fr (Own ρ as) H H' → Go H ρ as ρ' as → Rep K Bot H' d v → Q v H') → ta σ H Q)
    (hb : ∀ (Ex : Addr → Prop) (σ : St) (H : Hp) (ρ : Rho) (as : Nat → Addr) (d : D) (Q : VK), Ok K Ex σ H ρ as → p ρ = some d → (∀ v, Rep K Bot H d v → Q v H) → tb σ H Q) : SemE K (eBinX fn f p) (tOp r ta tb) := fun Ex σ H ρ as d ρ' Q k e q => by
  unfold eBinX at e
  split at e
  · rename_i d1 ρ1 e1
    split at e
    · rename_i d2 e2
      split at e
      · rename_i r1 e3
        split at e
        · rename_i fl
          cases e
          exact ha Ex σ H ρ as d1 _ _ k e1 fun v H1 k1 f1 g1 rv => hb Ex σ H1 _ as d2 _ k1 e2 fun w rw =>
            hv Bot H1 v w d1 d2 _ Q (fun a z => z.elim) rv rw e3 fun u H3 s ru => q u H3 (k1.same s) (f1.trans g1 (.of_same s)) g1 (ru.flat fl)
        · cases e
      · cases e
    · cases e
  · cases e
end
section
variable {X : Cx} {a b c : Expr} {f g h : C D} {p : Rho → Option D} {pos : Pos}
/-- operators -/
theorem e_add (ha : DE X a f) (hb : DE X b g) : DE X (.BinOp a .Add b pos) (eBin fAdd f g) := de_bin v_add ha hb fun _ _ h1 h2 => pe_op op_addA h1 h2
theorem e_sub (ha : DE X a f) (hb : DE X b g) : DE X (.BinOp a .Sub b pos) (eBin fSub f g) := de_bin v_sub ha hb fun _ _ h1 h2 => pe_op op_sub h1 h2
theorem e_mul (ha : DE X a f) (hb : DE X b g) : DE X (.BinOp a .Mult b pos) (eBin fMul f g) := de_bin v_mul ha hb fun _ _ h1 h2 => pe_op op_mulA h1 h2
theorem e_div (ha : DE X a f) (hb : DE X b g) : DE X (.BinOp a .FloorDiv b pos) (eBin fDiv f g) := de_bin v_div ha hb fun _ _ h1 h2 => pe_op op_fdiv h1 h2
theorem e_mod (ha : DE X a f) (hb : DE X b g) : DE X (.BinOp a .Mod b pos) (eBin fMod f g) := de_bin v_mod ha hb fun _ _ h1 h2 => pe_op op_mod h1 h2
theorem e_pow (ha : DE X a f) (hb : DE X b g) : DE X (.BinOp a .Pow b pos) (eBin fPow f g) := de_bin v_pow ha hb fun _ _ h1 h2 => pe_op op_pow h1 h2
theorem e_neg (ha : DE X a f) : DE X (.UnaryOp .USub a pos) (eUn fNeg f) := de_un v_neg ha fun _ h1 => pe_un un_neg h1
theorem o_add (ha : DE X a f) (hb : DE X b g) : DO X (.BinOp a .Add b pos) (oBin gAdd f g) := do_bin v_addL ha hb fun _ _ h1 h2 => pe_op op_cat h1 h2
theorem o_mul (ha : DE X a f) (hb : DE X b g) : DO X (.BinOp a .Mult b pos) (oBin gMul f g) := do_bin v_mulL ha hb fun _ _ h1 h2 => pe_op op_rep h1 h2
/-- comparisons, as a value and as a test -/
structure Cmp (X : Cx) (op : CmpOp) (fn : D → D → Option D) : Prop where
  ex : ∃ r, OpR X (compareOp op) r ∧ V2 X.K r fn
theorem k_eq (hu : X.A.units + 64 < cLine) : Cmp X .Eq fEq := ⟨_, op_eqA hu, v_eq⟩
theorem k_ne (hu : X.A.units + 64 < cLine) : Cmp X .NotEq fNe := ⟨_, op_neA hu, v_ne⟩
theorem k_lt : Cmp X .Lt fLt := ⟨_, op_lt, v_lt⟩
theorem k_le : Cmp X .LtE fLe := ⟨_, op_le, v_le⟩
theorem k_gt : Cmp X .Gt fGt := ⟨_, op_gt, v_gt⟩
theorem k_ge : Cmp X .GtE fGe := ⟨_, op_ge, v_ge⟩
theorem k_is : Cmp X .Is fIs := ⟨_, op_isA, v_is⟩
theorem k_isnot : Cmp X .IsNot fIsNot := ⟨_, op_isnotA, v_isnot⟩
theorem k_in (hu : X.A.units + 65 < cLine) : Cmp X .In fIn := ⟨_, op_inA hu, v_in⟩
theorem k_notin (hu : X.A.units + 65 < cLine) : Cmp X .NotIn fNotIn := ⟨_, op_notinA hu, v_notin⟩
variable {op op' : CmpOp} {fn fn' : D → D → Option D}
theorem e_cmp (ho : Cmp X op fn) (ha : DE X a f) (hb : DE X b g) (hm : behindInMarks op b = false := by rfl) : DE X (.Compare a [op] [b] pos) (eBin fn f g) := by
  obtain ⟨r, ho, hv⟩ := ho.ex
  exact de_bin hv ha hb fun _ _ h1 h2 => pe_cmpR ho h1 h2 hm
theorem e_cmpX (ho : Cmp X op fn) (ha : DX X a f) (hb : DP X b p) (hm : behindInMarks op b = false := by rfl) : DE X (.Compare a [op] [b] pos) (eBinX fn f p) := by
  obtain ⟨r, ho, hv⟩ := ho.ex
  exact dx_bin hv ha hb fun _ _ h1 h2 => pe_cmpR ho h1 h2 hm
theorem t_cmp (ho : Cmp X op fn) (ha : DE X a f) (hb : DE X b g) (hm : behindInMarks op b = false := by rfl) : DT X (.Compare a [op] [b] pos) (cT (eBin fn f g)) := by
  obtain ⟨r, ho, hv⟩ := ho.ex
  obtain ⟨ta, h1, r1⟩ := ha.ex
  obtain ⟨tb, h2, r2⟩ := hb.ex
  exact ⟨_, pt_cmpR ho h1 h2 hm, semT_of (sem_bin hv r1 r2)⟩
theorem t_cmpX (ho : Cmp X op fn) (ha : DX X a f) (hb : DP X b p) (hm : behindInMarks op b = false := by rfl) : DT X (.Compare a [op] [b] pos) (cT (eBinX fn f p)) := by
  obtain ⟨r, ho, hv⟩ := ho.ex
  obtain ⟨ta, h1, r1⟩ := ha.ex
  obtain ⟨tb, h2, r2⟩ := hb.ex
  exact ⟨_, pt_cmpR ho h1 h2 hm, semT_of (sem_binX hv r1 r2)⟩
theorem e_chain (ho : Cmp X op fn) (ho' : Cmp X op' fn') (ha : DE X a f) (hb : DE X b g) (hc : DE X c h) (hm : lastMarks [op, op'] [b, c] = false := by rfl) : DE X (.Compare a [op, op'] [b, c] pos) (eChain fn fn' f g h) := by
  obtain ⟨r, ho, hv⟩ := ho.ex
  obtain ⟨r', ho', hv'⟩ := ho'.ex
  obtain ⟨ta, h1, r1⟩ := ha.ex
  obtain ⟨tb, h2, r2⟩ := hb.ex
  obtain ⟨tc, h3, r3⟩ := hc.ex
  exact ⟨_, pe_chain ho ho' h1 h2 h3 hm, sem_chain hv hv' r1 r2 r3⟩
theorem t_chain (ho : Cmp X op fn) (ho' : Cmp X op' fn') (ha : DE X a f) (hb : DE X b g) (hc : DE X c h) (hm : lastMarks [op, op'] [b, c] = false := by rfl) : DT X (.Compare a [op, op'] [b, c] pos) (cT (eChain fn fn' f g h)) := by
  obtain ⟨r, ho, hv⟩ := ho.ex
  obtain ⟨r', ho', hv'⟩ := ho'.ex
  obtain ⟨ta, h1, r1⟩ := ha.ex
  obtain ⟨tb, h2, r2⟩ := hb.ex
  obtain ⟨tc, h3, r3⟩ := hc.ex
  exact ⟨_, pt_chain ho ho' h1 h2 h3 hm, semT_of (sem_chain hv hv' r1 r2 r3)⟩
/-- any other expression that is True or False, as a test -/
theorem t_val (ha : DE X a f) (he : ∀ whole, isTrue a X.env whole = (do let v ← whole; standAt a.pos; holding [v] (truthy v)) := by intro _; rfl) : DT X a (cT f) := dt_val ha fun _ h => pt_val h he
/-- items -/
theorem e_ix (ha : DE X a f) (hb : DE X b g) (hs : PlainIx b := by intro _ _; rfl) : DE X (.Subscript a b pos) (eBin fIdx f g) := de_bin v_idx ha hb fun _ _ h1 h2 => pe_ix ix_seq h1 h2 hs
theorem e_ownIx {i : Nat} (ha : PE X a (tVar i)) (hb : DE X b g) (hs : PlainIx b := by intro _ _; rfl) : DE X (.Subscript a b pos) (eOwnIdx i g) := de_ownIdx ha hb fun _ _ h1 h2 => pe_ix ix_list h1 h2 hs
/-- names of the module -/
theorem e_glob {x : Str} {v : V} {u : Value} {d : D} (hm : X.mg x = some u) (r : RelV v u) (rd : ∀ M H, Rep X.K M H d v) (hg : Gl X x := by rfl) (hd : (x == ("__debug__" : Str)) = false := by decide) : DE X (.Name x pos) (eC d) := de_c (pe_glob hg hm r hd) rd
/-! built-ins -/
variable {x : Str} {q : Pos} {fs : C (List D)} {es : List Expr}
theorem e_len (hm : X.mg "len" = none) (ha : DX X a f) (hg : Gl X "len" := by rfl) (hs : starEach [a] X.env = (false, eval a X.env) :: starEach [] X.env := by rfl) : DE X (.Call (.Name "len" q) [a] [] pos) (eUnX (fun d => fLen [d]) f) :=
  dx_call1 v_len ha hs fun _ h => pe_callB call_len hg hm (by decide +kernel) h (by decide) (by decide) hs rfl
theorem e_abs (hm : X.mg "abs" = none) (ha : DA X [a] fs) (hg : Gl X "abs" := by rfl) (hs : starEach [a] X.env = (false, eval a X.env) :: starEach [] X.env := by rfl) : DE X (.Call (.Name "abs" q) [a] [] pos) (eCall fAbs fs) :=
  de_call v_abs ha fun _ h => pe_callB call_abs hg hm (by decide +kernel) h (by decide) (by decide) hs rfl
theorem e_int (hm : X.mg "int" = none) (ha : DA X [a] fs) (hg : Gl X "int" := by rfl) (hs : starEach [a] X.env = (false, eval a X.env) :: starEach [] X.env := by rfl) : DE X (.Call (.Name "int" q) [a] [] pos) (eCall fInt1 fs) :=
  de_call v_int1 ha fun _ h => pe_callTy call_int1 hg hm (by decide +kernel) h (by decide) (by decide) hs rfl
theorem e_min2 (hc : X.calm = true) (hm : X.mg "min" = none) (ha : DA X [a, b] fs) (hg : Gl X "min" := by rfl) (hs : starEach [a, b] X.env = (false, eval a X.env) :: starEach [b] X.env := by rfl) (hpl : (backTo pos (starEach [b] X.env)).any (·.1) = false := by rfl) : DE X (.Call (.Name "min" q) [a, b] [] pos) (eCall fMin2 fs) :=
  de_call v_min2 ha fun _ h => pe_callB (call_min2 hc) hg hm (by decide +kernel) h (by decide) (by decide) hs hpl
theorem e_max2 (hc : X.calm = true) (hm : X.mg "max" = none) (ha : DA X [a, b] fs) (hg : Gl X "max" := by rfl) (hs : starEach [a, b] X.env = (false, eval a X.env) :: starEach [b] X.env := by rfl) (hpl : (backTo pos (starEach [b] X.env)).any (·.1) = false := by rfl) : DE X (.Call (.Name "max" q) [a, b] [] pos) (eCall fMax2 fs) :=
  de_call v_max2 ha fun _ h => pe_callB (call_max2 hc) hg hm (by decide +kernel) h (by decide) (by decide) hs hpl
theorem e_maxL (hc : X.calm = true) (hm : X.mg "max" = none) (ha : DX X a f) (hg : Gl X "max" := by rfl) (hs : starEach [a] X.env = (false, eval a X.env) :: starEach [] X.env := by rfl) : DE X (.Call (.Name "max" q) [a] [] pos) (eUnX (fun d => fMaxL [d]) f) :=
  dx_call1 v_maxL ha hs fun _ h => pe_callB (cr_max hc) hg hm (by decide +kernel) h (by decide) (by decide) hs rfl
theorem e_minL (hc : X.calm = true) (hm : X.mg "min" = none) (ha : DX X a f) (hg : Gl X "min" := by rfl) (hs : starEach [a] X.env = (false, eval a X.env) :: starEach [] X.env := by rfl) : DE X (.Call (.Name "min" q) [a] [] pos) (eUnX (fun d => fMinL [d]) f) :=
  dx_call1 v_minL ha hs fun _ h => pe_callB (cr_min hc) hg hm (by decide +kernel) h (by decide) (by decide) hs rfl
theorem e_sum (hc : X.calm = true) (hm : X.mg "sum" = none) (ha : DX X a f) (hg : Gl X "sum" := by rfl) (hs : starEach [a] X.env = (false, eval a X.env) :: starEach [] X.env := by rfl) : DE X (.Call (.Name "sum" q) [a] [] pos) (eUnX (fun d => fSum [d]) f) :=
  dx_call1 v_sum ha hs fun _ h => pe_callB (cr_sum hc) hg hm (by decide +kernel) h (by decide) (by decide) hs rfl
theorem e_all (hc : X.calm = true) (hm : X.mg "all" = none) (ha : DX X a f) (hg : Gl X "all" := by rfl) (hs : starEach [a] X.env = (false, eval a X.env) :: starEach [] X.env := by rfl) : DE X (.Call (.Name "all" q) [a] [] pos) (eUnX (fun d => fAll [d]) f) :=
  dx_call1 v_all ha hs fun _ h => pe_callB (cr_all hc) hg hm (by decide +kernel) h (by decide) (by decide) hs rfl
theorem e_any (hc : X.calm = true) (hm : X.mg "any" = none) (ha : DX X a f) (hg : Gl X "any" := by rfl) (hs : starEach [a] X.env = (false, eval a X.env) :: starEach [] X.env := by rfl) : DE X (.Call (.Name "any" q) [a] [] pos) (eUnX (fun d => fAny [d]) f) :=
  dx_call1 v_any ha hs fun _ h => pe_callB (cr_any hc) hg hm (by decide +kernel) h (by decide) (by decide) hs rfl
theorem o_list (hc : X.calm = true) (hm : X.mg "list" = none) (ha : DA X [a] fs) (hg : Gl X "list" := by rfl) (hs : starEach [a] X.env = (false, eval a X.env) :: starEach [] X.env := by rfl) : DO X (.Call (.Name "list" q) [a] [] pos) (oCall gList fs) :=
  do_call v_list ha fun _ h => pe_callTy (call_listA hc) hg hm (by decide +kernel) h (by decide) (by decide) hs rfl
theorem e_tuple (hm : X.mg "tuple" = none) (ha : DA X [a] fs) (hg : Gl X "tuple" := by rfl) (hs : starEach [a] X.env = (false, eval a X.env) :: starEach [] X.env := by rfl) : DE X (.Call (.Name "tuple" q) [a] [] pos) (eCall fTuple fs) :=
  de_call v_tuple ha fun _ h => pe_callTy call_tuple_of hg hm (by decide +kernel) h (by decide) (by decide) hs rfl
theorem e_isi {T : String} {y : Str} {p2 : Pos} (hm : X.mg "isinstance" = none) (hy : X.mg y = none) (hb : bootBuiltins y = some (.type T)) (ha : DX X a f) (hg : Gl X "isinstance" := by rfl) (hgy : Gl X y := by rfl) (hny : y ≠ "__name__" := by decide) (hdy : (y == ("__debug__" : Str)) = false := by decide)
    (hs : starEach [a, .Name y p2] X.env = (false, eval a X.env) :: starEach [.Name y p2] X.env := by rfl) : DE X (.Call (.Name "isinstance" q) [a, .Name y p2] [] pos) (eUnX (fIsi T) f) :=
  de_isi ha (pe_bltn hgy hy hb rfl hny hdy) hs rfl fun _ h => pe_callB call_isi hg hm (by decide +kernel) h (by decide) (by decide) hs rfl
/-- methods of texts -/
theorem e_rfind {apos : Pos} (ha : DE X a f) (hb : DE X b g) (hs : starEach [b] X.env = [(false, eval b X.env)] := by rfl) (hbase : attributeBase a "rfind" X.env (eval a X.env) = eval a X.env := by rfl) (hline : (apos.endLine == pos.line) = true := by rfl) : DE X (.Call (.Attribute a "rfind" apos) [b] [] pos) (eM1 fRfind f g) :=
  de_m1 v_rfind ha hb fun _ _ h1 h2 => pe_m1 F.slot_str_rfind F.type_str_rfind mt_rfind h1 h2 hs hbase hline
theorem e_join {apos : Pos} (ha : DE X a f) (hb : DE X b g) (hs : starEach [b] X.env = [(false, eval b X.env)] := by rfl) (hbase : attributeBase a "join" X.env (eval a X.env) = eval a X.env := by rfl) (hline : (apos.endLine == pos.line) = true := by rfl) : DE X (.Call (.Attribute a "join" apos) [b] [] pos) (eM1 fJoin f g) :=
  de_m1 v_join ha hb fun _ _ h1 h2 => pe_join h1 h2 hs hbase hline
/-- own defs -/
structure Df (P : Program) (w : World) (K : PySem.W.Frag) (mg : Str → Option Value) (base : Heap) (x : Str) (k : Nat) (ps : List Str) (sp : Sp) : Prop where
  ex : ∃ f fd, FnOk P w K mg base CX0 k f fd ps sp ∧ mg x = some (.ref f) ∧ PySem.W.keepIn K (.ref f) = true ∧ Binds K fd ps []
variable {k j : Nat} {ps : List Str}
theorem e_A {m : List D → Option D} (c : Df X.prog X.w X.K X.mg X.base x k ps (spA X.K m)) (hr : Room j X.A) (hk : k ≤ j) (ha : DA X (a :: es) fs) (hg : Gl X x := by rfl) (hdb : (x == ("__debug__" : Str)) = false := by decide)
    (he : starEach (a :: es) X.env = (false, eval a X.env) :: starEach es X.env := by rfl) (hpl : (backTo pos (starEach es X.env)).any (·.1) = false := by rfl) : DE X (.Call (.Name x q) (a :: es) [] pos) (eCall m fs) := by
  obtain ⟨f, fd, F, hm, kp, b⟩ := c.ex
  exact de_fnA (E := E0) ha fun _ h => pe_call F (hr.mono hk) hg hm kp b .nil pass0 h hdb he hpl
theorem o_O {m : List D → Option (List D)} (c : Df X.prog X.w X.K X.mg X.base x k ps (spO X.K m)) (hr : Room j X.A) (hk : k ≤ j) (ha : DA X (a :: es) fs) (hg : Gl X x := by rfl) (hdb : (x == ("__debug__" : Str)) = false := by decide)
    (he : starEach (a :: es) X.env = (false, eval a X.env) :: starEach es X.env := by rfl) (hpl : (backTo pos (starEach es X.env)).any (·.1) = false := by rfl) : DO X (.Call (.Name x q) (a :: es) [] pos) (oCall m fs) := by
  obtain ⟨f, fd, F, hm, kp, b⟩ := c.ex
  exact do_fnO (E := E0) ha fun _ h => pe_call F (hr.mono hk) hg hm kp b .nil pass0 h hdb he hpl
theorem e_B {i : Nat} {m : List D → List D → Option (D × List D)} (c : Df X.prog X.w X.K X.mg X.base x k ps (spB X.K m)) (hr : Room j X.A) (hk : k ≤ j) (h0 : PE X a (tVar i)) (ha : DA X es fs) (hg : Gl X x := by rfl) (hdb : (x == ("__debug__" : Str)) = false := by decide)
    (he : starEach (a :: es) X.env = (false, eval a X.env) :: starEach es X.env := by rfl) (hpl : (backTo pos (starEach es X.env)).any (·.1) = false := by rfl) : DE X (.Call (.Name x q) (a :: es) [] pos) (eCallS i m fs) := by
  obtain ⟨f, fd, F, hm, kp, b⟩ := c.ex
  exact de_fnB (E := E0) h0 ha he fun _ h => pe_call F (hr.mono hk) hg hm kp b .nil pass0 h hdb he hpl
theorem de_fn0 {e : Expr} {E : XK} {m : List D → Option D} (he : PE X e (tCall (spA X.K m) [] E tNil)) : DE X e (eCall m eNil) := ⟨_, he, fun Ex σ H ρ as d ρ' Q k e q => by
  unfold eCall eNil at e
  dsimp only at e
  split at e
  · rename_i r e2
    cases e
    exact ⟨MM Ex ρ as, [], d, fun a => k.trk, RepL.nil, e2, fun v H' s r => q v H' (k.same s) (.of_same s) .refl r⟩
  · cases e⟩
theorem e_A0 {m : List D → Option D} (c : Df X.prog X.w X.K X.mg X.base x k [] (spA X.K m)) (hr : Room j X.A) (hk : k ≤ j) (hg : Gl X x := by rfl) (hdb : (x == ("__debug__" : Str)) = false := by decide) : DE X (.Call (.Name x q) [] [] pos) (eCall m eNil) := by
  obtain ⟨f, fd, F, hm, kp, b⟩ := c.ex
  exact de_fn0 (E := E0) (pe_call0 F (hr.mono hk) hg hm kp b .nil pass0 hdb)
/-! walks -/
variable {tg : Expr}
theorem i_any (ha : DE X a f) : DI X tg a (iAny f) := di_any ha (fun _ h => pi_list h) (fun _ h => pi_tup h) (fun _ h => pi_str h)
theorem i_range1 (hm : X.mg "range" = none) (ha : DA X [a] fs) (hg : Gl X "range" := by rfl) (hs : starEach [a] X.env = [(false, eval a X.env)] := by rfl) : DI X tg (.Call (.Name "range" q) [a] [] pos) (iRange1 fs) := di_range1 ha fun _ h => pi_range1 hg hm h hs
theorem i_range2 (hm : X.mg "range" = none) (ha : DA X [a, b] fs) (hg : Gl X "range" := by rfl) (hs : starEach [a, b] X.env = [(false, eval a X.env), (false, eval b X.env)] := by rfl) (hs2 : starEach [b] X.env = [(false, eval b X.env)] := by rfl) : DI X tg (.Call (.Name "range" q) [a, b] [] pos) (iRange2 fs) := di_range2 ha fun _ h => pi_range2 hg hm h hs hs2
theorem i_range3 (hm : X.mg "range" = none) (ha : DA X [a, b, c] fs) (hg : Gl X "range" := by rfl) (hs : starEach [a, b, c] X.env = (false, eval a X.env) :: starEach [b, c] X.env := by rfl) (hpl : (backTo pos (starEach [b, c] X.env)).any (·.1) = false := by rfl) : DI X tg (.Call (.Name "range" q) [a, b, c] [] pos) (iRange3 fs) := di_range3 ha fun _ h => pi_range3 hg hm h hs hpl
end
/-! ### statements by syntax -/
section
variable {X : Cx} {ow : Bool} {a b e : Expr} {f g : C D} {i j l : Nat} {x y z : Str} {pos p p2 p3 p4 : Pos}
theorem s_set (hN : X.N.Nodup) (he : DE X e f) (hi : X.N[i]? = some x := by rfl) (hx : Loc X.env.scope x := by first | exact .inl rfl | exact .inr rfl) (hs : swapsWith e (some (.Name x p)) pos.line X.env = pure false := by rfl) (hf : X.fn x = true := by rfl) : DS X ow (.Assign [.Name x p] e pos) (sSet i f) :=
  ds_set he fun _ h => ps_set hN hi hx h hs (.inl hf)
theorem s_setO {fo : C (List D)} (hN : X.N.Nodup) (he : DO X e fo) (hi : X.N[i]? = some x := by rfl) (hx : Loc X.env.scope x := by first | exact .inl rfl | exact .inr rfl) (hs : swapsWith e (some (.Name x p)) pos.line X.env = pure false := by rfl) (hf : X.fn x = true := by rfl) : DS X ow (.Assign [.Name x p] e pos) (sSetO i fo) :=
  ds_setO he fun _ h => ps_set hN hi hx h hs (.inl hf)
theorem g_name (hN : X.N.Nodup) (hi : X.N[i]? = some x := by rfl) (hx : Loc X.env.scope x := by first | exact .inl rfl | exact .inr rfl) (hf : X.fn x = true ∨ X.env.scope.names.lookup x = some .local := by first | exact .inl rfl | exact .inr rfl) : DG X (.Name x pos) [i] (bName i) := dg_name (pg_name hN hi hx hf)
theorem s_unpack {tg : Expr} {is : List Nat} {bb : D → Rho → Option Rho} (he : DE X e f) (hg : DG X tg is bb) (hs : swapsWithSole [tg] e pos.line X.env = pure false := by rfl) (hw : swappedStores [tg] e X.env = pure none := by rfl) (h1 : (assignEach [tg] X.env).map (·.2) = [assign tg X.env] := by rfl) : DS X ow (.Assign [tg] e pos) (sUnpack f bb) :=
  ds_unpack he hg fun _ _ h1' h2 => ps_asg h1' h2 hs hw h1
theorem s_par2D {fs : C (List D)} {kt k2 : Nat} (hc : X.calm = true) (hN : X.N.Nodup) (h : DA X [a, b] fs) (hij : i ≠ j := by decide) (hi : X.N[i]? = some x := by rfl) (hj : X.N[j]? = some y := by rfl) (hx : X.env.scope.names.lookup x = some .local := by rfl) (hy : X.env.scope.names.lookup y = some .local := by rfl)
    (hw : swappedStores [.Tuple [.Name x p, .Name y p2] kt p3] (.Tuple [a, b] k2 p4) X.env = pure (some [x, y]) := by rfl) (hs : swapsWithSole [.Tuple [.Name x p, .Name y p2] kt p3] (.Tuple [a, b] k2 p4) pos.line X.env = pure false := by rfl) :
    DS X ow (.Assign [.Tuple [.Name x p, .Name y p2] kt p3] (.Tuple [a, b] k2 p4) pos) (sParD [i, j] fs) := ds_par2D h fun _ h => ps_par hc hN hi hj hij hx hy h hw hs
theorem s_par2 {fv gv : C Sl} {kt k2 : Nat} (hc : X.calm = true) (hN : X.N.Nodup) (h1 : DV X a fv) (h2 : DV X b gv) (hij : i ≠ j := by decide) (hi : X.N[i]? = some x := by rfl) (hj : X.N[j]? = some y := by rfl) (hx : X.env.scope.names.lookup x = some .local := by rfl) (hy : X.env.scope.names.lookup y = some .local := by rfl)
    (hw : swappedStores [.Tuple [.Name x p, .Name y p2] kt p3] (.Tuple [a, b] k2 p4) X.env = pure (some [x, y]) := by rfl) (hs : swapsWithSole [.Tuple [.Name x p, .Name y p2] kt p3] (.Tuple [a, b] k2 p4) pos.line X.env = pure false := by rfl)
    (ht : starEach [a, b] X.env = (false, eval a X.env) :: starEach [b] X.env := by rfl) (ht2 : starEach [b] X.env = (false, eval b X.env) :: starEach [] X.env := by rfl) :
    DS X ow (.Assign [.Tuple [.Name x p, .Name y p2] kt p3] (.Tuple [a, b] k2 p4) pos) (sPar2 i j fv gv) := ds_par2 hij h1 h2 ht ht2 fun _ h => ps_par hc hN hi hj hij hx hy h hw hs
theorem s_par3D {c : Expr} {p5 : Pos} {fs : C (List D)} {kt k2 : Nat} (hc : X.calm = true) (hN : X.N.Nodup) (h : DA X [a, b, c] fs) (hij : i ≠ j := by decide) (hil : i ≠ l := by decide) (hjl : j ≠ l := by decide) (hi : X.N[i]? = some x := by rfl) (hj : X.N[j]? = some y := by rfl) (hl : X.N[l]? = some z := by rfl)
    (hx : X.env.scope.names.lookup x = some .local := by rfl) (hy : X.env.scope.names.lookup y = some .local := by rfl) (hz : X.env.scope.names.lookup z = some .local := by rfl)
    (hw : swappedStores [.Tuple [.Name x p, .Name y p2, .Name z p5] kt p3] (.Tuple [a, b, c] k2 p4) X.env = pure (some [x, y, z]) := by rfl) (hs : swapsWithSole [.Tuple [.Name x p, .Name y p2, .Name z p5] kt p3] (.Tuple [a, b, c] k2 p4) pos.line X.env = pure false := by rfl) :
    DS X ow (.Assign [.Tuple [.Name x p, .Name y p2, .Name z p5] kt p3] (.Tuple [a, b, c] k2 p4) pos) (sParD [i, j, l] fs) := ds_par3D h fun _ h => ps_par3 hc hN hi hj hl hij hil hjl hx hy hz h hw hs
theorem s_drop (he : DE X e f) (hs : swapsWith e none pos.line X.env = pure false := by rfl) : DS X ow (.Expr e pos) (sDrop f) := ds_drop he fun _ h => ps_expr h hs
theorem s_append {apos : Pos} {o : Expr} (ho : PE X o (tVar i)) (ha : DE X a f) (hs : starEach [a] X.env = (false, eval a X.env) :: starEach [] X.env := by rfl) (hbase : attributeBase o "append" X.env (eval o X.env) = eval o X.env := by rfl) (hline : (apos.endLine == p.line) = true := by rfl)
    (hfew : ((((backTo p (starEach [a] X.env)).all fun x => !x.fst) && (backToKw p (keywordEach [] X.env)).all fun x => x.fst.isSome) && decide (([a].length + ([] : List Keyword).length + if ([] : List Keyword).isEmpty = true then 0 else 1) < 30)) = true := by rfl)
    (hsw : swapsWith (.Call (.Attribute o "append" apos) [a] [] p) none pos.line X.env = pure false := by rfl) : DS X ow (.Expr (.Call (.Attribute o "append" apos) [a] [] p) pos) (sAppend i f) :=
  ds_append (e := .Call (.Attribute o "append" apos) [a] [] p) ho ha hs (fun _ _ h1 h2 => by
    exact pe_bm F.plainAttrs_list F.slot_list_append F.type_list_append mt_append h1 h2 hbase hfew hline hs rfl) fun _ h => ps_expr h hsw
theorem s_setIx {o k : Expr} (ho : PE X o (tVar i)) (ha : DE X a f) (hk : DE X k g) (h3 : ∀ v, assign (.Subscript o k p) X.env v = (do
      let ov ← holding [v] (eval o X.env)
      let iv ← holding [v, ov] (eval k X.env)
      standAt p
      holding [v, ov, iv] (setItem ov iv v)
      release [v, ov, iv] []) := by intro _; rfl) (hs : swapsWithSole [.Subscript o k p] a pos.line X.env = pure false := by rfl) (hw : swappedStores [.Subscript o k p] a X.env = pure none := by rfl) (h1 : (assignEach [.Subscript o k p] X.env).map (·.2) = [assign (.Subscript o k p) X.env] := by rfl) :
    DS X ow (.Assign [.Subscript o k p] a pos) (sSetIx i f g) := ds_setIx ho ha hk fun _ _ _ h1' h2 h4 => ps_asg h1' (pg_sub h2 h4 set_list h3) hs hw h1
theorem s_for {tg it : Expr} {body : List Stmt} {fi : C (List D)} {is : List Nat} {bb : D → Rho → Option Rho} {s : S} (hc : X.calm = true) (hp : PassesOwn (model X.prog X.w) X.A X.env X.xe) (hi : DI X tg it fi) (hg : DG X tg is bb) (hb : DSs X ow body s) (hs : ∀ x, foldedSetIterable it X.env x = pure x := by intro _; rfl) : DS X ow (.For tg it body [] pos) (sFor fi bb s) :=
  ds_for hc hi hg hb fun _ _ _ h1 h2 h3 => ps_for hp hc h1 h2 h3 hs
theorem s_while {body : List Stmt} {fc : C Bool} {s : S} (hp : PassesOwn (model X.prog X.w) X.A X.env X.xe) (hc : DT X a fc) (hb : DSs X ow body s) : DS X ow (.While a body [] pos) (sWhile fc s) :=
  ds_while hc hb fun _ _ h1 h2 => ps_while hp h1 h2
end
end PD

namespace PD
open PySem L2
/-! ### names of the module -/
def strsT (ss : List (List Nat)) : D := .tup (ss.map D.str)
def Gs (mg : Str → Option Value) (x : Str) (s : List Nat) : Prop := ∃ t, mg x = some (.str (mk s) t)
def Gi (mg : Str → Option Value) (x : Str) (i : Int) : Prop := ∃ t, mg x = some (.int i t)
def Gt (K : PySem.W.Frag) (mg : Str → Option Value) (x : Str) (ss : List (List Nat)) : Prop := ∃ a, mg x = some (.ref a) ∧ KnT K a (ss.map fun s => V.str (mk s))
theorem gs_mk {mg : Str → Option Value} {x z : Str} {s : List Nat} {t : Tok} (h : mg x = some (.str z t)) (e : z = mk s) : Gs mg x s := ⟨t, by rw [h, e]⟩
theorem gi_mk {mg : Str → Option Value} {x : Str} {i : Int} {t : Tok} (h : mg x = some (.int i t)) : Gi mg x i := ⟨t, h⟩
theorem gt_mk {K : PySem.W.Frag} {mg : Str → Option Value} {x : Str} {ss : List (List Nat)} {a : Addr} {q : Option Addr} {its : Array Value} {n : Nat} {sl : Array (Option Value)} (h : mg x = some (.ref a)) (l : K.lookup a = some ⟨.type "tuple", q, .seq its n, sl⟩)
    (hz : its.size ≤ sizeLine) (r : Vals (ss.map fun s => V.str (mk s)) its.toList) : Gt K mg x ss := ⟨a, h, _, its, n, l, rfl, rfl, hz, r⟩
theorem strV {z y : Str} {t : Tok} (e : z = y) : Value.str z t = Value.str y t := by rw [e]
theorem rep_strsL {K : PySem.W.Frag} {M : Addr → Prop} {H : Hp} : ∀ ss : List (List Nat), RepL K M H (ss.map D.str) (ss.map fun s => V.str (mk s))
  | [] => RepL.nil
  | s :: ss => RepL.cons (rep_str.mpr rfl) (rep_strsL ss)
section
variable {X : Cx} {x : Str} {pos : Pos}
theorem e_gs {s : List Nat} (h : Gs X.mg x s) (hg : Gl X x := by rfl) (hd : (x == ("__debug__" : Str)) = false := by decide) : DE X (.Name x pos) (eC (.str s)) := by
  obtain ⟨t, h⟩ := h
  exact e_glob (v := .str (mk s)) h ⟨t, rfl⟩ (fun _ _ => rep_str.mpr rfl) hg hd
theorem e_gi {i : Int} (h : Gi X.mg x i) (hg : Gl X x := by rfl) (hd : (x == ("__debug__" : Str)) = false := by decide) : DE X (.Name x pos) (eC (.int i)) := by
  obtain ⟨t, h⟩ := h
  exact e_glob (v := .int i) h ⟨t, rfl⟩ (fun _ _ => rep_int.mpr rfl) hg hd
theorem e_gt {ss : List (List Nat)} (h : Gt X.K X.mg x ss) (hg : Gl X x := by rfl) (hd : (x == ("__debug__" : Str)) = false := by decide) : DE X (.Name x pos) (eC (strsT ss)) := by
  obtain ⟨a, h, kn⟩ := h
  exact e_glob (v := .ref a) h rfl (fun _ _ => rep_tup.mpr ⟨a, _, rfl, .inr kn, rep_strsL ss⟩) hg hd
end
theorem room65 {k : Nat} {A : Around} (h : Room k A) : A.units + 65 < cLine := by have := h.un; omega
/-! ### a thing owned here, looked at ahead of another expression that leaves it alone -/
def ownAt (ρ : Rho) (i : Nat) : Option (List D) := match ρ[i]? with | some (.own ds) => some ds | some (.ino ds) => some ds | _ => none
theorem ownAt_is {ρ : Rho} {i : Nat} {ds : List D} (h : ownAt ρ i = some ds) : IsOwn ρ i (.L ds) := by
  unfold ownAt at h
  split at h
  · cases h; left; assumption
  · cases h; right; assumption
  · cases h
def eOwnBin (fn : D → D → Option D) (i : Nat) (g : C D) : C D := fun ρ => match pVar i ρ with
  | none => none
  | some _ => (match g ρ with
    | some (e, ρ1) => (match ownAt ρ1 i with
      | some ds => (match fn (.lst ds) e with | some r => if flatD r = true then some (r, ρ1) else none | none => none)
      | none => none)
    | none => none)
theorem sem_ownBin {K : PySem.W.Frag} {r : R2} {fn : D → D → Option D} {i : Nat} {g : C D} {tb : TE} (hv : V2 K r fn) (hb : SemE K g tb) : SemE K (eOwnBin fn i g) (tOp r (tVar i) tb) := by
  intro Ex σ H ρ as d ρ' Q k e q
  unfold eOwnBin at e
  split at e
  · cases e
  · rename_i d0 h0
    obtain ⟨v, hv2⟩ := k.slot h0
    refine ⟨v, hv2, ?_⟩
    split at e
    · rename_i d1 ρ1 e1
      split at e
      · rename_i ds h1
        split at e
        · rename_i r1 e3
          split at e
          · rename_i fl
            cases e
            refine hb Ex σ H ρ as _ _ _ k e1 fun w H1 k1 f1 g1 rw => ?_
            obtain ⟨e4, n, vs, e5, z, rr⟩ := k1.own i (.L ds) (ownAt_is h1)
            rw [hv2] at e4
            cases e4
            exact hv Bot H1 _ w (.lst ds) d1 _ Q (fun a z => z.elim) (rep_lst.mpr ⟨_, vs, rfl, ⟨fun z => z, e5⟩, rr.keep Keep.bot⟩) rw.bot e3 fun u H3 s ru => q u H3 (k1.same s) (f1.trans g1 (.of_same s)) g1 (ru.flat fl)
          · cases e
        · cases e
      · cases e
    · cases e
theorem e_cmpO {X : Cx} {a b : Expr} {pos : Pos} {i : Nat} {g : C D} {op : CmpOp} {fn : D → D → Option D} (ho : Cmp X op fn) (ha : PE X a (tVar i)) (hb : DE X b g) (hm : behindInMarks op b = false := by rfl) : DE X (.Compare a [op] [b] pos) (eOwnBin fn i g) := by
  obtain ⟨r, ho, hv⟩ := ho.ex
  obtain ⟨tb, h2, r2⟩ := hb.ex
  exact ⟨_, pe_cmpR ho ha h2 hm, sem_ownBin hv r2⟩
theorem t_cmpO {X : Cx} {a b : Expr} {pos : Pos} {i : Nat} {g : C D} {op : CmpOp} {fn : D → D → Option D} (ho : Cmp X op fn) (ha : PE X a (tVar i)) (hb : DE X b g) (hm : behindInMarks op b = false := by rfl) : DT X (.Compare a [op] [b] pos) (cT (eOwnBin fn i g)) := by
  obtain ⟨r, ho, hv⟩ := ho.ex
  obtain ⟨tb, h2, r2⟩ := hb.ex
  exact ⟨_, pt_cmpR ho ha h2 hm, semT_of (sem_ownBin hv r2)⟩
/-- tuple(x), x owned here: its items are data -/
def eTupleP (i : Nat) : C D := fun ρ => match ρ[i]? with
  | some (.own ds) => some (.tup ds, ρ)
  | some (.dat (.lst ds)) => some (.tup ds, ρ)
  | some (.dat (.tup ds)) => some (.tup ds, ρ)
  | _ => none
theorem e_tupleP {X : Cx} {a : Expr} {i : Nat} {q pos : Pos} (hm : X.mg "tuple" = none) (ha : PE X a (tVar i)) (hg : Gl X "tuple" := by rfl) (hs : starEach [a] X.env = (false, eval a X.env) :: starEach [] X.env := by rfl) : DE X (.Call (.Name "tuple" q) [a] [] pos) (eTupleP i) := by
  refine ⟨_, pe_callTy call_tuple_of hg hm (by decide +kernel) (pa_cons ha pa_nil hs) (by decide) (by decide) hs rfl, fun Ex σ H ρ as d ρ' Q k e q => ?_⟩
  unfold eTupleP at e
  split at e
  · rename_i ds h1
    cases e
    obtain ⟨e1, n, vs, e2, z, r⟩ := k.own i (.L ds) (.inl h1)
    exact ⟨_, e1, _, vs, rfl, .inl ⟨.inl (.inl e2), fun p hp => q _ _ (k.same (same_upd hp)) (.of_same (same_upd hp)) .refl (rep_newT (fun a => k.trk) hp r)⟩⟩
  · rename_i ds h1
    cases e
    obtain ⟨v, e1, r⟩ := k.dat i _ h1
    obtain ⟨a, vs, e2, l, rr⟩ := rep_lst.mp r
    subst e2
    exact ⟨_, e1, _, vs, rfl, .inl ⟨l.seq, fun p hp => q _ _ (k.same (same_upd hp)) (.of_same (same_upd hp)) .refl (rep_newT (fun a => k.trk) hp rr)⟩⟩
  · rename_i ds h1
    cases e
    obtain ⟨v, e1, r⟩ := k.dat i _ h1
    have r' := r
    obtain ⟨a, vs, e2, l, rr⟩ := rep_tup.mp r
    subst e2
    exact ⟨_, e1, _, vs, rfl, .inr ⟨l.seq, q _ H k .refl .refl r'⟩⟩
  · cases e
/-! ### the law -/
def scr (ns : List Int) : D := .scr (ns.map D.int)
theorem rep_intsL {K : PySem.W.Frag} {M : Addr → Prop} {H : Hp} : ∀ ns : List Int, RepL K M H (ns.map D.int) (ns.map V.int)
  | [] => RepL.nil
  | s :: ss => RepL.cons (rep_int.mpr rfl) (rep_intsL ss)
theorem law_sp {K : PySem.W.Frag} {m : List D → Option D} {H : Hp} {a : Addr} {ns : List Int} (h : m [scr ns] = some (.bl true)) (hO : Only H) (hS : SqL K H a (ns.map V.int)) : spA K m [.ref a] H (fun v _ => v = .bl true) fun _ _ _ => False := by
  refine ⟨fun _ => False, [scr ns], .bl true, fun _ z => z.elim, RepL.cons (rep_scr.mpr ⟨a, _, rfl, ?_, rep_intsL ns⟩) RepL.nil, h, fun v H' _ r => rep_bl.mp r⟩
  rcases hS with (hS | hS) | hS
  · rcases hO a with z | ⟨o, xs, z⟩
    · rw [hS] at z; cases z
    · rw [hS] at z; cases z
  · exact .inl ⟨fun z => z, hS⟩
  · exact .inr hS
end PD

namespace PD
open PySem L2
/-! ### weakest premises of readings: plain law, no program in sight -/
def ho {α : Type} (o : Option α) (Q : α → Prop) : Prop := match o with | some a => Q a | none => False
def wp {α : Type} (f : C α) (ρ : Rho) (Q : α → Rho → Prop) : Prop := match f ρ with | some (a, ρ') => Q a ρ' | none => False
def ws (g : S) (ρ : Rho) (Q : Out → Prop) : Prop := match g ρ with | some o => Q o | none => False
def oN (o : Option Sl) (Q : Prop) : Prop := match o with | some (.ino _) => False | some _ => Q | none => False
@[simp] theorem oN_dat {d : D} {Q : Prop} : oN (some (.dat d)) Q = Q := rfl
@[simp] theorem oN_own {d : List D} {Q : Prop} : oN (some (.own d)) Q = Q := rfl
@[simp] theorem oN_emp {Q : Prop} : oN (some .emp) Q = Q := rfl
@[simp] theorem ho_some {α : Type} {a : α} {Q : α → Prop} : ho (some a) Q = Q a := rfl
@[simp] theorem ho_none {α : Type} {Q : α → Prop} : ho none Q = False := rfl
@[simp] theorem ho_ite {α : Type} {c : Prop} [Decidable c] {a b : Option α} {Q : α → Prop} : ho (if c then a else b) Q = (if c then ho a Q else ho b Q) := by split <;> rfl
theorem ho_mono {α : Type} {o : Option α} {Q R : α → Prop} (h : ho o Q) (i : ∀ a, Q a → R a) : ho o R := by
  unfold ho at *; split at h <;> simp_all
theorem wp_mono {α : Type} {f : C α} {ρ : Rho} {Q R : α → Rho → Prop} (h : wp f ρ Q) (i : ∀ a r, Q a r → R a r) : wp f ρ R := by
  unfold wp at *; split at h <;> simp_all
theorem ws_mono {f : S} {ρ : Rho} {Q R : Out → Prop} (h : ws f ρ Q) (i : ∀ a, Q a → R a) : ws f ρ R := by
  unfold ws at *; split at h <;> simp_all
theorem ho_eq {α : Type} {o : Option α} {a : α} : ho o (fun r => r = a) ↔ o = some a := by cases o <;> simp
theorem ho_iff {α : Type} {o : Option α} {Q : α → Prop} : ho o Q ↔ ∃ a, o = some a ∧ Q a := by cases o <;> simp
theorem ws_some {g : S} {ρ : Rho} {Q : Out → Prop} : ws g ρ Q ↔ ∃ o, g ρ = some o ∧ Q o := by unfold ws; cases g ρ <;> simp
theorem wp_some {α : Type} {f : C α} {ρ : Rho} {Q : α → Rho → Prop} : wp f ρ Q ↔ ∃ a r, f ρ = some (a, r) ∧ Q a r := by
  unfold wp; cases h : f ρ with
  | none => simp
  | some p => obtain ⟨a, r⟩ := p; simp [h]; exact ⟨fun q => ⟨a, r, ⟨rfl, rfl⟩, q⟩, fun ⟨_, _, ⟨e1, e2⟩, q⟩ => e1 ▸ e2 ▸ q⟩
section
variable {ρ : Rho} {QD : D → Rho → Prop} {QL : List D → Rho → Prop} {QB : Bool → Rho → Prop} {QO : Out → Prop}
theorem w_eVar {i : Nat} : wp (eVar i) ρ QD = match ρ[i]? with | some (.dat d) => QD d ρ | some (.own ds) => QD (.lst ds) (ρ.set i (.dat (.lst ds))) | _ => False := by
  unfold wp eVar; cases ρ[i]? with
  | none => rfl
  | some s => cases s <;> rfl
theorem w_eC {d : D} : wp (eC d) ρ QD = QD d ρ := rfl
theorem w_eUn {fn : D → Option D} {f : C D} : wp (eUn fn f) ρ QD = wp f ρ fun d ρ1 => ho (fn d) fun r => QD r ρ1 := by
  unfold wp eUn ho; cases f ρ with
  | none => rfl
  | some p => obtain ⟨d, r⟩ := p; cases h : fn d <;> simp [h]
theorem w_eUnX {fn : D → Option D} {f : C D} : wp (eUnX fn f) ρ QD = wp f ρ fun d ρ1 => ho (fn d) fun r => flatD r = true ∧ QD r ρ1 := by
  unfold wp eUnX ho; cases f ρ with
  | none => rfl
  | some p => obtain ⟨d, r⟩ := p; cases h : fn d with
    | none => simp [h]
    | some q => cases hq : flatD q <;> simp [h, hq]
theorem w_eBin {fn : D → D → Option D} {f g : C D} : wp (eBin fn f g) ρ QD = wp f ρ fun d ρ1 => wp g ρ1 fun e ρ2 => ho (fn d e) fun r => QD r ρ2 := by
  unfold wp eBin ho; cases f ρ with
  | none => rfl
  | some p => obtain ⟨d, r⟩ := p; cases h : g r with
    | none => simp [h]
    | some q => obtain ⟨e, r2⟩ := q; cases hq : fn d e <;> simp [h, hq]
theorem w_eM1 {fn : D → D → Option D} {f g : C D} : wp (eM1 fn f g) ρ QD = wp f ρ fun d ρ1 => (match d with | .str s => wp g ρ1 fun e ρ2 => ho (fn (.str s) e) fun r => QD r ρ2 | _ => False) := by
  unfold wp eM1 ho; cases f ρ with
  | none => rfl
  | some p => obtain ⟨d, r⟩ := p; cases d with
    | str s => (cases h : g r with
      | none => simp [h]
      | some q => obtain ⟨e, r2⟩ := q; cases hq : fn (.str s) e <;> simp [h, hq])
    | _ => simp
theorem w_oBin {fn : D → D → Option (List D)} {f g : C D} : wp (oBin fn f g) ρ QL = wp f ρ fun d ρ1 => wp g ρ1 fun e ρ2 => ho (fn d e) fun r => QL r ρ2 := by
  unfold wp oBin ho; cases f ρ with
  | none => rfl
  | some p => obtain ⟨d, r⟩ := p; cases h : g r with
    | none => simp [h]
    | some q => obtain ⟨e, r2⟩ := q; cases hq : fn d e <;> simp [h, hq]
theorem w_oUn {fn : D → Option (List D)} {f : C D} : wp (oUn fn f) ρ QL = wp f ρ fun d ρ1 => ho (fn d) fun r => QL r ρ1 := by
  unfold wp oUn ho; cases f ρ with
  | none => rfl
  | some p => obtain ⟨d, r⟩ := p; cases h : fn d <;> simp [h]
theorem w_eOfO {f : C (List D)} : wp (eOfO f) ρ QD = wp f ρ fun d ρ1 => QD (.lst d) ρ1 := by
  unfold wp eOfO; cases f ρ <;> rfl
theorem w_eNil : wp eNil ρ QL = QL [] ρ := rfl
theorem w_eCons {f : C D} {g : C (List D)} : wp (eCons f g) ρ QL = wp f ρ fun d ρ1 => wp g ρ1 fun ds ρ2 => QL (d :: ds) ρ2 := by
  unfold wp eCons; cases f ρ with
  | none => rfl
  | some p => obtain ⟨d, r⟩ := p; cases h : g r <;> simp [h]
theorem w_eTup {f : C (List D)} : wp (eTup f) ρ QD = wp f ρ fun ds ρ1 => ds.length ≤ 1000 ∧ QD (.tup ds) ρ1 := by
  unfold wp eTup; cases f ρ with
  | none => rfl
  | some p => obtain ⟨ds, r⟩ := p; by_cases h : ds.length ≤ 1000 <;> simp [h]
theorem w_oLst {f : C (List D)} : wp (oLst f) ρ QL = wp f ρ fun ds ρ1 => ds.length ≤ 1000 ∧ QL ds ρ1 := by
  unfold wp oLst; cases f ρ with
  | none => rfl
  | some p => obtain ⟨ds, r⟩ := p; by_cases h : ds.length ≤ 1000 <;> simp [h]
theorem w_eCall {fn : List D → Option D} {f : C (List D)} : wp (eCall fn f) ρ QD = wp f ρ fun ds ρ1 => ho (fn ds) fun r => QD r ρ1 := by
  unfold wp eCall ho; cases f ρ with
  | none => rfl
  | some p => obtain ⟨d, r⟩ := p; cases h : fn d <;> simp [h]
theorem w_oCall {fn : List D → Option (List D)} {f : C (List D)} : wp (oCall fn f) ρ QL = wp f ρ fun ds ρ1 => ho (fn ds) fun r => QL r ρ1 := by
  unfold wp oCall ho; cases f ρ with
  | none => rfl
  | some p => obtain ⟨d, r⟩ := p; cases h : fn d <;> simp [h]
theorem w_cT {f : C D} : wp (cT f) ρ QB = wp f ρ fun d ρ1 => (match d with | .bl b => QB b ρ1 | _ => False) := by
  unfold wp cT; cases f ρ with
  | none => rfl
  | some p => obtain ⟨d, r⟩ := p; cases d <;> rfl
theorem w_cNot {f : C Bool} : wp (cNot f) ρ QB = wp f ρ fun d ρ1 => QB (!d) ρ1 := by
  unfold wp cNot; cases f ρ <;> rfl
theorem w_cAnd {f g : C Bool} : wp (cAnd f g) ρ QB = wp f ρ fun b ρ1 => if b = true then wp g ρ1 QB else QB false ρ1 := by
  unfold wp cAnd; cases f ρ with
  | none => rfl
  | some p => obtain ⟨d, r⟩ := p; cases d <;> rfl
theorem w_cOr {f g : C Bool} : wp (cOr f g) ρ QB = wp f ρ fun b ρ1 => if b = true then QB true ρ1 else wp g ρ1 QB := by
  unfold wp cOr; cases f ρ with
  | none => rfl
  | some p => obtain ⟨d, r⟩ := p; cases d <;> rfl
theorem w_cYes : wp cYes ρ QB = QB true ρ := rfl
theorem w_eAndV {f g : C D} : wp (eAndV f g) ρ QD = wp f ρ fun d ρ1 => (match d with | .bl b => if b = true then wp g ρ1 QD else QD (.bl false) ρ1 | _ => False) := by
  unfold wp eAndV; cases f ρ with
  | none => rfl
  | some p => obtain ⟨d, r⟩ := p; cases d with
    | bl b => cases b <;> rfl
    | _ => rfl
theorem w_eOrV {f g : C D} : wp (eOrV f g) ρ QD = wp f ρ fun d ρ1 => (match d with | .bl b => if b = true then QD (.bl true) ρ1 else wp g ρ1 QD | _ => False) := by
  unfold wp eOrV; cases f ρ with
  | none => rfl
  | some p => obtain ⟨d, r⟩ := p; cases d with
    | bl b => cases b <;> rfl
    | _ => rfl
theorem w_eNotV {f : C D} : wp (eNotV f) ρ QD = wp f ρ fun d ρ1 => (match d with | .bl b => QD (.bl (!b)) ρ1 | _ => False) := by
  unfold wp eNotV; cases f ρ with
  | none => rfl
  | some p => obtain ⟨d, r⟩ := p; cases d <;> rfl
theorem w_eIf {c : C Bool} {f g : C D} : wp (eIf c f g) ρ QD = wp c ρ fun b ρ1 => if b = true then wp f ρ1 QD else wp g ρ1 QD := by
  unfold wp eIf; cases c ρ with
  | none => rfl
  | some p => obtain ⟨d, r⟩ := p; cases d <;> rfl
theorem w_eOwnIdx {i : Nat} {f : C D} : wp (eOwnIdx i f) ρ QD = ((pVar i ρ).isSome = true ∧ wp f ρ fun k ρ1 => (match k with | .int k => (match ρ1[i]? with | some (.own ds) => ho (atI ds k) fun d => QD d ρ1 | some (.ino ds) => ho (atI ds k) fun d => QD d ρ1 | _ => False) | _ => False)) := by
  unfold wp eOwnIdx; cases h0 : pVar i ρ with
  | none => simp
  | some z => cases f ρ with
    | none => simp
    | some p => obtain ⟨d, r⟩ := p; cases d with
      | int k => cases h1 : r[i]? with
        | none => simp [h1]
        | some s => cases s with
          | own ds => cases h2 : atI ds k <;> simp [h1, h2]
          | ino ds => cases h2 : atI ds k <;> simp [h1, h2]
          | _ => simp [h1]
      | _ => simp
theorem w_eOwnBin {fn : D → D → Option D} {i : Nat} {g : C D} : wp (eOwnBin fn i g) ρ QD = ((pVar i ρ).isSome = true ∧ wp g ρ fun e ρ1 => ho (ownAt ρ1 i) fun ds => ho (fn (.lst ds) e) fun r => flatD r = true ∧ QD r ρ1) := by
  unfold wp eOwnBin ho; cases h0 : pVar i ρ with
  | none => simp
  | some z => cases g ρ with
    | none => simp
    | some p => obtain ⟨d, r⟩ := p; cases h1 : ownAt r i with
      | none => simp [h1]
      | some ds => cases h2 : fn (.lst ds) d with
        | none => simp [h1, h2]
        | some q => cases hq : flatD q <;> simp [h1, h2, hq]
theorem w_eP {p : Rho → Option D} : wp (eP p) ρ QD = ho (p ρ) fun d => QD d ρ := by
  unfold wp eP ho; cases h : p ρ <;> simp [h]
theorem w_qNone {Q : Option Int → Rho → Prop} : wp qNone ρ Q = Q none ρ := rfl
theorem w_qSome {f : C D} {Q : Option Int → Rho → Prop} : wp (qSome f) ρ Q = wp f ρ fun d ρ1 => (match d with | .int i => Q (some i) ρ1 | _ => False) := by
  unfold wp qSome; cases f ρ with
  | none => rfl
  | some p => obtain ⟨d, r⟩ := p; cases d <;> rfl
theorem w_eCut {f : C D} {l h : C (Option Int)} : wp (eCut f l h) ρ QD = wp f ρ fun d ρ1 => wp l ρ1 fun lo ρ2 => wp h ρ2 fun hi ρ3 => ho (fCut d lo hi) fun r => QD r ρ3 := by
  unfold wp eCut ho; cases f ρ with
  | none => rfl
  | some p => obtain ⟨d, r⟩ := p; cases h1 : l r with
    | none => simp [h1]
    | some q => obtain ⟨lo, r2⟩ := q; cases h2 : h r2 with
      | none => simp [h1, h2]
      | some q2 => obtain ⟨hi, r3⟩ := q2; cases h3 : fCut d lo hi <;> simp [h1, h2, h3]
theorem w_oCut {f : C D} {l h : C (Option Int)} : wp (oCut f l h) ρ QL = wp f ρ fun d ρ1 => wp l ρ1 fun lo ρ2 => wp h ρ2 fun hi ρ3 => ho (gCut d lo hi) fun r => QL r ρ3 := by
  unfold wp oCut ho; cases f ρ with
  | none => rfl
  | some p => obtain ⟨d, r⟩ := p; cases h1 : l r with
    | none => simp [h1]
    | some q => obtain ⟨lo, r2⟩ := q; cases h2 : h r2 with
      | none => simp [h1, h2]
      | some q2 => obtain ⟨hi, r3⟩ := q2; cases h3 : gCut d lo hi <;> simp [h1, h2, h3]
theorem w_eChain {fn fn' : D → D → Option D} {f g h : C D} : wp (eChain fn fn' f g h) ρ QD = wp f ρ fun d ρ1 => wp g ρ1 fun e ρ2 => ho (fn d e) fun b => (match b with | .bl b => if b = true then wp h ρ2 fun c ρ3 => ho (fn' e c) fun r => QD r ρ3 else QD (.bl false) ρ2 | _ => False) := by
  unfold wp eChain ho; cases f ρ with
  | none => rfl
  | some p => obtain ⟨d, r⟩ := p; cases h1 : g r with
    | none => simp [h1]
    | some q => obtain ⟨e, r2⟩ := q; cases h2 : fn d e with
      | none => simp [h1, h2]
      | some b => cases b with
        | bl b => (cases b with
          | false => simp [h1, h2]
          | true => (cases h3 : h r2 with
            | none => simp [h1, h2, h3]
            | some q2 => obtain ⟨c, r3⟩ := q2; cases h4 : fn' e c <;> simp [h1, h2, h3, h4]))
        | _ => simp [h1, h2]
theorem w_iAny {f : C D} : wp (iAny f) ρ QL = wp f ρ fun d ρ1 => ho (itemsD d) fun ds => QL ds ρ1 := by
  unfold wp iAny ho; cases f ρ with
  | none => rfl
  | some p => obtain ⟨d, r⟩ := p; cases h : itemsD d <;> simp [h]
theorem w_iRange1 {f : C (List D)} : wp (iRange1 f) ρ QL = wp f ρ fun ds ρ1 => (match ds with | [.int j] => big62 j = true ∧ QL (rangeD 0 j.toNat) ρ1 | _ => False) := by
  unfold wp iRange1; cases f ρ with
  | none => rfl
  | some p => obtain ⟨d, r⟩ := p; simp only; split <;> rename_i e <;> split at e <;> simp_all <;> split at e <;> simp_all
theorem w_iRange2 {f : C (List D)} : wp (iRange2 f) ρ QL = wp f ρ fun ds ρ1 => (match ds with | [.int i, .int j] => (big62 i && big62 j) = true ∧ QL (rangeD i (j - i).toNat) ρ1 | _ => False) := by
  unfold wp iRange2; cases f ρ with
  | none => rfl
  | some p => obtain ⟨d, r⟩ := p; simp only; split <;> rename_i e <;> split at e <;> simp_all <;> split at e <;> simp_all
theorem w_iRange3 {f : C (List D)} : wp (iRange3 f) ρ QL = wp f ρ fun ds ρ1 => (match ds with | [.int i, .int j, .int c] => (big62 i && big62 j && c == -1) = true ∧ QL (downD i (i - j).toNat) ρ1 | _ => False) := by
  unfold wp iRange3; cases f ρ with
  | none => rfl
  | some p => obtain ⟨d, r⟩ := p; simp only; split <;> rename_i e <;> split at e <;> simp_all <;> split at e <;> simp_all
theorem w_eCallS {i : Nat} {m : List D → List D → Option (D × List D)} {f : C (List D)} : wp (eCallS i m f) ρ QD = ((pVar i ρ).isSome = true ∧ wp f ρ fun ds ρ1 => (match ρ1[i]? with
    | some (.own src) => ho (m src ds) fun p => QD p.1 (ρ1.set i (.own p.2)) | some (.ino src) => ho (m src ds) fun p => QD p.1 (ρ1.set i (.ino p.2)) | _ => False)) := by
  unfold wp eCallS ho; cases h0 : pVar i ρ with
  | none => simp
  | some z => cases f ρ with
    | none => simp
    | some p => obtain ⟨d, r⟩ := p; cases h1 : r[i]? with
      | none => simp [h1]
      | some s => cases s with
        | own ds => cases h2 : m ds d <;> simp [h1, h2]
        | ino ds => cases h2 : m ds d <;> simp [h1, h2]
        | _ => simp [h1]
def wl (vs : List Nat) (b : D → Rho → Option Rho) (tt : C Bool) (f : C D) (ds : List D) (ρ : Rho) (Q : List D → Rho → Prop) : Prop := ho (lcL vs b tt f ds ρ) fun p => Q p.1 p.2
theorem w_oComp {vs : List Nat} {it : C (List D)} {b : D → Rho → Option Rho} {tt : C Bool} {f : C D} : wp (oComp vs it b tt f) ρ QL = wp it ρ fun ds ρ1 => vs.all (datSlot ρ1) = true ∧ ds.length ≤ lim ∧ wl vs b tt f ds (wipeR vs ρ1) fun ys ρ2 => QL ys (backR vs ρ1 ρ2) := by
  unfold wl wp oComp ho; cases it ρ with
  | none => rfl
  | some p => obtain ⟨d, r⟩ := p; cases h1 : vs.all (datSlot r) with
    | false => simp [h1]
    | true => by_cases h2 : d.length ≤ lim
              · cases h3 : lcL vs b tt f d (wipeR vs r) <;> simp [h1, h2, h3]
              · simp [h1, h2]
theorem wl_mono {vs : List Nat} {b : D → Rho → Option Rho} {tt : C Bool} {f : C D} {ds : List D} {Q R : List D → Rho → Prop} (h : wl vs b tt f ds ρ Q) (i : ∀ ys r, Q ys r → R ys r) : wl vs b tt f ds ρ R := by
  unfold wl at *; exact ho_mono h fun p h => i _ _ h
theorem wl_nil {vs : List Nat} {b : D → Rho → Option Rho} {tt : C Bool} {f : C D} {Q : List D → Rho → Prop} : wl vs b tt f [] ρ Q = Q [] ρ := rfl
theorem wl_cons {vs : List Nat} {b : D → Rho → Option Rho} {tt : C Bool} {f : C D} {d : D} {ds : List D} {Q : List D → Rho → Prop} : wl vs b tt f (d :: ds) ρ Q = ho (b d ρ) fun ρ1 => wp tt ρ1 fun c ρ2 => if c = true then wp f ρ2 fun y ρ3 => wl vs b tt f ds (wipeR vs ρ3) fun ys ρ4 => Q (y :: ys) ρ4 else wl vs b tt f ds (wipeR vs ρ2) Q := by
  unfold wl wp ho; simp only [lcL]; cases h1 : b d ρ with
  | none => simp
  | some r1 => cases h2 : tt r1 with
    | none => simp [h2]
    | some p => obtain ⟨c, r2⟩ := p; cases c with
      | false => simp [h2]
      | true => cases h3 : f r2 with
        | none => simp [h2, h3]
        | some p3 => obtain ⟨y, r3⟩ := p3; cases h4 : lcL vs b tt f ds (wipeR vs r3) <;> simp [h2, h3, h4]
theorem w_bName {i : Nat} {d : D} {Q : Rho → Prop} : ho (bName i d ρ) Q = oN (ρ[i]?) (Q (ρ.set i (.dat d))) := by
  unfold bName ho oN; cases ρ[i]? with
  | none => rfl
  | some s => cases s <;> rfl
theorem w_bNil {ds : List D} {Q : Rho → Prop} : ho (bNil ds ρ) Q = (ds = [] ∧ Q ρ) := by
  unfold bNil ho; cases ds <;> simp
theorem w_bCons {b : D → Rho → Option Rho} {bs : List D → Rho → Option Rho} {d : D} {ds : List D} {Q : Rho → Prop} : ho (bCons b bs (d :: ds) ρ) Q = ho (b d ρ) fun ρ1 => ho (bs ds ρ1) Q := by
  unfold bCons ho; cases h : b d ρ <;> simp [h]
theorem w_bTup {n : Nat} {bs : List D → Rho → Option Rho} {ds : List D} {Q : Rho → Prop} : ho (bTup n bs (.tup ds) ρ) Q = (ds.length = n ∧ ho (bs ds ρ) Q) := by
  unfold bTup ho; by_cases h : ds.length = n <;> simp [h]
/-! statements -/
def seqO (o : Out) (k : Rho → Prop) (Q : Out → Prop) : Prop := match o with | .nx ρ => k ρ | o => Q o
@[simp] theorem seqO_nx {k : Rho → Prop} {Q : Out → Prop} : seqO (.nx ρ) k Q = k ρ := rfl
@[simp] theorem seqO_rt {d : D} {k : Rho → Prop} {Q : Out → Prop} : seqO (.rt d ρ) k Q = Q (.rt d ρ) := rfl
@[simp] theorem seqO_bk {k : Rho → Prop} {Q : Out → Prop} : seqO (.bk ρ) k Q = Q (.bk ρ) := rfl
@[simp] theorem seqO_ct {k : Rho → Prop} {Q : Out → Prop} : seqO (.ct ρ) k Q = Q (.ct ρ) := rfl
theorem s_sNil : ws sNil ρ QO = QO (.nx ρ) := rfl
theorem s_sSeq {f g : S} : ws (sSeq f g) ρ QO = ws f ρ fun o => seqO o (fun ρ1 => ws g ρ1 QO) QO := by
  unfold ws sSeq seqO; cases f ρ with
  | none => rfl
  | some o => cases o <;> rfl
theorem s_sNever : ws sNever ρ QO = False := rfl
theorem s_sBreak : ws sBreak ρ QO = QO (.bk ρ) := rfl
theorem s_sCont : ws sCont ρ QO = QO (.ct ρ) := rfl
theorem s_sIf {c : C Bool} {f g : S} : ws (sIf c f g) ρ QO = wp c ρ fun b ρ1 => if b = true then ws f ρ1 QO else ws g ρ1 QO := by
  unfold ws wp sIf; cases c ρ with
  | none => rfl
  | some p => obtain ⟨b, r⟩ := p; cases b <;> rfl
theorem s_sDrop {f : C D} : ws (sDrop f) ρ QO = wp f ρ fun _ ρ1 => QO (.nx ρ1) := by
  unfold ws wp sDrop; cases f ρ <;> rfl
theorem s_sRet {f : C D} : ws (sRet f) ρ QO = wp f ρ fun d ρ1 => QO (.rt d ρ1) := by
  unfold ws wp sRet; cases f ρ <;> rfl
theorem s_sRetN : ws sRetN ρ QO = QO (.rt .non ρ) := rfl
theorem s_sRetO {f : C (List D)} : ws (sRetO f) ρ QO = wp f ρ fun d ρ1 => QO (.rt (.lst d) ρ1) := by
  unfold ws wp sRetO; cases f ρ <;> rfl
theorem s_sRetV {i : Nat} : ws (sRetV i) ρ QO = match ρ[i]? with | some (.own ds) => QO (.rt (.lst ds) ρ) | _ => False := by
  unfold ws sRetV; split <;> split at * <;> simp_all
theorem s_sSet {i : Nat} {f : C D} : ws (sSet i f) ρ QO = wp f ρ fun d ρ1 => oN (ρ1[i]?) (QO (.nx (ρ1.set i (.dat d)))) := by
  unfold ws wp sSet oN; cases f ρ with
  | none => rfl
  | some p => obtain ⟨d, r⟩ := p; cases h : r[i]? with
    | none => simp [h]
    | some s => cases s <;> simp [h]
theorem s_sSetO {i : Nat} {f : C (List D)} : ws (sSetO i f) ρ QO = wp f ρ fun d ρ1 => oN (ρ1[i]?) (QO (.nx (ρ1.set i (.own d)))) := by
  unfold ws wp sSetO oN; cases f ρ with
  | none => rfl
  | some p => obtain ⟨d, r⟩ := p; cases h : r[i]? with
    | none => simp [h]
    | some s => cases s <;> simp [h]
theorem s_sUnpack {f : C D} {b : D → Rho → Option Rho} : ws (sUnpack f b) ρ QO = wp f ρ fun d ρ1 => ho (b d ρ1) fun ρ2 => QO (.nx ρ2) := by
  unfold ws wp sUnpack ho; cases f ρ with
  | none => rfl
  | some p => obtain ⟨d, r⟩ := p; cases h : b d r <;> simp [h]
theorem s_sParD {is : List Nat} {f : C (List D)} : ws (sParD is f) ρ QO = wp f ρ fun ds ρ1 => ho (setD is ds ρ1) fun ρ2 => QO (.nx ρ2) := by
  unfold ws wp sParD ho; cases f ρ with
  | none => rfl
  | some p => obtain ⟨d, r⟩ := p; cases h : setD is d r <;> simp [h]
theorem w_setD_nil {Q : Rho → Prop} : ho (setD [] [] ρ) Q = Q ρ := rfl
theorem w_setD_cons {i : Nat} {is : List Nat} {d : D} {ds : List D} {Q : Rho → Prop} : ho (setD (i :: is) (d :: ds) ρ) Q = oN (ρ[i]?) (ho (setD is ds (ρ.set i (.dat d))) Q) := by
  unfold ho oN; simp only [setD]; cases ρ[i]? with
  | none => rfl
  | some s => cases s <;> rfl
theorem w_vDat {f : C D} {Q : Sl → Rho → Prop} : wp (vDat f) ρ Q = wp f ρ fun d ρ1 => Q (.dat d) ρ1 := by unfold wp vDat; cases f ρ <;> rfl
theorem w_vOwn {f : C (List D)} {Q : Sl → Rho → Prop} : wp (vOwn f) ρ Q = wp f ρ fun d ρ1 => Q (.own d) ρ1 := by unfold wp vOwn; cases f ρ <;> rfl
theorem s_sPar2 {i j : Nat} {f g : C Sl} : ws (sPar2 i j f g) ρ QO = wp f ρ fun r ρ1 => wp g ρ1 fun u ρ2 => (okSlot ρ2 i && okSlot ρ2 j) = true ∧ QO (.nx ((ρ2.set i r).set j u)) := by
  unfold ws wp sPar2; cases f ρ with
  | none => rfl
  | some p => obtain ⟨d, r⟩ := p; cases h : g r with
    | none => simp [h]
    | some q => obtain ⟨u, r2⟩ := q; cases h2 : (okSlot r2 i && okSlot r2 j) <;> simp [h, h2]
theorem s_sAppend {i : Nat} {f : C D} : ws (sAppend i f) ρ QO = (match ρ[i]? with | some (.own _) => wp f ρ fun d ρ1 => (match ρ1[i]? with | some (.own ds) => ds.length < lim ∧ QO (.nx (ρ1.set i (.own (ds ++ [d])))) | _ => False) | _ => False) := by
  unfold ws wp sAppend; cases h0 : ρ[i]? with
  | none => simp
  | some s => cases s with
    | own z => (cases f ρ with
      | none => simp
      | some p => obtain ⟨d, r⟩ := p; cases h : r[i]? with
        | none => simp [h]
        | some s => cases s with
          | own ds => by_cases h2 : ds.length < lim <;> simp [h, h2]
          | _ => simp [h])
    | _ => simp
theorem s_sSetIx {i : Nat} {f g : C D} : ws (sSetIx i f g) ρ QO = wp f ρ fun d ρ1 => ((pVar i ρ1).isSome = true ∧ wp g ρ1 fun k ρ2 => (match k with | .int k => (match ρ2[i]? with
    | some (.own ds) => ho (ixN ds.length k) fun j => QO (.nx (ρ2.set i (.own (ds.set j d)))) | some (.ino ds) => ho (ixN ds.length k) fun j => QO (.nx (ρ2.set i (.ino (ds.set j d)))) | _ => False) | _ => False)) := by
  unfold ws wp sSetIx; cases f ρ with
  | none => rfl
  | some p => obtain ⟨d, r⟩ := p; cases h0 : pVar i r with
    | none => simp [h0]
    | some z => cases h1 : g r with
      | none => simp [h0, h1]
      | some q => obtain ⟨k, r2⟩ := q; cases k with
        | int k => cases h2 : r2[i]? with
          | none => simp [h0, h1, h2]
          | some s => cases s with
            | own ds => cases h3 : ixN ds.length k <;> simp [h0, h1, h2, h3]
            | ino ds => cases h3 : ixN ds.length k <;> simp [h0, h1, h2, h3]
            | _ => simp [h0, h1, h2]
        | _ => simp [h0, h1]
theorem s_sFor {f : C (List D)} {b : D → Rho → Option Rho} {g : S} : ws (sFor f b g) ρ QO = wp f ρ fun ds ρ1 => ws (forL b g ds) ρ1 QO := by
  unfold ws wp sFor; cases f ρ <;> rfl
def lpO (o : Out) (k : Rho → Prop) (Q : Out → Prop) : Prop := match o with | .nx ρ => k ρ | .ct ρ => k ρ | .bk ρ => Q (.nx ρ) | .rt d ρ => Q (.rt d ρ)
@[simp] theorem lpO_nx {k : Rho → Prop} {Q : Out → Prop} : lpO (.nx ρ) k Q = k ρ := rfl
@[simp] theorem lpO_ct {k : Rho → Prop} {Q : Out → Prop} : lpO (.ct ρ) k Q = k ρ := rfl
@[simp] theorem lpO_bk {k : Rho → Prop} {Q : Out → Prop} : lpO (.bk ρ) k Q = Q (.nx ρ) := rfl
@[simp] theorem lpO_rt {d : D} {k : Rho → Prop} {Q : Out → Prop} : lpO (.rt d ρ) k Q = Q (.rt d ρ) := rfl
theorem s_forL_nil {b : D → Rho → Option Rho} {g : S} : ws (forL b g []) ρ QO = QO (.nx ρ) := rfl
theorem s_forL_cons {b : D → Rho → Option Rho} {g : S} {d : D} {ds : List D} : ws (forL b g (d :: ds)) ρ QO = ho (b d ρ) fun ρ1 => ws g ρ1 fun o => lpO o (fun ρ2 => ws (forL b g ds) ρ2 QO) QO := by
  unfold ws ho lpO; simp only [forL]; cases h1 : b d ρ with
  | none => simp
  | some r1 => cases h2 : g r1 with
    | none => simp [h2]
    | some o => cases o <;> simp [h2]
end
theorem ho_mA {np nl : Nat} {g : S} {ds : List D} {Q : D → Prop} : ho (mA np nl g ds) Q = (ds.length = np ∧ ws g (frame nl ds) fun o => match o with | .rt d _ => Q d | .nx _ => Q .non | _ => False) := by
  unfold mA ho ws; by_cases h : ds.length = np
  · cases h1 : g (frame nl ds) with
    | none => simp [h, h1]
    | some o => cases o <;> simp [h, h1]
  · simp [h]
theorem ho_mO {np nl : Nat} {g : S} {ds : List D} {Q : List D → Prop} : ho (mO np nl g ds) Q = (ds.length = np ∧ ws g (frame nl ds) fun o => match o with | .rt (.lst d) _ => Q d | _ => False) := by
  unfold mO ho ws; by_cases h : ds.length = np
  · cases h1 : g (frame nl ds) with
    | none => simp [h, h1]
    | some o => cases o with
      | rt d r => cases d <;> simp [h, h1]
      | _ => simp [h, h1]
  · simp [h]
theorem ho_mB {np nl : Nat} {g : S} {src ds : List D} {Q : D × List D → Prop} : ho (mB np nl g src ds) Q = (ds.length + 1 = np ∧ ws g (.ino src :: frame (nl - 1) ds) fun o => match o with
    | .rt d ρ => (match ρ[0]? with | some (Sl.ino s) => Q (d, s) | _ => False) | .nx ρ => (match ρ[0]? with | some (Sl.ino s) => Q (.non, s) | _ => False) | _ => False) := by
  unfold mB ho ws; by_cases h : ds.length + 1 = np
  · cases h1 : g (.ino src :: frame (nl - 1) ds) with
    | none => simp [h, h1]
    | some o => cases o with
      | rt d r => (cases h2 : r[0]? with
        | none => simp [h, h1, h2]
        | some s => cases s <;> simp [h, h1, h2])
      | nx r => (cases h2 : r[0]? with
        | none => simp [h, h1, h2]
        | some s => cases s <;> simp [h, h1, h2])
      | _ => simp [h, h1]
  · simp [h]
theorem ws_seq {f g : S} {ρ : Rho} {Q : Out → Prop} (J : Rho → Prop) (h1 : ws f ρ fun o => seqO o J Q) (h2 : ∀ ρ1, J ρ1 → ws g ρ1 Q) : ws (sSeq f g) ρ Q := by
  rw [s_sSeq]
  refine ws_mono h1 fun o h => ?_
  cases o with
  | nx r => exact h2 r h
  | rt d r => exact h
  | bk r => exact h
  | ct r => exact h
/-! loops by what holds between their rounds -/
theorem ws_forL {b : D → Rho → Option Rho} {g : S} {Q : Out → Prop} (I : List D → Rho → Prop) (hc : ∀ d ds ρ, I (d :: ds) ρ → ho (b d ρ) fun ρ1 => ws g ρ1 fun o => lpO o (fun ρ2 => I ds ρ2) Q) (h0 : ∀ ρ, I [] ρ → Q (.nx ρ)) :
    ∀ ds ρ, I ds ρ → ws (forL b g ds) ρ Q
  | [], ρ, h => by rw [s_forL_nil]; exact h0 ρ h
  | d :: ds, ρ, h => by
    rw [s_forL_cons]
    refine ho_mono (hc d ds ρ h) fun ρ1 h1 => ws_mono h1 fun o h2 => ?_
    cases o with
    | nx r => exact ws_forL I hc h0 ds r h2
    | ct r => exact ws_forL I hc h0 ds r h2
    | bk r => exact h2
    | rt d r => exact h2
theorem ws_each {b : D → Rho → Option Rho} {g : S} {Q : Out → Prop} (I : Rho → Prop) {ds : List D} {ρ : Rho} (h : I ρ) (hc : ∀ d, d ∈ ds → ∀ ρ, I ρ → ho (b d ρ) fun ρ1 => ws g ρ1 fun o => lpO o I Q) (h0 : ∀ ρ, I ρ → Q (.nx ρ)) : ws (forL b g ds) ρ Q := by
  refine ws_forL (fun es ρ => (∀ d, d ∈ es → d ∈ ds) ∧ I ρ) (fun d es ρ k => ?_) (fun ρ k => h0 ρ k.2) ds ρ ⟨fun d z => z, h⟩
  refine ho_mono (hc d (k.1 d (.head _)) ρ k.2) fun ρ1 h1 => ws_mono h1 fun o h2 => ?_
  cases o with
  | nx r => exact ⟨fun d z => k.1 d (.tail _ z), h2⟩
  | ct r => exact ⟨fun d z => k.1 d (.tail _ z), h2⟩
  | bk r => exact h2
  | rt d r => exact h2
theorem wl_each {vs : List Nat} {b : D → Rho → Option Rho} {tt : C Bool} {f : C D} (I : Rho → Prop) (Y : D → Prop) {Q : List D → Rho → Prop} {ρ : Rho} (h : I ρ) : ∀ {ds : List D}, (∀ d, d ∈ ds → ∀ ρ, I ρ → ho (b d ρ) fun ρ1 => wp tt ρ1 fun c ρ2 => if c = true then wp f ρ2 fun y ρ3 => Y y ∧ I (wipeR vs ρ3) else I (wipeR vs ρ2)) →
    (∀ ys ρ, I ρ → (∀ y, y ∈ ys → Y y) → ys.length ≤ ds.length → Q ys ρ) → wl vs b tt f ds ρ Q := by
  intro ds hc hq
  induction ds generalizing ρ Q with
  | nil => rw [wl_nil]; exact hq _ _ h (fun _ z => by cases z) (Nat.le_refl _)
  | cons d ds ih =>
    rw [wl_cons]
    refine ho_mono (hc d (.head _) ρ h) fun ρ1 h1 => wp_mono h1 fun c ρ2 h2 => ?_
    cases c with
    | false => exact ih h2 (fun e z => hc e (.tail _ z)) fun ys r k1 k2 k3 => hq ys r k1 k2 (by simp; omega)
    | true => 
      refine wp_mono h2 fun y ρ3 h3 => ih h3.2 (fun e z => hc e (.tail _ z)) fun ys r k1 k2 k3 => hq (y :: ys) r k1 (fun e z => ?_) (by simp; omega)
      cases z with
      | head => exact h3.1
      | tail _ z => exact k2 e z
theorem wl_fix {vs : List Nat} {b : D → Rho → Option Rho} {tt : C Bool} {f : C D} {w : Rho} (p : D → Bool) (q : D → D) {Q : List D → Rho → Prop} : ∀ {ds : List D}, (∀ d, d ∈ ds → ho (b d w) fun ρ1 => wp tt ρ1 fun c ρ2 => c = p d ∧ if c = true then wp f ρ2 fun y ρ3 => y = q d ∧ wipeR vs ρ3 = w else wipeR vs ρ2 = w) →
    Q ((ds.filter p).map q) w → wl vs b tt f ds w Q := by
  intro ds hc hq
  induction ds generalizing Q with
  | nil => rw [wl_nil]; exact hq
  | cons d ds ih =>
    rw [wl_cons]
    refine ho_mono (hc d (.head _)) fun ρ1 h1 => wp_mono h1 fun c ρ2 h2 => ?_
    obtain ⟨h2, h3⟩ := h2
    cases c with
    | false => 
      simp only [Bool.false_eq_true, if_false] at h3 ⊢
      rw [h3]; refine ih (fun e z => hc e (.tail _ z)) ?_
      simpa [← h2] using hq
    | true => 
      simp only [if_true] at h3 ⊢
      refine wp_mono h3 fun y ρ3 h4 => ?_
      rw [h4.2, h4.1]; refine ih (fun e z => hc e (.tail _ z)) ?_
      simpa [← h2] using hq
/-! what is to be proved by hand is kept out of simp's sight -/
class Pr (α : Type) where
  q : α → Prop
def Frz {α : Type} (o : Option α) [i : Pr α] : Prop := ho o i.q
theorem frz {α : Type} (o : Option α) (Q : α → Prop) : ho o Q = @Frz α o ⟨Q⟩ := rfl
def WsF (b : D → Rho → Option Rho) (g : S) (ds : List D) (ρ : Rho) [i : Pr Out] : Prop := ws (forL b g ds) ρ i.q
theorem wsF {b : D → Rho → Option Rho} {g : S} {ds : List D} {ρ : Rho} {Q : Out → Prop} : ws (forL b g ds) ρ Q = @WsF b g ds ρ ⟨Q⟩ := rfl
def WlF (vs : List Nat) (b : D → Rho → Option Rho) (tt : C Bool) (f : C D) (ds : List D) (ρ : Rho) [i : Pr (List D × Rho)] : Prop := wl vs b tt f ds ρ fun x y => i.q (x, y)
theorem wlF {vs : List Nat} {b : D → Rho → Option Rho} {tt : C Bool} {f : C D} {ds : List D} {ρ : Rho} {Q : List D → Rho → Prop} : wl vs b tt f ds ρ Q = @WlF vs b tt f ds ρ ⟨fun p => Q p.1 p.2⟩ := rfl
def WhF (c : C Bool) (g : S) (ρ : Rho) [i : Pr Out] : Prop := ws (sWhile c g) ρ i.q
theorem whF {c : C Bool} {g : S} {ρ : Rho} {Q : Out → Prop} : ws (sWhile c g) ρ Q = @WhF c g ρ ⟨Q⟩ := rfl
end PD

namespace PD
open PySem L2
/-! ### plain facts that the laws share -/
theorem atI_pos {α : Type} {xs : List α} {i : Int} (h0 : 0 ≤ i) : atI xs i = xs[i.toNat]? := by
  unfold atI ixN; rw [if_pos h0]
  by_cases h : i < xs.length
  · rw [if_pos h]; rfl
  · rw [if_neg h]; simp; omega
theorem atN {α : Type} {xs : List α} {k : Nat} : atI xs (k : Int) = xs[k]? := by rw [atI_pos (by omega)]; rfl
theorem cut_take {α : Type} {xs : List α} {i : Int} (h0 : 0 ≤ i) : cutL xs none (some i) = xs.take i.toNat := by
  obtain ⟨k, rfl⟩ : ∃ k : Nat, i = k := ⟨i.toNat, by omega⟩
  unfold cutL; rw [HT.sIx_none, HT.sIx_nat]; simp
theorem cut_drop {α : Type} {xs : List α} {i : Int} (h0 : 0 ≤ i) : cutL xs (some i) none = xs.drop i.toNat := by
  obtain ⟨k, rfl⟩ : ∃ k : Nat, i = k := ⟨i.toNat, by omega⟩
  unfold cutL; rw [HT.sIx_none, HT.sIx_nat]; simp
  rw [List.take_of_length_le (by simp)]
  rw [Nat.min_def]; split
  · rfl
  · rw [List.drop_of_length_le (by omega), List.drop_of_length_le (by omega)]
theorem big_small {i : Int} (h : -4000000000 ≤ i) (h2 : i ≤ 4000000000) : big62 i = true := by
  unfold big62; simp; omega
theorem sm_ok {i : Int} (h : -4000000000 ≤ i) (h2 : i ≤ 1000000000000000000) : PD.small64 i = true := by
  unfold PD.small64; simp; omega
theorem mem_rangeD {d : D} {lo : Int} {n : Nat} : d ∈ rangeD lo n ↔ ∃ k : Nat, k < n ∧ d = .int (lo + k) := by
  unfold rangeD; simp [List.mem_map]; exact ⟨fun ⟨a, h, e⟩ => ⟨a, h, e.symm⟩, fun ⟨a, h, e⟩ => ⟨a, h, e.symm⟩⟩
theorem len_rangeD {lo : Int} {n : Nat} : (rangeD lo n).length = n := by simp [rangeD]
theorem len_downD {lo : Int} {n : Nat} : (downD lo n).length = n := by simp [downD]
theorem rangeD_succ {lo : Int} {n : Nat} : rangeD lo (n + 1) = .int lo :: rangeD (lo + 1) n := by
  unfold rangeD; rw [List.range_succ_eq_map]; simp [Function.comp_def]; intro a _; omega
theorem downD_succ {lo : Int} {n : Nat} : downD lo (n + 1) = .int lo :: downD (lo - 1) n := by
  unfold downD; rw [List.range_succ_eq_map]; simp [Function.comp_def]; intro a _; omega
theorem rangeD_zero {lo : Int} : rangeD lo 0 = [] := rfl
theorem downD_zero {lo : Int} : downD lo 0 = [] := rfl
/-! the operations at the shapes that they take -/
section
variable {Q : D → Prop} {QL : List D → Prop}
theorem z_add_i {i j : Int} : ho (fAdd (.int i) (.int j)) Q = Q (.int (i + j)) := rfl
theorem z_add_s {s t : List Nat} : ho (fAdd (.str s) (.str t)) Q = (s.length + t.length ≤ lim ∧ Q (.str (s ++ t))) := by unfold fAdd ho; by_cases h : s.length + t.length ≤ lim <;> simp [h]
theorem z_add_t {s t : List D} : ho (fAdd (.tup s) (.tup t)) Q = (s.length + t.length ≤ lim ∧ Q (.tup (s ++ t))) := by unfold fAdd ho; by_cases h : s.length + t.length ≤ lim <;> simp [h]
theorem z_sub {i j : Int} : ho (fSub (.int i) (.int j)) Q = Q (.int (i - j)) := rfl
theorem z_mul_i {i j : Int} : ho (fMul (.int i) (.int j)) Q = ((PD.small64 i || PD.small64 j) = true ∧ Q (.int (i * j))) := by unfold fMul ho; by_cases h : (PD.small64 i || PD.small64 j) = true <;> simp only [h] <;> simp
theorem z_mul_s {s : List Nat} {j : Int} : ho (fMul (.str s) (.int j)) Q = ((0 ≤ j ∧ j ≤ 1000 ∧ s.length ≤ 1000) ∧ Q (.str (repN j.toNat s))) := by unfold fMul ho; by_cases h : 0 ≤ j ∧ j ≤ 1000 ∧ s.length ≤ 1000 <;> simp [h]
theorem z_div {i j : Int} : ho (fDiv (.int i) (.int j)) Q = ((0 < j ∧ j < 1073741824) ∧ Q (.int (i / j))) := by unfold fDiv ho; by_cases h : 0 < j ∧ j < 1073741824 <;> simp [h]
theorem z_mod {i j : Int} : ho (fMod (.int i) (.int j)) Q = (0 < j ∧ Q (.int (i % j))) := by unfold fMod ho; by_cases h : 0 < j <;> simp [h]
theorem z_pow {i j : Int} : ho (fPow (.int i) (.int j)) Q = ((0 ≤ j ∧ j ≤ 1000 ∧ i.natAbs < 2 ^ 64) ∧ Q (.int (i ^ j.toNat))) := by unfold fPow ho; by_cases h : 0 ≤ j ∧ j ≤ 1000 ∧ i.natAbs < 2 ^ 64 <;> simp only [h] <;> simp
theorem z_neg {i : Int} : ho (fNeg (.int i)) Q = Q (.int (-i)) := rfl
theorem z_eq_i {i j : Int} : ho (fEq (.int i) (.int j)) Q = Q (.bl (decide (i = j))) := rfl
theorem z_eq_s {i j : List Nat} : ho (fEq (.str i) (.str j)) Q = Q (.bl (decide (i = j))) := rfl
theorem z_eq_b {i j : Bool} : ho (fEq (.bl i) (.bl j)) Q = Q (.bl (decide (i = j))) := rfl
theorem z_eq_l {i j : List D} : ho (fEq (.lst i) (.lst j)) Q = ((okD (.lst i) && okD (.lst j)) = true ∧ Q (.bl (PyData.eqv (py (.lst i)) (py (.lst j))))) := by
  unfold fEq eqD ho; by_cases h : (okD (.lst i) && okD (.lst j)) = true <;> simp only [h] <;> simp
theorem z_eq_t {i j : List D} : ho (fEq (.tup i) (.tup j)) Q = ((okD (.tup i) && okD (.tup j)) = true ∧ Q (.bl (PyData.eqv (py (.tup i)) (py (.tup j))))) := by
  unfold fEq eqD ho; by_cases h : (okD (.tup i) && okD (.tup j)) = true <;> simp only [h] <;> simp
theorem z_ne_i {i j : Int} : ho (fNe (.int i) (.int j)) Q = Q (.bl (!decide (i = j))) := rfl
theorem z_ne_s {i j : List Nat} : ho (fNe (.str i) (.str j)) Q = Q (.bl (!decide (i = j))) := rfl
theorem z_ne_b {i j : Bool} : ho (fNe (.bl i) (.bl j)) Q = Q (.bl (!decide (i = j))) := rfl
theorem z_ne_l {i j : List D} : ho (fNe (.lst i) (.lst j)) Q = ((okD (.lst i) && okD (.lst j)) = true ∧ Q (.bl (!PyData.eqv (py (.lst i)) (py (.lst j))))) := by
  unfold fNe eqD ho; by_cases h : (okD (.lst i) && okD (.lst j)) = true <;> simp only [h] <;> simp
theorem z_ne_t {i j : List D} : ho (fNe (.tup i) (.tup j)) Q = ((okD (.tup i) && okD (.tup j)) = true ∧ Q (.bl (!PyData.eqv (py (.tup i)) (py (.tup j))))) := by
  unfold fNe eqD ho; by_cases h : (okD (.tup i) && okD (.tup j)) = true <;> simp only [h] <;> simp
theorem z_eq_ns {j : List Nat} : ho (fEq .non (.str j)) Q = Q (.bl false) := rfl
theorem z_eq_sn {j : List Nat} : ho (fEq (.str j) .non) Q = Q (.bl false) := rfl
theorem z_ne_ns {j : List Nat} : ho (fNe .non (.str j)) Q = Q (.bl true) := rfl
theorem z_ne_sn {j : List Nat} : ho (fNe (.str j) .non) Q = Q (.bl true) := rfl
theorem z_lt {i j : Int} : ho (fLt (.int i) (.int j)) Q = Q (.bl (decide (i < j))) := rfl
theorem z_le {i j : Int} : ho (fLe (.int i) (.int j)) Q = Q (.bl (decide (i ≤ j))) := rfl
theorem z_gt {i j : Int} : ho (fGt (.int i) (.int j)) Q = Q (.bl (decide (j < i))) := rfl
theorem z_ge {i j : Int} : ho (fGe (.int i) (.int j)) Q = Q (.bl (decide (j ≤ i))) := rfl
theorem z_idx_l {ds : List D} {i : Int} : ho (fIdx (.lst ds) (.int i)) Q = ho (atI ds i) Q := rfl
theorem z_idx_t {ds : List D} {i : Int} : ho (fIdx (.tup ds) (.int i)) Q = ho (atI ds i) Q := rfl
theorem z_idx_r {ds : List D} {i : Int} : ho (fIdx (.scr ds) (.int i)) Q = ho (atI ds i) Q := rfl
theorem z_idx_s {s : List Nat} {i : Int} : ho (fIdx (.str s) (.int i)) Q = (s.length ≤ lim ∧ ho (atI s i) fun c => Q (.str [c])) := by
  unfold fIdx ho; by_cases h : s.length ≤ lim <;> cases h2 : atI s i <;> simp [h, h2]
theorem z_len_s {s : List Nat} : ho (fLen [.str s]) Q = (s.length ≤ lim ∧ Q (.int s.length)) := by unfold fLen ho; by_cases h : s.length ≤ lim <;> simp [h]
theorem z_len_l {s : List D} : ho (fLen [.lst s]) Q = Q (.int s.length) := rfl
theorem z_len_t {s : List D} : ho (fLen [.tup s]) Q = Q (.int s.length) := rfl
theorem z_len_r {s : List D} : ho (fLen [.scr s]) Q = Q (.int s.length) := rfl
theorem z_abs {i : Int} : ho (fAbs [.int i]) Q = Q (.int (if i < 0 then -i else i)) := rfl
theorem z_min2 {i j : Int} : ho (fMin2 [.int i, .int j]) Q = Q (.int (if j < i then j else i)) := rfl
theorem z_max2 {i j : Int} : ho (fMax2 [.int i, .int j]) Q = Q (.int (if j > i then j else i)) := rfl
theorem z_int_i {i : Int} : ho (fInt1 [.int i]) Q = Q (.int i) := rfl
theorem z_int_b {i : Bool} : ho (fInt1 [.bl i]) Q = Q (.int (if i then 1 else 0)) := rfl
theorem z_cut_s {s : List Nat} {lo hi : Option Int} : ho (fCut (.str s) lo hi) Q = (s.length ≤ lim ∧ Q (.str (cutL s lo hi))) := by unfold fCut ho; by_cases h : s.length ≤ lim <;> simp [h]
theorem z_cut_t {s : List D} {lo hi : Option Int} : ho (fCut (.tup s) lo hi) Q = Q (.tup (cutL s lo hi)) := rfl
theorem z_gcut {s : List D} {lo hi : Option Int} : ho (gCut (.lst s) lo hi) QL = (s.length ≤ lim ∧ QL (cutL s lo hi)) := by unfold gCut ho; by_cases h : s.length ≤ lim <;> simp [h]
theorem z_rev {s : List Nat} : ho (fRev (.str s)) Q = (s.length ≤ lim ∧ Q (.str s.reverse)) := by unfold fRev ho; by_cases h : s.length ≤ lim <;> simp [h]
theorem z_grev {s : List D} : ho (gRev (.lst s)) QL = (s.length ≤ lim ∧ QL s.reverse) := by unfold gRev ho; by_cases h : s.length ≤ lim <;> simp [h]
theorem z_gadd {s t : List D} : ho (gAdd (.lst s) (.lst t)) QL = (s.length + t.length ≤ lim ∧ QL (s ++ t)) := by unfold gAdd ho; by_cases h : s.length + t.length ≤ lim <;> simp [h]
theorem z_gmul {s : List D} {j : Int} : ho (gMul (.lst s) (.int j)) QL = ((0 ≤ j ∧ j ≤ 1000 ∧ s.length ≤ 1000) ∧ QL (repN j.toNat s)) := by unfold gMul ho; by_cases h : 0 ≤ j ∧ j ≤ 1000 ∧ s.length ≤ 1000 <;> simp [h]
theorem z_list_l {s : List D} : ho (gList [.lst s]) QL = (s.length ≤ lim ∧ QL s) := by unfold gList ho; by_cases h : s.length ≤ lim <;> simp [h]
theorem z_list_t {s : List D} : ho (gList [.tup s]) QL = (s.length ≤ lim ∧ QL s) := by unfold gList ho; by_cases h : s.length ≤ lim <;> simp [h]
theorem z_list_s {s : List Nat} : ho (gList [.str s]) QL = (s.length ≤ lim ∧ QL (signsD s)) := by unfold gList ho; by_cases h : s.length ≤ lim <;> simp [h]
theorem z_tuple_l {s : List D} : ho (fTuple [.lst s]) Q = Q (.tup s) := rfl
theorem z_tuple_t {s : List D} : ho (fTuple [.tup s]) Q = Q (.tup s) := rfl
theorem z_all {s : List D} : ho (fAll [.lst s]) Q = ho (allB s) fun b => Q (.bl b) := by unfold fAll ho; cases h : allB s <;> simp [h]
theorem z_any {s : List D} : ho (fAny [.lst s]) Q = ho (anyB s) fun b => Q (.bl b) := by unfold fAny ho; cases h : anyB s <;> simp [h]
theorem z_sum {s : List D} : ho (fSum [.lst s]) Q = ho (intsD s) fun b => Q (.int b.sum) := by unfold fSum ho; cases h : intsD s <;> simp [h]
theorem z_maxl {s : List D} : ho (fMaxL [.lst s]) Q = ho (intsD s) fun b => ho (maxI b) fun m => Q (.int m) := by unfold fMaxL ho; cases h : intsD s with
  | none => simp [h]
  | some b => cases h2 : maxI b <;> simp [h, h2]
theorem z_minl {s : List D} : ho (fMinL [.lst s]) Q = ho (intsD s) fun b => ho (minI b) fun m => Q (.int m) := by unfold fMinL ho; cases h : intsD s with
  | none => simp [h]
  | some b => cases h2 : minI b <;> simp [h, h2]
theorem z_rfind {s : List Nat} {c : Nat} : ho (fRfind (.str s) (.str [c])) Q = Q (.int (rfindL c s)) := rfl
theorem z_join_l {sep : List Nat} {xs : List D} : ho (fJoin (.str sep) (.lst xs)) Q = ho (strsD xs) fun ss => (ss.map List.length).sum + ss.length * sep.length ≤ lim ∧ Q (.str (joinD sep ss)) := by
  unfold fJoin ho; cases h : strsD xs with
  | none => simp [h]
  | some ss => by_cases h2 : (ss.map List.length).sum + ss.length * sep.length ≤ lim <;> simp only [h, h2] <;> simp
theorem z_join_t {sep : List Nat} {xs : List D} : ho (fJoin (.str sep) (.tup xs)) Q = ho (strsD xs) fun ss => (ss.map List.length).sum + ss.length * sep.length ≤ lim ∧ Q (.str (joinD sep ss)) := by
  unfold fJoin ho; cases h : strsD xs with
  | none => simp [h]
  | some ss => by_cases h2 : (ss.map List.length).sum + ss.length * sep.length ≤ lim <;> simp only [h, h2] <;> simp
theorem z_in_s {c : Nat} {z : List Nat} : ho (fIn (.str [c]) (.str z)) Q = Q (.bl (decide (c ∈ z))) := rfl
theorem z_nin_s {c : Nat} {z : List Nat} : ho (fNotIn (.str [c]) (.str z)) Q = Q (.bl (!decide (c ∈ z))) := rfl
theorem z_in_t {d : D} {ds : List D} : ho (fIn d (.tup ds)) Q = ((flatD d && ds.all flatD) = true ∧ Q (.bl (ds.any fun y => eqF y d))) := by
  unfold fIn inD ho; by_cases h : (flatD d && ds.all flatD) = true <;> simp only [h] <;> simp
theorem z_nin_t {d : D} {ds : List D} : ho (fNotIn d (.tup ds)) Q = ((flatD d && ds.all flatD) = true ∧ Q (.bl (!ds.any fun y => eqF y d))) := by
  unfold fNotIn inD ho; by_cases h : (flatD d && ds.all flatD) = true <;> simp only [h] <;> simp
theorem z_in_l {d : D} {ds : List D} : ho (fIn d (.lst ds)) Q = (if (flatD d && ds.all flatD) = true then Q (.bl (ds.any fun y => eqF y d)) else (okD d && okD (.lst ds)) = true ∧ Q (.bl (ds.any fun y => PyData.eqv (py y) (py d)))) := by
  unfold fIn inD ho; by_cases h : (flatD d && ds.all flatD) = true
  · simp only [h]; simp
  · by_cases h2 : (okD d && okD (.lst ds)) = true <;> simp only [h, h2] <;> simp
theorem z_nin_l {d : D} {ds : List D} : ho (fNotIn d (.lst ds)) Q = (if (flatD d && ds.all flatD) = true then Q (.bl (!ds.any fun y => eqF y d)) else (okD d && okD (.lst ds)) = true ∧ Q (.bl (!ds.any fun y => PyData.eqv (py y) (py d)))) := by
  unfold fNotIn inD ho; by_cases h : (flatD d && ds.all flatD) = true
  · simp only [h]; simp
  · by_cases h2 : (okD d && okD (.lst ds)) = true <;> simp only [h, h2] <;> simp
theorem z_items_l {ds : List D} : ho (itemsD (.lst ds)) QL = QL ds := rfl
theorem z_items_t {ds : List D} : ho (itemsD (.tup ds)) QL = QL ds := rfl
theorem z_items_r {ds : List D} : ho (itemsD (.scr ds)) QL = QL ds := rfl
theorem z_items_s {s : List Nat} : ho (itemsD (.str s)) QL = QL (signsD s) := rfl
theorem z_isi0 {T : String} {d : D} (hd : noDct d = true) : ho (fIsi T d) Q = ho (kitB (tyD d) T) fun b => Q (.bl b) := by unfold fIsi ho; rw [if_pos hd]; cases h : kitB (tyD d) T <;> simp [h]
theorem z_isi_s {T : String} {s : List Nat} : ho (fIsi T (.str s)) Q = ho (kitB "str" T) fun b => Q (.bl b) := z_isi0 rfl
theorem z_isi_i {T : String} {i : Int} : ho (fIsi T (.int i)) Q = ho (kitB "int" T) fun b => Q (.bl b) := z_isi0 rfl
theorem z_isi_b {T : String} {b : Bool} : ho (fIsi T (.bl b)) Q = ho (kitB "bool" T) fun b => Q (.bl b) := z_isi0 rfl
theorem z_isi_n {T : String}  : ho (fIsi T .non) Q = ho (kitB "NoneType" T) fun b => Q (.bl b) := z_isi0 rfl
theorem z_isi_l {T : String} {l : List D} : ho (fIsi T (.lst l)) Q = ho (kitB "list" T) fun b => Q (.bl b) := z_isi0 rfl
theorem z_isi_t {T : String} {l : List D} : ho (fIsi T (.tup l)) Q = ho (kitB "tuple" T) fun b => Q (.bl b) := z_isi0 rfl
theorem z_isi_r {T : String} {l : List D} : ho (fIsi T (.scr l)) Q = ho (kitB "list" T) fun b => Q (.bl b) := z_isi0 rfl
theorem z_ty_s {s : List Nat} : tyD (.str s) = "str" := rfl
theorem z_ty_i {s : Int} : tyD (.int s) = "int" := rfl
theorem z_ty_b {s : Bool} : tyD (.bl s) = "bool" := rfl
theorem z_ty_n : tyD .non = "NoneType" := rfl
theorem z_ty_l {s : List D} : tyD (.lst s) = "list" := rfl
theorem z_ty_t {s : List D} : tyD (.tup s) = "tuple" := rfl
theorem z_k_ss : kitB "str" "str" = some true := by rfl
theorem z_k_ii : kitB "int" "int" = some true := by rfl
theorem z_k_ib : kitB "int" "bool" = some false := by rfl
theorem z_k_tt : kitB "tuple" "tuple" = some true := by rfl
theorem z_k_ll : kitB "list" "list" = some true := by rfl
end
/-- the source of a law's inputs -/
def Src (ds : List D) : Prop := ∃ c s : Int, ds = [.int c, .int s] ∧ 0 ≤ c ∧ 0 ≤ s ∧ s < 2147483648
/-- a way -/
def Way (d : D) : Prop := ∃ p u e m : List Nat, d = .tup [.str p, .str u, .str e, .str m] ∧ (p = [101, 110, 100] ∨ p = [109, 105, 100, 100, 108, 101] ∨ p = [115, 116, 97, 114, 116]) ∧ (u = [115, 105, 103, 110, 115] ∨ u = [119, 111, 114, 100, 115]) ∧
  (e = [100, 114, 111, 112] ∨ e = [107, 101, 101, 112]) ∧ (m = [] ∨ m = [46] ∨ m = [126])
def isSign (c : Nat) : Prop := c ∈ [32, 46, 97, 98, 99, 126]
/-- a text of at most n signs -/
def Text (n : Nat) (d : D) : Prop := ∃ t : List Nat, d = .str t ∧ t.length ≤ n ∧ ∀ c, c ∈ t → isSign c
theorem strsD_map : ∀ ss : List (List Nat), strsD (ss.map D.str) = some ss
  | [] => rfl
  | s :: ss => by simp [strsD, strsD_map ss]
theorem strs_of {P : List Nat → Prop} : ∀ {ds : List D}, (∀ d, d ∈ ds → ∃ s, d = .str s ∧ P s) → ∃ ss : List (List Nat), ds = ss.map D.str ∧ ∀ s, s ∈ ss → P s
  | [], _ => ⟨[], rfl, fun _ z => by cases z⟩
  | d :: ds, h => by
    obtain ⟨s, e, p⟩ := h d (.head _)
    obtain ⟨ss, e2, p2⟩ := strs_of (ds := ds) fun d z => h d (.tail _ z)
    refine ⟨s :: ss, by rw [e, e2]; rfl, fun t z => ?_⟩
    cases z with
    | head => exact p
    | tail _ z => exact p2 t z
theorem wl_drawn {vs : List Nat} {b : D → Rho → Option Rho} {tt : C Bool} {f : C D} {ds s : List D} {Q : List D → Rho → Prop} (F : List D → Rho) (Y : D → Prop) (hs : Src s)
    (hc : ∀ d, d ∈ ds → ∀ s, Src s → ho (b d (F s)) fun ρ1 => wp tt ρ1 fun c ρ2 => if c = true then wp f ρ2 fun y ρ3 => Y y ∧ ∃ s', Src s' ∧ wipeR vs ρ3 = F s' else ∃ s', Src s' ∧ wipeR vs ρ2 = F s')
    (hq : ∀ (ys s' : List D), Src s' → (∀ y, y ∈ ys → Y y) → ys.length ≤ ds.length → Q ys (F s')) : wl vs b tt f ds (F s) Q := by
  refine wl_each (fun ρ => ∃ s', Src s' ∧ ρ = F s') Y ⟨s, hs, rfl⟩ (fun d hd ρ hI => ?_) fun ys ρ hI h1 h2 => ?_
  · obtain ⟨s', k, rfl⟩ := hI
    exact hc d hd s' k
  · obtain ⟨s', k, rfl⟩ := hI
    exact hq ys s' k h1 h2
/-- a list of signs -/
theorem signs_of {P : Nat → Prop} : ∀ {ds : List D}, (∀ d, d ∈ ds → ∃ c : Nat, d = .str [c] ∧ P c) → ∃ s : List Nat, ds = s.map (fun c => .str [c]) ∧ ∀ c, c ∈ s → P c
  | [], _ => ⟨[], rfl, fun _ z => by cases z⟩
  | d :: ds, h => by
    obtain ⟨s, e, p⟩ := h d (.head _)
    obtain ⟨ss, e2, p2⟩ := signs_of (ds := ds) fun d z => h d (.tail _ z)
    refine ⟨s :: ss, by rw [e, e2]; rfl, fun t z => ?_⟩
    cases z with
    | head => exact p
    | tail _ z => exact p2 t z
theorem strsD_signs : ∀ s : List Nat, strsD (s.map fun c => .str [c]) = some (s.map fun c => [c])
  | [] => rfl
  | c :: s => by simp [strsD, strsD_signs s]
theorem joinL_nil : ∀ ss : List (List Nat), joinD [] ss = ss.flatten
  | [] => rfl
  | [p] => by simp [joinD, TL.joinL]
  | p :: q :: r => by
    have := joinL_nil (q :: r)
    simp only [joinD] at this
    simp [joinD, TL.joinL, this]
theorem join_signs (s : List Nat) : joinD [] (s.map fun c => [c]) = s := by
  rw [joinL_nil]; induction s with
  | nil => rfl
  | cons c s ih => simp [ih]
theorem sum_ones (s : List Nat) : ((s.map fun c => [c]).map List.length).sum = s.length := by
  induction s with
  | nil => rfl
  | cons c s ih => simp at ih ⊢; omega
theorem sum_ones2 (s : List Nat) : (List.map (List.length ∘ fun c : Nat => [c]) s).sum = s.length := by
  rw [← List.map_map]; exact sum_ones s
/-! slots that may be set anew -/
def F1 (s : Sl) : Prop := oN (some s) True
def FrI (l : List Sl) : Prop := ∀ s, s ∈ l → F1 s
theorem oN_free {s : Sl} (h : F1 s) {Q : Prop} : oN (some s) Q = Q := by cases s <;> first | rfl | cases h
theorem F1_dat {d : D} : F1 (.dat d) := trivial
theorem F1_own {d : List D} : F1 (.own d) := trivial
theorem F1_emp : F1 .emp := trivial
theorem frI_cons {s : Sl} {l : List Sl} : FrI (s :: l) ↔ F1 s ∧ FrI l := by simp [FrI]
theorem frI_nil : FrI [] := fun _ h => by cases h
end PD

namespace PD
open PySem L2
/-! ### what is shown, in plain words -/
def lastP (P : Nat → Bool) : Nat → Option Nat
  | 0 => none
  | k + 1 => if P (k + 1) then some (k + 1) else lastP P k
def gap (t : List Nat) (k : Nat) : Bool := decide (t[k - 1]? ≠ some 32) && decide (t[k]? = some 32)
def front (t : List Nat) (n : Nat) (u : List Nat) : List Nat := t.take (if u = [119, 111, 114, 100, 115] then (lastP (gap t) n).getD n else n)
def back (t : List Nat) (n : Nat) (u : List Nat) : List Nat := (front t.reverse n u).reverse
def rangeN (lo n : Nat) : List Nat := (List.range n).map (lo + ·)
theorem rangeD_N {lo n : Nat} : rangeD lo n = (rangeN lo n).map fun (k : Nat) => .int k := by
  unfold rangeD rangeN; simp
theorem rangeN_snoc {lo n : Nat} : rangeN lo (n + 1) = rangeN lo n ++ [lo + n] := by
  unfold rangeN; rw [List.range_succ]; simp
theorem mem_rangeN {lo n k : Nat} : k ∈ rangeN lo n ↔ lo ≤ k ∧ k < lo + n := by
  unfold rangeN; simp; exact ⟨fun ⟨a, h, e⟩ => by omega, fun h => ⟨k - lo, by omega, by omega⟩⟩
theorem intsD_nat : ∀ ns : List Nat, intsD (ns.map fun (k : Nat) => .int k) = some (ns.map fun (k : Nat) => (k : Int))
  | [] => rfl
  | n :: ns => by simp [intsD, intsD_nat ns]
theorem intsD_int : ∀ ns : List Int, intsD (ns.map D.int) = some ns
  | [] => rfl
  | n :: ns => by simp [intsD, intsD_int ns]
theorem maxI_snoc {m : Int} : ∀ {xs : List Int}, (∀ x, x ∈ xs → x ≤ m) → maxI (xs ++ [m]) = some m
  | [], _ => rfl
  | x :: xs, h => by
    have := maxI_snoc (xs := xs) fun y hy => h y (.tail _ hy)
    have := h x (.head _)
    simp [maxI, *]; omega
theorem max_last (P : Nat → Bool) : ∀ n : Nat, maxI (((rangeN 1 n).filter P).map fun (k : Nat) => (k : Int)) = (lastP P n).map fun (k : Nat) => (k : Int)
  | 0 => rfl
  | n + 1 => by
    rw [rangeN_snoc, List.filter_append, List.map_append]
    rw [lastP, Nat.add_comm n 1]
    cases h : P (1 + n) with
    | false => simp [h]; exact max_last P n
    | true => 
      simp only [h, List.filter_cons_of_pos, List.filter_nil, List.map_cons, List.map_nil, if_true]
      rw [maxI_snoc]; rfl
      intro x hx; simp [mem_rangeN] at hx; omega
theorem none_last (P : Nat → Bool) : ∀ n : Nat, (rangeN 1 n).filter P = [] ↔ lastP P n = none
  | 0 => by simp [rangeN, lastP]
  | n + 1 => by
    rw [rangeN_snoc, List.filter_append, lastP, Nat.add_comm n 1]
    have := none_last P n
    cases h : P (1 + n) <;> simp [h] at this ⊢
    exact this
theorem lastP_cong {P R : Nat → Bool} : ∀ {n : Nat}, (∀ k, 1 ≤ k → k ≤ n → P k = R k) → lastP P n = lastP R n
  | 0, _ => rfl
  | n + 1, h => by simp only [lastP, h (n + 1) (by omega) (by omega)]; rw [lastP_cong (n := n) fun k a b => h k a (by omega)]
theorem lastP_le {P : Nat → Bool} : ∀ {n k : Nat}, lastP P n = some k → 1 ≤ k ∧ k ≤ n ∧ P k = true
  | 0, k, h => by cases h
  | n + 1, k, h => by
    rw [lastP] at h; split at h
    · cases h; exact ⟨by omega, by omega, by assumption⟩
    · have := lastP_le h; exact ⟨this.1, by omega, this.2.2⟩
theorem last_getD {P : Nat → Bool} {n : Nat} : (lastP P n).getD n ≤ n := by
  cases h : lastP P n with
  | none => simp
  | some k => have := lastP_le h; simp; omega
theorem front_len {t : List Nat} {n : Nat} {u : List Nat} : (front t n u).length ≤ n := by
  unfold front; rw [List.length_take]; split
  · have := last_getD (P := gap t) (n := n); omega
  · omega
theorem back_len {t : List Nat} {n : Nat} {u : List Nat} : (back t n u).length ≤ n := by
  unfold back; rw [List.length_reverse]; exact front_len
/-! == and the shapes of data -/
theorem eqv_nil {ds : List D} : PyData.eqv (py (.lst ds)) (py (.lst [])) = ds.isEmpty := by
  cases ds <;> simp [py, pyL, PyData.eqv, PyData.eqvAll]
theorem eqv_tnil {ds : List D} : PyData.eqv (py (.tup ds)) (py (.tup [])) = ds.isEmpty := by
  cases ds <;> simp [py, pyL, PyData.eqv, PyData.eqvAll]
mutual
def dp : Nat → D → Bool
  | _, .non => true | _, .bl _ => true | _, .int _ => true | _, .str s => s.all fun c => decide (c < 1114112)
  | 0, _ => false
  | n + 1, .lst ds => dpL n ds | n + 1, .tup ds => dpL n ds | n + 1, .scr ds => dpL n ds | _ + 1, .dct _ _ => false
def dpL : Nat → List D → Bool
  | _, [] => true
  | n, d :: ds => dp n d && dpL n ds
end
mutual
theorem dp_le : ∀ {n : Nat} {d : D}, dp n d = true → (py d).depth ≤ n ∧ (py d).canLay0 = true
  | _, .non, _ => by simp [py, PyData.depth, PyData.canLay0]
  | _, .bl _, _ => by simp [py, PyData.depth, PyData.canLay0]
  | _, .int _, _ => by simp [py, PyData.depth, PyData.canLay0]
  | _, .str s, h => by simp only [py, PyData.depth, PyData.canLay0]; exact ⟨Nat.zero_le _, by simpa [dp, PyData.strOk, mk] using h⟩
  | 0, .lst ds, h => by simp [dp] at h
  | 0, .tup ds, h => by simp [dp] at h
  | 0, .scr ds, h => by simp [dp] at h
  | 0, .dct _ _, h => by simp [dp] at h
  | _ + 1, .dct _ _, h => by simp [dp] at h
  | n + 1, .lst ds, h => by have := dpL_le (n := n) (ds := ds) (by simpa [dp] using h); simp [py, PyData.depth, PyData.canLay0]; exact ⟨by omega, this.2⟩
  | n + 1, .tup ds, h => by have := dpL_le (n := n) (ds := ds) (by simpa [dp] using h); simp [py, PyData.depth, PyData.canLay0]; exact ⟨by omega, this.2⟩
  | n + 1, .scr ds, h => by have := dpL_le (n := n) (ds := ds) (by simpa [dp] using h); simp [py, PyData.depth, PyData.canLay0]; exact ⟨by omega, this.2⟩
theorem dpL_le : ∀ {n : Nat} {ds : List D}, dpL n ds = true → PyData.depthAll (pyL ds) ≤ n ∧ PyData.canLayAll0 (pyL ds) = true
  | _, [], _ => by simp [pyL, PyData.depthAll, PyData.canLayAll0]
  | n, d :: ds, h => by
    simp [dpL] at h
    have := dp_le h.1; have := dpL_le h.2
    simp [pyL, PyData.depthAll, PyData.canLayAll0, *]; omega
end
theorem okD_of {n : Nat} {d : D} (h : dp n d = true) (hn : n ≤ 64) : okD d = true := by
  have := dp_le h
  simp [okD, SeqAt.shaped, this.2]; omega
theorem dpL_map {α : Type} {n : Nat} {f : α → D} (h : ∀ a, dp n (f a) = true) : ∀ xs : List α, dpL n (xs.map f) = true
  | [] => rfl
  | x :: xs => by simp [dpL, h x, dpL_map h xs]
theorem dpL_all {n : Nat} : ∀ {ds : List D}, (∀ d, d ∈ ds → dp n d = true) → dpL n ds = true
  | [], _ => rfl
  | d :: ds, h => by simp [dpL, h d (.head _), dpL_all (ds := ds) fun e he => h e (.tail _ he)]
theorem okD_ints (ns : List Int) : okD (.lst (ns.map D.int)) = true := okD_of (n := 1) (by rw [dp]; exact dpL_map (fun _ => by simp [dp]) ns) (by omega)
theorem okD_nats (ns : List Nat) : okD (.lst (ns.map fun (k : Nat) => .int k)) = true := okD_of (n := 1) (by rw [dp]; exact dpL_map (fun _ => by simp [dp]) ns) (by omega)
theorem okD_nil : okD (.lst []) = true := okD_of (n := 1) rfl (by omega)
mutual
def pl : D → Bool
  | .non => true | .bl _ => false | .int _ => true | .str _ => true | .scr _ => false | .dct _ _ => false
  | .lst ds => plL ds | .tup ds => plL ds
def plL : List D → Bool
  | [] => true | d :: ds => pl d && plL ds
end
mutual
theorem eqv_pl : ∀ {d e : D}, pl d = true → pl e = true → (PyData.eqv (py d) (py e) = true ↔ d = e)
  | .non, e, _, he => by cases e <;> simp [py, PyData.eqv, pl] at *
  | .int i, e, _, he => by cases e <;> simp [py, PyData.eqv, pl] at *
  | .str s, e, _, he => by
    cases e <;> simp [py, PyData.eqv, pl] at *
    exact ⟨mk_inj, fun h => by rw [h]⟩
  | .lst ds, e, hd, he => by
    cases e with
    | lst es => simp only [py, PyData.eqv, D.lst.injEq]; exact eqv_plL (by simpa [pl] using hd) (by simpa [pl] using he)
    | _ => simp [py, PyData.eqv, pl] at *
  | .tup ds, e, hd, he => by
    cases e with
    | tup es => simp only [py, PyData.eqv, D.tup.injEq]; exact eqv_plL (by simpa [pl] using hd) (by simpa [pl] using he)
    | _ => simp [py, PyData.eqv, pl] at *
  | .dct _ _, _, hd, _ => by simp [pl] at hd
  | .bl _, _, hd, _ => by simp [pl] at hd
  | .scr _, _, hd, _ => by simp [pl] at hd
theorem eqv_plL : ∀ {d e : List D}, plL d = true → plL e = true → (PyData.eqvAll (pyL d) (pyL e) = true ↔ d = e)
  | [], [], _, _ => by simp [pyL, PyData.eqvAll]
  | [], _ :: _, _, _ => by simp [pyL, PyData.eqvAll]
  | _ :: _, [], _, _ => by simp [pyL, PyData.eqvAll]
  | d :: ds, e :: es, hd, he => by
    simp [plL] at hd he
    simp only [pyL, PyData.eqvAll, Bool.and_eq_true, eqv_pl hd.1 he.1, eqv_plL hd.2 he.2, List.cons.injEq]
end
theorem plL_map {α : Type} {f : α → D} (h : ∀ a, pl (f a) = true) : ∀ xs : List α, plL (xs.map f) = true
  | [] => rfl
  | x :: xs => by simp [plL, h x, plL_map h xs]
/-! endings -/
theorem rfind_two (c : Nat) : ∀ t : List Nat, (rfindL c t = -1 ∧ c ∉ t) ∨ ∃ k : Nat, rfindL c t = k ∧ t[k]? = some c ∧ c ∉ t.drop (k + 1)
  | [] => .inl ⟨rfl, by simp⟩
  | x :: xs => by
    unfold rfindL
    rcases rfind_two c xs with ⟨h1, h2⟩ | ⟨k, h1, h2, h3⟩
    · rw [h1]; simp only [show ¬ (0 : Int) ≤ -1 by omega, if_false]
      by_cases hx : x = c
      · right; refine ⟨0, by simp [hx], by simp [hx], by simpa using h2⟩
      · left; rw [if_neg hx]; exact ⟨rfl, by simp [h2]; exact fun h => hx h.symm⟩
    · right; rw [h1, if_pos (by omega)]
      exact ⟨k + 1, by omega, by simpa using h2, by simpa using h3⟩
def isTail (t : List Nat) (c : Nat) : Prop := 1 ≤ c ∧ c + 2 ≤ t.length ∧ t.length ≤ c + 5 ∧ t[c]? = some 46 ∧ ∀ x, x ∈ t.drop (c + 1) → x ∈ [97, 98, 99]
theorem isTail_rfind {t : List Nat} {c : Nat} (h : isTail t c) : rfindL 46 t = c := by
  obtain ⟨h1, h2, h3, h4, h5⟩ := h
  have hc : c < t.length := by omega
  rcases rfind_two 46 t with ⟨_, a2⟩ | ⟨k, a1, a2, a3⟩
  · exact absurd (List.mem_of_getElem? h4) a2
  · rw [a1]
    have hk : k < t.length := by
      rcases Nat.lt_or_ge k t.length with z | z
      · exact z
      · rw [List.getElem?_eq_none z] at a2; cases a2
    rcases Nat.lt_trichotomy k c with z | z | z
    · exfalso; apply a3
      have : (t.drop (k + 1))[c - (k + 1)]? = some 46 := by rw [List.getElem?_drop, show k + 1 + (c - (k + 1)) = c by omega]; exact h4
      exact List.mem_of_getElem? this
    · rw [z]
    · exfalso
      have : (t.drop (c + 1))[k - (c + 1)]? = some 46 := by rw [List.getElem?_drop, show c + 1 + (k - (c + 1)) = k by omega]; exact a2
      have := h5 _ (List.mem_of_getElem? this)
      simp at this
instance {t : List Nat} {c : Nat} : Decidable (isTail t c) := by unfold isTail; infer_instance
def tail (t : List Nat) : List Nat := if 0 ≤ rfindL 46 t ∧ isTail t (rfindL 46 t).toNat then t.drop (rfindL 46 t).toNat else []
theorem tail_of {t : List Nat} {c : Nat} (h : isTail t c) : tail t = t.drop c := by
  unfold tail; rw [isTail_rfind h]; simp [h]
theorem tail_none {t : List Nat} (h : ∀ c, ¬ isTail t c) : tail t = [] := by
  unfold tail; rw [if_neg]; intro k; exact h _ k.2
theorem tail_ne {t : List Nat} (h : tail t ≠ []) : ∃ c, isTail t c ∧ tail t = t.drop c := by
  unfold tail at h; split at h
  · rename_i k; exact ⟨_, k.2, tail_of k.2⟩
  · exact absurd rfl h
theorem tail_len {t : List Nat} : (tail t).length ≤ 5 ∧ (tail t = [] ∨ (2 ≤ (tail t).length ∧ (tail t).length + 1 ≤ t.length)) := by
  by_cases h : tail t = []
  · exact ⟨by rw [h]; simp, .inl h⟩
  · obtain ⟨c, h1, h2⟩ := tail_ne h
    obtain ⟨a1, a2, a3, _⟩ := h1
    rw [h2, List.length_drop]; exact ⟨by omega, .inr ⟨by omega, by omega⟩⟩
/-! a way's cut, and what it shows -/
def cutP (p u m t : List Nat) (w : Nat) : List Nat := if w < m.length then [] else
  if p = [101, 110, 100] then front t (w - m.length) u ++ m else
  if p = [115, 116, 97, 114, 116] then m ++ back t (w - m.length) u else
  front t (w - m.length - (w - m.length) / 2) u ++ m ++ back t ((w - m.length) / 2) u
def shw (p u e m t : List Nat) (w : Nat) : List Nat := if t.length ≤ w then t else
  if e = [107, 101, 101, 112] ∧ tail t ≠ [] ∧ m.length + (tail t).length ≤ w then cutP p u m (t.take (t.length - (tail t).length)) (w - (tail t).length) ++ tail t
  else cutP p u m t w
theorem cutP_len {p u m t : List Nat} {w : Nat} : (cutP p u m t w).length ≤ w := by
  unfold cutP
  have h1 := front_len (t := t) (n := w - m.length) (u := u)
  have h2 := back_len (t := t) (n := w - m.length) (u := u)
  have h3 := front_len (t := t) (n := w - m.length - (w - m.length) / 2) (u := u)
  have h4 := back_len (t := t) (n := (w - m.length) / 2) (u := u)
  split
  · simp
  · split
    · simp; omega
    · split
      · simp; omega
      · simp; omega
theorem shw_len {p u e m t : List Nat} {w : Nat} : (shw p u e m t w).length ≤ w := by
  unfold shw
  split
  · assumption
  · split
    · have := cutP_len (p := p) (u := u) (m := m) (t := t.take (t.length - (tail t).length)) (w := w - (tail t).length)
      simp; omega
    · exact cutP_len
/-! where the shown signs stand in the text -/
theorem cut_mid {α : Type} {xs : List α} {i j : Int} (h0 : 0 ≤ i) (h1 : i ≤ j) : cutL xs (some i) (some j) = (xs.drop i.toNat).take (j - i).toNat := by
  obtain ⟨k, rfl⟩ : ∃ k : Nat, i = k := ⟨i.toNat, by omega⟩
  obtain ⟨l, rfl⟩ : ∃ l : Nat, j = l := ⟨j.toNat, by omega⟩
  unfold cutL; rw [HT.sIx_nat, HT.sIx_nat]
  rw [show ((l : Int) - (k : Int)).toNat = l - k by omega, show ((k : Int)).toNat = k by omega]
  rcases Nat.lt_or_ge k xs.length with z | z
  · rw [Nat.min_eq_left (by omega : k ≤ xs.length)]
    rcases Nat.lt_or_ge l xs.length with y | y
    · rw [Nat.min_eq_left (by omega)]
    · rw [Nat.min_eq_right y, List.take_of_length_le (by simp), List.take_of_length_le (by simp; omega)]
  · rw [Nat.min_eq_right z, List.drop_of_length_le (Nat.le_refl _), List.drop_of_length_le z]; simp
theorem front_take {t u : List Nat} {n : Nat} : ∃ x, x ≤ n ∧ front t n u = t.take x := by
  unfold front; split
  · exact ⟨_, last_getD, rfl⟩
  · exact ⟨n, Nat.le_refl _, rfl⟩
theorem back_drop {t u : List Nat} {n : Nat} : ∃ x, x ≤ n ∧ back t n u = t.drop (t.length - x) := by
  obtain ⟨x, h, e⟩ := front_take (t := t.reverse) (u := u) (n := n)
  refine ⟨x, h, ?_⟩
  unfold back; rw [e, List.take_reverse, List.reverse_reverse]
theorem cutP_split {p u m t : List Nat} {w : Nat} (hm : m.length ≤ w) : ∃ a b, cutP p u m t w = t.take a ++ m ++ t.drop (t.length - b) ∧ a + m.length + b ≤ w := by
  unfold cutP; rw [if_neg (by omega)]
  split
  · obtain ⟨x, h, e⟩ := front_take (t := t) (u := u) (n := w - m.length)
    exact ⟨x, 0, by rw [e]; simp, by omega⟩
  · split
    · obtain ⟨x, h, e⟩ := back_drop (t := t) (u := u) (n := w - m.length)
      exact ⟨0, x, by rw [e]; simp, by omega⟩
    · obtain ⟨x, h, e⟩ := front_take (t := t) (u := u) (n := w - m.length - (w - m.length) / 2)
      obtain ⟨y, h2, e2⟩ := back_drop (t := t) (u := u) (n := (w - m.length) / 2)
      exact ⟨x, y, by rw [e, e2], by omega⟩
theorem tail_drop {t : List Nat} : tail t = t.drop (t.length - (tail t).length) := by
  by_cases h : tail t = []
  · rw [h]; simp
  · obtain ⟨c, h1, h2⟩ := tail_ne h
    have := h1.2.1
    conv => rhs; rw [h2]
    rw [List.length_drop, show t.length - (t.length - c) = c by omega, h2]
theorem shw_split {p u e m t : List Nat} {w : Nat} (h : w < t.length) (hne : shw p u e m t w ≠ []) : ∃ a b, shw p u e m t w = t.take a ++ m ++ t.drop (t.length - b) ∧ a + m.length + b ≤ w := by
  unfold shw at hne ⊢
  rw [if_neg (by omega)] at hne ⊢
  split
  · rename_i hc
    obtain ⟨a, b, e1, e2⟩ := cutP_split (p := p) (u := u) (m := m) (t := t.take (t.length - (tail t).length)) (w := w - (tail t).length) (by omega)
    have hl := tail_len (t := t)
    refine ⟨a, b + (tail t).length, ?_, by omega⟩
    rw [e1]
    have ed := tail_drop (t := t)
    generalize (tail t).length = T at ed e2 hl e1 ⊢
    rw [ed]
    simp only [List.append_assoc, List.length_take]
    rw [List.take_take, show min a (t.length - T) = a by omega]
    congr 2
    rw [show min (t.length - T) t.length = t.length - T by omega]
    rw [List.drop_take]
    rw [show t.length - (b + T) = t.length - T - b by omega]
    generalize t.length - T = c
    rcases Nat.lt_or_ge c b with z | z
    · rw [show c - b = 0 by omega]; simp
    · have := List.take_append_drop (c - (c - b)) (t.drop (c - b))
      rw [List.drop_drop, show c - b + (c - (c - b)) = c by omega] at this
      exact this
  · rename_i hc
    rw [if_neg hc] at hne
    by_cases hw : w < m.length
    · exfalso; apply hne; unfold cutP; rw [if_pos hw]
    · exact cutP_split (by omega)
end PD

/-! a set of any list or tuple of keys, for its length -/
namespace PS
open PySem PySem.Spec PyProof.Rows
def met {K : Type} [BEq K] (val : Nat → K) : Nat → List K
  | 0 => []
  | i + 1 => if (met val i).any (· == val i) then met val i else met val i ++ [val i]
section
variable {K : Type} [DecidableEq K] [BEq K] [LawfulBEq K] {val : Nat → K}
theorem met_le : ∀ i : Nat, (met val i).length ≤ i
  | 0 => Nat.le_refl _
  | i + 1 => by have := met_le i; unfold met; split <;> simp <;> omega
theorem met_any (i : Nat) (k : K) : (met val (i + 1)).any (· == k) = ((met val i).any (· == k) || decide (k = val i)) := by
  rw [met]; split
  · rename_i h
    by_cases e : k = val i
    · rw [e, h]; simp
    · simp [e]
  · rw [List.any_append]
    by_cases e : k = val i
    · simp [e]
    · simp [e]; exact fun h => absurd h.symm e
theorem met_len (i : Nat) : (met val (i + 1)).length = if (met val i).any (· == val i) then (met val i).length else (met val i).length + 1 := by
  rw [met]; split <;> simp
variable {prog : Program} {w : World} {knd : KeyKind prog w K}
theorem fill {A : Around} {R : Result → Shared → Prop} {I : Addr} {fp wr : List Addr} {G : Array GenState → Array GenState → Prop} {n : Nat} {P : Nat → Value → Prop} {St : Nat → Shared → Prop} (W : WalksS prog w A.in1 I fp wr G n P St) (a : Addr) (na : a ∉ fp)
    (hv : ∀ i v, P i v → knd.is (val i) v = true ∧ v.scannable = true) (hb : n + 1 < scanBound) : ∀ (k i : Nat) (sh : Shared), n - i = k → i ≤ n → St i sh → sh.heap.SetOf knd a (fun x => (met val i).any (· == x)) (met val i).length →
    (∀ sh', Moved (a :: wr) G sh sh' → sh'.heap.SetOf knd a (fun x => (met val n).any (· == x)) (met val n).length → R (.ok (.ret .none)) sh') → codeAny (model prog w) A (.builtin "set.update.loop" ⟨[.ref a, .ref I], []⟩) R sh := by
  have ha : a ∉ wr := fun z => na (W.sub _ z)
  have up : ∀ b ∈ wr, b ∈ a :: wr := fun b z => List.mem_cons_of_mem _ z
  intro k
  induction k with
  | zero =>
    intro i sh e1 e2 st so fin
    obtain rfl : i = n := by omega
    refine codeAny_builtin F.entry_set_update_loop (by
      rw [Around.under_plainId F.plain_set_update_loop _]
      refine wpAny_bind (W.done sh _ _ st fun sh' mv => wpAny_pure (fin sh' (mv.mono up) ?_))
      obtain ⟨o, es, ep, tb, ho, more⟩ := so
      exact ⟨o, es, ep, tb, mv.heap a _ ha ho, more⟩)
  | succ k ih =>
    intro i sh e1 e2 st so fin
    have lt : i < n := by omega
    refine codeAny_builtin F.entry_set_update_loop (by
      rw [Around.under_plainId F.plain_set_update_loop _]
      refine wpAny_bind (W.item i sh _ _ lt st fun v sh' pv st' mv => ?_)
      obtain ⟨v1, v2⟩ := hv i v pv
      have so' : sh'.heap.SetOf knd a (fun x => (met val i).any (· == x)) (met val i).length := by
        obtain ⟨o, es, ep, tb, ho, more⟩ := so
        exact ⟨o, es, ep, tb, mv.heap a _ ha ho, more⟩
      have room : (met val i).length + 1 < scanBound := by have := met_le (val := val) i; omega
      show wpAny _ A.in1 (holding [v] (setAdd a v) >>= _) _ _ sh'
      refine wpAny_bind (wpAny_holding ?_)
      unfold setAdd
      refine wpAny_holding (wpAny_bind (knd.pyHash v1 ?_))
      refine wpAny_setAddHashed_of (s := { sh' with toks := sh'.toks + 1 }) v1 v2 so' room fun hp sb so2 => ?_
      refine wpAny_pure ⟨plainId_quiet F.plain_set_update_loop _, ih (i + 1) _ (by omega) lt (W.frame _ sh' _ _ st' (Nat.le_succ _) fun b hb o e => ?_) (SetOf_congr so2 (fun x => (met_any i x).symm) (met_len i).symm) fun s2 mv2 so3 => ?_⟩
      · rw [sb.2 b (fun z : b = a => na (z ▸ hb))]; exact e
      · refine fin s2 (Moved.trans W.gtrans ((mv.mono up).then_heap (Nat.le_succ _) fun b o hb e => ?_) mv2) so3
        rw [sb.2 b (fun z : b = a => hb (by rw [z]; exact .head _))]; exact e)
end
def blank (q : Bool) : Obj := { cls := .type "set", dict := none, data := .set #[] 0 (.fresh 0 0 q) }
set_option maxHeartbeats 3200000 in
theorem make_list {prog : Program} {w : World} {A : Around} {E : Value → Shared → Prop} {sh : Shared} {K : Type} [DecidableEq K] [BEq K] [LawfulBEq K] (knd : KeyKind prog w K) (val : Nat → K) {p : Addr} {its : Array Value} {Q : Value → Shared → Prop}
    (hh : A.handled = none) (hl : sh.heap.IsList p its) (hv : ∀ i v, its[i]? = some v → knd.is (val i) v = true ∧ v.scannable = true) (hb : its.size + 1 < scanBound)
    (fin : ∀ (hp : Heap) (tk : Nat), hp.SetOf knd sh.heap.objs.size (fun x => (met val its.size).any (· == x)) (met val its.size).length → (∀ b o, b < sh.heap.objs.size → sh.heap.get? b = some o → hp.get? b = some o) → Q (.ref sh.heap.objs.size) { sh with heap := hp, toks := tk }) :
    wpAny (model prog w) A (call (.type "set") [.ref p]) Q E sh := by
  obtain ⟨c, tl, hm0⟩ := PySem.F.called_set.mro
  have g1 := PySem.F.called_set.made; have g2 := PySem.F.called_set.sub
  have g3 := PySem.F.called_set.notType; have g4 := PySem.F.called_set.canCreate
  have g5 := PySem.F.typeCall_set_1 (.ref p)
  refine wpAny_call (codeAny_of_tree (by
    show wpAny _ _ (callAny (.type "set") _) _ _ _
    refine wpAny_pure ⟨Code.quiet_builtin _ (by decide +kernel), codeAny_builtin PySem.F.entry_type_call (by
      rw [Around.under_plain (weight_type_call_type "set" [.ref p] []) rfl]
      repeat (any_goals (first | assumption | wp_step))
      refine codeAny_mono (code_set_new_1 (.ref p) (E := E) (Q₁ := fun u s1 => ∃ q : Bool, u = .ref sh.heap.objs.size ∧ s1 = { sh with heap := sh.heap.push (blank q) }) fun q => ⟨q, rfl, rfl⟩) fun r s1 hr => ?_
      cases r with
      | error e => exact hr
      | ok fl =>
        cases fl with
        | ret u =>
          obtain ⟨q, rfl, rfl⟩ := hr
          have hS : (sh.heap.push (blank q)).get? sh.heap.objs.size = some (blank q) := Heap.get?_push_size _ rfl
          have hT : Shared.TypeIs { sh with heap := sh.heap.push (blank q) } (.ref sh.heap.objs.size) "set" := ⟨_, hS, rfl⟩
          have g6 := PySem.F.called_set.init.lookup; have g7 := PySem.F.called_set.init.bind (.ref sh.heap.objs.size)
          repeat (any_goals (first | assumption | wp_step))
          refine codeAny_mono (codeAny_call_builtin (R := wants (fun r s2 => r = .none ∧ ∃ hp tk, s2 = { sh with heap := hp, toks := tk } ∧ hp.SetOf knd sh.heap.objs.size (fun x => (met val its.size).any (· == x)) (met val its.size).length ∧
              (∀ b o, b < sh.heap.objs.size → sh.heap.get? b = some o → hp.get? b = some o)) E) PySem.F.called_set.init.plain PySem.F.entry_set_init (check_set_init_1 hT ?_)) fun r2 s2 hr2 => ?_
          · obtain ⟨ol, hol, hcl, nl, hdl⟩ := hl
            obtain ⟨oc, od, ox, os⟩ := ol
            simp only at hcl hdl
            subst hcl; subst hdl
            have hol2 : (sh.heap.push (blank q)).get? p = some ⟨.type "list", od, .seq its nl, os⟩ := Heap.get?_push_of_some _ hol
            have g8 := PySem.F.sub_list_set; have g9 := PySem.F.sub_list_frozenset
            have g10 : (Value.type "list" == Value.type "dict") = false := by decide
            have hl1 : (sh.heap.push (blank q)).IsList p its := ⟨_, hol2, rfl, nl, rfl⟩
            unfold Builtin.«set.__init__» noKeywords Builtin.Frozenset.updateFrom
            generalize ePI : pyIter = PI
            wp_walk
            subst ePI
            refine wpAny_pyIter_list hl1 (wpAny_bind (wpAny_runValue ?_))
            have pS : p < sh.heap.objs.size := Heap.lt_size hol
            have h3 : A.in1.in1.in1.handled = none := by simp [hh]
            have neI : p ≠ (sh.heap.push (blank q)).objs.size := by rw [Heap.size_push]; exact Nat.ne_of_lt (Nat.lt_succ_of_lt pS)
            have nin : sh.heap.objs.size ∉ [(sh.heap.push (blank q)).objs.size, p] := by rw [Heap.size_push]; exact fun z => by rcases List.mem_cons.mp z with z | z; exact Nat.lt_irrefl _ (Nat.lt_of_lt_of_eq (Nat.lt_succ_self _) z.symm); exact Nat.lt_irrefl _ (Nat.lt_of_lt_of_eq pS (List.mem_singleton.mp z))
            refine fill ((Walks.list h3 _ p neI its).toS) sh.heap.objs.size nin hv hb (its.size - 0) 0 _ (by omega) (Nat.zero_le _) ⟨⟨_, Heap.get?_push_size _ rfl, rfl, rfl⟩, (hl1.push _)⟩ ?hS0 ?hR
            case hS0 =>
              have hg : ((sh.heap.push (blank q)).push { cls := .type "list_iterator", data := .fields #[.ref p, .int 0 0] }).get? sh.heap.objs.size = some (blank q) := Heap.get?_push_of_some _ hS
              exact SetOf_congr ((setObjOf_fresh (knd := knd) q).setOf hg (by unfold scanBound; omega)) (fun _ => rfl) rfl
            case hR =>
              intro s3 mv so
              obtain ⟨hp, gg, dd, tk, oo⟩ := s3
              have q1 : gg = sh.gens := mv.gens
              have q2 : dd = sh.drawn := mv.drawn
              have q3 : oo = sh.os := mv.os
              subst q1; subst q2; subst q3
              refine wpAny_pure (wpAny_pure ⟨rfl, hp, tk, rfl, so, fun b o hb e => mv.heap b o ?_ (Heap.get?_push_of_some _ (Heap.get?_push_of_some _ e))⟩)
              rw [Heap.size_push]; exact fun z => by rcases List.mem_cons.mp z with z | z; exact Nat.lt_irrefl _ (Nat.lt_of_lt_of_eq hb z.symm); exact Nat.lt_irrefl _ (Nat.lt_of_lt_of_eq (Nat.lt_succ_of_lt hb) (List.mem_singleton.mp z).symm)
          · cases r2 with
            | error e => exact hr2
            | ok fl2 =>
              cases fl2 with
              | ret r =>
                obtain ⟨rfl, hp, tk, rfl, so, kp⟩ := hr2
                repeat (any_goals (first | assumption | wp_step))
                exact fin _ _ so kp
              | _ => exact hr2.elim
        | _ => exact hr.elim)⟩))
set_option maxHeartbeats 3200000 in
theorem make_tuple {prog : Program} {w : World} {A : Around} {E : Value → Shared → Prop} {sh : Shared} {K : Type} [DecidableEq K] [BEq K] [LawfulBEq K] (knd : KeyKind prog w K) (val : Nat → K) {p : Addr} {its : Array Value} {Q : Value → Shared → Prop}
    (hh : A.handled = none) (hl : sh.heap.IsTuple p its) (hv : ∀ i v, its[i]? = some v → knd.is (val i) v = true ∧ v.scannable = true) (hb : its.size + 1 < scanBound)
    (fin : ∀ (hp : Heap) (tk : Nat), hp.SetOf knd sh.heap.objs.size (fun x => (met val its.size).any (· == x)) (met val its.size).length → (∀ b o, b < sh.heap.objs.size → sh.heap.get? b = some o → hp.get? b = some o) → Q (.ref sh.heap.objs.size) { sh with heap := hp, toks := tk }) :
    wpAny (model prog w) A (call (.type "set") [.ref p]) Q E sh := by
  obtain ⟨c, tl, hm0⟩ := PySem.F.called_set.mro
  have g1 := PySem.F.called_set.made; have g2 := PySem.F.called_set.sub
  have g3 := PySem.F.called_set.notType; have g4 := PySem.F.called_set.canCreate
  have g5 := PySem.F.typeCall_set_1 (.ref p)
  refine wpAny_call (codeAny_of_tree (by
    show wpAny _ _ (callAny (.type "set") _) _ _ _
    refine wpAny_pure ⟨Code.quiet_builtin _ (by decide +kernel), codeAny_builtin PySem.F.entry_type_call (by
      rw [Around.under_plain (weight_type_call_type "set" [.ref p] []) rfl]
      repeat (any_goals (first | assumption | wp_step))
      refine codeAny_mono (code_set_new_1 (.ref p) (E := E) (Q₁ := fun u s1 => ∃ q : Bool, u = .ref sh.heap.objs.size ∧ s1 = { sh with heap := sh.heap.push (blank q) }) fun q => ⟨q, rfl, rfl⟩) fun r s1 hr => ?_
      cases r with
      | error e => exact hr
      | ok fl =>
        cases fl with
        | ret u =>
          obtain ⟨q, rfl, rfl⟩ := hr
          have hS : (sh.heap.push (blank q)).get? sh.heap.objs.size = some (blank q) := Heap.get?_push_size _ rfl
          have hT : Shared.TypeIs { sh with heap := sh.heap.push (blank q) } (.ref sh.heap.objs.size) "set" := ⟨_, hS, rfl⟩
          have g6 := PySem.F.called_set.init.lookup; have g7 := PySem.F.called_set.init.bind (.ref sh.heap.objs.size)
          repeat (any_goals (first | assumption | wp_step))
          refine codeAny_mono (codeAny_call_builtin (R := wants (fun r s2 => r = .none ∧ ∃ hp tk, s2 = { sh with heap := hp, toks := tk } ∧ hp.SetOf knd sh.heap.objs.size (fun x => (met val its.size).any (· == x)) (met val its.size).length ∧
              (∀ b o, b < sh.heap.objs.size → sh.heap.get? b = some o → hp.get? b = some o)) E) PySem.F.called_set.init.plain PySem.F.entry_set_init (check_set_init_1 hT ?_)) fun r2 s2 hr2 => ?_
          · obtain ⟨ol, hol, hcl, nl, hdl⟩ := hl
            obtain ⟨oc, od, ox, os⟩ := ol
            simp only at hcl hdl
            subst hcl; subst hdl
            have hol2 : (sh.heap.push (blank q)).get? p = some ⟨.type "tuple", od, .seq its nl, os⟩ := Heap.get?_push_of_some _ hol
            have g8 := PySem.F.sub_tuple_set; have g9 := PySem.F.sub_tuple_frozenset
            have g10 : (Value.type "tuple" == Value.type "dict") = false := by decide
            have hl1 : (sh.heap.push (blank q)).IsTuple p its := ⟨_, hol2, rfl, nl, rfl⟩
            unfold Builtin.«set.__init__» noKeywords Builtin.Frozenset.updateFrom
            generalize ePI : pyIter = PI
            wp_walk
            subst ePI
            refine wpAny_pyIter_tuple hl1 (wpAny_bind (wpAny_runValue ?_))
            have pS : p < sh.heap.objs.size := Heap.lt_size hol
            have h3 : A.in1.in1.in1.handled = none := by simp [hh]
            have neI : p ≠ (sh.heap.push (blank q)).objs.size := by rw [Heap.size_push]; exact Nat.ne_of_lt (Nat.lt_succ_of_lt pS)
            have nin : sh.heap.objs.size ∉ [(sh.heap.push (blank q)).objs.size, p] := by rw [Heap.size_push]; exact fun z => by rcases List.mem_cons.mp z with z | z; exact Nat.lt_irrefl _ (Nat.lt_of_lt_of_eq (Nat.lt_succ_self _) z.symm); exact Nat.lt_irrefl _ (Nat.lt_of_lt_of_eq pS (List.mem_singleton.mp z))
            refine fill ((Walks.tuple h3 _ p neI its).toS) sh.heap.objs.size nin hv hb (its.size - 0) 0 _ (by omega) (Nat.zero_le _) ⟨⟨_, Heap.get?_push_size _ rfl, rfl, rfl⟩, (hl1.push _)⟩ ?hS0 ?hR
            case hS0 =>
              have hg : ((sh.heap.push (blank q)).push { cls := .type "tuple_iterator", data := .fields #[.ref p, .int 0 0] }).get? sh.heap.objs.size = some (blank q) := Heap.get?_push_of_some _ hS
              exact SetOf_congr ((setObjOf_fresh (knd := knd) q).setOf hg (by unfold scanBound; omega)) (fun _ => rfl) rfl
            case hR =>
              intro s3 mv so
              obtain ⟨hp, gg, dd, tk, oo⟩ := s3
              have q1 : gg = sh.gens := mv.gens
              have q2 : dd = sh.drawn := mv.drawn
              have q3 : oo = sh.os := mv.os
              subst q1; subst q2; subst q3
              refine wpAny_pure (wpAny_pure ⟨rfl, hp, tk, rfl, so, fun b o hb e => mv.heap b o ?_ (Heap.get?_push_of_some _ (Heap.get?_push_of_some _ e))⟩)
              rw [Heap.size_push]; exact fun z => by rcases List.mem_cons.mp z with z | z; exact Nat.lt_irrefl _ (Nat.lt_of_lt_of_eq hb z.symm); exact Nat.lt_irrefl _ (Nat.lt_of_lt_of_eq (Nat.lt_succ_of_lt hb) (List.mem_singleton.mp z).symm)
          · cases r2 with
            | error e => exact hr2
            | ok fl2 =>
              cases fl2 with
              | ret r =>
                obtain ⟨rfl, hp, tk, rfl, so, kp⟩ := hr2
                repeat (any_goals (first | assumption | wp_step))
                exact fin _ _ so kp
              | _ => exact hr2.elim
        | _ => exact hr.elim)⟩))
end PS

namespace PD
open PySem L2
open PyProof.Rows (Call_)
/-! how many unlike texts a list or a tuple holds -/
def dist (ss : List (List Nat)) : Nat := (PS.met (fun i => ss.getD i []) ss.length).length
def lenSetL (xs : List D) : Option D := match strsD xs with | some ss => if ss.length ≤ 4000 then some (.int (dist ss)) else none | none => none
def fLenSet (d : D) : Option D := match d with | .lst xs => lenSetL xs | .tup xs => lenSetL xs | _ => none
theorem met_mk (f : Nat → List Nat) : ∀ n : Nat, PS.met (fun i => mk (f i)) n = (PS.met f n).map mk
  | 0 => rfl
  | n + 1 => by
    have e : ((PS.met f n).map mk).any (· == mk (f n)) = (PS.met f n).any (· == f n) := by
      rw [List.any_map, Bool.eq_iff_iff, List.any_eq_true, List.any_eq_true]
      constructor
      · rintro ⟨x, hx, h⟩
        exact ⟨x, hx, by simp at h ⊢; exact mk_inj h⟩
      · rintro ⟨x, hx, h⟩
        exact ⟨x, hx, by simp at h ⊢; rw [h]⟩
    rw [PS.met, PS.met, met_mk f n, e]
    split <;> simp
def tLS (K : PySem.W.Frag) (ta : TE) : TE := fun σ H Q => ta σ H fun x H1 => ∃ l, ∃ ss : List (List Nat), x = .ref l ∧ (SqL K H1 l ((ss.map mk).map V.str) ∨ SqT K H1 l ((ss.map mk).map V.str)) ∧ ss.length ≤ 4000 ∧ Q (.int (dist ss)) H1
theorem pe_ls {X : Cx} {a : Expr} {ta : TE} {p p2 q pos : Pos} (hc : X.calm = true) (hg : Gl X "len") (hm : X.mg "len" = none) (hg2 : Gl X "set") (hm2 : X.mg "set" = none) (ha : PE X a ta)
    (na : starEach [a] X.env = (false, eval a X.env) :: starEach [] X.env) : PE X (.Call (.Name "len" p) [.Call (.Name "set" p2) [a] [] q] [] pos) (tLS X.K ta) := by
  refine ⟨fun pins s σ H Q I h => Call_ (ld_blt I hg hm boot_len (PyProof.Rows.callWith_builtin1 (PyProof.Rows.args_cons (Call_ (ld_blt I hg2 hm2 (show bootBuiltins "set" = some (.type "set") by decide +kernel) ?_)) rfl) rfl rfl))⟩
  refine PyProof.Rows.callWith_type1 (PyProof.Rows.args_cons (thn (ha.run pins s σ H _ I h) fun v s1 ⟨x, H1, I1, r1, q1⟩ => PyProof.Rows.args_nil ?_) na) na rfl
  obtain ⟨l, ss, rfl, hq, hs, q1⟩ := q1
  cases r1
  have sz : ∀ its : List Value, Vals ((ss.map mk).map V.str) its → its.toArray.size = ss.length := fun its r => by rw [List.size_toArray, ← r.length, List.length_map, List.length_map]
  have key : ∀ its : List Value, Vals ((ss.map mk).map V.str) its → ∀ i v, its.toArray[i]? = some v → (PySem.strKind X.prog X.w).is (mk (ss.getD i [])) v = true ∧ v.scannable = true := fun its r i v hv => by
    obtain ⟨t, e⟩ := SS.strs_at (strsAre_of r) i v (by simpa using hv)
    have lt : i < ss.length := by
      rw [← sz its r]
      rcases Nat.lt_or_ge i its.toArray.size with z | z
      · exact z
      · rw [Array.getElem?_eq_none z] at hv; cases hv
    have e2 : (ss.map mk).getD i PySem.Str.empty = mk (ss.getD i []) := by simp [List.getD, lt]
    rw [e2] at e
    subst e
    exact ⟨strKind_is _ _ _ _, rfl⟩
  have fin : ∀ its : List Value, Vals ((ss.map mk).map V.str) its → ∀ (hp : Heap) (tk : Nat), hp.SetOf (PySem.strKind X.prog X.w) s1.heap.objs.size (fun x => (PS.met (fun i => mk (ss.getD i [])) its.toArray.size).any (· == x)) (PS.met (fun i => mk (ss.getD i [])) its.toArray.size).length →
      (∀ b o, b < s1.heap.objs.size → s1.heap.get? b = some o → hp.get? b = some o) →
      wpAny (model X.prog X.w) X.A (spliced (backTo pos (starEach [] X.env))) (fun vs s2 => wpAny (model X.prog X.w) X.A (call (.builtin "len") (Value.ref s1.heap.objs.size :: vs)) (EP X pins σ Q) X.xe s2) X.xe { s1 with heap := hp, toks := tk } := fun its r hp tk hS hk => by
    refine PyProof.Rows.args_nil ?_
    have e : (PS.met (fun i => mk (ss.getD i [])) its.toArray.size).length = dist ss := by rw [sz its r, met_mk, List.length_map]; rfl
    have hd := PS.met_le (val := fun i => ss.getD i []) ss.length
    rw [e] at hS
    obtain ⟨o, es, ep, t, ho, hex, hd2, _, _, _, hf, hn⟩ := hS
    have I2 : Inv X pins σ H1 { s1 with heap := hp, toks := tk } := I1.kept fun b o e => hk b o (Heap.lt_size e) e
    exact call_len_set ho hex hd2 hf (by rw [hn]; unfold dist; omega) ⟨.int (dist ss), H1, I2.tok _, ⟨_, by rw [hn]⟩, q1⟩
  rcases hq with hq | hq
  · obtain ⟨its, r, pl, hz⟩ := I1.list hq
    exact PS.make_list (PySem.strKind X.prog X.w) _ (I1.ok.hd hc) pl.isList (key its r) (by rw [sz its r]; unfold PySem.scanBound; omega) fun hp tk hS hk => fin its r hp tk hS hk
  · obtain ⟨its, r, pl, hz⟩ := I1.tuple hq
    exact PS.make_tuple (PySem.strKind X.prog X.w) _ (I1.ok.hd hc) pl (key its r) (by rw [sz its r]; unfold PySem.scanBound; omega) fun hp tk hS hk => fin its r hp tk hS hk
theorem e_lenSet {X : Cx} {a : Expr} {f : C D} {p p2 q pos : Pos} (hc : X.calm = true) (hm : X.mg "len" = none) (hm2 : X.mg "set" = none) (ha : DX X a f) (hg : Gl X "len" := by rfl) (hg2 : Gl X "set" := by rfl) (hs : starEach [a] X.env = (false, eval a X.env) :: starEach [] X.env := by rfl) :
    DE X (.Call (.Name "len" p) [.Call (.Name "set" p2) [a] [] q] [] pos) (eUnX fLenSet f) := by
  obtain ⟨t, h, run⟩ := ha.ex
  refine ⟨_, pe_ls hc hg hm hg2 hm2 h hs, fun Ex σ H ρ as d ρ' Q k e q => ?_⟩
  unfold eUnX at e
  split at e
  · rename_i d1 ρ1 h1
    split at e
    · rename_i r1 h2
      split at e
      · rename_i fl
        cases e
        have one : ∀ xs ss vs (H1 : Hp) (a : Addr), RepL X.K Bot H1 xs vs → strsD xs = some ss → (SqL X.K H1 a vs ∨ SqT X.K H1 a vs) → SqL X.K H1 a ((ss.map mk).map V.str) ∨ SqT X.K H1 a ((ss.map mk).map V.str) := fun xs ss vs H1 a r hs z => by rw [← strsD_spec r hs]; exact z
        have two : ∀ xs d, lenSetL xs = some d → ∃ ss, strsD xs = some ss ∧ ss.length ≤ 4000 ∧ d = .int (dist ss) := fun xs d h => by
          unfold lenSetL at h
          split at h
          · rename_i ss hs
            split at h
            · rename_i hl; exact ⟨ss, hs, hl, by cases h; rfl⟩
            · cases h
          · cases h
        refine run Ex σ H ρ as d1 _ _ k h1 fun v H1 k1 f1 g1 rv => ?_
        unfold fLenSet at h2
        split at h2
        · obtain ⟨ss, hs, hl, rfl⟩ := two _ _ h2
          obtain ⟨a, vs, e2, l, rr⟩ := rep_lst.mp rv
          exact ⟨a, ss, e2, one _ ss vs H1 a rr hs (.inl l.seq), hl, q _ H1 k1 f1 g1 (rep_int.mpr rfl)⟩
        · obtain ⟨ss, hs, hl, rfl⟩ := two _ _ h2
          obtain ⟨a, vs, e2, l, rr⟩ := rep_tup.mp rv
          exact ⟨a, ss, e2, one _ ss vs H1 a rr hs (.inr l.seq), hl, q _ H1 k1 f1 g1 (rep_int.mpr rfl)⟩
        · cases h2
      · cases e
    · cases e
  · cases e
section
variable {ρ : Rho} {QD : D → Rho → Prop} {Q : D → Prop}
theorem w_eBinX {fn : D → D → Option D} {f : C D} {p : Rho → Option D} : wp (eBinX fn f p) ρ QD = wp f ρ fun d ρ1 => ho (p ρ1) fun e => ho (fn d e) fun r => flatD r = true ∧ QD r ρ1 := by
  unfold wp eBinX ho; cases f ρ with
  | none => rfl
  | some z => obtain ⟨d, r⟩ := z; cases h : p r with
    | none => simp [h]
    | some e => cases h2 : fn d e with
      | none => simp [h, h2]
      | some q => cases hq : flatD q <;> simp [h, h2, hq]
theorem w_eTupleP {i : Nat} : wp (eTupleP i) ρ QD = match ρ[i]? with | some (.own ds) => QD (.tup ds) ρ | some (.dat (.lst ds)) => QD (.tup ds) ρ | some (.dat (.tup ds)) => QD (.tup ds) ρ | _ => False := by
  unfold wp eTupleP; cases ρ[i]? with
  | none => rfl
  | some s => cases s with
    | dat d => cases d <;> rfl
    | _ => rfl
theorem z_lset_l {xs : List D} : ho (fLenSet (.lst xs)) Q = ho (strsD xs) fun ss => ss.length ≤ 4000 ∧ Q (.int (dist ss)) := by
  simp only [fLenSet, lenSetL]; cases strsD xs with
  | none => rfl
  | some ss => by_cases h : ss.length ≤ 4000 <;> simp [h]
theorem z_lset_t {xs : List D} : ho (fLenSet (.tup xs)) Q = ho (strsD xs) fun ss => ss.length ≤ 4000 ∧ Q (.int (dist ss)) := by
  simp only [fLenSet, lenSetL]; cases strsD xs with
  | none => rfl
  | some ss => by_cases h : ss.length ≤ 4000 <;> simp [h]
end
theorem met_mem {f : Nat → List Nat} {x : List Nat} : ∀ {n : Nat}, x ∈ PS.met f n ↔ ∃ i, i < n ∧ f i = x
  | 0 => by simp [PS.met]
  | n + 1 => by
    rw [PS.met]
    have ih := met_mem (f := f) (x := x) (n := n)
    split
    · rename_i h
      rw [ih]
      simp at h
      have h2 := met_mem.mp h
      obtain ⟨j, hj, e⟩ := h2
      refine ⟨fun ⟨i, hi, e2⟩ => ⟨i, by omega, e2⟩, fun ⟨i, hi, e2⟩ => ?_⟩
      rcases Nat.lt_or_ge i n with z | z
      · exact ⟨i, z, e2⟩
      · have : i = n := by omega
        subst this; exact ⟨j, hj, by rw [e, e2]⟩
    · rw [List.mem_append, ih]
      refine ⟨fun h => ?_, fun ⟨i, hi, e2⟩ => ?_⟩
      · rcases h with ⟨i, hi, e⟩ | h
        · exact ⟨i, by omega, e⟩
        · exact ⟨n, by omega, (List.mem_singleton.mp h).symm⟩
      · rcases Nat.lt_or_ge i n with z | z
        · exact .inl ⟨i, z, e2⟩
        · have : i = n := by omega
          subst this; exact .inr (by simp [e2])
theorem met_full {f : Nat → List Nat} : ∀ {n : Nat}, (PS.met f n).length = n ↔ ∀ i j, i < j → j < n → f i ≠ f j
  | 0 => by simp [PS.met]
  | n + 1 => by
    have ih := met_full (f := f) (n := n)
    have le := PS.met_le (val := f) n
    rw [PS.met]
    split
    · rename_i h
      simp at h
      obtain ⟨j, hj, e⟩ := met_mem.mp h
      refine ⟨fun h => by omega, fun h => absurd e (h j n hj (by omega))⟩
    · rename_i h
      simp at h
      rw [List.length_append, List.length_singleton]
      constructor
      · intro h2 i j hij hj
        have h3 := ih.mp (by omega)
        rcases Nat.lt_or_ge j n with z | z
        · exact h3 i j hij z
        · have : j = n := by omega
          subst this
          exact fun e => h (met_mem.mpr ⟨i, hij, e⟩)
      · intro h2
        have := ih.mpr fun i j hij hj => h2 i j hij (by omega)
        omega
theorem dist_le {ss : List (List Nat)} : dist ss ≤ ss.length := PS.met_le _
theorem dist_iff {ss : List (List Nat)} : dist ss = ss.length ↔ ss.Nodup := by
  unfold dist; rw [met_full, List.Nodup, List.pairwise_iff_getElem]
  constructor
  · intro h i j hi hj hij
    have := h i j hij hj
    simpa [List.getD, hi, hj] using this
  · intro h i j hij hj
    have := h i j (by omega) hj hij
    simpa [List.getD, hj, show i < ss.length by omega] using this
/-! comprehensions over items that are told by others -/
theorem wl_filtS {α : Type} {vs : List Nat} {b : D → Rho → Option Rho} {tt : C Bool} {f : C D} {w : Rho} {Q : List D → Rho → Prop} (g q : α → D) (p : α → Bool) {xs : List α}
    (hc : ∀ x, x ∈ xs → ho (b (g x) w) fun ρ1 => wp tt ρ1 fun c ρ2 => c = p x ∧ if c = true then wp f ρ2 fun y ρ3 => y = q x ∧ wipeR vs ρ3 = w else wipeR vs ρ2 = w) (hq : Q ((xs.filter p).map q) w) : wl vs b tt f (xs.map g) w Q := by
  induction xs generalizing Q with
  | nil => rw [List.map_nil, wl_nil]; exact hq
  | cons d ds ih =>
    rw [List.map_cons, wl_cons]
    refine ho_mono (hc d (.head _)) fun ρ1 h1 => wp_mono h1 fun c ρ2 h2 => ?_
    obtain ⟨h2, h3⟩ := h2
    cases c with
    | false =>
      simp only [Bool.false_eq_true, if_false] at h3 ⊢
      rw [h3]; refine ih (fun e z => hc e (.tail _ z)) ?_
      simpa [← h2] using hq
    | true =>
      simp only [if_true] at h3 ⊢
      refine wp_mono h3 fun y ρ3 h4 => ?_
      rw [h4.2, h4.1]; refine ih (fun e z => hc e (.tail _ z)) ?_
      simpa [← h2] using hq
theorem wl_mapS {α : Type} {vs : List Nat} {b : D → Rho → Option Rho} {tt : C Bool} {f : C D} {w : Rho} {Q : List D → Rho → Prop} (g q : α → D) {xs : List α}
    (hc : ∀ x, x ∈ xs → ho (b (g x) w) fun ρ1 => wp tt ρ1 fun c ρ2 => c = true ∧ wp f ρ2 fun y ρ3 => y = q x ∧ wipeR vs ρ3 = w) (hq : Q (xs.map q) w) : wl vs b tt f (xs.map g) w Q := by
  refine wl_filtS g q (fun _ => true) (fun x hx => ho_mono (hc x hx) fun ρ1 h => wp_mono h fun c ρ2 h2 => ⟨h2.1, ?_⟩) (by rw [List.filter_eq_self.mpr (fun _ _ => rfl)]; exact hq)
  rw [h2.1]; exact h2.2
/-- a tuple of texts that may be asked about -/
def GT (ts : List (List Nat)) : Prop := ts.length ≤ 12 ∧ ts.Nodup ∧ ∀ t, t ∈ ts → t.length ≤ 40 ∧ ∀ c, c ∈ t → isSign c
theorem allBT (n : Nat) : allB (List.replicate n (.bl true)) = some true := by
  induction n with
  | zero => rfl
  | succ n ih => rw [List.replicate_succ, allB, ih]; rfl
theorem eqF_str {a b : List Nat} : eqF (.str a) (.str b) = decide (a = b) := rfl
theorem any_strs {ts : List (List Nat)} {x : List Nat} : ((ts.map D.str).any fun y => eqF y (.str x)) = decide (x ∈ ts) := by
  rw [List.any_map, Bool.eq_iff_iff, List.any_eq_true, decide_eq_true_iff]
  constructor
  · rintro ⟨y, hy, h⟩
    simp [eqF_str] at h; exact h ▸ hy
  · intro h; exact ⟨x, h, by simp [eqF_str]⟩
theorem flat_strs {ts : List (List Nat)} : (ts.map D.str).all flatD = true := by
  rw [List.all_map, List.all_eq_true]; intro x _; rfl
/-- all ways, in the order in which they are told -/
def allW : List (List Nat × List Nat × List Nat × List Nat) :=
  [[101, 110, 100], [109, 105, 100, 100, 108, 101], [115, 116, 97, 114, 116]].flatMap fun p => [[115, 105, 103, 110, 115], [119, 111, 114, 100, 115]].flatMap fun u => [[100, 114, 111, 112], [107, 101, 101, 112]].flatMap fun e => [[], [46], [126]].map fun m => (p, u, e, m)
def wayD (x : List Nat × List Nat × List Nat × List Nat) : D := .tup [.str x.1, .str x.2.1, .str x.2.2.1, .str x.2.2.2]
def shwW (x : List Nat × List Nat × List Nat × List Nat) (w : Nat) (t : List Nat) : List Nat := shw x.1 x.2.1 x.2.2.1 x.2.2.2 t w
theorem way_all {x : List Nat × List Nat × List Nat × List Nat} (h : x ∈ allW) : Way (wayD x) := by
  unfold allW at h
  simp only [List.mem_flatMap, List.mem_map] at h
  obtain ⟨p, hp, u, hu, e, he, m, hm, rfl⟩ := h
  refine ⟨p, u, e, m, rfl, by simpa using hp, by simpa using hu, by simpa using he, by simpa using hm⟩
theorem way_marked {p u e m : List Nat} (h : Way (.tup [.str p, .str u, .str e, .str m])) : m.length ≤ 1 ∧ ∀ m', m' ∈ [[], [46], [126]] → Way (.tup [.str p, .str u, .str e, .str m']) := by
  obtain ⟨p', u', e', m', he, h1, h2, h3, h4⟩ := h
  simp only [D.tup.injEq, List.cons.injEq, D.str.injEq, and_true] at he
  obtain ⟨rfl, rfl, rfl, rfl⟩ := he
  exact ⟨by rcases h4 with rfl | rfl | rfl <;> simp, fun m' hm => ⟨_, _, _, _, rfl, h1, h2, h3, by simpa using hm⟩⟩
/-- whether all look unlike -/
def clearW (x : List Nat × List Nat × List Nat × List Nat) (w : Nat) (ts : List (List Nat)) : Bool := decide (dist (ts.map (shwW x w)) = ts.length)
end PD

namespace PD
open PySem L2
/-! stretches of widths -/
abbrev Row := Nat × Nat × List Nat
def rowD (r : Row) : D := .tup [.int r.1, .int r.2.1, .str r.2.2]
def stepV (v : List Row) (n : Nat) (s : List Nat) : List Row := match v.getLast? with
  | some r => if r.2.2 = s then v.dropLast ++ [(r.1, n, s)] else v ++ [(n, n, s)]
  | none => v ++ [(n, n, s)]
def vw (f : Nat → List Nat) : Nat → List Row
  | 0 => []
  | n + 1 => stepV (vw f n) n (f n)
theorem atL {α : Type} {xs : List α} : atI xs (-1) = xs.getLast? := by
  unfold atI ixN; rw [if_neg (by omega)]
  by_cases h : (-(xs.length : Int)) ≤ -1
  · rw [if_pos h, List.getLast?_eq_getElem?]
    show xs[(-1 + (xs.length : Int)).toNat]? = _
    congr 1; omega
  · rw [if_neg h]
    have : xs = [] := List.eq_nil_of_length_eq_zero (by omega)
    subst this; rfl
theorem cut_last {α : Type} {xs : List α} : cutL xs none (some (-1)) = xs.dropLast := by
  unfold cutL
  have : HT.sIx xs.length xs.length (some (-1)) = xs.length - 1 := by
    show (if (-1 : Int) < 0 then ((-1 : Int) + (xs.length : Int)).toNat else min (-1 : Int).toNat xs.length) = xs.length - 1
    rw [if_pos (by omega)]; omega
  rw [HT.sIx_none, this, List.dropLast_eq_take]; simp
theorem vw_last {f : Nat → List Nat} : ∀ n : Nat, ∃ ini lo, vw f (n + 1) = ini ++ [(lo, n, f n)] ∧ lo ≤ n ∧ (∀ w, lo ≤ w → w ≤ n → f w = f n) ∧ (∀ m, m ≤ n → (∀ w, m ≤ w → w ≤ n → f w = f n) → lo ≤ m) ∧ (vw f (n + 1)).length ≤ n + 1
  | 0 => ⟨[], 0, rfl, by omega, fun w _ h => by rw [Nat.le_zero.mp h], fun m _ _ => by omega, by simp [vw, stepV]⟩
  | n + 1 => by
    obtain ⟨ini, lo, e, h1, h2, h3, h4⟩ := vw_last (f := f) n
    have e2 : vw f (n + 1 + 1) = stepV (vw f (n + 1)) (n + 1) (f (n + 1)) := rfl
    rw [e2, e, stepV]
    rw [e] at h4
    simp only [List.getLast?_append, List.getLast?_singleton, Option.some_or, List.dropLast_concat]
    simp at h4
    by_cases hc : f n = f (n + 1)
    · rw [if_pos hc]
      refine ⟨ini, lo, rfl, by omega, fun w a b => ?_, fun m a b => ?_, by simp; omega⟩
      · rcases Nat.lt_or_ge n w with z | z
        · rw [show w = n + 1 by omega]
        · rw [← hc]; exact h2 w a z
      · rcases Nat.lt_or_ge n m with z | z
        · omega
        · exact h3 m z fun w c d => by rw [hc]; exact b w c (by omega)
    · rw [if_neg hc]
      refine ⟨ini ++ [(lo, n, f n)], n + 1, rfl, by omega, fun w a b => by rw [show w = n + 1 by omega], fun m a b => ?_, by simp; omega⟩
      rcases Nat.lt_or_ge n m with z | z
      · omega
      · exact absurd (b n z (by omega)) hc
theorem vw_len {f : Nat → List Nat} : ∀ n : Nat, (vw f n).length ≤ n
  | 0 => by simp [vw]
  | n + 1 => by obtain ⟨_, _, _, _, _, _, h⟩ := vw_last (f := f) n; exact h
theorem shw_fit {p u e m t : List Nat} {w : Nat} (h : t.length ≤ w) : shw p u e m t w = t := by unfold shw; rw [if_pos h]
/-- by signs, what is shown of a longer text fills its place -/
theorem front_full {t u : List Nat} {n : Nat} (hu : u = [115, 105, 103, 110, 115]) (h : n ≤ t.length) : (front t n u).length = n := by
  subst hu; unfold front; simp; omega
theorem back_full {t u : List Nat} {n : Nat} (hu : u = [115, 105, 103, 110, 115]) (h : n ≤ t.length) : (back t n u).length = n := by
  unfold back; rw [List.length_reverse]; exact front_full hu (by simpa using h)
theorem cutP_full {p u m t : List Nat} {w : Nat} (hu : u = [115, 105, 103, 110, 115]) (h : w ≤ t.length) (hm : m.length ≤ w) : (cutP p u m t w).length = w := by
  unfold cutP
  have h1 := front_full (t := t) (n := w - m.length) hu (by omega)
  have h2 := back_full (t := t) (n := w - m.length) hu (by omega)
  have h3 := front_full (t := t) (n := w - m.length - (w - m.length) / 2) hu (by omega)
  have h4 := back_full (t := t) (n := (w - m.length) / 2) hu (by omega)
  rw [if_neg (by omega)]
  split
  · simp; omega
  · split
    · simp; omega
    · simp; omega
theorem shw_full {p u e m t : List Nat} {w : Nat} (hu : u = [115, 105, 103, 110, 115]) (h : w < t.length) (hm : m.length ≤ w) : (shw p u e m t w).length = w := by
  unfold shw
  rw [if_neg (by omega)]
  split
  · rename_i hc
    have := cutP_full (p := p) (m := m) (t := t.take (t.length - (tail t).length)) (w := w - (tail t).length) hu (by simp; omega) (by omega)
    simp; omega
  · exact cutP_full hu (by omega) hm
theorem okD_strs {ss : List (List Nat)} (h : ∀ s, s ∈ ss → ∀ c, c ∈ s → c < 1114112) : okD (.lst (ss.map D.str)) = true := by
  refine okD_of (n := 1) ?_ (by omega)
  rw [dp]; refine dpL_all fun d hd => ?_
  obtain ⟨x, hx, rfl⟩ := List.mem_map.mp hd
  simpa [dp] using h x hx
theorem eqv_strs {ss tt : List (List Nat)} : (PyData.eqv (py (.lst (ss.map D.str))) (py (.lst (tt.map D.str))) = true ↔ ss = tt) := by
  rw [eqv_pl (by rw [pl]; exact plL_map (fun _ => rfl) ss) (by rw [pl]; exact plL_map (fun _ => rfl) tt), D.lst.injEq]
  exact ⟨fun h => by
    have := congrArg (fun l => strsD l) h
    rw [strsD_map, strsD_map] at this; exact Option.some.inj this, fun h => by rw [h]⟩
/-- only signs of the text and the mark are shown -/
theorem front_mem {t u : List Nat} {n c : Nat} (h : c ∈ front t n u) : c ∈ t := by
  obtain ⟨x, _, e⟩ := front_take (t := t) (u := u) (n := n)
  rw [e] at h; exact List.mem_of_mem_take h
theorem back_mem {t u : List Nat} {n c : Nat} (h : c ∈ back t n u) : c ∈ t := by
  obtain ⟨x, _, e⟩ := back_drop (t := t) (u := u) (n := n)
  rw [e] at h; exact List.mem_of_mem_drop h
theorem tail_mem {t : List Nat} {c : Nat} (h : c ∈ tail t) : c ∈ t := by rw [tail_drop] at h; exact List.mem_of_mem_drop h
theorem cutP_mem {p u m t : List Nat} {w c : Nat} (h : c ∈ cutP p u m t w) : c ∈ t ∨ c ∈ m := by
  unfold cutP at h
  split at h
  · cases h
  · split at h
    · rcases List.mem_append.mp h with z | z
      · exact .inl (front_mem z)
      · exact .inr z
    · split at h
      · rcases List.mem_append.mp h with z | z
        · exact .inr z
        · exact .inl (back_mem z)
      · rcases List.mem_append.mp h with z | z
        · rcases List.mem_append.mp z with z | z
          · exact .inl (front_mem z)
          · exact .inr z
        · exact .inl (back_mem z)
theorem shw_mem {p u e m t : List Nat} {w c : Nat} (h : c ∈ shw p u e m t w) : c ∈ t ∨ c ∈ m := by
  unfold shw at h
  split at h
  · exact .inl h
  · split at h
    · rcases List.mem_append.mp h with z | z
      · rcases cutP_mem z with y | y
        · exact .inl (List.mem_of_mem_take y)
        · exact .inr y
      · exact .inl (tail_mem z)
    · exact cutP_mem h
theorem way_sign {p u e m : List Nat} (h : Way (.tup [.str p, .str u, .str e, .str m])) : ∀ c, c ∈ m → isSign c := by
  obtain ⟨p', u', e', m', he, h1, h2, h3, h4⟩ := h
  simp only [D.tup.injEq, List.cons.injEq, D.str.injEq, and_true] at he
  obtain ⟨rfl, rfl, rfl, rfl⟩ := he
  rcases h4 with rfl | rfl | rfl <;> simp [isSign]
theorem sign_lt {c : Nat} (h : isSign c) : c < 1114112 := by simp [isSign] at h; omega
end PD

namespace PD
open PySem L2
/-! while, by what gets less -/
theorem ws_whileN {c : C Bool} {g : S} {Q : Out → Prop} (I : Nat → Rho → Prop) (hc : ∀ k ρ, I k ρ → wp c ρ fun b ρ1 => if b = true then ws g ρ1 fun o => lpO o (fun ρ2 => ∃ k', k' < k ∧ I k' ρ2) Q else Q (.nx ρ1)) :
    ∀ n k ρ, k < n → I k ρ → ws (whileL c g n) ρ Q
  | 0, k, ρ, h, _ => by omega
  | n + 1, k, ρ, h, hi => by
    have e := hc k ρ hi
    unfold wp at e
    unfold ws
    rw [whileL]
    cases h1 : c ρ with
    | none => rw [h1] at e; exact e.elim
    | some p =>
      obtain ⟨b, ρ1⟩ := p
      rw [h1] at e
      cases b with
      | false => simpa using e
      | true =>
        simp only [if_true] at e ⊢
        unfold ws at e
        cases h2 : g ρ1 with
        | none => rw [h2] at e; exact e.elim
        | some o =>
          rw [h2] at e
          cases o with
          | nx r => obtain ⟨k', hk, hi2⟩ := e; have := ws_whileN I hc n k' r (by omega) hi2; unfold ws at this; exact this
          | ct r => obtain ⟨k', hk, hi2⟩ := e; have := ws_whileN I hc n k' r (by omega) hi2; unfold ws at this; exact this
          | bk r => exact e
          | rt d r => exact e
theorem ws_while {c : C Bool} {g : S} {Q : Out → Prop} (I : Nat → Rho → Prop) {k : Nat} {ρ : Rho} (hk : k ≤ 1000000) (h : I k ρ) (hc : ∀ k ρ, I k ρ → wp c ρ fun b ρ1 => if b = true then ws g ρ1 fun o => lpO o (fun ρ2 => ∃ k', k' < k ∧ I k' ρ2) Q else Q (.nx ρ1)) : ws (sWhile c g) ρ Q :=
  ws_whileN I hc _ k ρ (Nat.lt_of_le_of_lt hk (by decide)) h
/-- down from n while the next below passes -/
def lc (P : Nat → Bool) : Nat → Nat
  | 0 => 0
  | n + 1 => if P n then lc P n else n + 1
/-! turned texts -/
theorem rev_one {m : List Nat} (h : m.length ≤ 1) : m.reverse = m := by
  match m, h with
  | [], _ => rfl
  | [a], _ => rfl
theorem back_rev {t u : List Nat} {n : Nat} : back t.reverse n u = (front t n u).reverse := by unfold back; rw [List.reverse_reverse]
theorem front_rev {t u : List Nat} {n : Nat} : front t.reverse n u = (back t n u).reverse := by unfold back; rw [List.reverse_reverse]
theorem shw_turn {u m t : List Nat} {w : Nat} (hm : m.length ≤ 1) : shw [115, 116, 97, 114, 116] u [100, 114, 111, 112] m t.reverse w = (shw [101, 110, 100] u [100, 114, 111, 112] m t w).reverse := by
  unfold shw
  rw [List.length_reverse]
  split
  · rfl
  · simp only [cutP]
    simp
    split
    · rfl
    · simp [back_rev, rev_one hm]
theorem shw_turn2 {u m t : List Nat} {w : Nat} (hm : m.length ≤ 1) : shw [101, 110, 100] u [100, 114, 111, 112] m t.reverse w = (shw [115, 116, 97, 114, 116] u [100, 114, 111, 112] m t w).reverse := by
  have := shw_turn (u := u) (m := m) (t := t.reverse) (w := w) hm
  rw [List.reverse_reverse] at this
  rw [this, List.reverse_reverse]
theorem shw_turn3 {u m t : List Nat} {w : Nat} (hm : m.length ≤ 1) (h : w < m.length ∨ (w - m.length) / 2 * 2 = w - m.length) : shw [109, 105, 100, 100, 108, 101] u [100, 114, 111, 112] m t.reverse w = (shw [109, 105, 100, 100, 108, 101] u [100, 114, 111, 112] m t w).reverse := by
  unfold shw
  rw [List.length_reverse]
  split
  · rfl
  · simp only [cutP]
    simp
    by_cases h0 : w < m.length
    · rw [if_pos h0, if_pos h0]; rfl
    · rw [if_neg h0, if_neg h0]
      rcases h with h | h
      · exact absurd h h0
      · rw [show w - m.length - (w - m.length) / 2 = (w - m.length) / 2 by omega]
        simp [front_rev, back_rev, rev_one hm]
def turnR (r : Row) : Row := (r.1, r.2.1, r.2.2.reverse)
theorem stepV_turn {v : List Row} {n : Nat} {s : List Nat} : stepV (v.map turnR) n s.reverse = (stepV v n s).map turnR := by
  rcases List.eq_nil_or_concat v with h0 | ⟨ini, ⟨lo, hi, s'⟩, h0⟩
  · subst h0; simp [stepV, turnR]
  · subst h0
    simp only [List.concat_eq_append, stepV, List.map_append, List.map_cons, List.map_nil, List.getLast?_append, List.getLast?_singleton, Option.some_or, List.dropLast_concat]
    by_cases h : s' = s
    · subst h; simp [turnR]
    · rw [if_neg h, if_neg (show ¬ (turnR (lo, hi, s')).2.2 = s.reverse from fun z => h (List.reverse_inj.mp z))]
      simp [turnR]
theorem vw_turn {f g : Nat → List Nat} (h : ∀ w, g w = (f w).reverse) : ∀ n : Nat, vw g n = (vw f n).map turnR
  | 0 => rfl
  | n + 1 => by rw [vw, vw, vw_turn h n, h n, stepV_turn]
theorem nodup_turn {ss : List (List Nat)} : (ss.map List.reverse).Nodup ↔ ss.Nodup := by
  unfold List.Nodup; rw [List.pairwise_map]
  exact ⟨fun h => h.imp fun hab e => hab (by rw [e]), fun h => h.imp fun hab e => hab (List.reverse_inj.mp e)⟩
theorem shw_drop {p u m t : List Nat} {w : Nat} (h : w < t.length) : shw p u [100, 114, 111, 112] m t w = cutP p u m t w := by
  simp [shw, show ¬ t.length ≤ w by omega]
theorem clearW_iff {x : List Nat × List Nat × List Nat × List Nat} {w : Nat} {ts : List (List Nat)} : clearW x w ts = true ↔ (ts.map (shwW x w)).Nodup := by
  unfold clearW; rw [decide_eq_true_iff, ← dist_iff, List.length_map]
/-! more signs behind or ahead -/
theorem gap_more {t more : List Nat} {k : Nat} (h : k < t.length) : gap (t ++ more) k = gap t k := by
  unfold gap
  rw [List.getElem?_append_left (by omega), List.getElem?_append_left (by omega)]
theorem front_more {t more u : List Nat} {n : Nat} (h : n < t.length) : front (t ++ more) n u = front t n u := by
  unfold front
  rw [lastP_cong (P := gap (t ++ more)) (R := gap t) fun k _ hk => gap_more (by omega)]
  have := last_getD (P := gap t) (n := n)
  rw [List.take_append_of_le_length]
  split <;> omega
theorem back_more {t more u : List Nat} {n : Nat} (h : n < t.length) : back (more ++ t) n u = back t n u := by
  unfold back; rw [List.reverse_append, front_more (by simpa using h)]
theorem shw_behind {u m t more : List Nat} {w : Nat} (h : w < t.length) : shw [101, 110, 100] u [100, 114, 111, 112] m (t ++ more) w = shw [101, 110, 100] u [100, 114, 111, 112] m t w := by
  rw [shw_drop (by simp; omega), shw_drop h]
  unfold cutP
  by_cases h0 : w < m.length
  · rw [if_pos h0, if_pos h0]
  · simp [h0, front_more (t := t) (more := more) (u := u) (n := w - m.length) (by omega)]
theorem shw_ahead {u m t more : List Nat} {w : Nat} (h : w < t.length) : shw [115, 116, 97, 114, 116] u [100, 114, 111, 112] m (more ++ t) w = shw [115, 116, 97, 114, 116] u [100, 114, 111, 112] m t w := by
  rw [shw_drop (by simp; omega), shw_drop h]
  unfold cutP
  by_cases h0 : w < m.length
  · rw [if_pos h0, if_pos h0]
  · simp [h0, back_more (t := t) (more := more) (u := u) (n := w - m.length) (by omega)]
theorem vw_cong {f g : Nat → List Nat} : ∀ {n : Nat}, (∀ w, w < n → f w = g w) → vw f n = vw g n
  | 0, _ => rfl
  | n + 1, h => by rw [vw, vw, vw_cong (n := n) fun w hw => h w (by omega), h n (by omega)]
/-- later widths change the last stretch alone -/
theorem vw_pre1 {f : Nat → List Nat} {n : Nat} : ∀ k : Nat, ∃ ini l, vw f (n + 1 + k) = (vw f (n + 1)).dropLast ++ (ini ++ [l])
  | 0 => by
    obtain ⟨ini, lo, e, _⟩ := vw_last (f := f) n
    exact ⟨[], (lo, n, f n), by rw [Nat.add_zero, e]; simp⟩
  | k + 1 => by
    obtain ⟨ini, ⟨lo, hi, s⟩, e⟩ := vw_pre1 (f := f) (n := n) k
    rw [show n + 1 + (k + 1) = (n + 1 + k) + 1 by omega, vw, stepV, e, ← List.append_assoc]
    simp only [List.getLast?_append, List.getLast?_singleton, Option.some_or, List.dropLast_concat]
    split
    · exact ⟨ini, _, List.append_assoc ..⟩
    · exact ⟨ini ++ [(lo, hi, s)], _, by rw [List.append_assoc, List.append_assoc, List.append_assoc]⟩
theorem vw_pre {f : Nat → List Nat} {n k : Nat} (h : n ≤ k) : ∃ r, vw f k = (vw f n).dropLast ++ r := by
  cases n with
  | zero => exact ⟨vw f k, rfl⟩
  | succ n =>
    obtain ⟨ini, l, e⟩ := vw_pre1 (f := f) (n := n) (k - (n + 1))
    rw [show n + 1 + (k - (n + 1)) = k by omega] at e
    exact ⟨_, e⟩
theorem vw_hi {f : Nat → List Nat} : ∀ {n : Nat} {r : Row}, r ∈ vw f n → r.2.1 < n
  | 0, r, h => by cases h
  | n + 1, r, h => by
    rw [vw, stepV] at h
    split at h
    · split at h
      · rcases List.mem_append.mp h with z | z
        · have := vw_hi (List.dropLast_subset _ z); omega
        · rw [List.mem_singleton.mp z]; exact Nat.lt_succ_self _
      · rcases List.mem_append.mp h with z | z
        · have := vw_hi z; omega
        · rw [List.mem_singleton.mp z]; exact Nat.lt_succ_self _
    · rcases List.mem_append.mp h with z | z
      · have := vw_hi z; omega
      · rw [List.mem_singleton.mp z]; exact Nat.lt_succ_self _
/-- from n on the same is shown, ahead of it something else: one more stretch -/
theorem vw_flat {f : Nat → List Nat} {n : Nat} (h1 : ∀ w, n ≤ w → f w = f n) (h2 : ∀ w, w < n → f w ≠ f n) : ∀ k : Nat, vw f (n + 1 + k) = vw f n ++ [(n, n + k, f n)]
  | 0 => by
    rw [Nat.add_zero, vw, stepV]
    cases n with
    | zero => rfl
    | succ n =>
      obtain ⟨ini, lo, e, _⟩ := vw_last (f := f) n
      rw [e]
      simp only [List.getLast?_append, List.getLast?_singleton, Option.some_or]
      rw [if_neg (h2 n (by omega))]
  | k + 1 => by
    rw [show n + 1 + (k + 1) = (n + 1 + k) + 1 by omega, vw, vw_flat h1 h2 k, stepV]
    simp only [List.getLast?_append, List.getLast?_singleton, Option.some_or, List.dropLast_concat]
    rw [if_pos (h1 _ (by omega)).symm, h1 (n + 1 + k) (by omega), show n + 1 + k = n + (k + 1) by omega]
end PD

namespace PD
open PySem L2
/-! list(range(..)) -/
def rLR1 : V → Hp → VK → Prop := fun x H Q => ∃ n, x = .int n ∧ RgOk 0 n ∧ ∀ q, H q = none → Q (.ref q) (upd H q (.lst (rgV 0 n)))
def rLR2 : R2 := fun x y H Q => ∃ i j, x = .int i ∧ y = .int j ∧ RgOk i j ∧ ∀ q, H q = none → Q (.ref q) (upd H q (.lst (rgV i j)))
def gRg2 (d e : D) : Option (List D) := match d, e with | .int i, .int j => if (big62 i && big62 j) = true ∧ (j - i).toNat ≤ lim then some (rangeD i (j - i).toNat) else none | _, _ => none
def gRg1 (d : D) : Option (List D) := gRg2 (.int 0) d
theorem rep_rgV {K : PySem.W.Frag} {M : Addr → Prop} {H : Hp} {i j : Int} : RepL K M H (rangeD i (j - i).toNat) (rgV i j) := by
  unfold rangeD rgV
  generalize List.range (j - i).toNat = l
  induction l with
  | nil => exact RepL.nil
  | cons k l ih => exact RepL.cons (rep_int.mpr rfl) ih
theorem v_lr2 {K : PySem.W.Frag} : V2o K rLR2 gRg2 := fun M H x y d e res Q t rx ry h q => by
  unfold gRg2 at h
  split at h
  · split at h
    · rename_i i j hc
      cases h
      obtain ⟨h1, h2⟩ := hc
      simp only [Bool.and_eq_true] at h1
      have b1 : -(2 ^ 62) ≤ i ∧ i < 2 ^ 62 := by have := h1.1; unfold big62 at this; simpa using this
      have b2 : -(2 ^ 62) ≤ j ∧ j < 2 ^ 62 := by have := h1.2; unfold big62 at this; simpa using this
      have hz : (rgV i j).length ≤ sizeLine := by rw [rgV_length]; exact Nat.le_trans h2 lim_line
      exact ⟨i, j, rep_int.mp rx, rep_int.mp ry, ⟨b1.1, b1.2, b2.1, b2.2, Nat.le_trans h2 (by decide)⟩, fun p hp => q p _ hp hz rep_rgV⟩
    · cases h
  · cases h
theorem v_lr1 {K : PySem.W.Frag} : V1o K rLR1 gRg1 := fun M H x d res Q t rx h q => by
  obtain ⟨i, j, e1, e2, ok, w⟩ := v_lr2 M H (.int 0) x (.int 0) d res Q t (rep_int.mpr rfl) rx h q
  cases e1
  exact ⟨j, e2, ok, w⟩
section
variable {X : Cx} {a b : Expr} {f g : C D} {p p2 q pos : Pos}
theorem o_lr1 (hc : X.calm = true) (hm : X.mg "list" = none) (hm2 : X.mg "range" = none) (ha : DE X a f) (hg : Gl X "list" := by rfl) (hg2 : Gl X "range" := by rfl) (hs : starEach [a] X.env = (false, eval a X.env) :: starEach [] X.env := by rfl)
    (hs2 : starEach [.Call (.Name "range" p2) [a] [] q] X.env = (false, eval (.Call (.Name "range" p2) [a] [] q) X.env) :: starEach [] X.env := by rfl) : DO X (.Call (.Name "list" p) [.Call (.Name "range" p2) [a] [] q] [] pos) (oUn gRg1 f) :=
  do_un v_lr1 ha fun _ h => pe_listRg hc hg hm (prg_1 hg2 hm2 h hs) hs2
theorem o_lr2 (hc : X.calm = true) (hm : X.mg "list" = none) (hm2 : X.mg "range" = none) (ha : DE X a f) (hb : DE X b g) (hg : Gl X "list" := by rfl) (hg2 : Gl X "range" := by rfl) (hs : starEach [a, b] X.env = (false, eval a X.env) :: starEach [b] X.env := by rfl)
    (hs3 : starEach [b] X.env = (false, eval b X.env) :: starEach [] X.env := by rfl) (hpl : (backTo q (starEach [b] X.env)).any (·.1) = false := by rfl)
    (hs2 : starEach [.Call (.Name "range" p2) [a, b] [] q] X.env = (false, eval (.Call (.Name "range" p2) [a, b] [] q) X.env) :: starEach [] X.env := by rfl) : DO X (.Call (.Name "list" p) [.Call (.Name "range" p2) [a, b] [] q] [] pos) (oBin gRg2 f g) :=
  do_bin v_lr2 ha hb fun _ _ h1 h2 => pe_listRg hc hg hm (prg_2 hg2 hm2 h1 h2 hs hs3 hpl) hs2
end
theorem z_rg2 {i j : Int} {QL : List D → Prop} : ho (gRg2 (.int i) (.int j)) QL = (((big62 i && big62 j) = true ∧ (j - i).toNat ≤ lim) ∧ QL (rangeD i (j - i).toNat)) := by
  unfold gRg2 ho; by_cases h : (big62 i && big62 j) = true ∧ (j - i).toNat ≤ lim <;> simp only [h] <;> simp
theorem z_rg1 {j : Int} {QL : List D → Prop} : ho (gRg1 (.int j)) QL = (((big62 0 && big62 j) = true ∧ (j - 0).toNat ≤ lim) ∧ QL (rangeD 0 (j - 0).toNat)) := z_rg2
end PD

namespace PD
open PySem L2
/-! enumerate, zip -/
def enumD (ds : List D) : List D := ds.mapIdx fun i d => .tup [.int (i : Nat), d]
def seqD : D → Option (List D)
  | .lst ds => some ds | .scr ds => some ds | _ => none
def iEnumD (f : C (List D)) : C (List D) := fun ρ => match f ρ with
  | some ([d], ρ1) => (match seqD d with | some ds => some (enumD ds, ρ1) | none => none)
  | _ => none
def zipD : D → D → Option (List D)
  | .lst xs, .lst ys => some (xs.zipWith (fun x y => .tup [x, y]) ys)
  | .tup xs, .tup ys => some (xs.zipWith (fun x y => .tup [x, y]) ys)
  | _, _ => none
def iZipD (f : C (List D)) : C (List D) := fun ρ => match f ρ with
  | some ([d, e], ρ1) => (match zipD d e with | some ds => some (ds, ρ1) | none => none)
  | _ => none
theorem walk_zipT {K : PySem.W.Frag} {a b : Addr} {xs ys : List V} {n : Nat} (hn : n = min xs.length ys.length) : Walk (RZ.ItzT K a b) n (fun H => SqT K H a xs ∧ SqT K H b ys) (YPair (fun i => xs[i]?) (fun i => ys[i]?)) := by
  subst hn
  refine ⟨fun i _ hi q => ?_, fun _ q => ⟨xs, ys, q.1, q.2, by omega⟩, fun i H v H' _ q y => ?_⟩
  · have h1 : i < xs.length := by omega
    have h2 : i < ys.length := by omega
    exact ⟨xs, ys, xs[i], ys[i], q.1, q.2, by simp [h1], by simp [h2]⟩
  · obtain ⟨T, x, z, h1, h2, h3, h4, h5⟩ := y
    exact ⟨T, x, z, h1, h2, h3, h4 xs q.1, h5 ys q.2⟩
section
variable {X : Cx} {tg it e a b : Expr} {es : List Expr} {fs : C (List D)}
theorem di_enum (h : DA X es fs) (hp : ∀ t, PA X es t → PI X tg it (iEnum X.K t)) : DI X tg it (iEnumD fs) := by
  obtain ⟨t, h, run⟩ := h.ex
  refine ⟨_, hp t h, fun Ex σ H ρ as ds ρ' R k e q => ?_⟩
  unfold iEnumD at e
  split at e
  · rename_i d ρ1 e1
    split at e
    · rename_i ds1 e2
      cases e
      refine run Ex σ H ρ as _ _ _ k e1 fun vs H' k' f' g' r => ?_
      obtain ⟨v, ev, rv⟩ := repL_one r
      obtain ⟨a, us, e3, l, rr⟩ : ∃ a us, v = .ref a ∧ (∀ M2 H2, Keep (MM Ex ρ' as) M2 H' H2 → SqL X.K H2 a us) ∧ RepL X.K (MM Ex ρ' as) H' ds1 us := by
        unfold seqD at e2
        split at e2 <;> cases e2
        · obtain ⟨a, us, e3, l, rr⟩ := rep_lst.mp rv
          exact ⟨a, us, e3, fun M2 H2 kp => (l.keep kp).seq, rr⟩
        · obtain ⟨a, us, e3, l, rr⟩ := rep_scr.mp rv
          exact ⟨a, us, e3, fun M2 H2 kp => (l.keep kp).seq, rr⟩
      subst e3
      refine ⟨a, us, ev, l _ _ (Keep.sub fun _ z => z), q _ H' _ _ k' f' g' (by rw [show (enumD ds1).length = us.length by simp [enumD, rr.length]]; exact walk_enum) (fun H2 M2 kp => l M2 H2 kp) fun i H2 x H3 M2 hi kp tk y => ?_⟩
      obtain ⟨T, x', y', e4, hT, e5, e6, e7⟩ := y
      cases e6
      subst e4 e5
      have hi' : i < ds1.length := by simpa [enumD] using hi
      have hd : ds1[i]? = some ds1[i] := List.getElem?_eq_getElem hi'
      obtain ⟨w, e8, rw'⟩ := rr.get hd
      have e7 : us[i]? = some y' := e7
      rw [e7] at e8
      cases e8
      exact ⟨same_upd hT, .tup [.int (i : Nat), ds1[i]], by simp [enumD, hi'], rep_newT tk hT (RepL.cons (rep_int.mpr rfl) (RepL.cons (rw'.keep kp) RepL.nil))⟩
    · cases e
  · cases e
theorem di_zip (h : DA X es fs) (hp : ∀ t, PA X es t → PI X tg it (RZ.iZipA X.K t)) : DI X tg it (iZipD fs) := by
  obtain ⟨t, h, run⟩ := h.ex
  refine ⟨_, hp t h, fun Ex σ H ρ as ds ρ' R k e q => ?_⟩
  unfold iZipD at e
  split at e
  · rename_i d1 d2 ρ1 e1
    split at e
    · rename_i ds1 e2
      cases e
      refine run Ex σ H ρ as _ _ _ k e1 fun vs H' k' f' g' r => ?_
      obtain ⟨v, w, ev, rv, rw'⟩ := repL_two r
      have fin : ∀ {xs ys : List D} {us ws : List V} {J : It} {G : Hp → Prop}, ds = xs.zipWith (fun x y => .tup [x, y]) ys → RepL X.K (MM Ex ρ' as) H' xs us → RepL X.K (MM Ex ρ' as) H' ys ws →
          Walk J (min us.length ws.length) G (YPair (fun i => us[i]?) (fun i => ws[i]?)) → (∀ H2 M2, Keep (MM Ex ρ' as) M2 H' H2 → G H2) → R J H' := fun {xs ys us ws J G} hds r1 r2 W hG => by
        subst hds
        refine q J H' G _ k' f' g' (by rw [show (xs.zipWith (fun x y => D.tup [x, y]) ys).length = min us.length ws.length by simp [r1.length, r2.length]]; exact W) hG fun i H2 x H3 M2 hi kp tk y => ?_
        obtain ⟨T, x', y', e4, hT, e5, e6, e7⟩ := y
        subst e4 e5
        have hi' : i < min xs.length ys.length := by simpa using hi
        have h1 : xs[i]? = some (xs[i]'(by omega)) := List.getElem?_eq_getElem _
        have h2 : ys[i]? = some (ys[i]'(by omega)) := List.getElem?_eq_getElem _
        obtain ⟨w1, e8, q1⟩ := r1.get h1
        obtain ⟨w2, e9, q2⟩ := r2.get h2
        have e6 : us[i]? = some x' := e6
        have e7 : ws[i]? = some y' := e7
        rw [e6] at e8
        rw [e7] at e9
        cases e8
        cases e9
        exact ⟨same_upd hT, .tup [xs[i]'(by omega), ys[i]'(by omega)], by simp [List.getElem?_zipWith, h1, h2], rep_newT tk hT (RepL.cons (q1.keep kp) (RepL.cons (q2.keep kp) RepL.nil))⟩
      unfold zipD at e2
      split at e2 <;> cases e2
      · obtain ⟨a, us, e3, l, r1⟩ := rep_lst.mp rv
        obtain ⟨b, ws, e4, l2, r2⟩ := rep_lst.mp rw'
        subst e3 e4
        exact ⟨a, b, us, ws, ev, .inl ⟨l.seq, l2.seq, fin rfl r1 r2 (walk_zip rfl) fun H2 M2 kp => ⟨(l.keep kp).seq, (l2.keep kp).seq⟩⟩⟩
      · obtain ⟨a, us, e3, l, r1⟩ := rep_tup.mp rv
        obtain ⟨b, ws, e4, l2, r2⟩ := rep_tup.mp rw'
        subst e3 e4
        exact ⟨a, b, us, ws, ev, .inr ⟨l.seq, l2.seq, fin rfl r1 r2 (walk_zipT rfl) fun H2 M2 kp => ⟨(l.keep kp).seq, (l2.keep kp).seq⟩⟩⟩
    · cases e
  · cases e
variable {q pos p tpos : Pos} {elts : List Expr} {kk : Nat}
theorem i_enum (hm : X.mg "enumerate" = none) (ha : DA X [a] fs) (hg : Gl X "enumerate" := by rfl) (hs : starEach [a] X.env = [(false, eval a X.env)] := by rfl) : DI X (.Tuple elts kk tpos) (.Call (.Name "enumerate" q) [a] [] pos) (iEnumD fs) := di_enum ha fun _ h => pi_enum hg hm h hs
theorem i_zip (hm : X.mg "zip" = none) (ha : DA X [a, b] fs) (hg : Gl X "zip" := by rfl) (hs : starEach [a, b] X.env = (false, eval a X.env) :: starEach [b] X.env := by rfl) (hpl : (backTo pos (starEach [b] X.env)).any (·.1) = false := by rfl) :
    DI X (.Tuple elts kk tpos) (.Call (.Name "zip" q) [a, b] [] pos) (iZipD fs) := di_zip ha fun _ h => RZ.pi_zipA hg hm h hs hpl
end
section
variable {ρ : Rho} {QL : List D → Rho → Prop}
theorem w_iEnumD {f : C (List D)} : wp (iEnumD f) ρ QL = wp f ρ fun ds ρ1 => (match ds with | [d] => ho (seqD d) fun xs => QL (enumD xs) ρ1 | _ => False) := by
  unfold wp iEnumD ho; cases f ρ with
  | none => rfl
  | some p => obtain ⟨ds, r⟩ := p; match ds with
    | [] => rfl
    | [d] => cases h : seqD d <;> simp [h]
    | _ :: _ :: _ => rfl
theorem w_iZipD {f : C (List D)} : wp (iZipD f) ρ QL = wp f ρ fun ds ρ1 => (match ds with | [d, e] => ho (zipD d e) fun xs => QL xs ρ1 | _ => False) := by
  unfold wp iZipD ho; cases f ρ with
  | none => rfl
  | some p => obtain ⟨ds, r⟩ := p; match ds with
    | [] => rfl
    | [d] => rfl
    | [d, e] => cases h : zipD d e <;> simp [h]
    | _ :: _ :: _ :: _ => rfl
theorem z_seq_l {ds : List D} {Q : List D → Prop} : ho (seqD (.lst ds)) Q = Q ds := rfl
theorem z_zip_l {xs ys : List D} {Q : List D → Prop} : ho (zipD (.lst xs) (.lst ys)) Q = Q (xs.zipWith (fun x y => .tup [x, y]) ys) := rfl
theorem z_zip_t {xs ys : List D} {Q : List D → Prop} : ho (zipD (.tup xs) (.tup ys)) Q = Q (xs.zipWith (fun x y => .tup [x, y]) ys) := rfl
end
end PD

namespace PD
open PySem L2
/-! all texts, the shortest first; searches among them -/
def PL : List Nat := [32, 46, 97, 98, 99]
def grow (ts : List (List Nat)) : List (List Nat) := ts.flatMap fun t => PL.map fun c => t ++ [c]
def lv : Nat → List (List Nat)
  | 0 => [[]]
  | n + 1 => grow (lv n)
theorem grow_len (ts : List (List Nat)) : (grow ts).length = 5 * ts.length := by
  induction ts with
  | nil => rfl
  | cons t ts ih => simp [grow, PL] at ih ⊢; omega
theorem lv_len : ∀ n, (lv n).length = 5 ^ n
  | 0 => rfl
  | n + 1 => by rw [lv, grow_len, lv_len n, Nat.pow_succ]; omega
theorem mem_grow {ts : List (List Nat)} {s : List Nat} : s ∈ grow ts ↔ ∃ t, t ∈ ts ∧ ∃ c, c ∈ PL ∧ s = t ++ [c] := by
  unfold grow; simp only [List.mem_flatMap, List.mem_map]
  exact ⟨fun ⟨t, h, c, h2, e⟩ => ⟨t, h, c, h2, e.symm⟩, fun ⟨t, h, c, h2, e⟩ => ⟨t, h, c, h2, e.symm⟩⟩
theorem mem_lv : ∀ {n : Nat} {t : List Nat}, t ∈ lv n ↔ t.length = n ∧ ∀ c, c ∈ t → c ∈ PL
  | 0, t => by
    simp only [lv, List.mem_singleton]
    exact ⟨fun h => by rw [h]; simp, fun h => List.eq_nil_of_length_eq_zero h.1⟩
  | n + 1, t => by
    rw [lv, mem_grow]
    constructor
    · rintro ⟨s, hs, c, hc, rfl⟩
      obtain ⟨h1, h2⟩ := mem_lv.mp hs
      refine ⟨by simp [h1], fun d hd => ?_⟩
      rcases List.mem_append.mp hd with z | z
      · exact h2 d z
      · rw [List.mem_singleton.mp z]; exact hc
    · rintro ⟨h1, h2⟩
      rcases List.eq_nil_or_concat t with h0 | ⟨ini, c, h0⟩
      · rw [h0] at h1; simp at h1
      · rw [List.concat_eq_append] at h0
        subst h0
        exact ⟨ini, mem_lv.mpr ⟨by simpa using h1, fun d hd => h2 d (List.mem_append_left _ hd)⟩, c, h2 c (by simp), rfl⟩
theorem PL_sign {c : Nat} (h : c ∈ PL) : isSign c ∧ c ≠ 126 := by
  simp only [PL, List.mem_cons, List.not_mem_nil, or_false] at h
  rcases h with rfl | rfl | rfl | rfl | rfl <;> simp [isSign]
theorem lv_sign {n : Nat} {t : List Nat} (h : t ∈ lv n) : t.length = n ∧ (∀ c, c ∈ t → isSign c) ∧ 126 ∉ t := by
  obtain ⟨h1, h2⟩ := mem_lv.mp h
  exact ⟨h1, fun c hc => (PL_sign (h2 c hc)).1, fun hc => (PL_sign (h2 _ hc)).2 rfl⟩
/-- the texts below a size -/
def upto (n : Nat) : List (List Nat) := (List.range n).flatMap lv
theorem upto_succ (n : Nat) : upto (n + 1) = upto n ++ lv n := by simp [upto, List.range_succ]
theorem mem_upto {n : Nat} {t : List Nat} : t ∈ upto n ↔ t.length < n ∧ ∀ c, c ∈ t → c ∈ PL := by
  simp only [upto, List.mem_flatMap, List.mem_range]
  constructor
  · rintro ⟨k, hk, h⟩
    obtain ⟨h1, h2⟩ := mem_lv.mp h
    exact ⟨by omega, h2⟩
  · rintro ⟨h1, h2⟩; exact ⟨_, h1, mem_lv.mpr ⟨rfl, h2⟩⟩
theorem upto_len : ∀ n, n ≤ 7 → (upto n).length ≤ 20000 := by decide +kernel
/-- a search that finds something among the first finds it among more -/
theorem find_more {α : Type} {g : List Nat → Option α} {n k : Nat} {r : α} (h : (upto n).findSome? g = some r) (hk : n ≤ k) : (upto k).findSome? g = some r := by
  obtain ⟨j, rfl⟩ : ∃ j, k = n + j := ⟨k - n, by omega⟩
  clear hk
  induction j with
  | zero => exact h
  | succ j ih => rw [show n + (j + 1) = (n + j) + 1 by omega, upto_succ, List.findSome?_append, ih]; rfl
theorem find_mem {α : Type} {g : List Nat → Option α} {ts : List (List Nat)} {r : α} (h : ts.findSome? g = some r) : ∃ t, t ∈ ts ∧ g t = some r := by
  obtain ⟨t, h1, h2⟩ := List.exists_of_findSome?_eq_some h
  exact ⟨t, h1, h2⟩
/-! walks that end at the first find -/
theorem ws_findS {α : Type} {b : D → Rho → Option Rho} {g : S} {Q : Out → Prop} (f : α → D) (h : α → Option D) (I : Rho → Prop) : ∀ {xs : List α} {ρ : Rho}, I ρ →
    (∀ x, x ∈ xs → ∀ ρ, I ρ → ho (b (f x) ρ) fun ρ1 => ws g ρ1 fun o => match h x with | some r => (∃ ρ2, o = .rt r ρ2) | none => ∃ ρ2, I ρ2 ∧ o = .nx ρ2) →
    (∀ ρ, (match xs.findSome? h with | some r => True | none => I ρ) → Q (match xs.findSome? h with | some r => .rt r ρ | none => .nx ρ)) → ws (forL b g (xs.map f)) ρ Q
  | [], ρ, hi, _, hq => by rw [List.map_nil, s_forL_nil]; exact hq ρ hi
  | x :: xs, ρ, hi, hc, hq => by
    rw [List.map_cons, s_forL_cons]
    refine ho_mono (hc x (.head _) ρ hi) fun ρ1 h1 => ws_mono h1 fun o h2 => ?_
    rw [List.findSome?_cons] at hq
    cases e : h x with
    | some r =>
      rw [e] at h2 hq
      obtain ⟨ρ2, rfl⟩ := h2
      exact hq ρ2 trivial
    | none =>
      rw [e] at h2 hq
      obtain ⟨ρ2, h3, rfl⟩ := h2
      exact ws_findS f h I h3 (fun y hy => hc y (.tail _ hy)) hq
/-- ways -/
abbrev W4 := List Nat × List Nat × List Nat × List Nat
def alk (x y : W4) : Bool := if x.1 = [115, 116, 97, 114, 116] ∧ x.2.1 = [115, 105, 103, 110, 115] ∧ y.1 = [115, 116, 97, 114, 116] ∧ y.2.1 = [115, 105, 103, 110, 115] then decide (x.2.2.2 = y.2.2.2) else decide (x = y)
def isBl (o : Option D) (b : Bool) : Bool := match o with | some (.bl c) => c == b | _ => false
theorem isBl_eq {o : Option D} {b : Bool} (h : isBl o b = true) : o = some (.bl b) := by
  unfold isBl at h; split at h
  · rw [beq_iff_eq] at h; rw [h]
  · cases h
theorem way_in {d : D} (h : Way d) : ∃ x : W4, x ∈ allW ∧ d = wayD x := by
  obtain ⟨p, u, e, m, rfl, h1, h2, h3, h4⟩ := h
  refine ⟨(p, u, e, m), ?_, rfl⟩
  rcases h1 with rfl | rfl | rfl <;> rcases h2 with rfl | rfl <;> rcases h3 with rfl | rfl <;> rcases h4 with rfl | rfl | rfl <;> decide
theorem in_way {x : W4} (h : x ∈ allW) : Way (wayD x) := way_all h
end PD
namespace PD
open PySem L2
/-- the first text and width that part two ways -/
def gP (x y : W4) (t : List Nat) : Option D := (rangeN 0 t.length).findSome? fun k => if shwW x k t = shwW y k t then none else some (.tup [.str t, .int (k : Nat)])
theorem gP_some {x y : W4} {t : List Nat} {r : D} (h : gP x y t = some r) : ∃ k : Nat, k < t.length ∧ shwW x k t ≠ shwW y k t ∧ r = .tup [.str t, .int k] := by
  obtain ⟨k, h1, h2⟩ := List.exists_of_findSome?_eq_some h
  rw [mem_rangeN] at h1
  split at h2
  · cases h2
  · cases h2; exact ⟨k, by omega, by assumption, rfl⟩
theorem gP_comm {x y : W4} {t : List Nat} : gP x y t = gP y x t := by
  unfold gP; congr 1; funext k
  by_cases h : shwW x k t = shwW y k t
  · rw [if_pos h, if_pos h.symm]
  · rw [if_neg h, if_neg fun z => h z.symm]
theorem gP_iff {x y : W4} {t : List Nat} : gP x y t = none ↔ ∀ k, k < t.length → shwW x k t = shwW y k t := by
  unfold gP; rw [List.findSome?_eq_none_iff]
  constructor
  · intro h k hk
    have := h k (mem_rangeN.mpr ⟨by omega, by omega⟩)
    split at this
    · assumption
    · cases this
  · intro h k hk
    rw [mem_rangeN] at hk
    rw [if_pos (h k (by omega))]
/-- by signs and from the start, the ending is of no matter -/
theorem back_signs {t : List Nat} {n : Nat} (h : n ≤ t.length) : back t n [115, 105, 103, 110, 115] = t.drop (t.length - n) := by
  unfold back front
  simp [List.take_reverse]
theorem shw_start {e m t : List Nat} {w : Nat} : shw [115, 116, 97, 114, 116] [115, 105, 103, 110, 115] e m t w = shw [115, 116, 97, 114, 116] [115, 105, 103, 110, 115] [100, 114, 111, 112] m t w := by
  unfold shw
  by_cases h0 : t.length ≤ w
  · rw [if_pos h0, if_pos h0]
  · rw [if_neg h0, if_neg h0]
    by_cases hc : e = [107, 101, 101, 112] ∧ tail t ≠ [] ∧ m.length + (tail t).length ≤ w
    · rw [if_pos hc, if_neg (by simp)]
      obtain ⟨_, h1, h2⟩ := hc
      have hl := tail_len (t := t)
      have hd := tail_drop (t := t)
      generalize hT : (tail t).length = T at *
      unfold cutP
      have n1 : ¬ w - T < m.length := by omega
      have n2 : ¬ w < m.length := by omega
      have n3 : ¬ ([115, 116, 97, 114, 116] : List Nat) = [101, 110, 100] := by decide
      simp only [n1, n2, n3, if_false, if_true]
      rw [back_signs (by simp; omega), back_signs (by omega)]
      rw [hd, List.append_assoc]
      congr 1
      rw [List.length_take, Nat.min_eq_left (by omega), List.drop_take, show t.length - T - (t.length - T - (w - T - m.length)) = w - T - m.length by omega, show t.length - T - (w - T - m.length) = t.length - (w - m.length) by omega]
      have : t.drop (t.length - (w - m.length)) = (t.drop (t.length - (w - m.length))).take (w - T - m.length) ++ (t.drop (t.length - (w - m.length))).drop (w - T - m.length) := (List.take_append_drop _ _).symm
      conv => rhs; rw [this]
      rw [List.drop_drop, show t.length - (w - m.length) + (w - T - m.length) = t.length - T by omega]
    · rw [if_neg hc, if_neg (by simp)]
theorem alk_shw {x y : W4} (h : alk x y = true) (w : Nat) (t : List Nat) : shwW x w t = shwW y w t := by
  unfold alk at h
  split at h
  · rename_i hc
    obtain ⟨h1, h2, h3, h4⟩ := hc
    have h5 := of_decide_eq_true h
    obtain ⟨p, u, e, m⟩ := x
    obtain ⟨p', u', e', m'⟩ := y
    simp only at h1 h2 h3 h4 h5
    subst h1 h2 h3 h4 h5
    unfold shwW
    simp only
    rw [shw_start, shw_start (e := e')]
  · rw [of_decide_eq_true h]
theorem alk_comm {x y : W4} : alk x y = alk y x := by
  unfold alk
  by_cases h : x.1 = [115, 116, 97, 114, 116] ∧ x.2.1 = [115, 105, 103, 110, 115] ∧ y.1 = [115, 116, 97, 114, 116] ∧ y.2.1 = [115, 105, 103, 110, 115]
  · rw [if_pos h, if_pos ⟨h.2.2.1, h.2.2.2, h.1, h.2.1⟩, decide_eq_decide]; exact ⟨Eq.symm, Eq.symm⟩
  · rw [if_neg h, if_neg fun z => h ⟨z.2.2.1, z.2.2.2, z.1, z.2.1⟩, decide_eq_decide]; exact ⟨Eq.symm, Eq.symm⟩
def wits : List (List Nat) := [[32, 32], [32, 46], [32, 32, 32], [32, 32, 46], [32, 46, 97], [46, 32, 32], [32, 32, 32, 32], [32, 32, 32, 46], [32, 32, 46, 97], [46, 32, 32, 32], [32, 32, 32, 46, 97], [46, 32, 32, 32, 32]]
theorem part_all : (allW.all fun x => allW.all fun y => alk x y || wits.any fun t => (gP x y t).isSome) = true := by decide +kernel
theorem part_ex {x y : W4} (hx : x ∈ allW) (hy : y ∈ allW) (h : alk x y = false) : ∃ r, (upto 6).findSome? (gP x y) = some r := by
  have h1 := List.all_eq_true.mp (List.all_eq_true.mp part_all x hx) y hy
  rw [h, Bool.false_or, List.any_eq_true] at h1
  obtain ⟨t, ht, h2⟩ := h1
  cases e : (upto 6).findSome? (gP x y) with
  | some r => exact ⟨r, rfl⟩
  | none =>
    rw [List.findSome?_eq_none_iff] at e
    have hm : t ∈ upto 6 := mem_upto.mpr (by
      have : wits.all (fun t => decide (t.length < 6) && t.all fun c => decide (c ∈ PL)) = true := by decide
      have := List.all_eq_true.mp this t ht
      simp only [Bool.and_eq_true, decide_eq_true_eq, List.all_eq_true] at this
      exact this)
    rw [e t hm] at h2; cases h2
end PD
namespace PD
open PySem L2
theorem ws_findS2 {α : Type} {b : D → Rho → Option Rho} {g : S} {Q : Out → Prop} (f : α → D) (h : α → Option D) (I : Rho → Prop) : ∀ {xs : List α} {ρ : Rho}, I ρ →
    (∀ x, x ∈ xs → ∀ ρ, I ρ → ho (b (f x) ρ) fun ρ1 => ws g ρ1 fun o => match h x with | some r => (∃ ρ2, I ρ2 ∧ o = .rt r ρ2) | none => ∃ ρ2, I ρ2 ∧ o = .nx ρ2) →
    (∀ ρ, I ρ → Q (match xs.findSome? h with | some r => .rt r ρ | none => .nx ρ)) → ws (forL b g (xs.map f)) ρ Q
  | [], ρ, hi, _, hq => by rw [List.map_nil, s_forL_nil]; exact hq ρ hi
  | x :: xs, ρ, hi, hc, hq => by
    rw [List.map_cons, s_forL_cons]
    refine ho_mono (hc x (.head _) ρ hi) fun ρ1 h1 => ws_mono h1 fun o h2 => ?_
    rw [List.findSome?_cons] at hq
    cases e : h x with
    | some r =>
      rw [e] at h2 hq
      obtain ⟨ρ2, h3, rfl⟩ := h2
      exact hq ρ2 h3
    | none =>
      rw [e] at h2 hq
      obtain ⟨ρ2, h3, rfl⟩ := h2
      exact ws_findS2 f h I h3 (fun y hy => hc y (.tail _ hy)) hq
end PD
namespace PD
open PySem L2
/-! == of a thing with itself, with another one -/
theorem ne_selfL {R : List D} (h1 : okD (.lst R) = true) (h2 : plL R = true) : fNe (.lst R) (.lst R) = some (.bl false) := by
  have h3 := (eqv_pl (d := .lst R) (e := .lst R) (by simpa [pl] using h2) (by simpa [pl] using h2)).mpr rfl
  rw [← ho_eq, z_ne_l, h1, h3]; exact ⟨rfl, rfl⟩
theorem ne_selfT {R : List D} (h1 : okD (.tup R) = true) (h2 : plL R = true) : fNe (.tup R) (.tup R) = some (.bl false) := by
  have h3 := (eqv_pl (d := .tup R) (e := .tup R) (by simpa [pl] using h2) (by simpa [pl] using h2)).mpr rfl
  rw [← ho_eq, z_ne_t, h1, h3]; exact ⟨rfl, rfl⟩
theorem eq_selfL {R : List D} (h1 : okD (.lst R) = true) (h2 : plL R = true) : fEq (.lst R) (.lst R) = some (.bl true) := by
  have h3 := (eqv_pl (d := .lst R) (e := .lst R) (by simpa [pl] using h2) (by simpa [pl] using h2)).mpr rfl
  rw [← ho_eq, z_eq_l, h1, h3]; exact ⟨rfl, rfl⟩
theorem eq_selfT {R : List D} (h1 : okD (.tup R) = true) (h2 : plL R = true) : fEq (.tup R) (.tup R) = some (.bl true) := by
  have h3 := (eqv_pl (d := .tup R) (e := .tup R) (by simpa [pl] using h2) (by simpa [pl] using h2)).mpr rfl
  rw [← ho_eq, z_eq_t, h1, h3]; exact ⟨rfl, rfl⟩
theorem ne_otherT {R U : List D} (h1 : okD (.tup R) = true) (h4 : okD (.tup U) = true) (h2 : plL R = true) (h3 : plL U = true) (h : R ≠ U) : fNe (.tup R) (.tup U) = some (.bl true) := by
  have h5 : PyData.eqv (py (.tup R)) (py (.tup U)) = false := by
    rw [Bool.eq_false_iff]; intro hh
    have := (eqv_pl (d := .tup R) (e := .tup U) (by simpa [pl] using h2) (by simpa [pl] using h3)).mp hh
    cases this; exact h rfl
  rw [← ho_eq, z_ne_t, h1, h4, h5]; exact ⟨rfl, rfl⟩
theorem eq_otherT {R U : List D} (h1 : okD (.tup R) = true) (h4 : okD (.tup U) = true) (h2 : plL R = true) (h3 : plL U = true) (h : R ≠ U) : fEq (.tup R) (.tup U) = some (.bl false) := by
  have h5 : PyData.eqv (py (.tup R)) (py (.tup U)) = false := by
    rw [Bool.eq_false_iff]; intro hh
    have := (eqv_pl (d := .tup R) (e := .tup U) (by simpa [pl] using h2) (by simpa [pl] using h3)).mp hh
    cases this; exact h rfl
  rw [← ho_eq, z_eq_t, h1, h4, h5]; exact ⟨rfl, rfl⟩
theorem z_k_bb : kitB "bool" "bool" = some true := by rfl
theorem mem_allW {x : W4} : x ∈ allW ↔ x.1 ∈ [[101, 110, 100], [109, 105, 100, 100, 108, 101], [115, 116, 97, 114, 116]] ∧ x.2.1 ∈ [[115, 105, 103, 110, 115], [119, 111, 114, 100, 115]] ∧ x.2.2.1 ∈ [[100, 114, 111, 112], [107, 101, 101, 112]] ∧ x.2.2.2 ∈ [[], [46], [126]] := by
  obtain ⟨p, u, e, m⟩ := x
  unfold allW
  simp only [List.mem_flatMap, List.mem_map]
  constructor
  · rintro ⟨a, ha, b, hb, c, hc, d, hd, he⟩
    cases he
    exact ⟨ha, hb, hc, hd⟩
  · rintro ⟨ha, hb, hc, hd⟩
    exact ⟨p, ha, u, hb, e, hc, m, hd, rfl⟩
theorem way_lt {x : W4} (h : x ∈ allW) : dp 1 (wayD x) = true := by
  have : (allW.all fun x => dp 1 (wayD x)) = true := by decide +kernel
  exact List.all_eq_true.mp this x h
theorem ways_ok {xs : List W4} (h : ∀ x, x ∈ xs → x ∈ allW) : okD (.lst (xs.map wayD)) = true := by
  refine okD_of (n := 2) ?_ (by omega)
  rw [dp]; refine dpL_all fun d hd => ?_
  obtain ⟨x, hx, rfl⟩ := List.mem_map.mp hd
  exact way_lt (h x hx)
theorem ways_pl (xs : List W4) : plL (xs.map wayD) = true := plL_map (fun _ => rfl) xs
theorem dp_tw {t : List Nat} {k : Int} (h : ∀ c, c ∈ t → c < 1114112) : okD (.tup [.str t, .int k]) = true := by
  refine okD_of (n := 1) ?_ (by omega)
  simp only [dp, dpL, Bool.and_true]
  rw [List.all_eq_true]; intro c hc; exact decide_eq_true (h c hc)
end PD
namespace PD
open PySem L2
section
variable {Q : D → Prop} {xs : List D} {s : List Nat} {i : Int} {a b : Bool}
theorem z_is_nn : ho (fIs .non .non) Q = Q (.bl true) := rfl
theorem z_is_tn : ho (fIs (.tup xs) .non) Q = Q (.bl false) := rfl
theorem z_is_ln : ho (fIs (.lst xs) .non) Q = Q (.bl false) := rfl
theorem z_is_sn : ho (fIs (.str s) .non) Q = Q (.bl false) := rfl
theorem z_is_in : ho (fIs (.int i) .non) Q = Q (.bl false) := rfl
theorem z_is_bb : ho (fIs (.bl a) (.bl b)) Q = Q (.bl (decide (a = b))) := rfl
theorem z_isn_nn : ho (fIsNot .non .non) Q = Q (.bl false) := rfl
theorem z_isn_tn : ho (fIsNot (.tup xs) .non) Q = Q (.bl true) := rfl
theorem z_isn_ln : ho (fIsNot (.lst xs) .non) Q = Q (.bl true) := rfl
theorem z_isn_sn : ho (fIsNot (.str s) .non) Q = Q (.bl true) := rfl
theorem z_isn_in : ho (fIsNot (.int i) .non) Q = Q (.bl true) := rfl
theorem z_isn_bb : ho (fIsNot (.bl a) (.bl b)) Q = Q (.bl (!decide (a = b))) := rfl
theorem z_ne_nn : ho (fNe .non .non) Q = Q (.bl false) := rfl
theorem z_eq_nn : ho (fEq .non .non) Q = Q (.bl true) := rfl
end
end PD
namespace PD
theorem hoE {α : Type} {o : Option α} {a : α} (h : o = some a) {Q : α → Prop} : ho o Q = Q a := by rw [h]; rfl
end PD

namespace PD
open PySem L2
/-! order of data: ints, texts, tuples and lists of them -/
abbrev alikeD (d e : D) : Bool := PySem.W.alike (py d) (py e)
abbrev dlt (d e : D) : Bool := PySem.W.dataLt (py d) (py e)
def cmpD (d e : D) : Bool := okD d && okD e && alikeD d e && (match d with | .non => false | _ => true)
def fLtD (d e : D) : Option D := match d, e with
  | .int i, .int j => some (.bl (decide (i < j)))
  | .str s, .str t => some (.bl (decide (s < t)))
  | d, e => if cmpD d e = true then some (.bl (dlt d e)) else none
def fGtD (d e : D) : Option D := match d, e with
  | .int i, .int j => some (.bl (decide (j < i)))
  | .str s, .str t => some (.bl (decide (t < s)))
  | d, e => if cmpD d e = true then some (.bl (dlt e d)) else none
def fLeD (d e : D) : Option D := match d, e with
  | .int i, .int j => some (.bl (decide (i ≤ j)))
  | .str s, .str t => some (.bl (!decide (t < s)))
  | d, e => if cmpD d e = true then some (.bl (!dlt e d)) else none
def fGeD (d e : D) : Option D := match d, e with
  | .int i, .int j => some (.bl (decide (j ≤ i)))
  | .str s, .str t => some (.bl (!decide (s < t)))
  | d, e => if cmpD d e = true then some (.bl (!dlt d e)) else none
def rCmpD (K : PySem.W.Frag) (f : PyData → PyData → Bool) : R2 := fun x y H Q => ∃ d e, Dp K H x d ∧ Dp K H y e ∧ PySem.W.alike d e = true ∧ d ≠ .none ∧ min d.depth e.depth ≤ 64 ∧ Q (.bl (f d e)) H
section
variable {X : Cx}
theorem op_ltD (hu : X.A.units + 64 < cLine) : OpR X (compareOp .Lt) (rCmpD X.K fun d e => PySem.W.dataLt d e) := by
  intro pins s σ H x y v u Q I rx ry h
  obtain ⟨d, e, hd, he, ha, hn, hz, q⟩ := h
  obtain ⟨as, r1⟩ := Dp.reads I d x v hd rx
  obtain ⟨bs, r2⟩ := Dp.reads I e y u he ry
  exact PySem.W.lt_data r1 r2 ha hn (by omega) ⟨.bl _, H, I, rfl, q⟩
theorem op_gtD (hu : X.A.units + 64 < cLine) : OpR X (compareOp .Gt) (rCmpD X.K fun d e => PySem.W.dataLt e d) := by
  intro pins s σ H x y v u Q I rx ry h
  obtain ⟨d, e, hd, he, ha, hn, hz, q⟩ := h
  obtain ⟨as, r1⟩ := Dp.reads I d x v hd rx
  obtain ⟨bs, r2⟩ := Dp.reads I e y u he ry
  exact PySem.W.gt_data r1 r2 ha hn (by omega) ⟨.bl _, H, I, rfl, q⟩
theorem op_leD (hu : X.A.units + 64 < cLine) : OpR X (compareOp .LtE) (rCmpD X.K fun d e => !PySem.W.dataLt e d) := by
  intro pins s σ H x y v u Q I rx ry h
  obtain ⟨d, e, hd, he, ha, hn, hz, q⟩ := h
  obtain ⟨as, r1⟩ := Dp.reads I d x v hd rx
  obtain ⟨bs, r2⟩ := Dp.reads I e y u he ry
  exact PySem.W.le_data r1 r2 ha hn (by omega) ⟨.bl _, H, I, rfl, q⟩
theorem op_geD (hu : X.A.units + 64 < cLine) : OpR X (compareOp .GtE) (rCmpD X.K fun d e => !PySem.W.dataLt d e) := by
  intro pins s σ H x y v u Q I rx ry h
  obtain ⟨d, e, hd, he, ha, hn, hz, q⟩ := h
  obtain ⟨as, r1⟩ := Dp.reads I d x v hd rx
  obtain ⟨bs, r2⟩ := Dp.reads I e y u he ry
  exact PySem.W.ge_data r1 r2 ha hn (by omega) ⟨.bl _, H, I, rfl, q⟩
theorem dlt_int {i j : Int} : dlt (.int i) (.int j) = decide (i < j) := by unfold dlt; rw [py, py]; exact PySem.W.dataLt_int i j
theorem dlt_str {s t : List Nat} : dlt (.str s) (.str t) = decide (s < t) := by unfold dlt; rw [py, py]; exact PySem.W.dataLt_str _ _
theorem py_ne {d : D} (h : (match d with | .non => false | _ => true) = true) : py d ≠ .none := by
  cases d <;> simp [py] at h ⊢
theorem cmpD_spec {d e : D} (h : cmpD d e = true) : PySem.W.alike (py d) (py e) = true ∧ py d ≠ .none ∧ min (py d).depth (py e).depth ≤ 64 ∧ (py d).canLay0 = true ∧ (py e).canLay0 = true := by
  unfold cmpD at h
  simp only [Bool.and_eq_true] at h
  obtain ⟨⟨⟨h1, h2⟩, h3⟩, h4⟩ := h
  refine ⟨h3, py_ne h4, ?_⟩
  have : (py d).depth ≤ 64 := by
    unfold okD SeqAt.shaped at h1
    simp only [Bool.and_eq_true, decide_eq_true_eq] at h1
    first | exact h1.1 | exact h1.2 | omega
  exact ⟨by omega, SeqAt.canLay_of_shaped h1, SeqAt.canLay_of_shaped h2⟩
theorem shaped_int {i : Int} : (PyData.int i).depth ≤ 64 := by simp [PyData.depth]
theorem v_cmpD {K : PySem.W.Frag} {g : PyData → PyData → Bool} {fn : D → D → Option D} (hi : ∀ i j r, fn (.int i) (.int j) = some r → r = .bl (g (.int i) (.int j))) (hs : ∀ i j r, fn (.str i) (.str j) = some r → r = .bl (g (.str (mk i)) (.str (mk j))))
    (ho : ∀ d e r, fn d e = some r → (∃ i j, d = .int i ∧ e = .int j) ∨ (∃ i j, d = .str i ∧ e = .str j) ∨ (cmpD d e = true ∧ r = .bl (g (py d) (py e)))) : V2 K (rCmpD K g) fn := fun M H x y d e res Q t rx ry h q => by
  rcases ho d e res h with ⟨i, j, rfl, rfl⟩ | ⟨i, j, rfl, rfl⟩ | ⟨hc, hr⟩
  · have := hi i j res h
    subst this
    rw [rep_int.mp rx, rep_int.mp ry]
    exact ⟨.int i, .int j, .int i, .int j, rfl, by simp, by simp [PyData.depth], q _ H (fun _ _ h => h) (rep_bl.mpr rfl)⟩
  · have := hs i j res h
    subst this
    rw [rep_str.mp rx, rep_str.mp ry]
    exact ⟨.str _, .str _, .str _, .str _, rfl, by simp, by simp [PyData.depth], q _ H (fun _ _ h => h) (rep_bl.mpr rfl)⟩
  · subst hr
    obtain ⟨h1, h2, h3, c1, c2⟩ := cmpD_spec hc
    exact ⟨_, _, rx.dp c1, ry.dp c2, h1, h2, h3, q _ H (fun _ _ h => h) (rep_bl.mpr rfl)⟩
theorem k_ltD (hu : X.A.units + 64 < cLine) : Cmp X .Lt fLtD := ⟨_, op_ltD hu, v_cmpD (fun i j r h => by cases h; rw [PySem.W.dataLt_int]) (fun i j r h => by cases h; rw [PySem.W.dataLt_str]; rfl) fun d e r h => by
  unfold fLtD at h
  split at h
  · exact .inl ⟨_, _, rfl, rfl⟩
  · exact .inr (.inl ⟨_, _, rfl, rfl⟩)
  · split at h
    · cases h; exact .inr (.inr ⟨by assumption, rfl⟩)
    · cases h⟩
theorem k_gtD (hu : X.A.units + 64 < cLine) : Cmp X .Gt fGtD := ⟨_, op_gtD hu, v_cmpD (fun i j r h => by cases h; rw [PySem.W.dataLt_int]) (fun i j r h => by cases h; rw [PySem.W.dataLt_str]; rfl) fun d e r h => by
  unfold fGtD at h
  split at h
  · exact .inl ⟨_, _, rfl, rfl⟩
  · exact .inr (.inl ⟨_, _, rfl, rfl⟩)
  · split at h
    · cases h; exact .inr (.inr ⟨by assumption, rfl⟩)
    · cases h⟩
theorem k_leD (hu : X.A.units + 64 < cLine) : Cmp X .LtE fLeD := ⟨_, op_leD hu, v_cmpD (fun i j r h => by cases h; rw [PySem.W.dataLt_int, ← decide_not]; congr 1; simp) (fun i j r h => by cases h; rw [PySem.W.dataLt_str]; rfl) fun d e r h => by
  unfold fLeD at h
  split at h
  · exact .inl ⟨_, _, rfl, rfl⟩
  · exact .inr (.inl ⟨_, _, rfl, rfl⟩)
  · split at h
    · cases h; exact .inr (.inr ⟨by assumption, rfl⟩)
    · cases h⟩
theorem k_geD (hu : X.A.units + 64 < cLine) : Cmp X .GtE fGeD := ⟨_, op_geD hu, v_cmpD (fun i j r h => by cases h; rw [PySem.W.dataLt_int, ← decide_not]; congr 1; simp) (fun i j r h => by cases h; rw [PySem.W.dataLt_str]; rfl) fun d e r h => by
  unfold fGeD at h
  split at h
  · exact .inl ⟨_, _, rfl, rfl⟩
  · exact .inr (.inl ⟨_, _, rfl, rfl⟩)
  · split at h
    · cases h; exact .inr (.inr ⟨by assumption, rfl⟩)
    · cases h⟩
end
/-- tuples: the first unlike items tell -/
theorem dlt_cons {d e : D} {ds es : List D} (h : alikeD d e = true) : dlt (.tup (d :: ds)) (.tup (e :: es)) = if PyData.eqv (py d) (py e) = true then dlt (.tup ds) (.tup es) else dlt d e := by
  unfold dlt
  simp only [py, pyL, PySem.W.dataLt_tuple]
  by_cases hq : PyData.eqv (py d) (py e) = true
  · rw [if_pos hq, PySem.W.dataLt_all_yes h hq]
  · rw [if_neg hq, PySem.W.dataLt_all_no h (by simpa using hq)]
theorem dlt_nn : dlt (.tup []) (.tup []) = false := by unfold dlt; simp only [py, pyL, PySem.W.dataLt_tuple]; rfl
theorem dlt_nc {e : D} {es : List D} : dlt (.tup []) (.tup (e :: es)) = true := by unfold dlt; simp only [py, pyL, PySem.W.dataLt_tuple, PySem.W.keyToksAll]; rfl
theorem dlt_cn {e : D} {es : List D} : dlt (.tup (e :: es)) (.tup []) = false := by unfold dlt; simp only [py, pyL, PySem.W.dataLt_tuple, PySem.W.keyToksAll]; rfl
section
variable {Q : D → Prop}
theorem z_ltD_i {i j : Int} : ho (fLtD (.int i) (.int j)) Q = Q (.bl (decide (i < j))) := rfl
theorem z_gtD_i {i j : Int} : ho (fGtD (.int i) (.int j)) Q = Q (.bl (decide (j < i))) := rfl
theorem z_leD_i {i j : Int} : ho (fLeD (.int i) (.int j)) Q = Q (.bl (decide (i ≤ j))) := rfl
theorem z_geD_i {i j : Int} : ho (fGeD (.int i) (.int j)) Q = Q (.bl (decide (j ≤ i))) := rfl
theorem z_ltD_s {i j : List Nat} : ho (fLtD (.str i) (.str j)) Q = Q (.bl (decide (i < j))) := rfl
theorem z_gtD_s {i j : List Nat} : ho (fGtD (.str i) (.str j)) Q = Q (.bl (decide (j < i))) := rfl
theorem z_ltD_t {i j : List D} : ho (fLtD (.tup i) (.tup j)) Q = (cmpD (.tup i) (.tup j) = true ∧ Q (.bl (dlt (.tup i) (.tup j)))) := by
  unfold fLtD ho; by_cases h : cmpD (.tup i) (.tup j) = true <;> simp only [h] <;> simp
theorem z_gtD_t {i j : List D} : ho (fGtD (.tup i) (.tup j)) Q = (cmpD (.tup i) (.tup j) = true ∧ Q (.bl (dlt (.tup j) (.tup i)))) := by
  unfold fGtD ho; by_cases h : cmpD (.tup i) (.tup j) = true <;> simp only [h] <;> simp
end
theorem room64 {k : Nat} {A : Around} (h : Room k A) : A.units + 64 < cLine := by have := h.un; omega
end PD

namespace PD
open PySem L2
/-! the order of texts -/
def before (a b : List Nat) : Prop := a.length < b.length ∨ (a.length = b.length ∧ a < b)
theorem lt_app {a b : List Nat} : ∀ {p : List Nat}, p ++ a < p ++ b ↔ a < b
  | [] => Iff.rfl
  | c :: p => by
    rw [List.cons_append, List.cons_append, List.cons_lt_cons_iff]
    simp [lt_app (p := p)]
theorem lt_pre : ∀ {s t : List Nat} {a b : List Nat}, s.length = t.length → s < t → s ++ a < t ++ b
  | [], [], _, _, _, h => absurd h (List.lt_irrefl _)
  | [], _ :: _, _, _, hl, _ => by simp at hl
  | _ :: _, [], _, _, hl, _ => by simp at hl
  | c :: s, d :: t, a, b, hl, h => by
    rw [List.cons_append, List.cons_append, List.cons_lt_cons_iff]
    rcases List.cons_lt_cons_iff.mp h with h | ⟨h1, h2⟩
    · exact .inl h
    · exact .inr ⟨h1, lt_pre (by simpa using hl) h2⟩
theorem before_irr {a : List Nat} : ¬ before a a := fun h => by
  rcases h with h | h
  · omega
  · exact List.lt_irrefl _ h.2
theorem before_asym {a b : List Nat} (h : before a b) : ¬ before b a := fun h2 => by
  rcases h with h | ⟨h, h'⟩ <;> rcases h2 with h2 | ⟨h2, h2'⟩ <;> try omega
  exact List.lt_irrefl _ (List.lt_trans h' h2')
theorem lv_sorted : ∀ n, (lv n).Pairwise (· < ·)
  | 0 => by simp [lv]
  | n + 1 => by
    have ih := lv_sorted n
    have hl : ∀ t, t ∈ lv n → t.length = n := fun t h => (lv_sign h).1
    rw [lv, grow]
    generalize lv n = ts at ih hl
    induction ts with
    | nil => simp
    | cons t ts ih2 =>
      rw [List.flatMap_cons, List.pairwise_append]
      rw [List.pairwise_cons] at ih
      refine ⟨?_, ih2 ih.2 fun t h => hl t (.tail _ h), ?_⟩
      · rw [List.pairwise_map]
        have : PL.Pairwise (· < ·) := by decide
        exact this.imp fun {a b} h => by rw [lt_app, List.cons_lt_cons_iff]; exact .inl h
      · intro a ha b hb
        simp only [List.mem_map, List.mem_flatMap] at ha hb
        obtain ⟨c, _, rfl⟩ := ha
        obtain ⟨t', ht', d, _, rfl⟩ := hb
        exact lt_pre (by rw [hl t (.head _), hl t' (.tail _ ht')]) (ih.1 t' ht')
theorem upto_sorted : ∀ n, (upto n).Pairwise before
  | 0 => by simp [upto]
  | n + 1 => by
    rw [upto_succ, List.pairwise_append]
    refine ⟨upto_sorted n, ?_, fun a ha b hb => .inl ?_⟩
    · refine (lv_sorted n).imp_of_mem fun {a b} ha hb h => .inr ⟨?_, h⟩
      rw [(lv_sign ha).1, (lv_sign hb).1]
    · have := (mem_upto.mp ha).1; have := (lv_sign hb).1; omega
/-- what stands ahead of the first find was not found -/
theorem find_ahead {α : Type} {R : List Nat → List Nat → Prop} (irr : ∀ a, ¬ R a a) (asym : ∀ a b, R a b → ¬ R b a) {g : List Nat → Option α} : ∀ {l : List (List Nat)} {r : α} {t0 : List Nat}, l.Pairwise R → l.findSome? g = some r → (∀ t, t ∈ l → g t = some r → t = t0) →
    ∀ t, t ∈ l → R t t0 → g t = none
  | [], _, _, _, h, _, t, ht, _ => by cases ht
  | a :: l, r, t0, hp, h, hu, t, ht, hr => by
    rw [List.pairwise_cons] at hp
    rw [List.findSome?_cons] at h
    cases e : g a with
    | some r' =>
      rw [e] at h
      cases h
      have ea := hu a (.head _) e
      subst ea
      rcases List.mem_cons.mp ht with rfl | ht
      · exact absurd hr (irr _)
      · exact absurd (hp.1 t ht) (asym _ _ hr)
    | none =>
      rw [e] at h
      rcases List.mem_cons.mp ht with rfl | ht
      · exact e
      · exact find_ahead irr asym hp.2 h (fun s hs => hu s (.tail _ hs)) t ht hr
theorem eqv_str {s t : List Nat} : PyData.eqv (py (.str s)) (py (.str t)) = decide (s = t) := by
  rw [Bool.eq_iff_iff, eqv_pl rfl rfl, decide_eq_true_iff]; exact ⟨fun h => by cases h; rfl, fun h => by rw [h]⟩
theorem eqv_int {s t : Int} : PyData.eqv (py (.int s)) (py (.int t)) = decide (s = t) := by
  rw [Bool.eq_iff_iff, eqv_pl rfl rfl, decide_eq_true_iff]; exact ⟨fun h => by cases h; rfl, fun h => by rw [h]⟩
theorem alikeD_int {i j : Int} : alikeD (.int i) (.int j) = true := rfl
theorem alikeD_str {i j : List Nat} : alikeD (.str i) (.str j) = true := rfl
/-- (length, text, width) -/
theorem dlt_rank {l l0 w w0 : Int} {t t0 : List Nat} : dlt (.tup [.int l, .str t, .int w]) (.tup [.int l0, .str t0, .int w0]) = true ↔ l < l0 ∨ (l = l0 ∧ (t < t0 ∨ (t = t0 ∧ w < w0))) := by
  rw [dlt_cons alikeD_int, eqv_int, dlt_int]
  by_cases h : l = l0
  · rw [if_pos (by simpa using h), dlt_cons alikeD_str, eqv_str, dlt_str]
    by_cases h2 : t = t0
    · rw [if_pos (by simpa using h2), dlt_cons alikeD_int, eqv_int, dlt_int]
      have irr : ¬ t0 < t0 := List.lt_irrefl _
      by_cases h3 : w = w0
      · rw [if_pos (by simpa using h3), dlt_nn]; subst h h2 h3; simp [irr]
      · rw [if_neg (by simpa using h3)]; subst h h2; simp [irr]
    · rw [if_neg (by simpa using h2)]; subst h; simp [h2]
  · rw [if_neg (by simpa using h)]; simp [h]
theorem cmp_rank {l l0 w w0 : Int} {t t0 : List Nat} (h : ∀ c, c ∈ t → c < 1114112) (h0 : ∀ c, c ∈ t0 → c < 1114112) : cmpD (.tup [.int l, .str t, .int w]) (.tup [.int l0, .str t0, .int w0]) = true := by
  have ok : ∀ {l w : Int} {t : List Nat}, (∀ c, c ∈ t → c < 1114112) → okD (.tup [.int l, .str t, .int w]) = true := fun {l w t} h => by
    refine okD_of (n := 1) ?_ (by omega)
    simp only [dp, dpL, Bool.and_true, Bool.true_and]
    rw [List.all_eq_true]; intro c hc; exact decide_eq_true (h c hc)
  unfold cmpD
  rw [ok h, ok h0]; rfl
/-! ways told apart -/
def gTw (zs : List W4) (t : List Nat) (w : Nat) : Bool := (List.range zs.length).all fun o => (List.range o).all fun i => alk (zs.getD i ([], [], [], [])) (zs.getD o ([], [], [], [])) || !decide (shwW (zs.getD i ([], [], [], [])) w t = shwW (zs.getD o ([], [], [], [])) w t)
def gT (zs : List W4) (t : List Nat) : Option D := (rangeN 0 (t.length + 1)).findSome? fun k => if gTw zs t k = true then some (.tup [.str t, .int (k : Nat)]) else none
theorem gT_some {zs : List W4} {t : List Nat} {r : D} (h : gT zs t = some r) : ∃ k : Nat, k ≤ t.length ∧ gTw zs t k = true ∧ r = .tup [.str t, .int k] := by
  obtain ⟨k, h1, h2⟩ := List.exists_of_findSome?_eq_some h
  rw [mem_rangeN] at h1
  split at h2
  · cases h2; exact ⟨k, by omega, by assumption, rfl⟩
  · cases h2
theorem gT_none {zs : List W4} {t : List Nat} (h : gT zs t = none) {k : Nat} (hk : k ≤ t.length) : gTw zs t k = false := by
  unfold gT at h; rw [List.findSome?_eq_none_iff] at h
  have := h k (mem_rangeN.mpr ⟨by omega, by omega⟩)
  split at this
  · cases this
  · rename_i hh; simpa using hh
theorem rangeN_sorted (n : Nat) : (rangeN 0 n).Pairwise (· < ·) := by
  unfold rangeN; rw [List.pairwise_map]
  exact List.pairwise_lt_range.imp fun h => by omega
theorem gT_first {zs : List W4} {t : List Nat} {w : Nat} (h : gT zs t = some (.tup [.str t, .int w])) {k : Nat} (hk : k < w) : gTw zs t k = false := by
  obtain ⟨w', h1, _, h3⟩ := gT_some h
  have : w = w' := by simp at h3; omega
  subst this
  unfold gT at h
  have hs := rangeN_sorted (t.length + 1)
  have hm : k ∈ rangeN 0 (t.length + 1) := mem_rangeN.mpr ⟨by omega, by omega⟩
  generalize rangeN 0 (t.length + 1) = l at h hs hm
  induction l with
  | nil => cases hm
  | cons a l ih =>
    rw [List.pairwise_cons] at hs
    rw [List.findSome?_cons] at h
    by_cases hg : gTw zs t a = true
    · rw [if_pos hg] at h
      simp at h
      rcases List.mem_cons.mp hm with e | hm
      · omega
      · have := hs.1 k hm; omega
    · rw [if_neg hg] at h
      rcases List.mem_cons.mp hm with rfl | hm
      · simpa using hg
      · exact ih h hs.2 hm
/-- among the first ones: all that stands ahead fails -/
theorem gT_ahead {zs : List W4} {n : Nat} {t0 : List Nat} {w0 : Nat} (h : (upto n).findSome? (gT zs) = some (.tup [.str t0, .int w0])) {t : List Nat} {w : Nat} (ht : t ∈ upto n) (hw : w ≤ t.length)
    (hr : (t.length : Int) < t0.length ∨ ((t.length : Int) = t0.length ∧ (t < t0 ∨ (t = t0 ∧ (w : Int) < w0)))) : gTw zs t w = false := by
  have uniq : ∀ s, s ∈ upto n → gT zs s = some (.tup [.str t0, .int w0]) → s = t0 := fun s _ hs => by
    obtain ⟨k, _, _, h3⟩ := gT_some hs
    simp at h3; exact h3.1.symm
  by_cases hb : before t t0
  · exact gT_none (find_ahead (fun a => before_irr) (fun a b => before_asym) (upto_sorted n) h uniq t ht hb) hw
  · have e : t = t0 ∧ w < w0 := by
      rcases hr with hr | ⟨h1, hr | ⟨h2, h3⟩⟩
      · exact absurd (.inl (by omega)) hb
      · exact absurd (.inr ⟨by omega, hr⟩) hb
      · exact ⟨h2, by omega⟩
    obtain ⟨rfl, hlt⟩ := e
    obtain ⟨s, hs, hg⟩ := find_mem h
    have := uniq s hs hg
    subst this
    exact gT_first hg hlt
/-- triples of what was seen -/
abbrev Tri := List Nat × Nat × List Nat
def triD (r : Tri) : D := .tup [.str r.1, .int r.2.1, .str r.2.2]
def fits (ss : List Tri) (x : W4) : Bool := ss.all fun r => decide (shwW x r.2.1 r.1 = r.2.2)
def triOk (r : Tri) : Prop := r.1.length ≤ 40 ∧ (∀ c, c ∈ r.1 → isSign c) ∧ r.2.1 ≤ 40 ∧ ∀ c, c ∈ r.2.2 → c < 1114112
theorem allB_map (f : Tri → Bool) : ∀ ss : List Tri, allB (ss.map fun r => .bl (f r)) = some (ss.all f)
  | [] => rfl
  | r :: ss => by rw [List.map_cons, allB, allB_map f ss, List.all_cons]
theorem tris_ok {ss : List Tri} (h : ∀ r, r ∈ ss → triOk r) : okD (.lst (ss.map triD)) = true := by
  refine okD_of (n := 2) ?_ (by omega)
  rw [dp]; refine dpL_all fun d hd => ?_
  obtain ⟨r, hr, rfl⟩ := List.mem_map.mp hd
  obtain ⟨h1, h2, h3, h4⟩ := h r hr
  simp only [triD, dp, dpL, Bool.and_true, Bool.true_and, Bool.and_eq_true]
  exact ⟨List.all_eq_true.mpr fun c hc => decide_eq_true (sign_lt (h2 c hc)), List.all_eq_true.mpr fun c hc => decide_eq_true (h4 c hc)⟩
end PD
namespace PD
open PySem L2
theorem wl_filtI {α : Type} {vs : List Nat} {b : D → Rho → Option Rho} {tt : C Bool} {f : C D} (g q : α → D) (p : α → Bool) (I : Rho → Prop) : ∀ {xs : List α} {w : Rho} {Q : List D → Rho → Prop}, I w →
    (∀ x, x ∈ xs → ∀ ρ, I ρ → ho (b (g x) ρ) fun ρ1 => wp tt ρ1 fun c ρ2 => c = p x ∧ if c = true then wp f ρ2 fun y ρ3 => y = q x ∧ I (wipeR vs ρ3) else I (wipeR vs ρ2)) → (∀ ρ, I ρ → Q ((xs.filter p).map q) ρ) → wl vs b tt f (xs.map g) w Q
  | [], w, Q, hi, _, hq => by rw [List.map_nil, wl_nil]; exact hq w hi
  | x :: xs, w, Q, hi, hc, hq => by
    rw [List.map_cons, wl_cons]
    refine ho_mono (hc x (.head _) w hi) fun ρ1 h1 => wp_mono h1 fun c ρ2 h2 => ?_
    obtain ⟨h2, h3⟩ := h2
    cases c with
    | false =>
      simp only [Bool.false_eq_true, if_false] at h3 ⊢
      refine wl_filtI g q p I h3 (fun y hy => hc y (.tail _ hy)) fun ρ hr => ?_
      have := hq ρ hr
      simpa [← h2] using this
    | true =>
      simp only [if_true] at h3 ⊢
      refine wp_mono h3 fun y ρ3 h4 => ?_
      rw [h4.1]
      refine wl_filtI g q p I h4.2 (fun y hy => hc y (.tail _ hy)) fun ρ hr => ?_
      have := hq ρ hr
      simpa [← h2] using this
theorem wl_mapI {α : Type} {vs : List Nat} {b : D → Rho → Option Rho} {tt : C Bool} {f : C D} (g q : α → D) (I : Rho → Prop) {xs : List α} {w : Rho} {Q : List D → Rho → Prop} (hi : I w)
    (hc : ∀ x, x ∈ xs → ∀ ρ, I ρ → ho (b (g x) ρ) fun ρ1 => wp tt ρ1 fun c ρ2 => c = true ∧ wp f ρ2 fun y ρ3 => y = q x ∧ I (wipeR vs ρ3)) (hq : ∀ ρ, I ρ → Q (xs.map q) ρ) : wl vs b tt f (xs.map g) w Q := by
  refine wl_filtI g q (fun _ => true) I hi (fun x hx ρ hr => ho_mono (hc x hx ρ hr) fun ρ1 h => wp_mono h fun c ρ2 h2 => ⟨h2.1, ?_⟩) fun ρ hr => by rw [List.filter_eq_self.mpr (fun _ _ => rfl)]; exact hq ρ hr
  rw [h2.1]; exact h2.2
def prs (zs : List W4) : List (Nat × Nat) := (List.range zs.length).flatMap fun o => ((List.range o).filter fun i => !alk (zs.getD i ([], [], [], [])) (zs.getD o ([], [], [], []))).map fun i => (i, o)
def pairD (p : Nat × Nat) : D := .tup [.int p.1, .int p.2]
theorem mem_prs {zs : List W4} {i o : Nat} (h : (i, o) ∈ prs zs) : i < o ∧ o < zs.length := by
  simp only [prs, List.mem_flatMap, List.mem_map, List.mem_filter, List.mem_range, Prod.mk.injEq] at h
  obtain ⟨o', h1, i', ⟨h2, _⟩, rfl, rfl⟩ := h
  exact ⟨h2, h1⟩
theorem prs_len {zs : List W4} (h : zs.length ≤ 6) : (prs zs).length ≤ 36 := by
  have : ∀ n : Nat, n ≤ 6 → ((List.range n).flatMap fun o => ((List.range o).filter fun i => !alk (zs.getD i ([], [], [], [])) (zs.getD o ([], [], [], []))).map fun i => (i, o)).length ≤ n * 6 := by
    intro n hn
    induction n with
    | zero => simp
    | succ n ih =>
      rw [List.range_succ, List.flatMap_append, List.length_append]
      have := ih (by omega)
      have h2 : ((List.range n).filter fun i => !alk (zs.getD i ([], [], [], [])) (zs.getD n ([], [], [], []))).length ≤ n := Nat.le_trans (List.length_filter_le _ _) (by simp)
      simp only [List.flatMap_cons, List.flatMap_nil, List.append_nil, List.length_map]
      omega
  have := this zs.length h
  unfold prs; omega
theorem any_all {α : Type} {f g : α → Bool} (h : ∀ x, f x = !g x) : ∀ l : List α, l.any f = !l.all g
  | [] => rfl
  | x :: l => by rw [List.any_cons, List.all_cons, any_all h l, h x, Bool.not_and]
theorem any_filt {α : Type} {p f : α → Bool} : ∀ l : List α, (l.filter p).any f = l.any fun x => p x && f x
  | [] => rfl
  | x :: l => by
    rw [List.filter_cons, List.any_cons, ← any_filt l]
    cases h : p x <;> simp
theorem prs_tells {zs : List W4} {t : List Nat} {w : Nat} : (prs zs).any (fun p => decide (shwW (zs.getD p.1 ([], [], [], [])) w t = shwW (zs.getD p.2 ([], [], [], [])) w t)) = !gTw zs t w := by
  unfold prs gTw
  rw [List.any_flatMap]
  refine any_all (fun o => ?_) _
  rw [List.any_map, any_filt]
  refine any_all (fun i => ?_) _
  simp [Function.comp]
theorem anyB_map {α : Type} (f : α → Bool) : ∀ ss : List α, anyB (ss.map fun r => .bl (f r)) = some (ss.any f)
  | [] => rfl
  | r :: ss => by rw [List.map_cons, anyB, anyB_map f ss, List.any_cons]
theorem allB_mapA {α : Type} (f : α → Bool) : ∀ ss : List α, allB (ss.map fun r => .bl (f r)) = some (ss.all f)
  | [] => rfl
  | r :: ss => by rw [List.map_cons, allB, allB_mapA f ss, List.all_cons]
end PD
namespace PD
open PySem L2
theorem wl_drawnE {vs : List Nat} {b : D → Rho → Option Rho} {f : C D} (F : List D → Rho) (Y : D → Prop) : ∀ {ds s : List D} {Q : List D → Rho → Prop}, Src s →
    (∀ d, d ∈ ds → ∀ s, Src s → ho (b d (F s)) fun ρ1 => wp f ρ1 fun y ρ3 => Y y ∧ ∃ s', Src s' ∧ wipeR vs ρ3 = F s') → (∀ (ys s' : List D), Src s' → (∀ y, y ∈ ys → Y y) → ys.length = ds.length → Q ys (F s')) → wl vs b cYes f ds (F s) Q
  | [], s, Q, hs, _, hq => by rw [wl_nil]; exact hq [] s hs (fun _ z => by cases z) rfl
  | d :: ds, s, Q, hs, hc, hq => by
    rw [wl_cons]
    refine ho_mono (hc d (.head _) s hs) fun ρ1 h1 => ?_
    rw [show wp cYes ρ1 = fun Q => Q true ρ1 from rfl]
    simp only [if_true]
    refine wp_mono h1 fun y ρ3 h2 => ?_
    obtain ⟨hy, s', hs', e⟩ := h2
    rw [e]
    refine wl_drawnE F Y hs' (fun d hd => hc d (.tail _ hd)) fun ys s'' h3 h4 h5 => ?_
    exact hq (y :: ys) s'' h3 (fun z hz => by rcases List.mem_cons.mp hz with rfl | hz; exact hy; exact h4 z hz) (by simp [h5])
end PD

namespace PD
open PySem L2
/-! exceptions: a def that may raise an own error (without __init__), a try that catches it -/
inductive RX where
  | val (d : D) | exc (c : Str)
inductive OutX where
  | ok (o : Out) | ex (c : Str) (ρ : Rho)
def PostX (X : Cx) (W : WX) (ow : Bool) (Ex : Addr → Prop) (H : Hp) (ρ : Rho) (as : Nat → Addr) (D : Ends) : OutX → Prop
  | .ok o => Post X ow Ex H ρ as D o
  | .ex c ρ' => ∀ C σ' H' as', Ok X.K Ex σ' H' ρ' as' → Fr (Own ρ as) H H' → Go H ρ as ρ' as' → X.mg c = some (.ref C) → W (.ref C) none σ' H'
structure DSX (X : Cx) (W : WX) (ow : Bool) (st : List Stmt) (f : Rho → Option OutX) : Prop where
  ex : ∃ t, PSs X st t ∧ ∀ (Ex : Addr → Prop) (σ : St) (H : Hp) (ρ : Rho) (as : Nat → Addr) (o : OutX) (D : Ends), Ok X.K Ex σ H ρ as → f ρ = some o → PostX X W ow Ex H ρ as D o → t D σ H
/-- an expression that may raise -/
structure DEX (X : Cx) (W : WX) (e : Expr) (f : Rho → Option (RX × Rho)) : Prop where
  ex : ∃ t, PE X e t ∧ ∀ (Ex : Addr → Prop) (σ : St) (H : Hp) (ρ : Rho) (as : Nat → Addr) (r : RX) (ρ' : Rho) (Q : VK), Ok X.K Ex σ H ρ as → f ρ = some (r, ρ') →
    (match r with
      | .val d => ∀ v H', Ok X.K Ex σ H' ρ' as → Fr (Own ρ as) H H' → Go H ρ as ρ' as → Rep X.K (MM Ex ρ' as) H' d v → Q v H'
      | .exc c => ∀ C H', Ok X.K Ex σ H' ρ' as → Fr (Own ρ as) H H' → Go H ρ as ρ' as → X.mg c = some (.ref C) → W (.ref C) none σ H') → t σ H Q
abbrev SX := Rho → Option OutX
def xLift (f : S) : SX := fun ρ => match f ρ with | some o => some (.ok o) | none => none
def xSeq (f : S) (g : SX) : SX := fun ρ => match f ρ with | some (.nx ρ1) => g ρ1 | some o => some (.ok o) | none => none
def xRaise (c : C Bool) (x : Str) (g : SX) : SX := fun ρ => match c ρ with | some (true, ρ1) => some (.ex x ρ1) | some (false, ρ1) => g ρ1 | none => none
theorem ps_nox {X : Cx} {st : Stmt} {t : TS} (h : PS X.nox st t) : PS X st t := ⟨fun pins s σ H D I hw =>
  wpAny_mono (h.run pins s σ H D (I.wish _) hw) (fun _ _ q => q.unwish) fun _ _ z => False.elim z⟩
section
variable {X : Cx} {W : WX} {ow : Bool} {Ex : Addr → Prop} {H H1 : Hp} {ρ ρ1 : Rho} {as as1 : Nat → Addr} {D : Ends} {o : OutX}
theorem PostX.step (f1 : Fr (Own ρ as) H H1) (g1 : Go H ρ as ρ1 as1) (p : PostX X W ow Ex H ρ as D o) : PostX X W ow Ex H1 ρ1 as1 D o := by
  cases o with
  | ok o => exact Post.step f1 g1 p
  | ex c ρ2 => exact fun C σ' H' as' k f g e => p C σ' H' as' k (f1.trans g1 f) (Go.trans f1 g1 g) e
end
section
variable {X : Cx} {W : WX} {ow : Bool} {st : Stmt} {rest sts : List Stmt} {f : S} {g : SX} {pos : Pos}
theorem dsx_lift (h : DSs X.nox ow sts f) : DSX X W ow sts (xLift f) := by
  obtain ⟨t, h, run⟩ := h.ex
  refine ⟨_, h.nox, fun Ex σ H ρ as o D k e q => ?_⟩
  unfold xLift at e
  split at e
  · rename_i o1 h1
    cases e
    exact run Ex σ H ρ as o1 D k h1 (by cases o1 <;> exact q)
  · cases e
theorem dsx_cons (h1 : DS X.nox ow st f) (h2 : DSX X W ow rest g) : DSX X W ow (st :: rest) (xSeq f g) := by
  obtain ⟨t, h1, run1⟩ := h1.ex
  obtain ⟨u, h2, run2⟩ := h2.ex
  refine ⟨_, pss_cons (ps_nox h1) h2, fun Ex σ H ρ as o D k e q => ?_⟩
  show t { D with nx := u D } σ H
  unfold xSeq at e
  split at e
  · rename_i ρ1 e1
    exact run1 Ex σ H ρ as _ _ k e1 fun σ' H' as' k' f' g' => run2 Ex σ' H' ρ1 as' o D k' e (q.step f' g')
  · rename_i o1 hn e1
    cases e
    refine run1 Ex σ H ρ as o1 _ k e1 ?_
    cases o1 with
    | nx ρ' => exact absurd rfl (hn ρ')
    | bk ρ' => exact q
    | ct ρ' => exact q
    | rt d ρ' => exact q
  · cases e
/-- what the written part says of an own error without __init__ -/
structure ExcTxt (K : PySem.W.Frag) (mg : Str → Option Value) (x : Str) (C : Addr) : Prop where
  ex : ∃ (bmB : List Value), mg x = some (.ref C) ∧ PySem.W.excIn K C bmB "ValueError.__new__" = true ∧ PySem.W.keepIn K (.ref C) = true ∧ PySem.W.subIn K (.ref C) (.type "BaseException") = some true ∧ PySem.W.typeIn K (.ref C) = some (.type "type") ∧
    bmB = [.type "ValueError", .type "Exception", .type "BaseException", .type "object"]
theorem dsx_raise0 {c : Expr} {x m : Str} {j : Nat} {p p2 cp rp : Pos} {fc : C Bool} (hc : X.calm = true) (tk : Takes X W) {C : Addr} (T : ExcTxt X.K X.mg x C) (h1 : DT X.nox c fc) (h2 : DSX X W ow rest g) (hg : Gl X x := by rfl) (hdb : (x == ("__debug__" : Str)) = false := by decide) :
    DSX X W ow (.If c [.Raise (some (.Call (.Name x p) [.Constant (.str m) j p2] [] cp)) none rp] [] pos :: rest) (xRaise fc x g) := by
  obtain ⟨t, h1, run1⟩ := h1.ex
  obtain ⟨u, h2, run2⟩ := h2.ex
  obtain ⟨bmB, e1, e2, e3, e4, e5, rfl⟩ := T.ex
  have hr := ps_raise (pos := rp) hc tk (pmk_own (m := m) (j := j) (p := p) (p2 := p2) (pos := cp) PySem.F.excBase_ValueError e2 e1 e3 (raises_own e4 e5) hg hdb)
  refine ⟨_, pss_cons (ps_if h1.nox (pss_one hr) pss_nil) h2, fun Ex σ H ρ as o D k e q => ?_⟩
  unfold xRaise at e
  split at e
  · rename_i ρ1 h1
    cases e
    exact run1 Ex σ H ρ as _ _ _ k h1 fun H' k' f' g' => iteT (q C σ H' as k' f' g' e1)
  · rename_i ρ1 h1
    exact run1 Ex σ H ρ as _ _ _ k h1 fun H' k' f' g' => iteF (run2 Ex σ H' ρ1 as o D k' e (q.step f' g'))
  · cases e
end
/-! promises -/
def spX (K : PySem.W.Frag) (mg : Str → Option Value) (m : List D → Option RX) : Sp := fun vs H Q E => ∃ (Ex : Addr → Prop) (ds : List D) (r : RX), Trk Ex H ∧ RepL K Ex H ds vs ∧ m ds = some r ∧
  (match r with | .val d => ∀ v H', Same H H' → Rep K Ex H' d v → Q v H' | .exc c => ∀ C H', Same H H' → mg c = some (.ref C) → E (.ref C) none H')
def mX (np nl : Nat) (g : SX) (ds : List D) : Option RX := if ds.length = np then match g (frame nl ds) with | some (.ok (.rt d _)) => some (.val d) | some (.ok (.nx _)) => some (.val .non) | some (.ex c _) => some (.exc c) | _ => none else none
section
variable {P : Program} {w : World} {K : PySem.W.Frag} {mg : Str → Option Value} {base : Heap} {x qual : Str} {st : Stmt} {f : Addr} {fd : FuncData} {N ps : List Str} {k : Nat} {g : SX}
theorem fn_X (F : Fun K x qual st f fd) (Sc : FnScope N ps (defScope st)) (hN : ps.length ≤ N.length)
    (body : ∀ (cdv : Value) (A : Around) (outer : List Env) (s : Shared) (H : Hp) (E : XK), Room k (A.deeper (PyProof.Rows.envOfC qual (defScope st) s.heap.objs.size f cdv)) →
      DSX (cxOf (L2.CX P w) P w K mg base N qual (defScope st) f cdv A outer s H E) (fun cls d _ H => E cls d H) false (defBody st) g) :
    FnOk P w K mg base (L2.CX P w) (k + 1) f fd ps (spX K mg (mX ps.length N.length g)) := by
  refine F.okX Sc (fun vs H Q E h => ?_) (fun cdv A outer s H vs Q E hr h => ?_)
  · obtain ⟨Ex, ds, d, t, r, e, q⟩ := h
    unfold mX at e
    split at e
    · rw [r.length]; assumption
    · cases e
  · obtain ⟨Ex, ds, d, t, r, e, q⟩ := h
    obtain ⟨u, hu, run⟩ := (body cdv A outer s H E hr).ex
    refine ⟨u, hu, ?_⟩
    unfold mX at e
    split at e
    · rename_i hl
      have k0 := frame_ok (N := N) t r (by omega)
      have nown : ∀ a, ¬ Own (frame N.length ds) (fun _ => 0) a := fun a ⟨i, es, z, _⟩ => frame_own z
      split at e
      · rename_i d' ρ' e1
        cases e
        refine run Ex _ H _ _ _ _ k0 e1 fun v σ' H' as' k' f' g' rr => q v H' (fun b o hb => (f' b o hb).1 (nown b)) ?_
        unfold RR at rr
        rw [if_neg Bool.false_ne_true] at rr
        exact rr.keep (Keep.sub fun a z => .inl z)
      · rename_i ρ' e1
        cases e
        refine run Ex _ H _ _ _ _ k0 e1 fun σ' H' as' k' f' g' => q .non H' (fun b o hb => (f' b o hb).1 (nown b)) (rep_non.mpr rfl)
      · rename_i c _ e1
        cases e
        exact run Ex _ H _ _ _ _ k0 e1 fun C σ' H' as' k' f' g' hm => q C H' (fun b o hb => (f' b o hb).1 (nown b)) hm
      · cases e
    · cases e
/-- a def that may raise, by its name -/
structure DfX (P : Program) (w : World) (K : PySem.W.Frag) (mg : Str → Option Value) (base : Heap) (x : Str) (k : Nat) (ps : List Str) (sp : Sp) : Prop where
  ex : ∃ f fd, FnOk P w K mg base (L2.CX P w) k f fd ps sp ∧ mg x = some (.ref f) ∧ PySem.W.keepIn K (.ref f) = true ∧ Binds K fd ps []
end
def eCallX (m : List D → Option RX) (f : C (List D)) : Rho → Option (RX × Rho) := fun ρ => match f ρ with
  | some (ds, ρ1) => (match m ds with | some r => some (r, ρ1) | none => none)
  | none => none
section
variable {X : Cx} {W : WX} {ow : Bool} {a b e : Expr} {es : List Expr} {fs : C (List D)} {x : Str} {q pos p2 : Pos} {k j : Nat} {ps : List Str} {f : Rho → Option (RX × Rho)}
theorem dex_call {m : List D → Option RX} (tk : Takes X W) (c : DfX X.prog X.w X.K X.mg X.base x k ps (spX X.K X.mg m)) (hr : Room j X.A) (hk : k ≤ j) (h : DA X (a :: es) fs) (hg : Gl X x := by rfl) (hdb : (x == ("__debug__" : Str)) = false := by decide)
    (he : starEach (a :: es) X.env = (false, eval a X.env) :: starEach es X.env := by rfl) (hpl : (backTo pos (starEach es X.env)).any (·.1) = false := by rfl) : DEX X W (.Call (.Name x q) (a :: es) [] pos) (eCallX m fs) := by
  obtain ⟨f, fd, F, hm, kp, bd⟩ := c.ex
  obtain ⟨t, h, run⟩ := h.ex
  refine ⟨_, pe_callS F (hr.mono hk) hg hm kp bd (fun σ => passAt tk σ) h hdb he hpl, fun Ex σ H ρ as r ρ' Q k e q => ?_⟩
  unfold eCallX at e
  split at e
  · rename_i ds ρ1 e1
    split at e
    · rename_i r1 e2
      cases e
      refine run Ex σ H ρ as _ _ _ k e1 fun vs H1 k1 f1 g1 rv => ?_
      refine ⟨MM Ex ρ' as, ds, r, fun a => k1.trk, rv, e2, ?_⟩
      cases r with
      | val d => exact fun v H' s r => q v H' (k1.same s) (f1.trans g1 (.of_same s)) g1 r
      | exc c => exact fun C H' s hm => q C H' (k1.same s) (f1.trans g1 (.of_same s)) g1 hm
    · cases e
  · cases e
/-- f(..) is None -/
def eIsNX (f : Rho → Option (RX × Rho)) : Rho → Option (RX × Rho) := fun ρ => match f ρ with
  | some (.val d, ρ1) => (match fIs d .non with | some r => some (.val r, ρ1) | none => none)
  | some (.exc c, ρ1) => some (.exc c, ρ1)
  | none => none
theorem dex_isN {kk : Nat} (h : DEX X W e f) : DEX X W (.Compare e [.Is] [.Constant .none kk p2] pos) (eIsNX f) := by
  obtain ⟨t, h, run⟩ := h.ex
  refine ⟨_, pe_cmpR op_isA h pe_non (by rfl), fun Ex σ H ρ as r ρ' Q k e q => ?_⟩
  unfold eIsNX at e
  split at e
  · rename_i d ρ1 e1
    split at e
    · rename_i r1 e2
      cases e
      refine run Ex σ H ρ as _ _ _ k e1 fun v H1 k1 f1 g1 rv => ?_
      exact v_is (K := X.K) _ H1 v .non d .non r1 Q (fun a => k1.trk) rv (rep_non.mpr rfl) e2 fun u H2 s ru => q u H2 (k1.same s) (f1.trans g1 (.of_same s)) g1 ru
    · cases e
  · cases e
    exact run Ex σ H ρ as _ _ _ k ‹_› fun C H' k' f' g' hm => q C H' k' f' g' hm
  · cases e
def xExpr (f : Rho → Option (RX × Rho)) : SX := fun ρ => match f ρ with | some (.val _, ρ1) => some (.ok (.nx ρ1)) | some (.exc c, ρ1) => some (.ex c ρ1) | none => none
def xRet (f : Rho → Option (RX × Rho)) : SX := fun ρ => match f ρ with | some (.val d, ρ1) => some (.ok (.rt d ρ1)) | some (.exc c, ρ1) => some (.ex c ρ1) | none => none
theorem dsx_expr (h : DEX X W e f) (hs : swapsWith e none pos.line X.env = pure false := by rfl) : DSX X W ow [.Expr e pos] (xExpr f) := by
  obtain ⟨t, h, run⟩ := h.ex
  refine ⟨_, pss_one (ps_expr h hs), fun Ex σ H ρ as o D k e q => ?_⟩
  unfold xExpr at e
  split at e
  · cases e
    exact run Ex σ H ρ as _ _ _ k ‹_› fun v H' k' f' g' r => q σ H' as k' f' g'
  · cases e
    exact run Ex σ H ρ as _ _ _ k ‹_› fun C H' k' f' g' hm => q C σ H' as k' f' g' hm
  · cases e
theorem dsx_ret (h : DEX X W e f) : DSX X W false [.Return (some e) pos] (xRet f) := by
  obtain ⟨t, h, run⟩ := h.ex
  refine ⟨_, pss_one (ps_ret h), fun Ex σ H ρ as o D k e q => ?_⟩
  unfold xRet at e
  split at e
  · cases e
    exact run Ex σ H ρ as _ _ _ k ‹_› fun v H' k' f' g' r => q v σ H' as k' f' g' r
  · cases e
    exact run Ex σ H ρ as _ _ _ k ‹_› fun C H' k' f' g' hm => q C σ H' as k' f' g' hm
  · cases e
end

/-! try .. except x as n: return isinstance(n, ..) .. -/
inductive ClsOf (K : PySem.W.Frag) (mg : Str → Option Value) (C : Addr) (x : Str) : Prop where
  | own (A : Addr) (hm : mg x = some (.ref A)) (h : PySem.W.kitOne K (.ref C) (.ref A) = some true) : ClsOf K mg C x
  | blt (T : String) (hm : mg x = none) (hb : bootBuiltins x = some (.type T)) (h : PySem.W.kitOne K (.ref C) (.type T) = some true) : ClsOf K mg C x
/-- what the suite of an except clause does: it hands back True -/
structure SuT (X : Cx) (C : Addr) (i : Nat) (suite : List Stmt) : Prop where
  ex : ∀ (a : Addr) (oe : Obj) (pn : List (Addr × Obj)), Zc (.ref C) none oe → (∃ vs, oe.data = .fields vs) → ∃ t, PSs (X.suite a ((a, oe) :: pn)) suite t ∧ ∀ (D : Ends) (σ : St) (H : Hp), σ[i]? = some (some (.ref a)) → D.rt (.bl true) H → t D σ H
structure SuE (X : Cx) (C : Addr) (i : Nat) (e : Expr) : Prop where
  ex : ∀ (a : Addr) (oe : Obj) (pn : List (Addr × Obj)), Zc (.ref C) none oe → (∃ vs, oe.data = .fields vs) → ∃ t, PE (X.suite a ((a, oe) :: pn)) e t ∧ ∀ (σ : St) (H : Hp) (Q : VK), σ[i]? = some (some (.ref a)) → Q (.bl true) H → t σ H Q
section
variable {X : Cx} {C : Addr} {i : Nat} {n x : Str} {e e2 : Expr} {p p1 p2 pos : Pos}
theorem su_is (EC : ExcC X.K C) (T : ClsOf X.K X.mg C x) (hi : X.N[i]? = some n) (hv : Vis X.env.scope n) (hm : X.mg "isinstance" = none) (hg : Gl X "isinstance" := by rfl) (hgx : Gl X x := by rfl) (hnx : x ≠ "__name__" := by decide) (hdx : (x == ("__debug__" : Str)) = false := by decide)
    (hdn : (n == ("__debug__" : Str)) = false := by decide) (hcn : (n == ("__classdict__" : Str)) = false := by decide)
    (hs : starEach [.Name n p1, .Name x p2] X.env = (false, eval (.Name n p1) X.env) :: starEach [.Name x p2] X.env := by rfl) (hs2 : starEach [.Name x p2] X.env = (false, eval (.Name x p2) X.env) :: starEach [] X.env := by rfl)
    (hpl : (backTo pos (starEach [.Name n p1, .Name x p2] X.env)).any (·.1) = false := by rfl) :
    SuE X C i (.Call (.Name "isinstance" p) [.Name n p1, .Name x p2] [] pos) := ⟨fun a oe pn hz hf => by
  have hc : ∃ v cv, PE (X.suite a ((a, oe) :: pn)) (.Name x p2) (tC v) ∧ (∀ u, RelV v u → u = cv) ∧ PySem.W.kitOne X.K (.ref C) cv = some true := by
    cases T with
    | own A hmA h => exact ⟨.ref A, .ref A, pe_glob (X := X.suite a ((a, oe) :: pn)) hgx hmA rfl hdx, fun u r => r, h⟩
    | blt T hmT hb h => exact ⟨.ty T, .type T, pe_bltn (X := X.suite a ((a, oe) :: pn)) hgx hmT hb rfl hnx hdx, fun u r => r, h⟩
  obtain ⟨v, cv, hp, hr, hk⟩ := hc
  have h1 : PE (X.suite a ((a, oe) :: pn)) (.Name n p1) (tVar i) := pe_var (X := X.suite a ((a, oe) :: pn)) hi hv hdn hcn
  refine ⟨_, pe_callB (X := X.suite a ((a, oe) :: pn)) (call_isE EC hz hf) hg hm (by decide +kernel) (pa_cons h1 (pa_cons hp pa_nil hs2) hs) (by decide) (by decide) hs hpl, fun σ H Q h0 q => ?_⟩
  exact ⟨_, h0, ⟨v, cv, true, rfl, hr, hk, q⟩⟩⟩
theorem su_and (h1 : SuE X C i e) (h2 : SuE X C i e2) : SuE X C i (.BoolOp .And [e, e2] pos) := ⟨fun a oe pn hz hf => by
  obtain ⟨t1, p1, r1⟩ := h1.ex a oe pn hz hf
  obtain ⟨t2, p2, r2⟩ := h2.ex a oe pn hz hf
  refine ⟨_, pe_and p1 (pe_one p2), fun σ H Q h0 q => r1 σ H _ h0 ⟨true, rfl, ?_⟩⟩
  exact iteT (r2 σ H Q h0 q)⟩
theorem su_ret (h : SuE X C i e) : SuT X C i [.Return (some e) pos] := ⟨fun a oe pn hz hf => by
  obtain ⟨t, p, r⟩ := h.ex a oe pn hz hf
  exact ⟨_, pss_one (ps_ret p), fun D σ H h0 q => r σ H _ h0 q⟩⟩
end
def sTry (i : Nat) (f : SX) (x : Str) : S := fun ρ => match f ρ with
  | some (.ok o) => some o
  | some (.ex c ρ1) => if c = x ∧ i < ρ1.length then some (.rt (.bl true) ρ1) else none
  | none => none
theorem ds_try {X : Cx} {x n : Str} {i : Nat} {b₀ : Stmt} {body suite : List Stmt} {np pos pos' : Pos} {f : SX} {C : Addr} (hs : X.stack = X.env :: X.outer) (hf : X.env.frame = some X.env.locals) (hN : X.N.Nodup) (T : ExcTxt X.K X.mg x C) (hx : PySem.W.exmOne X.K (.ref C) (.ref C) = some true)
    (hb : ∀ (W : WX) (pn : List (Addr × Obj)) (xe : Value → Shared → Prop), Takes (X.tr pn xe) W → DSX (X.tr pn xe) W false body f)
    (hsu : SuT X C i (b₀ :: suite)) (hi : X.N[i]? = some n := by rfl) (hln : X.env.kindOf n = some .local := by rfl) (hg : Gl X x := by rfl) (hdx : (x == ("__debug__" : Str)) = false := by decide) :
    DS X false (.Try body [.ExceptHandler (some (.Name x np)) (some n) (b₀ :: suite) pos'] [] [] pos) (sTry i f x) := by
  obtain ⟨bmB, e1, _⟩ := T.ex
  refine ⟨_, ps_try_as hs hf hN hi hln ⟨hg, hdx, .inl e1⟩ takes0
    (tb := fun W D σ H => ∃ Ex ρ as o, Ok X.K Ex σ H ρ as ∧ f ρ = some o ∧ PostX X W false Ex H ρ as D o)
    (ts := fun a cls d D σ H => cls = .ref C ∧ d = none ∧ σ[i]? = some (some (.ref a)) ∧ D.rt (.bl true) H)
    (fun W pn xe tk _ => ?_) (fun a oe cls d pn hz hv => ?_), fun Ex σ H ρ as o D k e q => ?_⟩
  · obtain ⟨t, h, run⟩ := (hb W pn xe tk).ex
    exact ⟨fun pins s σ H D I ⟨Ex, ρ, as, o, k, e, q⟩ => h.run pins s σ H D I (run Ex σ H ρ as o D k e q)⟩
  · refine ⟨fun pins s σ H D I ⟨ec, ed, h0, q⟩ => ?_⟩
    subst ec ed
    obtain ⟨t, h, run⟩ := hsu.ex a oe pn hz hv
    exact h.run pins s σ H D I (run D σ H h0 q)
  · unfold sTry at e
    split at e
    · rename_i o1 e1'
      cases e
      exact ⟨Ex, ρ, as, _, k, e1', q⟩
    · rename_i c ρ1 e1'
      split at e
      · rename_i hc
        cases e
        obtain ⟨hc, hl⟩ := hc
        subst hc
        refine ⟨Ex, ρ, as, _, k, e1', fun C' σ' H' as' k' f' g' hm => ?_⟩
        rw [e1] at hm
        cases hm
        refine ⟨true, hx, fun _ a na => ⟨rfl, rfl, ?_, ?_⟩, fun z => Bool.noConfusion z⟩
        · have hl' : i < σ'.length := by rw [← k'.len]; exact hl
          simp [hl']
        · refine q (.bl true) σ' H' as' k' f' g' ?_
          unfold RR
          rw [if_neg Bool.false_ne_true]
          exact rep_bl.mpr rfl
      · cases e
    · cases e

/-- all that is asked of an own error's class: cs the classes that isinstance is asked for -/
structure ExcAll (K : PySem.W.Frag) (mg : Str → Option Value) (x : Str) (cs : List Str) (C : Addr) : Prop where
  txt : ExcTxt K mg x C
  one : PySem.W.exmOne K (.ref C) (.ref C) = some true
  exc : ExcC K C
  cls : ∀ y ∈ cs, ClsOf K mg C y
theorem dsx_raise {X : Cx} {W : WX} {ow : Bool} {rest : List Stmt} {g : SX} {pos : Pos} {c : Expr} {x m : Str} {cs : List Str} {j : Nat} {p p2 cp rp : Pos} {fc : PD.C Bool} (hc : X.calm = true) (tk : Takes X W) (T : ∃ C, ExcAll X.K X.mg x cs C) (h1 : DT X.nox c fc) (h2 : DSX X W ow rest g) (hg : Gl X x := by rfl) (hdb : (x == ("__debug__" : Str)) = false := by decide) :
    DSX X W ow (.If c [.Raise (some (.Call (.Name x p) [.Constant (.str m) j p2] [] cp)) none rp] [] pos :: rest) (xRaise fc x g) := by
  obtain ⟨C, T⟩ := T
  exact dsx_raise0 hc tk T.txt h1 h2 hg hdb
theorem ds_tryX {X : Cx} {x n : Str} {i : Nat} {cs : List Str} {b₀ : Stmt} {body suite : List Stmt} {np pos pos' : Pos} {f : SX} (hs : X.stack = X.env :: X.outer) (hf : X.env.frame = some X.env.locals) (hN : X.N.Nodup) (T : ∃ C, ExcAll X.K X.mg x cs C)
    (hb : ∀ (W : WX) (pn : List (Addr × Obj)) (xe : Value → Shared → Prop), Takes (X.tr pn xe) W → DSX (X.tr pn xe) W false body f)
    (hsu : ∀ C, ExcAll X.K X.mg x cs C → SuT X C i (b₀ :: suite)) (hi : X.N[i]? = some n := by rfl) (hln : X.env.kindOf n = some .local := by rfl) (hg : Gl X x := by rfl) (hdx : (x == ("__debug__" : Str)) = false := by decide) :
    DS X false (.Try body [.ExceptHandler (some (.Name x np)) (some n) (b₀ :: suite) pos'] [] [] pos) (sTry i f x) := by
  obtain ⟨C, T⟩ := T
  exact ds_try hs hf hN T.txt T.one hb (hsu C T) hi hln hg hdx
/-- a class from the written part -/
theorem excAll_mk {K : PySem.W.Frag} {mg : Str → Option Value} {x : Str} {cs : List Str} {C : Addr} (h0 : mg x = some (.ref C)) (h1 : PySem.W.excIn K C [.type "ValueError", .type "Exception", .type "BaseException", .type "object"] "ValueError.__new__" = true) (h2 : PySem.W.keepIn K (.ref C) = true)
    (h3 : PySem.W.subIn K (.ref C) (.type "BaseException") = some true) (h4 : PySem.W.typeIn K (.ref C) = some (.type "type")) (h5 : PySem.W.hasDictIn K C = true) (h6 : PySem.W.subIn K (.ref C) (.ref C) = some true)
    (hg : PySem.W.findIn K (.ref C) "__getattribute__" = some (some (.builtin "BaseException.__getattribute__"))) (hk : PySem.W.findIn K (.ref C) "__getattr__" = some none)
    (ha : PySem.W.findIn K (.ref C) "__class__" = some (some (.builtin "object.__class__"))) (hn : PySem.W.specialIn K (.builtin "object.__class__") "__get__" = some (some (.builtin "getset_descriptor.__get__")))
    (ht : PySem.W.takesIn K (.builtin "object.__class__") = some true) (hm : PySem.W.mroIn K C (.type "object") = some true) (hc : ∀ y ∈ cs, ClsOf K mg C y) : ∃ C, ExcAll K mg x cs C :=
  ⟨C, ⟨⟨_, h0, h1, h2, h3, h4, rfl⟩, PySem.W.exm_ref h3 h5 h4 h6, ⟨hg, hk, h3, h5, ha, hn, ht, hm⟩, hc⟩⟩
theorem clsOf_own {K : PySem.W.Frag} {mg : Str → Option Value} {x : Str} {C A : Addr} (hm : mg x = some (.ref A)) (h1 : PySem.W.hasDictIn K A = true) (h2 : PySem.W.typeIn K (.ref A) = some (.type "type")) (h3 : PySem.W.subIn K (.ref C) (.ref A) = some true) : ClsOf K mg C x := by
  refine .own A hm ?_
  obtain ⟨cd, hc, _⟩ := PySem.W.any_some h1
  have e2 : ((PySem.W.clsIn K A).isSome && PySem.W.typeIn K (.ref A) == some (.type "type")) = true := by rw [hc, h2] <;> rfl
  unfold PySem.W.kitOne
  split
  · rfl
  · show (if ((PySem.W.clsIn K A).isSome && PySem.W.typeIn K (.ref A) == some (.type "type")) = true then PySem.W.subIn K (.ref C) (.ref A) else none) = some true
    rw [if_pos e2]
    exact h3
theorem clsOf_blt {K : PySem.W.Frag} {mg : Str → Option Value} {x : Str} {C : Addr} {T : String} (hm : mg x = none) (hb : bootBuiltins x = some (.type T)) (h2 : PySem.W.kitMeta T = true) (h3 : PySem.W.subIn K (.ref C) (.type T) = some true) : ClsOf K mg C x := by
  refine .blt T hm hb ?_
  unfold PySem.W.kitOne
  split
  · rfl
  · show (if PySem.W.kitMeta T = true then PySem.W.subIn K (.ref C) (.type T) else none) = some true
    rw [if_pos h2]
    exact h3
theorem cls_nil {K : PySem.W.Frag} {mg : Str → Option Value} {C : Addr} : ∀ y ∈ ([] : List Str), ClsOf K mg C y := fun _ h => nomatch h
theorem cls_cons {K : PySem.W.Frag} {mg : Str → Option Value} {C : Addr} {y : Str} {cs : List Str} (h : ClsOf K mg C y) (hs : ∀ z ∈ cs, ClsOf K mg C z) : ∀ z ∈ y :: cs, ClsOf K mg C z := fun z hz => by
  cases hz with
  | head => exact h
  | tail _ hz => exact hs z hz
end PD

namespace PD
open PySem L2
/-! sorted(xs), whole numbers -/
def sortI (ns : List Int) : List Int := ns.mergeSort fun a b => decide (a ≤ b)
theorem sortI_perm {ns : List Int} : (sortI ns).Perm ns := List.mergeSort_perm _ _
theorem sortI_sorted {ns : List Int} : (sortI ns).Pairwise (· ≤ ·) := by
  have h := List.pairwise_mergeSort (le := fun a b : Int => decide (a ≤ b)) (fun a b c h1 h2 => by simp at *; omega) (fun a b => by simp; omega) ns
  exact h.imp fun h => by simpa using h
theorem sortI_of {ns ms : List Int} (h1 : ms.Perm ns) (h2 : ms.Pairwise (· ≤ ·)) : ms = sortI ns :=
  List.Perm.eq_of_pairwise (fun a b _ _ h h' => Int.le_antisymm h h') h2 sortI_sorted (h1.trans sortI_perm.symm)
def gSorted (ds : List D) : Option (List D) := match ds with | [.lst xs] => (match intsD xs with | some ns => if ns.length ≤ lim then some ((sortI ns).map .int) else none | none => none) | _ => none
theorem ints_rep {K : PySem.W.Frag} {M : Addr → Prop} {H : Hp} : ∀ ns : List Int, RepL K M H (ns.map .int) (ns.map V.int)
  | [] => RepL.nil
  | n :: ns => RepL.cons (rep_int.mpr rfl) (ints_rep ns)
theorem v_sorted {K : PySem.W.Frag} : VNo K (rSortedI K) gSorted := fun M H xs ds res Q t r h q => by
  unfold gSorted at h
  split at h
  · split at h
    · rename_i ns hb
      split at h
      · rename_i hl
        cases h
        obtain ⟨v, e, rv⟩ := repL_one r
        obtain ⟨a, vs, e1, l1, r1⟩ := rep_lst.mp rv
        have e2 := intsD_spec r1 hb
        subst e1 e2
        refine ⟨a, ns, e, l1.seq, fun ns' p hp hs hn => ?_⟩
        rw [sortI_of hp hs]
        exact q p _ hn (by rw [List.length_map, sortI_perm.length_eq]; exact Nat.le_trans hl lim_line) (ints_rep _)
      · cases h
    · cases h
  · cases h
section
variable {X : Cx} {a : Expr} {fs : C (List D)} {q pos : Pos} {QL : List D → Prop}
theorem o_sorted (hm : X.mg "sorted" = none) (ha : DA X [a] fs) (hg : Gl X "sorted" := by rfl) (hs : starEach [a] X.env = (false, eval a X.env) :: starEach [] X.env := by rfl) : DO X (.Call (.Name "sorted" q) [a] [] pos) (oCall gSorted fs) :=
  do_call v_sorted ha fun _ h => pe_callB cr_sortedI hg hm (by decide +kernel) h (by decide) (by decide) hs rfl
theorem z_sorted {xs : List D} : ho (gSorted [.lst xs]) QL = ho (intsD xs) fun ns => ns.length ≤ lim ∧ QL ((sortI ns).map .int) := by
  unfold gSorted ho; cases e : intsD xs with
  | none => simp [e]
  | some ns => by_cases h : ns.length ≤ lim <;> simp [e, h]
end
theorem intsD_map : ∀ ns : List Int, intsD (ns.map .int) = some ns
  | [] => rfl
  | n :: ns => by rw [List.map_cons, intsD, intsD_map ns]
end PD

namespace PD
open PySem L2
/-! texts that are cut again -/
def fx (t : List Nat) (n : Nat) (u : List Nat) : Nat := if u = [119, 111, 114, 100, 115] then (lastP (gap t) n).getD n else n
theorem front_fx {t u : List Nat} {n : Nat} : front t n u = t.take (fx t n u) := rfl
theorem fx_le {t u : List Nat} {n : Nat} : fx t n u ≤ n := by
  unfold fx; split
  · exact last_getD
  · exact Nat.le_refl _
theorem lastP_down {P : Nat → Bool} : ∀ {n k j : Nat}, lastP P n = some k → k ≤ j → j ≤ n → lastP P j = some k
  | 0, k, j, h, _, _ => by cases h
  | n + 1, k, j, h, h2, h3 => by
    rcases Nat.lt_or_ge j (n + 1) with z | z
    · rw [lastP] at h; split at h
      · cases h; omega
      · exact lastP_down h h2 (by omega)
    · rw [show j = n + 1 by omega]; exact h
theorem lastP_none {P : Nat → Bool} : ∀ {n j : Nat}, lastP P n = none → j ≤ n → lastP P j = none
  | 0, j, h, h2 => by rw [show j = 0 by omega]; exact h
  | n + 1, j, h, h2 => by
    rcases Nat.lt_or_ge j (n + 1) with z | z
    · rw [lastP] at h; split at h
      · cases h
      · exact lastP_none h (by omega)
    · rw [show j = n + 1 by omega]; exact h
theorem fx_down {t u : List Nat} {n j : Nat} (h1 : fx t n u ≤ j) (h2 : j ≤ n) : fx t j u = fx t n u := by
  unfold fx at *
  split
  · rename_i hu
    rw [if_pos hu] at h1
    cases h : lastP (gap t) n with
    | none => rw [h] at h1; rw [lastP_none h h2]; simp at *; omega
    | some k => rw [h] at h1; rw [lastP_down h (by simpa using h1) h2]; rfl
  · rename_i hu
    rw [if_neg hu] at h1
    omega
theorem fx_cong {s t u : List Nat} {n : Nat} (h : ∀ j, j ≤ n → s[j]? = t[j]?) : fx s n u = fx t n u := by
  unfold fx; split
  · rw [lastP_cong (R := gap t)]
    intro k h1 h2
    unfold gap
    rw [h k h2, h (k - 1) (by omega)]
  · rfl
def shd (p u m t : List Nat) (w : Nat) : List Nat := if t.length ≤ w then t else cutP p u m t w
theorem shw_shd {p u m t : List Nat} {w : Nat} : shw p u [100, 114, 111, 112] m t w = shd p u m t w := by
  unfold shw shd; simp
theorem shd_end {u m t : List Nat} {v w : Nat} (h : v ≤ w) : shd [101, 110, 100] u m (shd [101, 110, 100] u m t w) v = shd [101, 110, 100] u m t v := by
  by_cases a : t.length ≤ w
  · rw [show shd [101, 110, 100] u m t w = t from if_pos a]
  · have a2 : ¬ t.length ≤ v := by omega
    rw [show shd [101, 110, 100] u m t w = cutP [101, 110, 100] u m t w from if_neg a, show shd [101, 110, 100] u m t v = cutP [101, 110, 100] u m t v from if_neg a2]
    unfold cutP
    simp only [if_true]
    by_cases b : w < m.length
    · rw [if_pos b, if_pos (by omega)]; unfold shd; simp
    · rw [if_neg b, front_fx]
      have h0 := fx_le (t := t) (u := u) (n := w - m.length)
      have hl : (t.take (fx t (w - m.length) u) ++ m).length = fx t (w - m.length) u + m.length := by simp; omega
      unfold shd
      rw [hl]
      by_cases c : fx t (w - m.length) u + m.length ≤ v
      · rw [if_pos c, if_neg (by omega), front_fx, fx_down (n := w - m.length) (j := v - m.length) (by omega) (by omega)]
      · rw [if_neg c]
        unfold cutP
        simp only [if_true]
        by_cases d : v < m.length
        · rw [if_pos d, if_pos d]
        · rw [if_neg d, if_neg d, front_fx, front_fx]
          have e : fx (t.take (fx t (w - m.length) u) ++ m) (v - m.length) u = fx t (v - m.length) u := fx_cong fun j hj => by
            rw [List.getElem?_append_left (by simp; omega), List.getElem?_take, if_pos (by omega)]
          rw [e]
          have h2 := fx_le (t := t) (u := u) (n := v - m.length)
          rw [List.take_append_of_le_length (by simp; omega), List.take_take, Nat.min_eq_left (by omega)]
theorem shd_start {u m t : List Nat} {v w : Nat} (hm : m.length ≤ 1) (h : v ≤ w) : shd [115, 116, 97, 114, 116] u m (shd [115, 116, 97, 114, 116] u m t w) v = shd [115, 116, 97, 114, 116] u m t v := by
  have tr : ∀ (s : List Nat) (k : Nat), shd [115, 116, 97, 114, 116] u m s k = (shd [101, 110, 100] u m s.reverse k).reverse := fun s k => by
    have := shw_turn (u := u) (m := m) (t := s.reverse) (w := k) hm
    rw [List.reverse_reverse, shw_shd, shw_shd] at this
    exact this
  rw [tr, tr t w, List.reverse_reverse, shd_end h, ← tr]
theorem shd_mid {u m t : List Nat} {v w : Nat} (hu : u ≠ [119, 111, 114, 100, 115]) (h : v ≤ w) : shd [109, 105, 100, 100, 108, 101] u m (shd [109, 105, 100, 100, 108, 101] u m t w) v = shd [109, 105, 100, 100, 108, 101] u m t v := by
  have fr : ∀ (s : List Nat) (n : Nat), front s n u = s.take n := fun s n => by unfold front; rw [if_neg hu]
  have bk : ∀ (s : List Nat) (n : Nat), back s n u = s.drop (s.length - n) := fun s n => by unfold back; rw [fr, List.take_reverse, List.reverse_reverse]
  have ct : ∀ (s : List Nat) (k : Nat), cutP [109, 105, 100, 100, 108, 101] u m s k = if k < m.length then [] else s.take (k - m.length - (k - m.length) / 2) ++ m ++ s.drop (s.length - (k - m.length) / 2) := fun s k => by
    unfold cutP; simp [fr, bk]
  by_cases a : t.length ≤ w
  · rw [show shd [109, 105, 100, 100, 108, 101] u m t w = t from if_pos a]
  · have a2 : ¬ t.length ≤ v := by omega
    rw [show shd [109, 105, 100, 100, 108, 101] u m t w = _ from if_neg a, show shd [109, 105, 100, 100, 108, 101] u m t v = _ from if_neg a2, ct, ct]
    by_cases b : w < m.length
    · rw [if_pos b, if_pos (by omega)]; unfold shd; simp
    · rw [if_neg b]
      have hl : (t.take (w - m.length - (w - m.length) / 2) ++ m ++ t.drop (t.length - (w - m.length) / 2)).length = w := by simp; omega
      unfold shd
      rw [hl]
      by_cases c : w ≤ v
      · have : w = v := by omega
        subst this
        rw [if_pos c, if_neg b]
      · rw [if_neg c, ct]
        by_cases d : v < m.length
        · rw [if_pos d, if_pos d]
        · rw [if_neg d, if_neg d, hl]
          congr 1
          · congr 1
            rw [List.append_assoc, List.take_append_of_le_length (by simp; omega), List.take_take, Nat.min_eq_left (by omega)]
          · rw [List.drop_append, List.drop_of_length_le (by simp; omega), List.nil_append, List.drop_drop]
            congr 1
            simp; omega
theorem back_suffix {X Y T u : List Nat} {n : Nat} (h : n < T.length) : back (X ++ T) n u = back (Y ++ T) n u := by
  have one : ∀ Z : List Nat, back (Z ++ T) n u = (T.reverse.take (fx T.reverse n u)).reverse := fun Z => by
    unfold back
    rw [front_fx, List.reverse_append, fx_cong (s := T.reverse ++ Z.reverse) (t := T.reverse) fun j hj => List.getElem?_append_left (by simp; omega)]
    have := fx_le (t := T.reverse) (u := u) (n := n)
    rw [List.take_append_of_le_length (by simp; omega)]
  rw [one, one]
theorem tail_app {s t : List Nat} {c : Nat} (h : isTail t c) (hs : 1 ≤ s.length) : tail (s ++ t.drop c) = t.drop c := by
  obtain ⟨h1, h2, h3, h4, h5⟩ := h
  have k : isTail (s ++ t.drop c) s.length := by
    refine ⟨hs, by simp; omega, by simp; omega, ?_, ?_⟩
    · rw [List.getElem?_append_right (Nat.le_refl _), List.getElem?_drop]
      simpa using h4
    · intro x hx
      rw [List.drop_append, List.drop_of_length_le (by omega), List.nil_append, List.drop_drop] at hx
      exact h5 x (by rwa [show c + (s.length + 1 - s.length) = c + 1 by omega] at hx)
  rw [tail_of k, List.drop_left]
theorem tail_self {t : List Nat} {c : Nat} (h : isTail t c) : tail (t.drop c) = [] := by
  obtain ⟨h1, h2, h3, h4, h5⟩ := h
  refine tail_none fun d ⟨a1, a2, a3, a4, a5⟩ => ?_
  rw [List.getElem?_drop] at a4
  have : (t.drop (c + 1))[d - 1]? = some 46 := by rw [List.getElem?_drop, show c + 1 + (d - 1) = c + d by omega]; exact a4
  have := h5 _ (List.mem_of_getElem? this)
  simp at this
theorem cutP_start {u m t : List Nat} {w : Nat} : cutP [115, 116, 97, 114, 116] u m t w = if w < m.length then [] else m ++ back t (w - m.length) u := by
  unfold cutP; simp
theorem shw_ks {u m t : List Nat} {w : Nat} : shw [115, 116, 97, 114, 116] u [107, 101, 101, 112] m t w = if t.length ≤ w then t else
  if tail t ≠ [] ∧ m.length + (tail t).length ≤ w then cutP [115, 116, 97, 114, 116] u m (t.take (t.length - (tail t).length)) (w - (tail t).length) ++ tail t else cutP [115, 116, 97, 114, 116] u m t w := by
  unfold shw; simp
theorem shw_keep {u m t : List Nat} {v w : Nat} (hm : m.length ≤ 1) (h : v ≤ w) : shw [115, 116, 97, 114, 116] u [107, 101, 101, 112] m (shw [115, 116, 97, 114, 116] u [107, 101, 101, 112] m t w) v = shw [115, 116, 97, 114, 116] u [107, 101, 101, 112] m t v := by
  by_cases a : t.length ≤ w
  · rw [show shw [115, 116, 97, 114, 116] u [107, 101, 101, 112] m t w = t from if_pos a]
  have a2 : ¬ t.length ≤ v := by omega
  by_cases f : tail t ≠ [] ∧ m.length + (tail t).length ≤ w
  · have e1 : shw [115, 116, 97, 114, 116] u [107, 101, 101, 112] m t w = cutP [115, 116, 97, 114, 116] u m (t.take (t.length - (tail t).length)) (w - (tail t).length) ++ tail t := by rw [shw_ks, if_neg a, if_pos f]
    rw [e1]
    obtain ⟨f1, f2⟩ := f
    obtain ⟨c, hc, hT⟩ := tail_ne f1
    have hlT : (tail t).length = t.length - c := by rw [hT, List.length_drop]
    have hc' := hc
    obtain ⟨c1, c2, c3, c4, c5⟩ := hc'
    have hb : (t.take (t.length - (tail t).length)).length = t.length - (tail t).length := by simp
    have ht : t.take (t.length - (tail t).length) ++ tail t = t := by
      rw [show t.length - (tail t).length = c by omega, hT, List.take_append_drop]
    have hsd : cutP [115, 116, 97, 114, 116] u m (t.take (t.length - (tail t).length)) (w - (tail t).length) = shd [115, 116, 97, 114, 116] u m (t.take (t.length - (tail t).length)) (w - (tail t).length) := by
      unfold shd; rw [if_neg (by rw [hb]; omega)]
    have hml : m.length ≤ (cutP [115, 116, 97, 114, 116] u m (t.take (t.length - (tail t).length)) (w - (tail t).length)).length := by
      rw [cutP_start, if_neg (by omega)]; simp
    generalize hS : cutP [115, 116, 97, 114, 116] u m (t.take (t.length - (tail t).length)) (w - (tail t).length) = S at *
    have hts : S.length ≠ 0 → tail (S ++ tail t) = tail t := fun h0 => by
      conv => lhs; rw [hT]
      rw [tail_app hc (by omega), hT]
    by_cases g : m.length + (tail t).length ≤ v
    · have e2 : shw [115, 116, 97, 114, 116] u [107, 101, 101, 112] m t v = cutP [115, 116, 97, 114, 116] u m (t.take (t.length - (tail t).length)) (v - (tail t).length) ++ tail t := by rw [shw_ks, if_neg a2, if_pos ⟨f1, g⟩]
      have hsd2 : cutP [115, 116, 97, 114, 116] u m (t.take (t.length - (tail t).length)) (v - (tail t).length) = shd [115, 116, 97, 114, 116] u m (t.take (t.length - (tail t).length)) (v - (tail t).length) := by
        unfold shd; rw [if_neg (by rw [hb]; omega)]
      have st := shd_start (u := u) (t := t.take (t.length - (tail t).length)) (v := v - (tail t).length) (w := w - (tail t).length) hm (by omega)
      rw [← hsd, ← hsd2] at st
      rw [e2, ← st]
      by_cases k : (S ++ tail t).length ≤ v
      · rw [shw_ks, if_pos k]
        unfold shd
        rw [if_pos (by rw [List.length_append] at k; omega)]
      · have k2 := k
        rw [List.length_append] at k2
        rw [shw_ks, if_neg k, hts (by omega), if_pos ⟨f1, g⟩]
        unfold shd
        rw [if_neg (by omega), List.length_append, show S.length + (tail t).length - (tail t).length = S.length by omega, List.take_left]
    · have e2 : shw [115, 116, 97, 114, 116] u [107, 101, 101, 112] m t v = cutP [115, 116, 97, 114, 116] u m t v := by rw [shw_ks, if_neg a2, if_neg (fun q => g q.2)]
      have k : ¬ (S ++ tail t).length ≤ v := by rw [List.length_append]; omega
      have nf : ¬ (tail (S ++ tail t) ≠ [] ∧ m.length + (tail (S ++ tail t)).length ≤ v) := by
        by_cases h0 : S.length = 0
        · have : S = [] := List.eq_nil_of_length_eq_zero h0
          rw [this, List.nil_append, hT, tail_self hc]
          simp
        · rw [hts h0]; exact fun q => g q.2
      rw [e2, shw_ks, if_neg k, if_neg nf, cutP_start, cutP_start]
      by_cases d : v < m.length
      · rw [if_pos d, if_pos d]
      · rw [if_neg d, if_neg d, back_suffix (Y := t.take (t.length - (tail t).length)) (by omega), ht]
  · have e1 : shw [115, 116, 97, 114, 116] u [107, 101, 101, 112] m t w = cutP [115, 116, 97, 114, 116] u m t w := by rw [shw_ks, if_neg a, if_neg f]
    have e2 : shw [115, 116, 97, 114, 116] u [107, 101, 101, 112] m t v = cutP [115, 116, 97, 114, 116] u m t v := by rw [shw_ks, if_neg a2, if_neg (fun q => f ⟨q.1, by omega⟩)]
    have st := shd_start (u := u) (t := t) hm h
    rw [show shd [115, 116, 97, 114, 116] u m t w = cutP [115, 116, 97, 114, 116] u m t w from if_neg a, show shd [115, 116, 97, 114, 116] u m t v = cutP [115, 116, 97, 114, 116] u m t v from if_neg a2] at st
    have hn : tail (cutP [115, 116, 97, 114, 116] u m t w) = [] := by
      by_cases d : w < m.length
      · rw [cutP_start, if_pos d]
        exact tail_none fun c hc => by have := hc.2.1; simp at this
      · rw [cutP_start, if_neg d]
        obtain ⟨x, hx, hx2⟩ := back_drop (t := t) (u := u) (n := w - m.length)
        rw [hx2]
        refine tail_none fun c ⟨c1, c2, c3, c4, c5⟩ => ?_
        rw [List.length_append, List.length_drop] at c2 c3
        have k : isTail t (t.length - x + (c - m.length)) := by
          refine ⟨by omega, by omega, by omega, ?_, ?_⟩
          · rw [List.getElem?_append_right (by omega), List.getElem?_drop] at c4
            exact c4
          · intro y hy
            refine c5 y ?_
            rw [List.drop_append, List.drop_of_length_le (by omega), List.nil_append, List.drop_drop]
            rwa [show t.length - x + (c + 1 - m.length) = t.length - x + (c - m.length) + 1 by omega]
        have e := tail_of k
        refine f ⟨?_, ?_⟩
        · rw [e]; intro z
          have := congrArg List.length z
          simp at this; omega
        · rw [e, List.length_drop]; omega
    rw [e1, e2, shw_ks, hn]
    simp only [ne_eq, not_true_eq_false, false_and, if_false]
    exact st
/-- whether a text that is cut again is shown as if it were cut at once -/
def stay (p u e : List Nat) : Prop := p = [115, 116, 97, 114, 116] ∨ (e = [100, 114, 111, 112] ∧ ¬ (p = [109, 105, 100, 100, 108, 101] ∧ u = [119, 111, 114, 100, 115]))
theorem shw_again {p u e m t : List Nat} {v w : Nat} (hm : m.length ≤ 1) (hp : p = [101, 110, 100] ∨ p = [109, 105, 100, 100, 108, 101] ∨ p = [115, 116, 97, 114, 116]) (he : e = [100, 114, 111, 112] ∨ e = [107, 101, 101, 112]) (hs : stay p u e) (h : v ≤ w) : shw p u e m (shw p u e m t w) v = shw p u e m t v := by
  rcases he with rfl | rfl
  · rw [shw_shd, shw_shd, shw_shd]
    rcases hp with rfl | rfl | rfl
    · exact shd_end h
    · refine shd_mid (fun hu => ?_) h
      rcases hs with hs | hs
      · simp at hs
      · exact hs.2 ⟨rfl, hu⟩
    · exact shd_start hm h
  · rcases hs with rfl | hs
    · exact shw_keep hm h
    · simp at hs
/-- what is shown, one width after another -/
def again (p u e m : List Nat) : List Nat → List Nat → List (List Nat)
  | _, [] => []
  | t, w :: ws => shw p u e m t w :: again p u e m (shw p u e m t w) ws
theorem again_last {p u e m : List Nat} (hm : m.length ≤ 1) (hp : p = [101, 110, 100] ∨ p = [109, 105, 100, 100, 108, 101] ∨ p = [115, 116, 97, 114, 116]) (he : e = [100, 114, 111, 112] ∨ e = [107, 101, 101, 112]) (hs : stay p u e) :
    ∀ (ws : List Nat) (w : Nat) (t : List Nat), (w :: ws).Pairwise (· ≥ ·) → (again p u e m t (w :: ws)).getLast? = some (shw p u e m t ((w :: ws).getLast (by simp)))
  | [], w, t, _ => rfl
  | v :: ws, w, t, h => by
    have h1 := List.pairwise_cons.mp h
    rw [again, again, List.getLast?_cons_cons, ← again]
    rw [again_last hm hp he hs ws v _ h1.2, List.getLast_cons (a := w) (List.cons_ne_nil v ws)]
    refine congrArg some (shw_again hm hp he hs (h1.1 _ (List.getLast_mem _)))
end PD

namespace PD
open PySem L2
/-! weakest premises of what may raise -/
def wx (f : SX) (ρ : Rho) (Q : OutX → Prop) : Prop := match f ρ with | some o => Q o | none => False
def wr (f : Rho → Option (RX × Rho)) (ρ : Rho) (Q : RX → Rho → Prop) : Prop := match f ρ with | some (r, ρ1) => Q r ρ1 | none => False
def endX (Q : RX → Prop) : OutX → Prop
  | .ok (.rt d _) => Q (.val d)
  | .ok (.nx _) => Q (.val .non)
  | .ex c _ => Q (.exc c)
  | _ => False
def trX (i : Nat) (x : Str) (Q : Out → Prop) : OutX → Prop
  | .ok o => Q o
  | .ex c ρ => c = x ∧ i < ρ.length ∧ Q (.rt (.bl true) ρ)
def reX (Q : OutX → Prop) (ρ : Rho) : RX → Prop
  | .val d => Q (.ok (.rt d ρ))
  | .exc c => Q (.ex c ρ)
def exX (Q : OutX → Prop) (ρ : Rho) : RX → Prop
  | .val _ => Q (.ok (.nx ρ))
  | .exc c => Q (.ex c ρ)
def isX (Q : RX → Rho → Prop) (ρ : Rho) : RX → Prop
  | .val d => ho (fIs d .non) fun r => Q (.val r) ρ
  | .exc c => Q (.exc c) ρ
def nxX (g : SX) (Q : OutX → Prop) : Out → Prop
  | .nx ρ => wx g ρ Q
  | o => Q (.ok o)
section
variable {ρ : Rho} {Q : OutX → Prop} {QO : Out → Prop} {QR : RX → Rho → Prop} {d : D} {c x : Str} {f : S} {g : SX} {cb : C Bool} {h : Rho → Option (RX × Rho)} {QX : RX → Prop} {i : Nat}
theorem x_lift : wx (xLift f) ρ Q = ws f ρ fun o => Q (.ok o) := by
  unfold wx xLift ws; cases f ρ <;> rfl
theorem x_seq : wx (xSeq f g) ρ Q = ws f ρ (nxX g Q) := by
  unfold wx xSeq ws; cases f ρ with
  | none => rfl
  | some o => cases o <;> rfl
theorem x_raise : wx (xRaise cb x g) ρ Q = wp cb ρ fun b ρ1 => if b = true then Q (.ex x ρ1) else wx g ρ1 Q := by
  unfold wx xRaise wp; cases cb ρ with
  | none => rfl
  | some p => obtain ⟨b, r⟩ := p; cases b <;> rfl
theorem x_mX {np nl : Nat} {ds : List D} : ho (mX np nl g ds) QX = (ds.length = np ∧ wx g (frame nl ds) (endX QX)) := by
  unfold mX wx ho
  by_cases h : ds.length = np
  · simp [h]
    cases g (frame nl ds) with
    | none => rfl
    | some o => cases o with
      | ok o => cases o <;> rfl
      | ex c r => rfl
  · simp [h]
theorem x_try : ws (sTry i g x) ρ QO = wx g ρ (trX i x QO) := by
  unfold ws sTry wx
  cases g ρ with
  | none => rfl
  | some o => cases o with
    | ok o => rfl
    | ex c r =>
      simp only [trX]
      by_cases h1 : c = x
      · by_cases h2 : i < r.length <;> simp [h1, h2]
      · simp [h1]
theorem x_ret : wx (xRet h) ρ Q = wr h ρ fun r ρ1 => reX Q ρ1 r := by
  unfold wx xRet wr; cases h ρ with
  | none => rfl
  | some p => obtain ⟨r, s⟩ := p; cases r <;> rfl
theorem x_expr : wx (xExpr h) ρ Q = wr h ρ fun r ρ1 => exX Q ρ1 r := by
  unfold wx xExpr wr; cases h ρ with
  | none => rfl
  | some p => obtain ⟨r, s⟩ := p; cases r <;> rfl
theorem x_call {m : List D → Option RX} {fs : C (List D)} : wr (eCallX m fs) ρ QR = wp fs ρ fun ds ρ1 => ho (m ds) fun r => QR r ρ1 := by
  unfold wr eCallX wp ho; cases fs ρ with
  | none => rfl
  | some p => obtain ⟨ds, r⟩ := p; cases h : m ds <;> simp [h]
theorem x_isN : wr (eIsNX h) ρ QR = wr h ρ fun r ρ1 => isX QR ρ1 r := by
  unfold wr eIsNX; cases h ρ with
  | none => rfl
  | some p =>
    obtain ⟨r, s⟩ := p
    cases r with
    | val d => simp only [isX, ho]; cases fIs d .non <;> rfl
    | exc c => rfl
theorem x_end_rt : endX QX (.ok (.rt d ρ)) = QX (.val d) := rfl
theorem x_end_nx : endX QX (.ok (.nx ρ)) = QX (.val .non) := rfl
theorem x_end_ex : endX QX (.ex c ρ) = QX (.exc c) := rfl
theorem x_tr_ok {o : Out} : trX i x QO (.ok o) = QO o := rfl
theorem x_tr_ex : trX i x QO (.ex c ρ) = (c = x ∧ i < ρ.length ∧ QO (.rt (.bl true) ρ)) := rfl
theorem x_re_v : reX Q ρ (.val d) = Q (.ok (.rt d ρ)) := rfl
theorem x_re_e : reX Q ρ (.exc c) = Q (.ex c ρ) := rfl
theorem x_ex_v : exX Q ρ (.val d) = Q (.ok (.nx ρ)) := rfl
theorem x_ex_e : exX Q ρ (.exc c) = Q (.ex c ρ) := rfl
theorem x_is_v : isX QR ρ (.val d) = ho (fIs d .non) fun r => QR (.val r) ρ := rfl
theorem x_is_e : isX QR ρ (.exc c) = QR (.exc c) ρ := rfl
theorem x_nx : nxX g Q (.nx ρ) = wx g ρ Q := rfl
theorem x_nxr : nxX g Q (.rt d ρ) = Q (.ok (.rt d ρ)) := rfl
end
end PD

namespace PD
open PySem L2
/-! a tuple, some times -/
def fMulT (d e : D) : Option D := match d, e with | .tup xs, .int j => if 2 ≤ j ∧ j ≤ 1000 ∧ xs.length ≤ 1000 ∧ xs ≠ [] then some (.tup (repN j.toNat xs)) else none | _, _ => none
theorem v_mulT {K : PySem.W.Frag} : V2 K (rRepT K) fMulT := fun M H x y d e res Q t rx ry h q => by
  unfold fMulT at h
  split at h
  · split at h
    · rename_i xs j hl
      cases h
      obtain ⟨a, vs, e1, l1, r1⟩ := rep_tup.mp rx
      refine ⟨a, j, vs, e1, rep_int.mp ry, l1.seq, fun z => hl.2.2.2 (r1.nil_iff.mp z), hl.1, hl.2.1, by rw [r1.length]; exact hl.2.2.1, fun p hp => ?_⟩
      exact q _ _ (same_upd hp) (rep_newT t hp (r1.rep _))
    · cases h
  · cases h
section
variable {X : Cx} {a b : Expr} {f g : C D} {pos : Pos} {Q : D → Prop}
theorem e_mulT (ha : DE X a f) (hb : DE X b g) : DE X (.BinOp a .Mult b pos) (eBin fMulT f g) := de_bin v_mulT ha hb fun _ _ h1 h2 => pe_op op_repT h1 h2
theorem z_mulT {xs : List D} {j : Int} : ho (fMulT (.tup xs) (.int j)) Q = ((2 ≤ j ∧ j ≤ 1000 ∧ xs.length ≤ 1000 ∧ xs ≠ []) ∧ Q (.tup (repN j.toNat xs))) := by
  unfold fMulT ho; by_cases h : 2 ≤ j ∧ j ≤ 1000 ∧ xs.length ≤ 1000 ∧ xs ≠ [] <;> simp [h]
end
end PD

namespace PD
open PySem L2
/-! a promise that is never asked for -/
section
variable {P : Program} {w : World} {K : PySem.W.Frag} {mg : Str → Option Value} {base : Heap} {k : Nat} {f : Addr} {fd : FuncData} {ps : List Str}
theorem fn_of_none {sp : Sp} (h : ∀ vs H Q E, ¬ sp vs H Q E) : FnOk P w K mg base CX0 k f fd ps sp :=
  ⟨fun vs H Q E q => absurd q (h _ _ _ _), fun _ _ _ _ _ _ _ _ _ _ _ _ _ q => absurd q (h _ _ _ _)⟩
theorem fn_neverB : FnOk P w K mg base CX0 k f fd ps (spB K fun _ _ => none) := fn_of_none fun vs H Q E q => by
  obtain ⟨_, _, _, _, _, _, _, _, _, _, _, _, _, _, _, e, _⟩ := q
  cases e
theorem fn_neverA : FnOk P w K mg base CX0 k f fd ps (spA K fun _ => none) := fn_of_none fun vs H Q E q => by
  obtain ⟨_, _, _, _, _, e, _⟩ := q
  cases e
end
end PD

/-! a set of any list or tuple, by what adding one item does -/
namespace PS
open PySem PySem.Spec PyProof.Rows
section
variable {prog : Program} {w : World}
theorem fillG {A : Around} {R : Result → Shared → Prop} {I : Addr} {fp wr : List Addr} {G : Array GenState → Array GenState → Prop} {n : Nat} {Pv : Nat → Value → Prop} {St : Nat → Shared → Prop} {P : Nat → Heap → Prop} (W : WalksS prog w A.in1 I fp wr G n Pv St) (a : Addr) (na : a ∉ fp)
    (hk : ∀ i h h', P i h → (∀ b o, b ∉ wr → h.get? b = some o → h'.get? b = some o) → P i h')
    (hadd : ∀ (i : Nat) (v : Value) (s : Shared) (Q' : Bool → Shared → Prop) (E' : Value → Shared → Prop), Pv i v → P i s.heap → (∀ (h' : Heap) (tk : Nat) (b : Bool), Heap.SameBut a s.heap h' → s.toks ≤ tk → P (i + 1) h' → Q' b { s with heap := h', toks := tk }) → wpAny (model prog w) A.in1 (setAdd a v) Q' E' s) :
    ∀ (k i : Nat) (sh : Shared), n - i = k → i ≤ n → St i sh → P i sh.heap →
    (∀ sh', Moved (a :: wr) G sh sh' → P n sh'.heap → R (.ok (.ret .none)) sh') → codeAny (model prog w) A (.builtin "set.update.loop" ⟨[.ref a, .ref I], []⟩) R sh := by
  have ha : a ∉ wr := fun z => na (W.sub _ z)
  have up : ∀ b ∈ wr, b ∈ a :: wr := fun b z => List.mem_cons_of_mem _ z
  intro k
  induction k with
  | zero =>
    intro i sh e1 e2 st so fin
    obtain rfl : i = n := by omega
    refine codeAny_builtin F.entry_set_update_loop (by
      rw [Around.under_plainId F.plain_set_update_loop _]
      refine wpAny_bind (W.done sh _ _ st fun sh' mv => wpAny_pure (fin sh' (mv.mono up) (hk _ _ _ so fun b o hb e => mv.heap b o hb e))))
  | succ k ih =>
    intro i sh e1 e2 st so fin
    have lt : i < n := by omega
    refine codeAny_builtin F.entry_set_update_loop (by
      rw [Around.under_plainId F.plain_set_update_loop _]
      refine wpAny_bind (W.item i sh _ _ lt st fun v sh' pv st' mv => ?_)
      have so' : P i sh'.heap := hk _ _ _ so fun b o hb e => mv.heap b o hb e
      show wpAny _ A.in1 (holding [v] (setAdd a v) >>= _) _ _ sh'
      refine wpAny_bind (wpAny_holding (hadd i v sh' _ _ pv so' fun hp tk b sb tl so2 => ?_))
      refine wpAny_pure ⟨plainId_quiet F.plain_set_update_loop _, ih (i + 1) _ (by omega) lt (W.frame _ sh' _ _ st' tl fun b hb o e => ?_) so2 fun s2 mv2 so3 => ?_⟩
      · rw [sb.2 b (fun z : b = a => na (z ▸ hb))]; exact e
      · refine fin s2 (Moved.trans W.gtrans ((mv.mono up).then_heap tl fun b o hb e => ?_) mv2) so3
        rw [sb.2 b (fun z : b = a => hb (by rw [z]; exact .head _))]; exact e)
end
theorem code_set_led1 {prog : Program} {w : World} {A : Around} {E : Value → Shared → Prop} {s : Shared} (a : Value) {Q₁ : Value → Shared → Prop}
    (h : Q₁ (.ref s.heap.objs.size) { s with heap := s.heap.push (blank (!w.params.followText "set-order")) }) :
    codeAny (model prog w) A (.call (.builtin "set.__new__") ⟨[.type "set", a], []⟩) (wants Q₁ E) s := by
  refine codeAny_of_tree ?_
  show wpAny _ A.in1 (do checkBuiltinCall "set.__new__" ⟨[.type "set", a], []⟩; again (.builtin "set.__new__" ⟨[.type "set", a], []⟩)) _ _ s
  refine wpAny_bind (wpAny_of_eq (F.newCall_set_1 a) (wpAny_pure ⟨plainId_quiet F.plain_set_new _, codeAny_builtin F.entry_set_new ?_⟩))
  rw [Around.under_plainId F.plain_set_new _]
  unfold Builtin.«set.__new__» Builtin.Frozenset.newClass
  have hsub := sub_set_self
  obtain ⟨hp, g, d, tk, os⟩ := s
  dsimp only
  wp_walk
  refine wpAny_askSetting (wpAny_pure ?_)
  dsimp only
  simp only [newObj]
  refine wpAny_bind (wpAny_alloc (wpAny_pure ?_))
  exact wpAny_pure h
end PS

/-! a set of keys that can be walked -/
namespace PS
open PySem PySem.Spec PyProof.Rows L2
section
variable {prog : Program} {w : World} {K : Type} [DecidableEq K]
/-- the entries of a set: their keys ks, in some order -/
structure Ents (knd : KeyKind prog w K) (key : Value → K) (es : List (Int × Value)) (ks : List K) : Prop where
  good : ∀ e ∈ es, knd.is (key e.2) e.2 = true ∧ e.1 = knd.hash (key e.2) ∧ e.2.scannable = true
  perm : (es.map fun e => key e.2).Perm ks
def SetW (knd : KeyKind prog w K) (key : Value → K) (h : Heap) (a : Addr) (ks : List K) : Prop :=
  ∃ o es ep t, h.get? a = some o ∧ o.ExactSet ∧ o.data = .set es ep t ∧ Ents knd key es.toList ks ∧ ks.Nodup ∧ ks.length < scanBound ∧ t.fits es.size = true ∧ Ris t.place.toList ∧ (w.params.followText "set-order" = true ∨ t.led = true)
def put (ks : List K) (k : K) : List K := if k ∈ ks then ks else ks ++ [k]
variable {knd : KeyKind prog w K} {key : Value → K} {A : Around} {E : Value → Shared → Prop} {s : Shared} {a : Addr} {ks : List K} {es : List (Int × Value)}
theorem Ents.len (e : Ents knd key es ks) : es.length = ks.length := by rw [← e.perm.length_eq, List.length_map]
theorem Ents.elems (e : Ents knd key es ks) : ElemsOf knd es := fun x hx => ⟨⟨_, (e.good x hx).1, (e.good x hx).2.1⟩, (e.good x hx).2.2⟩
theorem Ents.of_perm {es' : List (Int × Value)} (e : Ents knd key es ks) (p : es'.Perm es) : Ents knd key es' ks := ⟨fun x hx => e.good x (p.mem_iff.mp hx), (p.map _).trans e.perm⟩
theorem Ents.mem (hkey : ∀ k v, knd.is k v = true → key v = k) (e : Ents knd key es ks) {k : K} : k ∈ ks ↔ ∃ x ∈ es, knd.is k x.2 = true := by
  rw [← e.perm.mem_iff, List.mem_map]
  constructor
  · rintro ⟨x, hx, rfl⟩; exact ⟨x, hx, (e.good x hx).1⟩
  · rintro ⟨x, hx, h⟩; exact ⟨x, hx, hkey _ _ h⟩
theorem Ents.cons (hkey : ∀ k v, knd.is k v = true → key v = k) (e : Ents knd key es ks) {k : K} {v : Value} (hv : knd.is k v = true) (hs : v.scannable = true) {es' : List (Int × Value)} (p : es'.Perm (es ++ [(knd.hash k, v)])) : Ents knd key es' (ks ++ [k]) := by
  refine ⟨fun x hx => ?_, ?_⟩
  · rcases List.mem_append.mp (p.mem_iff.mp hx) with z | z
    · exact e.good x z
    · rw [List.mem_singleton.mp z]
      exact ⟨by rw [hkey _ _ hv]; exact hv, by rw [hkey _ _ hv], hs⟩
  · refine (p.map _).trans ?_
    rw [List.map_append, List.map_cons, List.map_nil, hkey _ _ hv]
    exact e.perm.append_right _
theorem SetW.at {h h' : Heap} (R : SetW knd key h a ks) (k : ∀ o, h.get? a = some o → h'.get? a = some o) : SetW knd key h' a ks := by
  obtain ⟨o, es, ep, t, ho, r⟩ := R
  exact ⟨o, es, ep, t, k o ho, r⟩
theorem setW_fresh {h : Heap} (ho : h.get? a = some (blank (!w.params.followText "set-order"))) : SetW knd key h a [] :=
  ⟨_, #[], 0, _, ho, ⟨rfl, rfl, rfl⟩, rfl, ⟨fun e he => by simp at he, by simp⟩, by simp, by unfold scanBound; simp, rfl, List.Pairwise.nil, by
    show _ ∨ (!w.params.followText "set-order") = true
    cases w.params.followText "set-order"
    · exact .inr rfl
    · exact .inl rfl⟩
end
section
variable {prog : Program} {w : World} {K : Type} [DecidableEq K] {knd : KeyKind prog w K} {key : Value → K} {A : Around} {E : Value → Shared → Prop} {s : Shared} {a : Addr} {ks : List K} {es : List (Int × Value)}
/-- the new table is stored, and laid anew if it is too full -/
theorem setW_tail {g : Bool → Sem Unit} (hg : ∀ (b : Bool) (s₁ : Shared) (Q' : Unit → Shared → Prop), Q' () s₁ → wpAny (model prog w) A (g b) Q' E s₁)
    {o : Obj} {es : Array (Int × Value)} {ep : Nat} {t : SetTable} (ho : s.heap.get? a = some o) (hex : o.ExactSet) (hd : o.data = .set es ep t) {es1 : Array (Int × Value)} {t2 : SetTable} {ls : List K} (e1 : Ents knd key es1.toList ls) (nd : ls.Nodup) (hb : ls.length < scanBound)
    (hf : t2.fits es1.size = true) (hr : Ris t2.place.toList) (hl : w.params.followText "set-order" = true ∨ t2.led = true) {wasDummy : Bool} {R : Option Bool → Shared → Prop}
    (hR : ∀ h', Heap.SameBut a s.heap h' → SetW knd key h' a ls → R (some true) { s with heap := h' }) :
    wpAny (model prog w) A (do
        storeSet a es1 t2
        if (!wasDummy && t2.tooFull) = true then do
            g (relayAll t2 es1 (SetTable.grown es1.size)).2.2
            storeSet a (relayAll t2 es1 (SetTable.grown es1.size)).1 (relayAll t2 es1 (SetTable.grown es1.size)).2.1
            pure (some true)
          else pure (some true)) R E s := by
  have hz : es1.size < scanBound := by rw [← Array.length_toList, e1.len]; exact hb
  refine wpAny_bind (wpAny_storeSet_of ho hd ?_ (fits_of_scanBound hz))
  have ho1 := store_at (es' := es1) (t' := t2) ho hd
  have sb1 := Heap.SameBut.update s.heap a (Obj.putSet es1 t2)
  split
  · have pm := relayAll_perm t2 es1 (SetTable.grown es1.size)
    have hf3 := relayAll_fits t2 es1 (SetTable.grown es1.size)
    have hr3 := relayAll_ris t2 es1 (SetTable.grown es1.size)
    have hl3 := relayAll_led t2 es1 (SetTable.grown es1.size)
    generalize relayAll t2 es1 (SetTable.grown es1.size) = Z at pm hf3 hr3 hl3 ⊢
    have e2 : Ents knd key Z.1.toList ls := e1.of_perm pm
    have hz2 : Z.1.size < scanBound := by rw [← Array.length_toList, e2.len]; exact hb
    refine wpAny_bind (hg _ _ _ (wpAny_bind (wpAny_storeSet_of ho1 rfl ?_ (fits_of_scanBound hz2))))
    refine wpAny_pure (hR _ (sb1.trans (Heap.SameBut.update _ a _)) ⟨_, Z.1, _, Z.2.1, store_at (es' := Z.1) (t' := Z.2.1) ho1 rfl, hex, rfl, e2, nd, hb, hf3, hr3, hl.imp id fun z => hl3.trans z⟩)
  · exact wpAny_pure (hR _ sb1 ⟨_, es1, _, t2, ho1, hex, rfl, e1, nd, hb, hf, hr, hl⟩)
theorem setW_add (hkey : ∀ k v, knd.is k v = true → key v = k) {k : K} {v : Value} (hv : knd.is k v = true) (hsc : v.scannable = true) (R : SetW knd key s.heap a ks) (room : ks.length + 1 < scanBound) {Q : Bool → Shared → Prop}
    (hQ : ∀ h' b, Heap.SameBut a s.heap h' → SetW knd key h' a (put ks k) → Q b { s with heap := h', toks := s.toks + 1 }) : wpAny (model prog w) A (setAdd a v) Q E s := by
  obtain ⟨o, es, ep, t, ho, hex, hd, en, nd, hb, hf, hr, hl⟩ := R
  have hz : es.size < scanBound := by rw [← Array.length_toList, en.len]; exact hb
  have hel := en.elems
  unfold setAdd
  refine wpAny_holding (wpAny_bind (knd.pyHash hv ?_))
  unfold setAddHashed setAddHashedIn
  refine wpAny_holding (wpAny_bind (wpAny_setState_of (s := { s with toks := s.toks + 1 }) ho hd hf ?_))
  dsimp only
  rw [byScan_of hsc hz hel]
  simp only [↓reduceIte]
  unfold setAddByScan
  refine wpAny_bind (wpAny_bind (wpAny_rule (wpAny_bind (wpAny_setScan_of (s := { s with toks := s.toks + 1 }) hv ho hd hf hel ?_))))
  cases hfi : List.findIdx? (fun e => knd.is k e.2) es.toList with
  | some j =>
    dsimp only
    obtain ⟨hj, pj, _⟩ := List.findIdx?_eq_some_iff_getElem.mp hfi
    have hin : k ∈ ks := (en.mem hkey).mpr ⟨_, List.getElem_mem hj, pj⟩
    refine wpAny_pure (wpAny_pure (hQ _ _ (Heap.SameBut.refl a s.heap) ?_))
    unfold put; rw [if_pos hin]
    exact ⟨o, es, ep, t, ho, hex, hd, en, nd, hb, hf, hr, hl⟩
  | none =>
    dsimp only
    have hout : k ∉ ks := fun h => by
      obtain ⟨x, hx, h2⟩ := (en.mem hkey).mp h
      have := List.findIdx?_eq_none_iff.mp hfi x hx
      rw [h2] at this; cases this
    have pm := layNew_perm t es (knd.hash k) v
    have hf1 := layNew_fits t es (knd.hash k) v
    have hr1 := layNew_ris t es (knd.hash k) v hr
    have hl1 := layNew_led t es (knd.hash k) v
    generalize layNew t es (knd.hash k) v = Z at pm hf1 hr1 hl1 ⊢
    obtain ⟨es1, t1, wasDummy, gave⟩ := Z
    dsimp only at pm hf1 hr1 hl1 ⊢
    rw [Array.toList_push] at pm
    have en1 : Ents knd key es1.toList (ks ++ [k]) := en.cons hkey hv hsc pm
    have nd1 : (ks ++ [k]).Nodup := by
      rw [List.nodup_append]
      exact ⟨nd, by simp, fun x hx y hy => by rw [List.mem_singleton.mp hy]; exact fun e => hout (e ▸ hx)⟩
    have hb1 : (ks ++ [k]).length < scanBound := by rw [List.length_append]; exact room
    have hled : w.params.followText "set-order" = true ∨ t1.led = true := hl.imp id fun z => hl1.trans z
    have hput : put ks k = ks ++ [k] := if_neg hout
    have fin : ∀ h', Heap.SameBut a s.heap h' → SetW knd key h' a (ks ++ [k]) → Q true { s with heap := h', toks := s.toks + 1 } := fun h' sb r => hQ h' true sb (hput ▸ r)
    have hgw : ∀ (b : Bool) {s₁ : Shared} {Q' : Unit → Shared → Prop}, Q' () s₁ → wpAny (model prog w) A (match b with | true => rule "set.scan.the-table-gave-way" | false => pure ()) Q' E s₁ :=
      fun b s₁ Q' q => by cases b <;> first | exact wpAny_pure q | exact wpAny_rule q
    refine wpAny_bind (hgw _ ?_)
    split
    · refine wpAny_bind ?_
      rw [hashByValue_scannable 8 hsc]
      refine wpAny_pure ?_
      refine setW_tail (s := { s with toks := s.toks + 1 }) ?_ ho hex hd en1 nd1 hb1 ?_ ?_ ?_ ?_
      · intro b s₁ Q' q; cases b <;> first | exact wpAny_pure q | exact wpAny_rule q
      · first | (split <;> first | exact hf1 | exact SetTable.fits_plain_off hf1) | exact hf1
      · first | (split <;> exact hr1) | exact hr1
      · first | (split <;> exact hled) | exact hled
      · intro h' sb r; dsimp only; exact wpAny_pure (fin h' sb r)
    · refine wpAny_bind (wpAny_pure ?_)
      simp only [↓reduceIte]
      refine setW_tail (s := { s with toks := s.toks + 1 }) ?_ ho hex hd en1 nd1 hb1 hf1 hr1 hled ?_
      · intro b s₁ Q' q; cases b <;> first | exact wpAny_pure q | exact wpAny_rule q
      · intro h' sb r; dsimp only; exact wpAny_pure (fin h' sb r)
end
end PS

namespace PS
open PySem PySem.Spec PyProof.Rows
set_option maxHeartbeats 3200000 in
theorem makeG_list {prog : Program} {w : World} {A : Around} {E : Value → Shared → Prop} {sh : Shared} (P : Nat → Heap → Prop) {p : Addr} {its : Array Value} {Q : Value → Shared → Prop}
    (hh : A.handled = none) (hl : sh.heap.IsList p its) (hP0 : ∀ h : Heap, h.get? sh.heap.objs.size = some (blank (!w.params.followText "set-order")) → (∀ b o, sh.heap.get? b = some o → h.get? b = some o) → P 0 h)
    (hk : ∀ i h h', P i h → (∀ b o, b ≤ sh.heap.objs.size → h.get? b = some o → h'.get? b = some o) → P i h')
    (hadd : ∀ (i : Nat) (v : Value) (s : Shared) (Q' : Bool → Shared → Prop) (E' : Value → Shared → Prop), its[i]? = some v → P i s.heap → (∀ (h' : Heap) (tk : Nat) (b : Bool), Heap.SameBut sh.heap.objs.size s.heap h' → s.toks ≤ tk → P (i + 1) h' → Q' b { s with heap := h', toks := tk }) → wpAny (model prog w) A.in1.in1.in1 (setAdd sh.heap.objs.size v) Q' E' s)
    (fin : ∀ (hp : Heap) (tk : Nat), P its.size hp → (∀ b o, b < sh.heap.objs.size → sh.heap.get? b = some o → hp.get? b = some o) → Q (.ref sh.heap.objs.size) { sh with heap := hp, toks := tk }) :
    wpAny (model prog w) A (call (.type "set") [.ref p]) Q E sh := by
  obtain ⟨c, tl, hm0⟩ := PySem.F.called_set.mro
  have g1 := PySem.F.called_set.made; have g2 := PySem.F.called_set.sub
  have g3 := PySem.F.called_set.notType; have g4 := PySem.F.called_set.canCreate
  have g5 := PySem.F.typeCall_set_1 (.ref p)
  refine wpAny_call (codeAny_of_tree (by
    show wpAny _ _ (callAny (.type "set") _) _ _ _
    refine wpAny_pure ⟨Code.quiet_builtin _ (by decide +kernel), codeAny_builtin PySem.F.entry_type_call (by
      rw [Around.under_plain (weight_type_call_type "set" [.ref p] []) rfl]
      repeat (any_goals (first | assumption | wp_step))
      refine codeAny_mono (code_set_led1 (.ref p) (E := E) (Q₁ := fun u s1 => ∃ q : Bool, q = (!w.params.followText "set-order") ∧ u = .ref sh.heap.objs.size ∧ s1 = { sh with heap := sh.heap.push (blank q) }) ⟨_, rfl, rfl, rfl⟩) fun r s1 hr => ?_
      cases r with
      | error e => exact hr
      | ok fl =>
        cases fl with
        | ret u =>
          obtain ⟨q, hq, rfl, rfl⟩ := hr
          have hS : (sh.heap.push (blank q)).get? sh.heap.objs.size = some (blank q) := Heap.get?_push_size _ rfl
          have hT : Shared.TypeIs { sh with heap := sh.heap.push (blank q) } (.ref sh.heap.objs.size) "set" := ⟨_, hS, rfl⟩
          have g6 := PySem.F.called_set.init.lookup; have g7 := PySem.F.called_set.init.bind (.ref sh.heap.objs.size)
          repeat (any_goals (first | assumption | wp_step))
          refine codeAny_mono (codeAny_call_builtin (R := wants (fun r s2 => r = .none ∧ ∃ hp tk, s2 = { sh with heap := hp, toks := tk } ∧ P its.size hp ∧
              (∀ b o, b < sh.heap.objs.size → sh.heap.get? b = some o → hp.get? b = some o)) E) PySem.F.called_set.init.plain PySem.F.entry_set_init (check_set_init_1 hT ?_)) fun r2 s2 hr2 => ?_
          · obtain ⟨ol, hol, hcl, nl, hdl⟩ := hl
            obtain ⟨oc, od, ox, os⟩ := ol
            simp only at hcl hdl
            subst hcl; subst hdl
            have hol2 : (sh.heap.push (blank q)).get? p = some ⟨.type "list", od, .seq its nl, os⟩ := Heap.get?_push_of_some _ hol
            have g8 := PySem.F.sub_list_set; have g9 := PySem.F.sub_list_frozenset
            have g10 : (Value.type "list" == Value.type "dict") = false := by decide
            have hl1 : (sh.heap.push (blank q)).IsList p its := ⟨_, hol2, rfl, nl, rfl⟩
            unfold Builtin.«set.__init__» noKeywords Builtin.Frozenset.updateFrom
            generalize ePI : pyIter = PI
            wp_walk
            subst ePI
            refine wpAny_pyIter_list hl1 (wpAny_bind (wpAny_runValue ?_))
            have pS : p < sh.heap.objs.size := Heap.lt_size hol
            have h3 : A.in1.in1.in1.handled = none := by simp [hh]
            have neI : p ≠ (sh.heap.push (blank q)).objs.size := by rw [Heap.size_push]; exact Nat.ne_of_lt (Nat.lt_succ_of_lt pS)
            have nin : sh.heap.objs.size ∉ [(sh.heap.push (blank q)).objs.size, p] := by rw [Heap.size_push]; exact fun z => by rcases List.mem_cons.mp z with z | z; exact Nat.lt_irrefl _ (Nat.lt_of_lt_of_eq (Nat.lt_succ_self _) z.symm); exact Nat.lt_irrefl _ (Nat.lt_of_lt_of_eq pS (List.mem_singleton.mp z))
            have hk' : ∀ i h h', P i h → (∀ b o, b ∉ [(sh.heap.push (blank q)).objs.size] → h.get? b = some o → h'.get? b = some o) → P i h' := fun i h h' hp hh' => hk i h h' hp fun b o hb e => hh' b o (by rw [Heap.size_push]; exact fun z => absurd (List.mem_singleton.mp z) (by omega)) e
            refine fillG ((Walks.list h3 _ p neI its).toS) sh.heap.objs.size nin hk' hadd (its.size - 0) 0 _ (by omega) (Nat.zero_le _) ⟨⟨_, Heap.get?_push_size _ rfl, rfl, rfl⟩, (hl1.push _)⟩ ?hS0 ?hR
            case hS0 =>
              have hg : ((sh.heap.push (blank q)).push { cls := .type "list_iterator", data := .fields #[.ref p, .int 0 0] }).get? sh.heap.objs.size = some (blank q) := Heap.get?_push_of_some _ hS
              exact hP0 _ (hq ▸ hg) fun b o e => Heap.get?_push_of_some _ (Heap.get?_push_of_some _ e)
            case hR =>
              intro s3 mv so
              obtain ⟨hp, gg, dd, tk, oo⟩ := s3
              have q1 : gg = sh.gens := mv.gens
              have q2 : dd = sh.drawn := mv.drawn
              have q3 : oo = sh.os := mv.os
              subst q1; subst q2; subst q3
              refine wpAny_pure (wpAny_pure ⟨rfl, hp, tk, rfl, so, fun b o hb e => mv.heap b o ?_ (Heap.get?_push_of_some _ (Heap.get?_push_of_some _ e))⟩)
              rw [Heap.size_push]; exact fun z => by rcases List.mem_cons.mp z with z | z; exact Nat.lt_irrefl _ (Nat.lt_of_lt_of_eq hb z.symm); exact Nat.lt_irrefl _ (Nat.lt_of_lt_of_eq (Nat.lt_succ_of_lt hb) (List.mem_singleton.mp z).symm)
          · cases r2 with
            | error e => exact hr2
            | ok fl2 =>
              cases fl2 with
              | ret r =>
                obtain ⟨rfl, hp, tk, rfl, so, kp⟩ := hr2
                repeat (any_goals (first | assumption | wp_step))
                exact fin _ _ so kp
              | _ => exact hr2.elim
        | _ => exact hr.elim)⟩))
set_option maxHeartbeats 3200000 in
theorem makeG_tuple {prog : Program} {w : World} {A : Around} {E : Value → Shared → Prop} {sh : Shared} (P : Nat → Heap → Prop) {p : Addr} {its : Array Value} {Q : Value → Shared → Prop}
    (hh : A.handled = none) (hl : sh.heap.IsTuple p its) (hP0 : ∀ h : Heap, h.get? sh.heap.objs.size = some (blank (!w.params.followText "set-order")) → (∀ b o, sh.heap.get? b = some o → h.get? b = some o) → P 0 h)
    (hk : ∀ i h h', P i h → (∀ b o, b ≤ sh.heap.objs.size → h.get? b = some o → h'.get? b = some o) → P i h')
    (hadd : ∀ (i : Nat) (v : Value) (s : Shared) (Q' : Bool → Shared → Prop) (E' : Value → Shared → Prop), its[i]? = some v → P i s.heap → (∀ (h' : Heap) (tk : Nat) (b : Bool), Heap.SameBut sh.heap.objs.size s.heap h' → s.toks ≤ tk → P (i + 1) h' → Q' b { s with heap := h', toks := tk }) → wpAny (model prog w) A.in1.in1.in1 (setAdd sh.heap.objs.size v) Q' E' s)
    (fin : ∀ (hp : Heap) (tk : Nat), P its.size hp → (∀ b o, b < sh.heap.objs.size → sh.heap.get? b = some o → hp.get? b = some o) → Q (.ref sh.heap.objs.size) { sh with heap := hp, toks := tk }) :
    wpAny (model prog w) A (call (.type "set") [.ref p]) Q E sh := by
  obtain ⟨c, tl, hm0⟩ := PySem.F.called_set.mro
  have g1 := PySem.F.called_set.made; have g2 := PySem.F.called_set.sub
  have g3 := PySem.F.called_set.notType; have g4 := PySem.F.called_set.canCreate
  have g5 := PySem.F.typeCall_set_1 (.ref p)
  refine wpAny_call (codeAny_of_tree (by
    show wpAny _ _ (callAny (.type "set") _) _ _ _
    refine wpAny_pure ⟨Code.quiet_builtin _ (by decide +kernel), codeAny_builtin PySem.F.entry_type_call (by
      rw [Around.under_plain (weight_type_call_type "set" [.ref p] []) rfl]
      repeat (any_goals (first | assumption | wp_step))
      refine codeAny_mono (code_set_led1 (.ref p) (E := E) (Q₁ := fun u s1 => ∃ q : Bool, q = (!w.params.followText "set-order") ∧ u = .ref sh.heap.objs.size ∧ s1 = { sh with heap := sh.heap.push (blank q) }) ⟨_, rfl, rfl, rfl⟩) fun r s1 hr => ?_
      cases r with
      | error e => exact hr
      | ok fl =>
        cases fl with
        | ret u =>
          obtain ⟨q, hq, rfl, rfl⟩ := hr
          have hS : (sh.heap.push (blank q)).get? sh.heap.objs.size = some (blank q) := Heap.get?_push_size _ rfl
          have hT : Shared.TypeIs { sh with heap := sh.heap.push (blank q) } (.ref sh.heap.objs.size) "set" := ⟨_, hS, rfl⟩
          have g6 := PySem.F.called_set.init.lookup; have g7 := PySem.F.called_set.init.bind (.ref sh.heap.objs.size)
          repeat (any_goals (first | assumption | wp_step))
          refine codeAny_mono (codeAny_call_builtin (R := wants (fun r s2 => r = .none ∧ ∃ hp tk, s2 = { sh with heap := hp, toks := tk } ∧ P its.size hp ∧
              (∀ b o, b < sh.heap.objs.size → sh.heap.get? b = some o → hp.get? b = some o)) E) PySem.F.called_set.init.plain PySem.F.entry_set_init (check_set_init_1 hT ?_)) fun r2 s2 hr2 => ?_
          · obtain ⟨ol, hol, hcl, nl, hdl⟩ := hl
            obtain ⟨oc, od, ox, os⟩ := ol
            simp only at hcl hdl
            subst hcl; subst hdl
            have hol2 : (sh.heap.push (blank q)).get? p = some ⟨.type "tuple", od, .seq its nl, os⟩ := Heap.get?_push_of_some _ hol
            have g8 := PySem.F.sub_tuple_set; have g9 := PySem.F.sub_tuple_frozenset
            have g10 : (Value.type "tuple" == Value.type "dict") = false := by decide
            have hl1 : (sh.heap.push (blank q)).IsTuple p its := ⟨_, hol2, rfl, nl, rfl⟩
            unfold Builtin.«set.__init__» noKeywords Builtin.Frozenset.updateFrom
            generalize ePI : pyIter = PI
            wp_walk
            subst ePI
            refine wpAny_pyIter_tuple hl1 (wpAny_bind (wpAny_runValue ?_))
            have pS : p < sh.heap.objs.size := Heap.lt_size hol
            have h3 : A.in1.in1.in1.handled = none := by simp [hh]
            have neI : p ≠ (sh.heap.push (blank q)).objs.size := by rw [Heap.size_push]; exact Nat.ne_of_lt (Nat.lt_succ_of_lt pS)
            have nin : sh.heap.objs.size ∉ [(sh.heap.push (blank q)).objs.size, p] := by rw [Heap.size_push]; exact fun z => by rcases List.mem_cons.mp z with z | z; exact Nat.lt_irrefl _ (Nat.lt_of_lt_of_eq (Nat.lt_succ_self _) z.symm); exact Nat.lt_irrefl _ (Nat.lt_of_lt_of_eq pS (List.mem_singleton.mp z))
            have hk' : ∀ i h h', P i h → (∀ b o, b ∉ [(sh.heap.push (blank q)).objs.size] → h.get? b = some o → h'.get? b = some o) → P i h' := fun i h h' hp hh' => hk i h h' hp fun b o hb e => hh' b o (by rw [Heap.size_push]; exact fun z => absurd (List.mem_singleton.mp z) (by omega)) e
            refine fillG ((Walks.tuple h3 _ p neI its).toS) sh.heap.objs.size nin hk' hadd (its.size - 0) 0 _ (by omega) (Nat.zero_le _) ⟨⟨_, Heap.get?_push_size _ rfl, rfl, rfl⟩, (hl1.push _)⟩ ?hS0 ?hR
            case hS0 =>
              have hg : ((sh.heap.push (blank q)).push { cls := .type "tuple_iterator", data := .fields #[.ref p, .int 0 0] }).get? sh.heap.objs.size = some (blank q) := Heap.get?_push_of_some _ hS
              exact hP0 _ (hq ▸ hg) fun b o e => Heap.get?_push_of_some _ (Heap.get?_push_of_some _ e)
            case hR =>
              intro s3 mv so
              obtain ⟨hp, gg, dd, tk, oo⟩ := s3
              have q1 : gg = sh.gens := mv.gens
              have q2 : dd = sh.drawn := mv.drawn
              have q3 : oo = sh.os := mv.os
              subst q1; subst q2; subst q3
              refine wpAny_pure (wpAny_pure ⟨rfl, hp, tk, rfl, so, fun b o hb e => mv.heap b o ?_ (Heap.get?_push_of_some _ (Heap.get?_push_of_some _ e))⟩)
              rw [Heap.size_push]; exact fun z => by rcases List.mem_cons.mp z with z | z; exact Nat.lt_irrefl _ (Nat.lt_of_lt_of_eq hb z.symm); exact Nat.lt_irrefl _ (Nat.lt_of_lt_of_eq (Nat.lt_succ_of_lt hb) (List.mem_singleton.mp z).symm)
          · cases r2 with
            | error e => exact hr2
            | ok fl2 =>
              cases fl2 with
              | ret r =>
                obtain ⟨rfl, hp, tk, rfl, so, kp⟩ := hr2
                repeat (any_goals (first | assumption | wp_step))
                exact fin _ _ so kp
              | _ => exact hr2.elim
        | _ => exact hr.elim)⟩))
end PS

/-! sorted(set(texts)) -/
namespace PS
open PySem PySem.Spec PyProof.Rows L2
section
variable {P : Program} {w : World} {A : Around} {E : Value → Shared → Prop} {s : Shared} {a : Addr}
theorem key_str : ∀ (k : Str) (v : Value), (PySem.strKind P w).is k v = true → strOf v = k := fun k v h => by
  obtain ⟨t, e⟩ := Value.isStrOf_shape (x := k) (v := v) h
  rw [e]; rfl
theorem strs_of_vals : ∀ {us : List Value}, (∀ u ∈ us, ∃ x t, u = Value.str x t) → StrsAre us (us.map strOf)
  | [], _ => .nil
  | u :: us, h => by
    obtain ⟨x, t, rfl⟩ := h u List.mem_cons_self
    exact .cons _ _ (strs_of_vals fun v hv => h v (List.mem_cons_of_mem _ hv))
theorem sorted_setS {ks : List Str} {Q : Value → Shared → Prop} (R : SetW (PySem.strKind P w) strOf s.heap a ks) (hh : A.handled = none) (h64 : ks.length < 64)
    (hQ : ∀ (s' : Shared) (p : Addr) (out : Array Value) (c : Nat) (ys : List Str), (∀ b o, s.heap.get? b = some o → s'.heap.get? b = some o) → s'.gens = s.gens → s'.os = s.os → s.heap.objs.size ≤ p →
      s'.heap.get? p = some (seqObj "list" out c) → StrsAre out.toList ys → ys.Perm ks → sortedS ys = true → Q (.ref p) s') :
    wpAny (model P w) A (call (.builtin "sorted") [.ref a]) Q E s := by
  obtain ⟨o, es, ep, t, ho, hex, hd, en, nd, hb, hf, hr, hl⟩ := R
  have hz0 : es.size < scanBound := by rw [← Array.length_toList, en.len]; exact hb
  refine Calls.call_function_entry kind_sorted plain_sorted entry_sorted (args_sorted1 _) ?_
  unfold Builtin.«sorted»
  refine wpAny_bind (m := checkCount "sorted" 1 1 _) (wpAny_pure ?_)
  refine wpAny_bind (collect_set (A := A.in1) hh ⟨o, ho, hex.1, hd⟩ hf hz0 hr hl fun s1 vs k1 hz g1 o1 pm => ?_)
  have hvl : vs.length = ks.length := by rw [pm.length_eq, List.length_map, en.len]
  have hS : StrsAre vs (vs.map strOf) := strs_of_vals fun v hv => by
    obtain ⟨e, he, q⟩ := List.mem_map.mp (pm.mem_iff.mp hv)
    obtain ⟨t, ev⟩ := Value.isStrOf_shape (x := strOf e.2) (v := e.2) (en.good e he).1
    exact ⟨_, t, by rw [← q]; exact ev⟩
  have pk : (vs.map strOf).Perm ks := by
    have q := pm.map strOf
    rw [List.map_map] at q
    exact q.trans en.perm
  refine wpAny_bind (wpAny_newList ?_ (by rw [hvl, sizeLine_eq]; omega))
  have hoL : (s1.heap.push (seqObj "list" vs.toArray 0)).get? s1.heap.objs.size = some (seqObj "list" vs.toArray 0) := Heap.get?_push_size _ rfl
  refine wpAny_bind (wpAny_holding (wpAny_call_entry slot_list_sort ⟨_, hoL, rfl⟩ entry_list_sort
    (list_sort_treeK strKind_oneLt hoL hS.keysOf (fun v₁ v₂ rest e => keyKind_strs (by rw [← e]; exact hS)) (by rw [hvl]; exact h64) fun st' hp hs => ⟨_, rfl, ?_⟩) (args_list_sort _)))
  obtain ⟨ys, g3, g4, g5⟩ := sorted_out_str hS hp hs
  obtain ⟨c, hc⟩ := sortedHeap_at (vs := vs) (out := (arrOf st').map (·.2)) hoL
  refine wpAny_pure ⟨_, rfl, hQ _ s1.heap.objs.size _ c ys (fun b u e => ?_) g1 o1 hz hc g3 (g4.trans pk) g5⟩
  have q := k1 b u e
  have hlt := Heap.lt_size q
  show (sortedHeap (s1.heap.push (seqObj "list" vs.toArray 0)) s1.heap.objs.size vs _).get? b = some u
  rw [sortedHeap_old (Nat.ne_of_lt hlt) (by rw [size_push']; exact Nat.lt_succ_of_lt hlt)]
  exact Heap.get?_push_of_some _ q
def keysTo {K : Type} [DecidableEq K] (val : Nat → K) : Nat → List K
  | 0 => []
  | i + 1 => put (keysTo val i) (val i)
theorem keysTo_le {K : Type} [DecidableEq K] {val : Nat → K} : ∀ i, (keysTo val i).length ≤ i
  | 0 => Nat.le_refl _
  | i + 1 => by
    have := keysTo_le (val := val) i
    rw [keysTo, put]; split
    · omega
    · rw [List.length_append]; simp; omega
theorem keysTo_nodup {K : Type} [DecidableEq K] {val : Nat → K} : ∀ i, (keysTo val i).Nodup
  | 0 => by simp [keysTo]
  | i + 1 => by
    have := keysTo_nodup (val := val) i
    rw [keysTo, put]; split
    · exact this
    · rename_i h
      rw [List.nodup_append]
      exact ⟨this, by simp, fun x hx y hy => by rw [List.mem_singleton.mp hy]; exact fun e => h (e ▸ hx)⟩
theorem keysTo_mem {K : Type} [DecidableEq K] {val : Nat → K} {k : K} : ∀ {i}, k ∈ keysTo val i ↔ ∃ j, j < i ∧ val j = k
  | 0 => by simp [keysTo]
  | i + 1 => by
    have ih := keysTo_mem (val := val) (k := k) (i := i)
    rw [keysTo, put]
    split
    · rename_i h
      rw [ih]
      refine ⟨fun ⟨j, hj, e⟩ => ⟨j, by omega, e⟩, fun ⟨j, hj, e⟩ => ?_⟩
      rcases Nat.lt_or_ge j i with z | z
      · exact ⟨j, z, e⟩
      · have : j = i := by omega
        subst this
        rw [e] at h
        exact ih.mp h
    · rw [List.mem_append, ih, List.mem_singleton]
      constructor
      · rintro (⟨j, hj, e⟩ | e)
        · exact ⟨j, by omega, e⟩
        · exact ⟨i, by omega, e.symm⟩
      · rintro ⟨j, hj, e⟩
        rcases Nat.lt_or_ge j i with z | z
        · exact .inl ⟨j, z, e⟩
        · have : j = i := by omega
          subst this; exact .inr e.symm
theorem add_ok {K : Type} [DecidableEq K] {knd : KeyKind P w K} {key : Value → K} (hkey : ∀ k v, knd.is k v = true → key v = k) {its : Array Value} {val : Nat → K} (hv : ∀ i v, its[i]? = some v → knd.is (val i) v = true ∧ v.scannable = true) (hb : its.size + 1 < scanBound) :
    ∀ (i : Nat) (v : Value) (s : Shared) (Q' : Bool → Shared → Prop) (E' : Value → Shared → Prop), its[i]? = some v → SetW knd key s.heap a (keysTo val i) → (∀ (h' : Heap) (tk : Nat) (b : Bool), Heap.SameBut a s.heap h' → s.toks ≤ tk → SetW knd key h' a (keysTo val (i + 1)) → Q' b { s with heap := h', toks := tk }) → wpAny (model P w) A (setAdd a v) Q' E' s := fun i v s Q' E' hi R q => by
  have hlt : i < its.size := by
    rcases Nat.lt_or_ge i its.size with z | z
    · exact z
    · rw [Array.getElem?_eq_none z] at hi; cases hi
  have := keysTo_le (val := val) i
  exact setW_add hkey (hv i v hi).1 (hv i v hi).2 R (by omega) fun h' b sb r => q h' _ b sb (Nat.le_succ _) r
theorem make_setW {K : Type} [DecidableEq K] {knd : KeyKind P w K} {key : Value → K} (hkey : ∀ k v, knd.is k v = true → key v = k) (val : Nat → K) {p : Addr} {its : Array Value} {Q : Value → Shared → Prop} (hh : A.handled = none) (hl : s.heap.IsList p its ∨ s.heap.IsTuple p its)
    (hv : ∀ i v, its[i]? = some v → knd.is (val i) v = true ∧ v.scannable = true) (hb : its.size + 1 < scanBound)
    (fin : ∀ (hp : Heap) (tk : Nat), SetW knd key hp s.heap.objs.size (keysTo val its.size) → (∀ b o, b < s.heap.objs.size → s.heap.get? b = some o → hp.get? b = some o) → Q (.ref s.heap.objs.size) { s with heap := hp, toks := tk }) :
    wpAny (model P w) A (call (.type "set") [.ref p]) Q E s := by
  have k0 : ∀ h : Heap, h.get? s.heap.objs.size = some (blank (!w.params.followText "set-order")) → (∀ b o, s.heap.get? b = some o → h.get? b = some o) → SetW knd key h s.heap.objs.size (keysTo val 0) := fun h e _ => setW_fresh e
  have kk : ∀ i h h', SetW knd key h s.heap.objs.size (keysTo val i) → (∀ b o, b ≤ s.heap.objs.size → h.get? b = some o → h'.get? b = some o) → SetW knd key h' s.heap.objs.size (keysTo val i) := fun i h h' R k => R.at fun o e => k _ o (Nat.le_refl _) e
  rcases hl with hl | hl
  · exact makeG_list (fun i h => SetW knd key h s.heap.objs.size (keysTo val i)) hh hl k0 kk (add_ok hkey hv hb) fin
  · exact makeG_tuple (fun i h => SetW knd key h s.heap.objs.size (keysTo val i)) hh hl k0 kk (add_ok hkey hv hb) fin
end
end PS

namespace PD
open PySem L2
open PyProof.Rows (Call_)
/-! sorted(set(texts)) as an expression -/
def keysS (ss : List (List Nat)) : List Str := PS.keysTo (fun i => mk (ss.getD i [])) ss.length
def tSS (K : PySem.W.Frag) (ta : TE) : TE := fun σ H Q => ta σ H fun x H1 => ∃ l, ∃ ss : List (List Nat), x = .ref l ∧ (SqL K H1 l ((ss.map mk).map V.str) ∨ SqT K H1 l ((ss.map mk).map V.str)) ∧ ss.length < 64 ∧
  ∀ (ys : List Str) (p : Addr), ys.Perm (keysS ss) → PyProof.Rows.sortedS ys = true → H1 p = none → Q (.ref p) (upd H1 p (.lst (ys.map V.str)))
theorem pe_ss {X : Cx} {a : Expr} {ta : TE} {p p2 q pos : Pos} (hc : X.calm = true) (hg : Gl X "sorted") (hm : X.mg "sorted" = none) (hg2 : Gl X "set") (hm2 : X.mg "set" = none) (ha : PE X a ta)
    (na : starEach [a] X.env = (false, eval a X.env) :: starEach [] X.env) : PE X (.Call (.Name "sorted" p) [.Call (.Name "set" p2) [a] [] q] [] pos) (tSS X.K ta) := by
  refine ⟨fun pins s σ H Q I h => Call_ (ld_blt I hg hm (show bootBuiltins "sorted" = some (.builtin "sorted") by decide +kernel) (PyProof.Rows.callWith_builtin1 (PyProof.Rows.args_cons (Call_ (ld_blt I hg2 hm2 (show bootBuiltins "set" = some (.type "set") by decide +kernel) ?_)) rfl) rfl rfl))⟩
  refine PyProof.Rows.callWith_type1 (PyProof.Rows.args_cons (thn (ha.run pins s σ H _ I h) fun v s1 ⟨x, H1, I1, r1, q1⟩ => PyProof.Rows.args_nil ?_) na) na rfl
  obtain ⟨l, ss, rfl, hq, hs, q1⟩ := q1
  cases r1
  have sz : ∀ its : List Value, Vals ((ss.map mk).map V.str) its → its.toArray.size = ss.length := fun its r => by rw [List.size_toArray, ← r.length, List.length_map, List.length_map]
  have kv : ∀ its : List Value, Vals ((ss.map mk).map V.str) its → ∀ i v, its.toArray[i]? = some v → (PySem.strKind X.prog X.w).is (mk (ss.getD i [])) v = true ∧ v.scannable = true := fun its r i v hv => by
    obtain ⟨t, e⟩ := SS.strs_at (strsAre_of r) i v (by simpa using hv)
    have lt : i < ss.length := by
      rw [← sz its r]
      rcases Nat.lt_or_ge i its.toArray.size with z | z
      · exact z
      · rw [Array.getElem?_eq_none z] at hv; cases hv
    have e2 : (ss.map mk).getD i PySem.Str.empty = mk (ss.getD i []) := by simp [List.getD, lt]
    rw [e2] at e
    subst e
    exact ⟨strKind_is _ _ _ _, rfl⟩
  have fin : ∀ its : List Value, Vals ((ss.map mk).map V.str) its → ∀ (hp : Heap) (tk : Nat), PS.SetW (PySem.strKind X.prog X.w) PyProof.Rows.strOf hp s1.heap.objs.size (PS.keysTo (fun i => mk (ss.getD i [])) its.toArray.size) →
      (∀ b o, b < s1.heap.objs.size → s1.heap.get? b = some o → hp.get? b = some o) →
      wpAny (model X.prog X.w) X.A (spliced (backTo pos (starEach [] X.env))) (fun vs s2 => wpAny (model X.prog X.w) X.A (call (.builtin "sorted") (Value.ref s1.heap.objs.size :: vs)) (EP X pins σ Q) X.xe s2) X.xe { s1 with heap := hp, toks := tk } := fun its r hp tk hS hk => by
    refine PyProof.Rows.args_nil ?_
    rw [sz its r] at hS
    have I2 : Inv X pins σ H1 { s1 with heap := hp, toks := tk } := I1.kept fun b o e => hk b o (Heap.lt_size e) e
    have hlen := PS.keysTo_le (val := fun i => mk (ss.getD i [])) ss.length
    obtain ⟨s2, hs2⟩ : ∃ s2 : Shared, s2 = { s1 with heap := hp, toks := tk } := ⟨_, rfl⟩
    have hS2 : PS.SetW (PySem.strKind X.prog X.w) PyProof.Rows.strOf s2.heap s1.heap.objs.size (PS.keysTo (fun i => mk (ss.getD i [])) ss.length) := by rw [hs2]; exact hS
    rw [← hs2] at I2 ⊢
    refine PS.sorted_setS (s := s2) hS2 (I1.ok.hd hc) (by omega) fun s' p out c ys k g o hpz hget hst hperm hsort => ?_
    have hl2 : (ys.map V.str).length ≤ sizeLine := by rw [List.length_map, hperm.length_eq, sizeLine_eq]; omega
    have hn : H1 p = none := I2.hok.fresh hpz
    have J : Inv X pins σ (upd H1 p (.lst (ys.map V.str))) { s2 with heap := s'.heap, gens := s'.gens, drawn := s'.drawn, toks := s'.toks } :=
      I2.call (ch := []) (Un.laid k hpz hn) (I2.hok.laid k hpz ⟨hl2, out.toList, c, vals_of_strs hst, by rw [Array.toArray_toList]; exact hget⟩) (by rw [g]; exact I2.bare) (fun _ z => nomatch z)
    have e : s' = { s2 with heap := s'.heap, gens := s'.gens, drawn := s'.drawn, toks := s'.toks } := by
      cases s'
      cases o
      rfl
    rw [e]
    exact ⟨.ref p, _, J, rfl, q1 ys p hperm hsort hn⟩
  rcases hq with hq | hq
  · obtain ⟨its, r, pl, hz⟩ := I1.list hq
    exact PS.make_setW PS.key_str _ (I1.ok.hd hc) (.inl pl.isList) (kv its r) (by rw [sz its r]; unfold PySem.scanBound; omega) fun hp tk hS hk => fin its r hp tk hS hk
  · obtain ⟨its, r, pl, hz⟩ := I1.tuple hq
    exact PS.make_setW PS.key_str _ (I1.ok.hd hc) (.inr pl) (kv its r) (by rw [sz its r]; unfold PySem.scanBound; omega) fun hp tk hS hk => fin its r hp tk hS hk
end PD

namespace PD
open PySem L2
/-! sorted(set(texts)) in plain words -/
def leT (a b : List Nat) : Bool := !decide (b < a)
theorem leT_trans {a b c : List Nat} (h1 : leT a b = true) (h2 : leT b c = true) : leT a c = true := by
  unfold leT at *
  simp only [Bool.not_eq_true', decide_eq_false_iff_not, List.not_lt] at *
  exact List.le_trans h1 h2
theorem leT_total {a b : List Nat} : (leT a b || leT b a) = true := by
  unfold leT
  simp only [Bool.or_eq_true, Bool.not_eq_true', decide_eq_false_iff_not, List.not_lt]
  exact List.le_total a b
theorem leT_anti {a b : List Nat} (h1 : leT a b = true) (h2 : leT b a = true) : a = b := by
  unfold leT at *
  simp only [Bool.not_eq_true', decide_eq_false_iff_not, List.not_lt] at *
  exact List.le_antisymm h1 h2
def unl (ss : List (List Nat)) : List (List Nat) := PS.keysTo (fun i => ss.getD i []) ss.length
def sortU (ss : List (List Nat)) : List (List Nat) := (unl ss).mergeSort leT
theorem keys_mk (f : Nat → List Nat) : ∀ n, PS.keysTo (fun i => mk (f i)) n = (PS.keysTo f n).map mk
  | 0 => rfl
  | n + 1 => by
    rw [PS.keysTo, PS.keysTo, keys_mk f n, PS.put, PS.put]
    have e : mk (f n) ∈ (PS.keysTo f n).map mk ↔ f n ∈ PS.keysTo f n := by
      rw [List.mem_map]
      exact ⟨fun ⟨x, h, e⟩ => mk_inj e ▸ h, fun h => ⟨_, h, rfl⟩⟩
    by_cases h : f n ∈ PS.keysTo f n
    · rw [if_pos h, if_pos (e.mpr h)]
    · rw [if_neg h, if_neg (fun z => h (e.mp z)), List.map_append]; rfl
theorem rising_pair : ∀ (l : List (List Nat)) (p : List Nat), PyProof.Rows.risingS (mk p) (l.map mk) = true → (p :: l).Pairwise fun a b => leT a b = true
  | [], p, _ => by simp
  | x :: l, p, h => by
    rw [List.map_cons, PyProof.Rows.risingS, Bool.and_eq_true] at h
    have ih := rising_pair l x h.2
    have h1 : leT p x = true := by
      have := h.1
      rw [PyProof.Rows.ltCps_eq] at this
      unfold leT
      exact this
    refine List.pairwise_cons.mpr ⟨fun y hy => ?_, ih⟩
    rcases List.mem_cons.mp hy with rfl | hy
    · exact h1
    · exact leT_trans h1 ((List.pairwise_cons.mp ih).1 y hy)
theorem sort_one {ss : List (List Nat)} {ys : List Str} (h1 : ys.Perm (keysS ss)) (h2 : PyProof.Rows.sortedS ys = true) : ys = (sortU ss).map mk := by
  unfold keysS at h1
  rw [keys_mk] at h1
  obtain ⟨zs, rfl⟩ : ∃ zs : List (List Nat), ys = zs.map mk := ⟨ys.map fun y => y.cps.toList, by
    rw [List.map_map]
    refine ((List.map_congr_left fun y hy => ?_).trans (List.map_id _)).symm
    rfl⟩
  have p : zs.Perm (unl ss) := by
    have := h1.map fun y : Str => y.cps.toList
    rw [List.map_map, List.map_map] at this
    rw [show ((fun y : Str => y.cps.toList) ∘ mk) = id from rfl, List.map_id, List.map_id] at this
    exact this
  have q : zs.Pairwise fun a b => leT a b = true := by
    cases zs with
    | nil => simp
    | cons z zs => exact rising_pair zs z h2
  have e : zs = sortU ss := List.Perm.eq_of_pairwise (fun a b _ _ h h' => leT_anti h h') q (List.pairwise_mergeSort (le := leT) (fun _ _ _ h h' => leT_trans h h') (fun _ _ => leT_total) (unl ss)) (p.trans (List.mergeSort_perm _ _).symm)
  rw [e]
end PD

namespace PD
open PySem L2
def gSortSet (d : D) : Option (List D) := match d with
  | .lst xs => (match strsD xs with | some ss => if ss.length < 64 then some ((sortU ss).map .str) else none | none => none)
  | .tup xs => (match strsD xs with | some ss => if ss.length < 64 then some ((sortU ss).map .str) else none | none => none)
  | _ => none
def rSS (K : PySem.W.Frag) : V → Hp → VK → Prop := fun x H1 Q => ∃ l, ∃ ss : List (List Nat), x = .ref l ∧ (SqL K H1 l ((ss.map mk).map V.str) ∨ SqT K H1 l ((ss.map mk).map V.str)) ∧ ss.length < 64 ∧
  ∀ (ys : List Str) (p : Addr), ys.Perm (keysS ss) → PyProof.Rows.sortedS ys = true → H1 p = none → Q (.ref p) (upd H1 p (.lst (ys.map V.str)))
theorem sortU_len {ss : List (List Nat)} : (sortU ss).length ≤ ss.length := by
  unfold sortU; rw [(List.mergeSort_perm _ _).length_eq]; exact PS.keysTo_le _
theorem strs_repV {K : PySem.W.Frag} {M : Addr → Prop} {H : Hp} : ∀ ss : List (List Nat), RepL K M H (ss.map .str) ((ss.map mk).map V.str)
  | [] => RepL.nil
  | s :: ss => RepL.cons (rep_str.mpr rfl) (strs_repV ss)
theorem v_ss {K : PySem.W.Frag} : V1o K (rSS K) gSortSet := fun M H x d res Q t rx h q => by
  have go : ∀ xs vs (ss : List (List Nat)) l, RepL K M H xs vs → strsD xs = some ss → ss.length < 64 → res = (sortU ss).map .str → x = .ref l → (SqL K H l vs ∨ SqT K H l vs) → rSS K x H Q := fun xs vs ss l r hs h64 hres hx hsq => by
    have e := strsD_spec r hs
    subst e hres
    refine ⟨l, ss, hx, hsq, h64, fun ys p h1 h2 hn => ?_⟩
    rw [sort_one h1 h2]
    exact q p _ hn (by rw [List.length_map, List.length_map]; have := sortU_len (ss := ss); rw [sizeLine_eq]; omega) (strs_repV _)
  unfold gSortSet at h
  split at h
  · split at h
    · rename_i ss hs
      split at h
      · cases h
        obtain ⟨a, vs, e1, l1, r1⟩ := rep_lst.mp rx
        exact go _ vs ss a r1 hs (by assumption) rfl e1 (.inl l1.seq)
      · cases h
    · cases h
  · split at h
    · rename_i ss hs
      split at h
      · cases h
        obtain ⟨a, vs, e1, l1, r1⟩ := rep_tup.mp rx
        exact go _ vs ss a r1 hs (by assumption) rfl e1 (.inr l1.seq)
      · cases h
    · cases h
  · cases h
theorem o_sortedSet {X : Cx} {a : Expr} {f : C D} {p p2 q pos : Pos} (hc : X.calm = true) (hm : X.mg "sorted" = none) (hm2 : X.mg "set" = none) (ha : DE X a f) (hg : Gl X "sorted" := by rfl) (hg2 : Gl X "set" := by rfl) (hs : starEach [a] X.env = (false, eval a X.env) :: starEach [] X.env := by rfl) :
    DO X (.Call (.Name "sorted" p) [.Call (.Name "set" p2) [a] [] q] [] pos) (oUn gSortSet f) :=
  do_un (r := rSS X.K) v_ss ha fun t ht => pe_ss hc hg hm hg2 hm2 ht hs
end PD

/-! dicts: what they hold, as data; the library's rules over such -/
namespace PD
open PySem L2
mutual
def kEq : D → D → Bool
  | .str s, .str t => decide (s = t)
  | .tup ds, .tup es => kEqL ds es
  | .int i, .int j => decide (i = j)
  | .bl a, .bl b => decide (a = b)
  | .int i, .bl b => decide (i = if b = true then 1 else 0)
  | .bl b, .int i => decide (i = if b = true then 1 else 0)
  | _, _ => false
def kEqL : List D → List D → Bool
  | [], [] => true
  | d :: ds, e :: es => kEq d e && kEqL ds es
  | [], _ :: _ => false
  | _ :: _, [] => false
end
mutual
theorem kEq_nk : ∀ (n : Nat) (d e : D), inK n d = true → inK n e = true → (kEq d e = true ↔ nkD d = nkD e)
  | n, .int i, e, _, h => by cases e <;> cases n <;> simp_all [kEq, nkD, inK]
  | n, .bl i, e, _, h => by cases e <;> cases n <;> cases i <;> simp_all [kEq, nkD, inK] <;> (try (rename_i b; cases b <;> simp_all)) <;> (try omega)
  | 0, .tup ds, e, h, _ => by simp [inK] at h
  | n + 1, .tup ds, e, h, h2 => by
    cases e with
    | tup es => simp only [kEq, nkD, NestedKey.tup.injEq]; exact kEqL_nk n ds es (by simpa [inK] using h) (by simpa [inK] using h2)
    | _ => simp_all [kEq, nkD, inK]
  | n, .non, _, h, _ => by cases n <;> simp [inK] at h
  | n, .str _, _, h, _ => by cases n <;> simp [inK] at h
  | n, .lst _, _, h, _ => by cases n <;> simp [inK] at h
  | n, .scr _, _, h, _ => by cases n <;> simp [inK] at h
  | n, .dct _ _, _, h, _ => by cases n <;> simp [inK] at h
theorem kEqL_nk : ∀ (n : Nat) (d e : List D), inKL n d = true → inKL n e = true → (kEqL d e = true ↔ nkDL d = nkDL e)
  | _, [], [], _, _ => by simp [kEqL, nkDL]
  | _, [], _ :: _, _, _ => by simp [kEqL, nkDL]
  | _, _ :: _, [], _, _ => by simp [kEqL, nkDL]
  | n, d :: ds, e :: es, h, h2 => by
    simp only [inKL, Bool.and_eq_true] at h h2
    simp only [kEqL, Bool.and_eq_true, nkDL, List.cons.injEq, kEq_nk n d e h.1 h2.1, kEqL_nk n ds es h.2 h2.2]
end
theorem isTK_inK {d : D} (h : isTK d = true) : inK 8 d = true := by
  cases d <;> simp_all [isTK, inK]
mutual
theorem hashK_eq (w : World) : ∀ (n : Nat) (d : D), inK n d = true → hashK (nkD d) = (nkD d).hash w
  | n, .int i, _ => by simp [nkD, hashK, NestedKey.hash]
  | n, .bl i, _ => by simp [nkD, hashK, NestedKey.hash]
  | 0, .tup ds, h => by simp [inK] at h
  | n + 1, .tup ds, h => by simp only [nkD, hashK, NestedKey.hash]; rw [hashKL_eq w n ds (by simpa [inK] using h)]
  | n, .non, h => by cases n <;> simp [inK] at h
  | n, .str _, h => by cases n <;> simp [inK] at h
  | n, .lst _, h => by cases n <;> simp [inK] at h
  | n, .scr _, h => by cases n <;> simp [inK] at h
  | n, .dct _ _, h => by cases n <;> simp [inK] at h
theorem hashKL_eq (w : World) : ∀ (n : Nat) (d : List D), inKL n d = true → hashKL (nkDL d) = NestedKey.hashes w (nkDL d)
  | _, [], _ => by simp [nkDL, hashKL, NestedKey.hashes]
  | n, d :: ds, h => by
    simp only [inKL, Bool.and_eq_true] at h
    simp only [nkDL, hashKL, NestedKey.hashes, hashK_eq w n d h.1, hashKL_eq w n ds h.2]
end
def dGet : List D → List D → D → Option D
  | k :: ks, v :: vs, x => if kEq k x = true then some v else dGet ks vs x
  | _, _, _ => none
def dHas (ks : List D) (x : D) : Bool := ks.any fun k => kEq k x
def dPutV : List D → List D → D → D → List D
  | k :: ks, v :: vs, x, y => (if kEq k x = true then y else v) :: dPutV ks vs x y
  | _, vs, _, _ => vs
def dPut (ks vs : List D) (x y : D) : List D × List D := if dHas ks x = true then (ks, dPutV ks vs x y) else (ks ++ [x], vs ++ [y])
/-- a key that fits the others -/
def keyOk (ks : List D) (x : D) : Bool := match x, ks with
  | .str _, [] => true | .str _, .str _ :: _ => true | .str _, .int _ :: _ => true
  | .tup ds, [] => isTK (.tup ds) | .tup ds, .tup _ :: _ => isTK (.tup ds)
  | _, _ => false
/-! ### texts as keys -/
section
variable {K : PySem.W.Frag} {M : Addr → Prop} {H : Hp}
theorem rep_kV {d : D} {q : Key} (h : Rep K M H d (kV q)) : (∃ i, d = .int i ∧ q = .inl i) ∨ ∃ t, d = .str t ∧ q = .inr (mk t) := by
  cases d with
  | int i => cases q with
    | inl j => exact .inl ⟨i, rfl, by have := rep_int.mp h; cases this; rfl⟩
    | inr j => exact absurd (rep_int.mp h) (by simp [kV])
  | str t => cases q with
    | inl j => exact absurd (rep_str.mp h) (by simp [kV])
    | inr j => exact .inr ⟨t, rfl, by have := rep_str.mp h; simp [kV] at this; rw [this]⟩
  | non => exact absurd (rep_non.mp h) (by cases q <;> simp [kV])
  | bl b => exact absurd (rep_bl.mp h) (by cases q <;> simp [kV])
  | lst ds => obtain ⟨_, _, e, _⟩ := rep_lst.mp h; cases q <;> simp [kV] at e
  | tup ds => obtain ⟨_, _, e, _⟩ := rep_tup.mp h; cases q <;> simp [kV] at e
  | scr ds => obtain ⟨_, _, e, _⟩ := rep_scr.mp h; cases q <;> simp [kV] at e
  | dct ks ds => simp only [Rep] at h; obtain ⟨_, _, _, e, _⟩ := h; cases q <;> simp [kV] at e
theorem kEq_key {d : D} {q : Key} {s : List Nat} (h : Rep K M H d (kV q)) : kEq d (.str s) = decide (q = .inr (mk s)) := by
  rcases rep_kV h with ⟨i, rfl, rfl⟩ | ⟨t, rfl, rfl⟩
  · simp [kEq]
  · simp only [kEq]
    by_cases e : t = s
    · subst e; simp
    · have : (Sum.inr (mk t) : Key) ≠ .inr (mk s) := fun z => e (mk_inj (Sum.inr.inj z))
      simp [e, this]
theorem dGet_key : ∀ {kvs : List (Key × V)} {ks vs : List D} (s : List Nat), RepL K M H ks (kvs.map fun p => kV p.1) → RepL K M H vs (kvs.map (·.2)) →
    (∀ d, dGet ks vs (.str s) = some d → ∃ v, valV kvs (.inr (mk s)) = some v ∧ Rep K M H d v) ∧ (dGet ks vs (.str s) = none → valV kvs (.inr (mk s)) = none) := fun {kvs} => by
  induction kvs with
  | nil =>
    intro ks vs s h1 h2
    cases ks with
    | nil => exact ⟨fun d e => by simp [dGet] at e, fun _ => rfl⟩
    | cons k ks => obtain ⟨_, _, e, _⟩ := repL_cons.mp h1; cases e
  | cons p kvs ih =>
    intro ks vs s h1 h2
    cases ks with
    | nil => have := repL_nil.mp h1; cases this
    | cons k ks =>
      cases vs with
      | nil => have := repL_nil.mp h2; cases this
      | cons v vs =>
        obtain ⟨_, _, e1, r1, q1⟩ := repL_cons.mp h1
        obtain ⟨_, _, e2, r2, q2⟩ := repL_cons.mp h2
        cases e1; cases e2
        have hk := kEq_key (s := s) r1
        unfold dGet
        by_cases e : p.1 = .inr (mk s)
        · rw [hk, decide_eq_true e, if_pos rfl, valV_pos e]
          exact ⟨fun d z => by cases z; exact ⟨_, rfl, r2⟩, fun z => by cases z⟩
        · rw [hk, decide_eq_false e, if_neg (by simp), valV_neg e]
          exact ih s q1 q2
theorem repL_nil_of {ks : List D} (h : RepL K M H ks []) : ks = [] := by
  cases ks with
  | nil => rfl
  | cons k ks => obtain ⟨_, _, e, _⟩ := repL_cons.mp h; cases e
theorem dHas_key : ∀ {kvs : List (Key × V)} {ks : List D} (s : List Nat), RepL K M H ks (kvs.map fun p => kV p.1) → (kvs.any fun kv => decide (kv.1 = .inr (mk s))) = dHas ks (.str s) := fun {kvs} => by
  induction kvs with
  | nil =>
    intro ks s h1
    rw [repL_nil_of h1]; rfl
  | cons p kvs ih =>
    intro ks s h1
    cases ks with
    | nil => have := repL_nil.mp h1; cases this
    | cons k ks =>
      obtain ⟨_, _, e1, r1, q1⟩ := repL_cons.mp h1
      cases e1
      unfold dHas
      rw [List.any_cons, List.any_cons, kEq_key r1, ih s q1]; rfl
theorem dPutV_key : ∀ {kvs : List (Key × V)} {ks vs : List D} (s : List Nat) (y : D) (vy : V), Rep K M H y vy → RepL K M H ks (kvs.map fun p => kV p.1) → RepL K M H vs (kvs.map (·.2)) →
    RepL K M H (dPutV ks vs (.str s) y) ((kvs.map fun kv => if kv.1 = .inr (mk s) then (kv.1, vy) else kv).map (·.2)) := fun {kvs} => by
  induction kvs with
  | nil =>
    intro ks vs s y vy ry h1 h2
    rw [repL_nil_of h1, repL_nil_of h2]; exact RepL.nil
  | cons p kvs ih =>
    intro ks vs s y vy ry h1 h2
    cases ks with
    | nil => have := repL_nil.mp h1; cases this
    | cons k ks =>
      cases vs with
      | nil => have := repL_nil.mp h2; cases this
      | cons v vs =>
        obtain ⟨_, _, e1, r1, q1⟩ := repL_cons.mp h1
        obtain ⟨_, _, e2, r2, q2⟩ := repL_cons.mp h2
        cases e1; cases e2
        have hk := kEq_key (s := s) r1
        unfold dPutV
        rw [List.map_cons, List.map_cons]
        refine RepL.cons ?_ (ih s y vy ry q1 q2)
        by_cases e : p.1 = .inr (mk s)
        · rw [hk, decide_eq_true e, if_pos rfl, if_pos e]; exact ry
        · rw [hk, decide_eq_false e, if_neg (by simp), if_neg e]; exact r2
theorem keys_repl {k : Key} {vy : V} (kvs : List (Key × V)) : (kvs.map fun kv => if kv.1 = k then (kv.1, vy) else kv).map (fun p => kV p.1) = kvs.map fun p => kV p.1 := by
  rw [List.map_map]
  refine List.map_congr_left fun p _ => ?_
  show kV (if p.1 = k then (p.1, vy) else p).1 = kV p.1
  split <;> rfl
theorem dPut_key {kvs : List (Key × V)} {ks vs : List D} {s : List Nat} {y : D} {vy : V} (ry : Rep K M H y vy) (h1 : RepL K M H ks (kvs.map fun p => kV p.1)) (h2 : RepL K M H vs (kvs.map (·.2))) :
    RepL K M H (dPut ks vs (.str s) y).1 ((putK kvs (.inr (mk s)) vy).map fun p => kV p.1) ∧ RepL K M H (dPut ks vs (.str s) y).2 ((putK kvs (.inr (mk s)) vy).map (·.2)) := by
  unfold dPut putK
  rw [dHas_key s h1]
  split
  · refine ⟨?_, dPutV_key s y vy ry h1 h2⟩
    rw [keys_repl]; exact h1
  · rw [List.map_append, List.map_append]
    exact ⟨h1.app (RepL.cons (rep_str.mpr rfl) RepL.nil), h2.app (RepL.cons ry RepL.nil)⟩
end
/-! ### tuples as keys -/
section
variable {X : Cx} {pins : List (Addr × Obj)} {σ : St} {H : Hp} {s : Shared} {M : Addr → Prop} {a : Addr}
mutual
theorem nk_is (I : Inv X pins σ H s) : ∀ (n : Nat) (d : D) (v : V) (u : Value), Rep X.K M H d v → RelV v u → inK n d = true → NestedIs s.heap (nkD d) u ∧ (nkD d).depth ≤ n
  | n, .int i, v, u, r, ru, _ => by
    rw [rep_int.mp r] at ru
    obtain ⟨t, e⟩ := (show ∃ t, u = Value.int i t from ru)
    subst e
    exact ⟨.int _ _, by simp [nkD, NestedKey.depth]⟩
  | n, .bl b, v, u, r, ru, _ => by
    rw [rep_bl.mp r] at ru
    cases (show u = Value.bool b from ru)
    exact ⟨.bool rfl, by simp [nkD, NestedKey.depth]⟩
  | 0, .tup ds, v, u, r, ru, h => by simp [inK] at h
  | n + 1, .tup ds, v, u, r, ru, h => by
    obtain ⟨b, vs, e, l, rr⟩ := rep_tup.mp r
    subst e
    cases (show u = Value.ref b from ru)
    obtain ⟨its, rv, ⟨o, h1, h2, m, h3⟩, _⟩ := I.tuple l.seq
    have := nkL_is I n ds vs its rr rv (by simpa [inK] using h)
    rw [nkD]
    exact ⟨.tup h1 h2 h3 (by simpa using this.1), by rw [NestedKey.depth]; omega⟩
  | n, .non, _, _, _, _, h => by cases n <;> simp [inK] at h
  | n, .str _, _, _, _, _, h => by cases n <;> simp [inK] at h
  | n, .lst _, _, _, _, _, h => by cases n <;> simp [inK] at h
  | n, .scr _, _, _, _, _, h => by cases n <;> simp [inK] at h
  | n, .dct _ _, _, _, _, _, h => by cases n <;> simp [inK] at h
theorem nkL_is (I : Inv X pins σ H s) : ∀ (n : Nat) (d : List D) (v : List V) (u : List Value), RepL X.K M H d v → Vals v u → inKL n d = true → NestedAll s.heap (nkDL d) u ∧ NestedKey.depthAll (nkDL d) ≤ n
  | n, [], v, u, r, ru, _ => by
    rw [repL_nil.mp r] at ru
    cases ru
    rw [nkDL]; exact ⟨.nil, by rw [NestedKey.depthAll]; omega⟩
  | n, d :: ds, v, u, r, ru, h => by
    obtain ⟨v1, vs, e, h1, h2⟩ := repL_cons.mp r
    subst e
    cases ru with
    | cons r1 r2 =>
      simp only [inKL, Bool.and_eq_true] at h
      have q1 := nk_is I n d v1 _ h1 r1 h.1
      have q2 := nkL_is I n ds vs _ h2 r2 h.2
      rw [nkDL]
      exact ⟨.cons q1.1 q2.1, by rw [NestedKey.depthAll]; omega⟩
end
theorem tk_is (I : Inv X pins σ H s) {d : D} {v : V} {u : Value} (r : Rep X.K M H d v) (ru : RelV v u) (h : isTK d = true) : ∃ b, v = .ref b ∧ u = .ref b ∧ (nestedKind X.prog X.w).is s.heap (nkD d) b := by
  obtain ⟨b, e⟩ : ∃ b, v = .ref b := by
    cases d <;> simp [isTK] at h
    obtain ⟨b, _, e, _⟩ := rep_tup.mp r
    exact ⟨b, e⟩
  subst e
  cases (show u = Value.ref b from ru)
  exact ⟨b, rfl, rfl, nk_is I 8 d _ _ r rfl (isTK_inK h)⟩
abbrev Ent := NestedKey × Addr × Value
theorem ents_of (I : Inv X pins σ H s) : ∀ {es : List DictEntry} {ks : List D} {kus us : List V}, es.map (·.hash) = ks.map (fun d => hashK (nkD d)) → Vals kus (es.map (·.key)) → Vals us (es.map (·.val)) → RepL X.K M H ks kus → (∀ k, k ∈ ks → isTK k = true) →
    ∃ xs : List Ent, es = xs.map (entryOfKey (nestedKind X.prog X.w)) ∧ xs.map (·.1) = ks.map nkD ∧ kus = xs.map (fun x => V.ref x.2.1) ∧ Vals us (xs.map (·.2.2)) ∧ ∀ x ∈ xs, (nestedKind X.prog X.w).is s.heap x.1 x.2.1 := fun {es} => by
  induction es with
  | nil =>
    intro ks kus us h1 h2 h3 h4 h5
    cases ks with
    | nil =>
      cases h2; cases h3
      exact ⟨[], rfl, rfl, rfl, .nil, fun _ z => nomatch z⟩
    | cons => cases h1
  | cons e es ih =>
    intro ks kus us h1 h2 h3 h4 h5
    cases ks with
    | nil => cases h1
    | cons k ks =>
      obtain ⟨v1, kus', ek, r1, r2⟩ := repL_cons.mp h4
      subst ek
      rw [List.map_cons] at h2 h3
      rw [List.map_cons, List.map_cons, List.cons.injEq] at h1
      cases h2 with
      | cons q1 q2 =>
        cases h3 with
        | cons p1 p2 =>
          obtain ⟨xs, x1, x2, x3, x4, x5⟩ := ih h1.2 q2 p2 r2 fun k hk => h5 k (.tail _ hk)
          obtain ⟨b, rfl, eu, hb⟩ := tk_is I r1 q1 (h5 k (.head _))
          refine ⟨(nkD k, b, e.val) :: xs, ?_, by rw [List.map_cons, List.map_cons, x2], by rw [List.map_cons, x3], .cons p1 x4, fun x hx => ?_⟩
          · rw [List.map_cons, ← x1]
            congr 1
            obtain ⟨eh, ek, ev⟩ := e
            simp only [entryOfKey] at *
            rw [eu, h1.1, hashK_eq X.w 8 k (isTK_inK (h5 k (.head _)))]
            rfl
          · rcases List.mem_cons.mp hx with rfl | hx
            · exact hb
            · exact x5 x hx
theorem nk_eq {k x : D} (h1 : isTK k = true) (h2 : isTK x = true) : kEq k x = decide (nkD k = nkD x) := by
  by_cases e : nkD k = nkD x
  · rw [decide_eq_true e]; exact (kEq_nk 8 k x (isTK_inK h1) (isTK_inK h2)).mpr e
  · rw [decide_eq_false e]
    cases h : kEq k x with
    | false => rfl
    | true => exact absurd ((kEq_nk 8 k x (isTK_inK h1) (isTK_inK h2)).mp h) e
theorem at_dGet {x : D} (hx : isTK x = true) : ∀ {xs : List Ent} {ks vs : List D} {us : List V}, xs.map (·.1) = ks.map nkD → Vals us (xs.map (·.2.2)) → RepL X.K M H vs us → (∀ k, k ∈ ks → isTK k = true) →
    (∀ d, dGet ks vs x = some d → ∃ p v, atKey xs (nkD x) = some p ∧ Rep X.K M H d v ∧ RelV v p.2) ∧ (dGet ks vs x = none → atKey xs (nkD x) = none) ∧ dHas ks x = (atKey xs (nkD x)).isSome := fun {xs} => by
  induction xs with
  | nil =>
    intro ks vs us h1 h2 h3 h4
    cases ks with
    | nil => exact ⟨fun d e => by simp [dGet] at e, fun _ => rfl, rfl⟩
    | cons => cases h1
  | cons e xs ih =>
    intro ks vs us h1 h2 h3 h4
    cases ks with
    | nil => cases h1
    | cons k ks =>
      rw [List.map_cons, List.map_cons, List.cons.injEq] at h1
      rw [List.map_cons] at h2
      cases h2 with
      | @cons u0 _ us0 _ p1 p2 =>
        cases vs with
        | nil => have := repL_nil.mp h3; cases this
        | cons v vs =>
          obtain ⟨_, _, ev, r1, r2⟩ := repL_cons.mp h3
          cases ev
          have hq := ih h1.2 p2 r2 fun k hk => h4 k (.tail _ hk)
          have hk : kEq k x = decide (e.1 = nkD x) := by rw [h1.1]; exact nk_eq (h4 k (.head _)) hx
          by_cases ee : e.1 = nkD x
          · have ha : atKey (e :: xs) (nkD x) = some e.2 := by simp [atKey, List.find?_cons, ee]
            rw [ha]
            refine ⟨fun d z => ?_, fun z => ?_, ?_⟩
            · unfold dGet at z; rw [hk, decide_eq_true ee, if_pos rfl] at z; cases z; exact ⟨_, _, rfl, r1, p1⟩
            · unfold dGet at z; rw [hk, decide_eq_true ee, if_pos rfl] at z; cases z
            · unfold dHas; rw [List.any_cons, hk, decide_eq_true ee]; rfl
          · have ha : atKey (e :: xs) (nkD x) = atKey xs (nkD x) := by simp [atKey, List.find?_cons, ee]
            rw [ha]
            refine ⟨fun d z => ?_, fun z => ?_, ?_⟩
            · unfold dGet at z; rw [hk, decide_eq_false ee, if_neg (by simp)] at z; exact hq.1 d z
            · unfold dGet at z; rw [hk, decide_eq_false ee, if_neg (by simp)] at z; exact hq.2.1 z
            · unfold dHas; rw [List.any_cons, hk, decide_eq_false ee]; exact hq.2.2
theorem putV_at {x y : D} {r : Value} {vy : V} (hx : isTK x = true) (ry : Rep X.K M H y vy) (rr : RelV vy r) : ∀ {xs : List Ent} {ks vs : List D} {us : List V}, xs.map (·.1) = ks.map nkD → Vals us (xs.map (·.2.2)) → RepL X.K M H vs us → (∀ k, k ∈ ks → isTK k = true) →
    ∃ us', Vals us' ((xs.map (putAt (nkD x) r)).map (·.2.2)) ∧ RepL X.K M H (dPutV ks vs x y) us' := fun {xs} => by
  induction xs with
  | nil =>
    intro ks vs us h1 h2 h3 h4
    cases ks with
    | nil =>
      cases h2
      refine ⟨[], .nil, ?_⟩
      rw [repL_nil_of h3]; exact RepL.nil
    | cons => cases h1
  | cons e xs ih =>
    intro ks vs us h1 h2 h3 h4
    cases ks with
    | nil => cases h1
    | cons k ks =>
      rw [List.map_cons, List.map_cons, List.cons.injEq] at h1
      rw [List.map_cons] at h2
      cases h2 with
      | @cons u0 _ us0 _ p1 p2 =>
        cases vs with
        | nil => have := repL_nil.mp h3; cases this
        | cons v vs =>
          obtain ⟨_, _, ev, r1, r2⟩ := repL_cons.mp h3
          cases ev
          obtain ⟨us', q1, q2⟩ := ih h1.2 p2 r2 fun k hk => h4 k (.tail _ hk)
          have hk : kEq k x = decide (e.1 = nkD x) := by rw [h1.1]; exact nk_eq (h4 k (.head _)) hx
          rw [List.map_cons, List.map_cons]
          rw [dPutV]
          by_cases ee : e.1 = nkD x
          · rw [hk, decide_eq_true ee, if_pos rfl, show putAt (nkD x) r e = (e.1, e.2.1, r) from if_pos ee]
            exact ⟨vy :: us', .cons rr q1, RepL.cons ry q2⟩
          · rw [hk, decide_eq_false ee, if_neg (by simp), show putAt (nkD x) r e = e from if_neg ee]
            exact ⟨u0 :: us', .cons p1 q1, RepL.cons r1 q2⟩
end
end PD

/-! dicts: get, in, store over the layer's states -/
namespace PD
open PySem L2
def IsDct (K : PySem.W.Frag) (M : Addr → Prop) (H : Hp) (a : Addr) (ks vs : List D) : Prop := ∃ u kus us, Rd H a u ∧ DObj a u ks kus us ∧ RepL K M H ks kus ∧ RepL K M H vs us
section
variable {X : Cx} {pins : List (Addr × Obj)} {σ : St} {H : Hp} {s : Shared} {M : Addr → Prop} {a : Addr} {ks vs : List D}
theorem dct_text {x : List Nat} (g : IsDct X.K M H a ks vs) (h : keyOk ks (.str x) = true) : ∃ kvs, Rd H a (.dK kvs) ∧ RepL X.K M H ks (kvs.map fun p => kV p.1) ∧ RepL X.K M H vs (kvs.map (·.2)) := by
  obtain ⟨u, kus, us, e, (⟨kvs, rfl, rfl, rfl⟩ | ⟨rfl, hne, hall, _⟩), r1, r2⟩ := g
  · exact ⟨kvs, e, r1, r2⟩
  · cases ks with
    | nil => exact absurd rfl hne
    | cons k ks =>
      have := hall k (.head _)
      cases k <;> simp [isTK] at this
      simp [keyOk] at h
theorem tD_raw {hs : List Int} {kus us : List V} (I : Inv X pins σ H s) (e : Rd H a (tD a hs kus us)) : (a == sysModules) = false ∧ ∃ o es ep, s.heap.get? a = some o ∧ o.ExactDict ∧ o.data = .dict es ep ∧ es.toList.map (·.hash) = hs ∧ Vals kus (es.toList.map (·.key)) ∧ Vals us (es.toList.map (·.val)) := by
  obtain ⟨p, _⟩ := e.ok I.hok
  exact p
theorem dct_tup {ds : List D} (I : Inv X pins σ H s) (g : IsDct X.K M H a ks vs) (h : keyOk ks (.tup ds) = true) : isTK (.tup ds) = true ∧ (a == sysModules) = false ∧ (∀ k, k ∈ ks → isTK k = true) ∧ (ks.map nkD).Nodup ∧ ks.length ≤ sizeLine ∧
    ∃ xs : List Ent, s.heap.DictOfH (nestedKind X.prog X.w) a xs ∧ xs.map (·.1) = ks.map nkD ∧ RepL X.K M H ks (xs.map fun x => V.ref x.2.1) ∧ ∃ us, Vals us (xs.map (·.2.2)) ∧ RepL X.K M H vs us := by
  obtain ⟨u, kus, us, e, (⟨kvs, rfl, rfl, rfl⟩ | ⟨rfl, hne, hall, hnd, hsz, _⟩), r1, r2⟩ := g
  · cases kvs with
    | nil =>
      have e1 := repL_nil_of r1
      have e2 := repL_nil_of r2
      subst e1 e2
      obtain ⟨_, hd, vs', rel, o, es, ep, h1, h2, h3, _, h5, _⟩ := dk_rd I.hok e
      cases rel
      have : es.toList = [] := by
        have := h5.length
        exact List.eq_nil_of_length_eq_zero this
      exact ⟨by simpa [keyOk] using h, hd, fun _ z => absurd z (by simp), by simp, Nat.zero_le _, [], ⟨o, es, ep, h1, h2, h3, this, fun _ z => absurd z (by simp), by simp⟩, rfl, RepL.nil, [], .nil, RepL.nil⟩
    | cons p kvs =>
      exfalso
      cases ks with
      | nil => have := repL_nil.mp r1; cases this
      | cons k ks =>
        obtain ⟨_, _, ee, q1, _⟩ := repL_cons.mp r1
        cases ee
        rcases rep_kV q1 with ⟨i, rfl, _⟩ | ⟨t, rfl, _⟩ <;> simp [keyOk] at h
  · obtain ⟨hd, o, es, ep, h1, h2, h3, h4, h5, h6⟩ := tD_raw I e
    obtain ⟨xs, x1, x2, x3, x4, x5⟩ := ents_of I h4 h5 h6 r1 hall
    refine ⟨?_, hd, hall, hnd, hsz, xs, ⟨o, es, ep, h1, h2, h3, x1, x5, by rw [x2]; exact hnd⟩, x2, by rw [← x3]; exact r1, us, x4, r2⟩
    cases ks with
    | nil => exact absurd rfl hne
    | cons k ks =>
      have := hall k (.head _)
      cases k <;> simp [isTK] at this
      simpa [keyOk] using h
theorem vals_get : ∀ {us : List V} {ws : List Value}, us.length = ws.length → (∀ (i : Nat) (v : V) (u : Value), us[i]? = some v → ws[i]? = some u → RelV v u) → Vals us ws
  | [], [], _, _ => .nil
  | [], _ :: _, h, _ => by cases h
  | _ :: _, [], h, _ => by cases h
  | _ :: us, _ :: ws, h, k => .cons (k 0 _ _ rfl rfl) (vals_get (by simpa using h) fun i v u h1 h2 => k (i + 1) v u (by simpa using h1) (by simpa using h2))
/-- any dict: its entries -/
theorem dct_raw {u : HO} {kus us : List V} (I : Inv X pins σ H s) (e : Rd H a u) (g : DObj a u ks kus us) : (a == sysModules) = false ∧ ∃ o es ep, s.heap.get? a = some o ∧ o.ExactDict ∧ o.data = .dict es ep ∧ Vals kus (es.toList.map (·.key)) ∧ Vals us (es.toList.map (·.val)) ∧ es.size ≤ sizeLine := by
  rcases g with ⟨kvs, rfl, rfl, rfl⟩ | ⟨rfl, _, _, _, hsz, _⟩
  · obtain ⟨z, hd, vs', rel, dd⟩ := dk_rd I.hok e
    obtain ⟨es, ep, ⟨o, h1, h2, h3⟩, hs, hk⟩ := dd.raw
    have hl : kvs.length = vs'.length := Paired.length rel
    refine ⟨hd, o, es, ep, h1, h2, h3, vals_get (by simp [hs, hl]) fun i v u e1 e2 => ?_, vals_get (by simp [hs, hl]) fun i v u e1 e2 => ?_, by omega⟩
    · rw [List.getElem?_map] at e1 e2
      obtain ⟨p, hp, rfl⟩ := Option.map_eq_some_iff.mp e1
      obtain ⟨q, hq, rfl⟩ := Option.map_eq_some_iff.mp e2
      obtain ⟨w, hw, rw'⟩ := kv_get rel (k := p.1) (v := p.2) hp
      have hi : i < es.size := by
        have := (List.getElem?_eq_some_iff.mp hq).1
        simpa using this
      have := hk i hi _ _ hw
      have eq : q = es[i] := by
        rw [Array.getElem?_toList, Array.getElem?_eq_getElem hi] at hq
        cases hq; rfl
      rw [eq]
      exact relV_key this.1
    · rw [List.getElem?_map] at e1 e2
      obtain ⟨p, hp, rfl⟩ := Option.map_eq_some_iff.mp e1
      obtain ⟨q, hq, rfl⟩ := Option.map_eq_some_iff.mp e2
      obtain ⟨w, hw, rw'⟩ := kv_get rel (k := p.1) (v := p.2) hp
      have hi : i < es.size := by
        have := (List.getElem?_eq_some_iff.mp hq).1
        simpa using this
      have := hk i hi _ _ hw
      have eq : q = es[i] := by
        rw [Array.getElem?_toList, Array.getElem?_eq_getElem hi] at hq
        cases hq; rfl
      rw [eq, this.2]
      exact rw'
  · obtain ⟨hd, o, es, ep, h1, h2, h3, h4, h5, h6⟩ := tD_raw I e
    refine ⟨hd, o, es, ep, h1, h2, h3, h5, h6, ?_⟩
    have := congrArg List.length h4
    simp at this
    omega
theorem dct_type (I : Inv X pins σ H s) (g : IsDct X.K M H a ks vs) : s.TypeIs (.ref a) "dict" ∧ (∀ b, Value.ref a = .ref b → ∃ ob, s.heap.get? b = some ob ∧ ob.dict = none) ∧ (a == sysModules) = false := by
  obtain ⟨u, kus, us, e, d, r1, r2⟩ := g
  obtain ⟨hd, o, es, ep, h1, h2, h3, _⟩ := dct_raw I e d
  exact ⟨⟨o, h1, h2.1⟩, fun b q => by cases q; exact ⟨o, h1, h2.2.1⟩, hd⟩
/-! ### what is asked of it -/
variable {A : Around} {E : Value → Shared → Prop} {x : D} {y : V} {u : Value}
theorem nk_room (hu : A.units + 9 < cLine) : (nestedKind X.prog X.w).room A.in1 := by
  show A.units + 1 + 8 < cLine
  omega
theorem keyOk_cases (h : keyOk ks x = true) : (∃ t, x = .str t) ∨ ∃ ds, x = .tup ds := by
  cases x <;> simp [keyOk] at h
  · exact .inl ⟨_, rfl⟩
  · exact .inr ⟨_, rfl⟩
theorem dD_getItem {d : D} {Q : Value → Shared → Prop} (hu : A.units + 9 < cLine) (I : Inv X pins σ H s) (g : IsDct X.K M H a ks vs) (ok : keyOk ks x = true) (rx : Rep X.K M H x y) (ry : RelV y u) (hv : dGet ks vs x = some d)
    (h : ∀ v w' s', Inv X pins σ H s' → Rep X.K M H d v → RelV v w' → Q w' s') : wpAny (model X.prog X.w) A (getItem (.ref a) u) Q E s := by
  rcases keyOk_cases ok with ⟨t, rfl⟩ | ⟨ds, rfl⟩
  · obtain ⟨kvs, e, r1, r2⟩ := dct_text g ok
    obtain ⟨v, hv', rv⟩ := (dGet_key t r1 r2).1 d hv
    have : y = kV (.inr (mk t)) := rep_str.mp rx
    subst this
    exact d_getItem (by omega) I (.inl ⟨kvs, _, e, rfl, hv'.symm⟩) ry fun w' s' I' rw' => h v w' s' I' rv rw'
  · obtain ⟨hx, hd, hall, hnd, hsz, xs, dd, x1, x2, us, x3, x4⟩ := dct_tup I g ok
    obtain ⟨b, rfl, rfl, hb⟩ := tk_is I rx ry hx
    obtain ⟨p, v, hp, rv, rp⟩ := (at_dGet hx x1 x3 x4 hall).1 d hv
    exact wpAny_getItem_heap (nk_room hu) hb dd hp (h v _ _ (I.tok _) rv rp)
theorem dD_in {Q : Value → Shared → Prop} (hu : A.units + 9 < cLine) (I : Inv X pins σ H s) (g : IsDct X.K M H a ks vs) (ok : keyOk ks x = true) (rx : Rep X.K M H x y) (ry : RelV y u)
    (h : ∀ s', Inv X pins σ H s' → Q (.bool (dHas ks x)) s') : wpAny (model X.prog X.w) A (compareOp .In u (.ref a)) Q E s := by
  rcases keyOk_cases ok with ⟨t, rfl⟩ | ⟨ds, rfl⟩
  · obtain ⟨kvs, e, r1, r2⟩ := dct_text g ok
    have : y = kV (.inr (mk t)) := rep_str.mp rx
    subst this
    refine d_in (by omega) I (.inl ⟨kvs, _, e, rfl, rfl⟩) ry fun s' I' => ?_
    rw [← valV_any, dHas_key t r1]
    exact h s' I'
  · obtain ⟨hx, hd, hall, hnd, hsz, xs, dd, x1, x2, us, x3, x4⟩ := dct_tup I g ok
    obtain ⟨b, rfl, rfl, hb⟩ := tk_is I rx ry hx
    refine wpAny_in_heap (nk_room hu) hb hd dd ?_
    rw [← (at_dGet hx x1 x3 x4 hall).2.2]
    exact h _ (I.tok _)
theorem dD_notIn {Q : Value → Shared → Prop} (hu : A.units + 9 < cLine) (I : Inv X pins σ H s) (g : IsDct X.K M H a ks vs) (ok : keyOk ks x = true) (rx : Rep X.K M H x y) (ry : RelV y u)
    (h : ∀ s', Inv X pins σ H s' → Q (.bool (!dHas ks x)) s') : wpAny (model X.prog X.w) A (compareOp .NotIn u (.ref a)) Q E s := by
  rcases keyOk_cases ok with ⟨t, rfl⟩ | ⟨ds, rfl⟩
  · obtain ⟨kvs, e, r1, r2⟩ := dct_text g ok
    have : y = kV (.inr (mk t)) := rep_str.mp rx
    subst this
    refine d_notIn (by omega) I (.inl ⟨kvs, _, e, rfl, rfl⟩) ry fun s' I' => ?_
    rw [← valV_any, dHas_key t r1]
    exact h s' I'
  · obtain ⟨hx, hd, hall, hnd, hsz, xs, dd, x1, x2, us, x3, x4⟩ := dct_tup I g ok
    obtain ⟨b, rfl, rfl, hb⟩ := tk_is I rx ry hx
    refine PyProof.Rows.wpAny_notIn_heap (nk_room hu) hb hd dd ?_
    rw [← (at_dGet hx x1 x3 x4 hall).2.2]
    exact h _ (I.tok _)
theorem dD_get {z : D} {vz : V} {r : Value} {Q : Value → Shared → Prop} (hu : A.units + 9 < cLine) (I : Inv X pins σ H s) (g : IsDct X.K M H a ks vs) (ok : keyOk ks x = true) (rx : Rep X.K M H x y) (ry : RelV y u) (rz : Rep X.K M H z vz) (rr : RelV vz r)
    (h : ∀ v w' s', Inv X pins σ H s' → Rep X.K M H ((dGet ks vs x).getD z) v → RelV v w' → Q w' s') : wpAny (model X.prog X.w) A (call (.builtin "dict.get") [.ref a, u, r]) Q E s := by
  rcases keyOk_cases ok with ⟨t, rfl⟩ | ⟨ds, rfl⟩
  · obtain ⟨kvs, e, r1, r2⟩ := dct_text g ok
    have : y = kV (.inr (mk t)) := rep_str.mp rx
    subst this
    refine d_get2 (d := vz) (by omega) I (.inl ⟨kvs, _, e, rfl, rfl⟩) ry rr fun w' s' I' rw' => ?_
    obtain ⟨q1, q2⟩ := dGet_key t r1 r2
    cases hg : dGet ks vs (.str t) with
    | none =>
      rw [q2 hg] at rw'
      rw [hg] at h
      exact h vz w' s' I' rz rw'
    | some d =>
      obtain ⟨v, hv, rv⟩ := q1 d hg
      rw [hv] at rw'
      rw [hg] at h
      exact h v w' s' I' rv rw'
  · obtain ⟨hx, hd, hall, hnd, hsz, xs, dd, x1, x2, us, x3, x4⟩ := dct_tup I g ok
    obtain ⟨b, rfl, rfl, hb⟩ := tk_is I rx ry hx
    refine call_meetsIn PySem.F.slot_dict_get dd.typeIs PySem.F.entry_dict_get (PySem.F.args_dict_get_3 _ _ _) (meetsH_dict_get_default (nestedKind X.prog X.w) a b hd r) ⟨nk_room hu, nkD (.tup ds), xs, hb, dd, ?_⟩
    obtain ⟨q1, q2, _⟩ := at_dGet hx x1 x3 x4 hall
    cases hg : dGet ks vs (.tup ds) with
    | none =>
      rw [hg] at h
      rw [q2 hg]
      exact h vz _ _ (I.tok _) rz rr
    | some d =>
      obtain ⟨p, v, hp, rv, rp⟩ := q1 d hg
      rw [hg] at h
      rw [hp]
      exact h v _ _ (I.tok _) rv rp
theorem stored_map {xs : List Ent} {k : NestedKey} {t : Addr} {r : Value} (h : ((atKey xs k).isSome) = true) : (storedH xs k t r).map (fun x => V.ref x.2.1) = xs.map (fun x => V.ref x.2.1) := by
  unfold storedH
  rw [if_pos h, List.map_map]
  refine List.map_congr_left fun p _ => ?_
  show V.ref (putAt k r p).2.1 = _
  unfold putAt; split <;> rfl
/-- d[x] = .. -/
theorem dD_setItem {z : D} {vz : V} {r : Value} {Q : Unit → Shared → Prop} (hu : A.units + 9 < cLine) (I : Inv X pins σ H s) {o : HO} {kus us : List V} (e : H a = some o) (g : DObj a o ks kus us) (g1 : RepL X.K M H ks kus) (g2 : RepL X.K M H vs us) (hlen : ks.length < sizeLine)
    (ok : keyOk ks x = true) (rx : Rep X.K M H x y) (ry : RelV y u) (rz : Rep X.K M H z vz) (rr : RelV vz r)
    (h : ∀ o' kus' us' s', Inv X pins σ (upd H a o') s' → DObj a o' (dPut ks vs x z).1 kus' us' → RepL X.K M H (dPut ks vs x z).1 kus' → RepL X.K M H (dPut ks vs x z).2 us' → Q () s') :
    wpAny (model X.prog X.w) A (setItem (.ref a) u r) Q E s := by
  have gd : IsDct X.K M H a ks vs := ⟨o, kus, us, .inl e, g, g1, g2⟩
  rcases keyOk_cases ok with ⟨t, rfl⟩ | ⟨ds, rfl⟩
  · rcases g with ⟨kvs, rfl, rfl, rfl⟩ | ⟨rfl, hne, hall, _⟩
    · have : y = kV (.inr (mk t)) := rep_str.mp rx
      subst this
      have hk : kvs.length = ks.length := by have := g1.length; simpa using this
      refine d_setItem (v := vz) (by omega) I (.inl ⟨kvs, _, e, rfl, by omega, rfl⟩) ry rr fun s' I' => ?_
      obtain ⟨q1, q2⟩ := dPut_key rz g1 g2
      exact h _ _ _ s' I' (.inl ⟨_, rfl, rfl, rfl⟩) q1 q2
    · exfalso
      cases ks with
      | nil => exact hne rfl
      | cons k ks =>
        have := hall k (.head _)
        cases k <;> simp [isTK] at this
        simp [keyOk] at ok
  · obtain ⟨hx, hd, hall, hnd, hsz, xs, dd, x1, x2, us', x3, x4⟩ := dct_tup I gd ok
    obtain ⟨b, rfl, rfl, hb⟩ := tk_is I rx ry hx
    have hxs : xs.length = ks.length := by have := congrArg List.length x1; simpa using this
    refine wpAny_setItem_heap (hsz := by omega) (nk_room hu) hb dd fun h' dd' hs => ?_
    obtain ⟨q, es, ep, hq, h2, h3, h4, h5, h6⟩ := dd'
    have mu : Mut (H a) := by
      rw [e]
      rcases g with ⟨kvs, rfl, _⟩ | ⟨rfl, _⟩ <;> exact True.intro
    have hhas := (at_dGet (M := M) (H := H) hx x1 x3 x4 hall).2.2
    -- the new keys, the new values
    obtain ⟨kus2, us2, k1, k2, k3, k4, k5, k6⟩ : ∃ kus2 us2, kus2 = (storedH xs (nkD (.tup ds)) b r).map (fun x => V.ref x.2.1) ∧ RepL X.K M H (dPut ks vs (.tup ds) z).1 kus2 ∧ Vals us2 ((storedH xs (nkD (.tup ds)) b r).map (·.2.2)) ∧ RepL X.K M H (dPut ks vs (.tup ds) z).2 us2 ∧
        (storedH xs (nkD (.tup ds)) b r).map (·.1) = (dPut ks vs (.tup ds) z).1.map nkD ∧ (∀ k, k ∈ (dPut ks vs (.tup ds) z).1 → isTK k = true) := by
      unfold dPut
      by_cases hc : (atKey xs (nkD (.tup ds))).isSome = true
      · rw [if_pos (hhas.trans hc), stored_map hc]
        obtain ⟨us2, p1, p2⟩ := putV_at hx rz rr x1 x3 x4 hall
        refine ⟨_, us2, rfl, x2, by rw [storedH, if_pos hc]; exact p1, p2, ?_, hall⟩
        rw [storedH, if_pos hc, keys_map_putAt]; exact x1
      · rw [if_neg (by rw [hhas]; exact hc)]
        rw [storedH, if_neg hc]
        refine ⟨_, us' ++ [vz], rfl, ?_, ?_, x4.app (RepL.cons rz RepL.nil), ?_, fun k hk => ?_⟩
        · rw [List.map_append]; exact x2.app (RepL.cons rx RepL.nil)
        · rw [List.map_append]; exact Vals.append x3 (.cons rr .nil)
        · rw [List.map_append, List.map_append, x1]; rfl
        · rcases List.mem_append.mp hk with hk | hk
          · exact hall k hk
          · rw [List.mem_singleton.mp hk]; exact hx
    have k7 : es.toList.map (·.hash) = (dPut ks vs (.tup ds) z).1.map fun d => hashK (nkD d) := by
      rw [h4, List.map_map]
      have : (storedH xs (nkD (.tup ds)) b r).map ((fun e : DictEntry => e.hash) ∘ entryOfKey (nestedKind X.prog X.w)) = ((storedH xs (nkD (.tup ds)) b r).map (·.1)).map fun k => k.hash X.w := by
        rw [List.map_map]; rfl
      rw [this, k5, List.map_map]
      refine List.map_congr_left fun k hk => ?_
      show (nkD k).hash X.w = hashK (nkD k)
      rw [hashK_eq X.w 8 k (isTK_inK (k6 k hk))]
    have kv : ∀ zs : List Ent, Vals (zs.map fun x => V.ref x.2.1) ((zs.map (entryOfKey (nestedKind X.prog X.w))).map (·.key)) := fun zs => by
      induction zs with
      | nil => exact .nil
      | cons z zs ih => exact .cons rfl ih
    have kw : (storedH xs (nkD (.tup ds)) b r).map (·.2.2) = (((storedH xs (nkD (.tup ds)) b r).map (entryOfKey (nestedKind X.prog X.w))).map (·.val)) := by
      rw [List.map_map]; rfl
    refine h (tD a ((dPut ks vs (.tup ds) z).1.map fun d => hashK (nkD d)) kus2 us2) kus2 us2 _ (d_write I mu hs ⟨q, hq⟩ ?_) (.inr ⟨rfl, ?_, k6, by rw [← k5]; exact h6, ?_, by rw [k1, k3.length]; simp⟩) k2 k4
    · refine ⟨⟨hd, q, es, ep, hq, h2, h3, k7, ?_, ?_⟩, ⟨q, hq⟩, fun h1 h2' p keep => ?_⟩
      · rw [k1, h4]; exact kv _
      · rw [h4, ← kw]; exact k3
      · obtain ⟨p0, o1, es1, ep1, p1, pr⟩ := p
        exact ⟨p0, o1, es1, ep1, keep _ p1, pr⟩
    · intro en
      have : dHas ks (.tup ds) = true ∨ dHas ks (.tup ds) = false := by cases dHas ks (.tup ds) <;> simp
      unfold dPut at en
      rcases this with q | q
      · rw [if_pos q] at en
        have en' : ks = [] := en
        rw [en'] at q
        simp [dHas] at q
      · rw [if_neg (by rw [q]; simp)] at en
        simp at en
    · unfold dPut
      split
      · exact hsz
      · simp; omega
end
end PD

/-! dicts in the layer: made, let go, read, stored into -/
namespace PD
open PySem L2
/-! ### a dict is let go: read alone from now on -/
def tFz (t : TE) : TE := fun σ H Q => t σ H fun v H1 => Q v H1 ∨ ∃ a u, v = .ref a ∧ H1 a = some u ∧ Mut (some u) ∧ ∀ o, Q v (upd H1 a (.frz o u))
theorem pe_fz {X : Cx} {e : Expr} {t : TE} (h : PE X e t) : PE X e (tFz t) := by
  refine ⟨fun pins s σ H Q I q => thn (h.run pins s σ H _ I q) fun v s1 ⟨x, H1, I1, r, q1⟩ => ?_⟩
  rcases q1 with q1 | ⟨a, u, rfl, hu, mu, q1⟩
  · exact ⟨x, H1, I1, r, q1⟩
  · obtain ⟨o, I2⟩ := I1.lock hu mu
    exact ⟨_, _, I2, r, q1 o⟩
theorem DObj.mut {a : Addr} {u : HO} {ks : List D} {kus us : List V} (h : DObj a u ks kus us) : Mut (some u) := by
  rcases h with ⟨kvs, rfl, _⟩ | ⟨rfl, _⟩ <;> exact True.intro
theorem rep_dct {K : PySem.W.Frag} {M : Addr → Prop} {H : Hp} {ks ds : List D} {v : V} : Rep K M H (.dct ks ds) v ↔ ∃ a kus vs, v = .ref a ∧ FM M H a ks kus vs ∧ RepL K M H ks kus ∧ RepL K M H ds vs := by simp only [Rep]
theorem Rep.isDct {K : PySem.W.Frag} {M : Addr → Prop} {H : Hp} {ks ds : List D} {v : V} (h : Rep K M H (.dct ks ds) v) : ∃ a, v = .ref a ∧ ∀ M2 H2, Keep M M2 H H2 → IsDct K M2 H2 a ks ds := by
  obtain ⟨a, kus, vs, e, ⟨n, o, u, hu, hd⟩, r1, r2⟩ := rep_dct.mp h
  exact ⟨a, e, fun M2 H2 k => ⟨u, kus, vs, .inr ⟨o, (k _ _ hu n).1⟩, hd, r1.keep k, r2.keep k⟩⟩
def eVarM (i : Nat) : C D := fun ρ => match ρ[i]? with
  | some (.dic ks vs) => some (.dct ks vs, ρ.set i (.dat (.dct ks vs)))
  | some (.dat (.dct ks vs)) => some (.dct ks vs, ρ)
  | _ => none
section
variable {K : PySem.W.Frag} {Ex : Addr → Prop} {σ : St} {H : Hp} {ρ : Rho} {as : Nat → Addr} {i : Nat} {ks vs : List D}
theorem Ok.let_goM {o : Obj} {u : HO} {kus us : List V} (k : Ok K Ex σ H ρ as) (h : ρ[i]? = some (Sl.dic ks vs)) (hu : H (as i) = some u) (hd : DObj (as i) u ks kus us) (r1 : RepL K (MM Ex ρ as) H ks kus) (r2 : RepL K (MM Ex ρ as) H vs us) :
    Rep K (MM Ex (ρ.set i (.dat (.dct ks vs))) as) (upd H (as i) (.frz o u)) (.dct ks vs) (.ref (as i)) ∧ Ok K Ex σ (upd H (as i) (.frz o u)) (ρ.set i (.dat (.dct ks vs))) as ∧ Fr (Own ρ as) H (upd H (as i) (.frz o u)) ∧ Go H ρ as (ρ.set i (.dat (.dct ks vs))) as := by
  have hi : i < ρ.length := (List.getElem?_eq_some_iff.mp h).1
  have ho : IsOwn ρ i (.M ks vs) := h
  obtain ⟨e1, n, _⟩ := k.own i (.M ks vs) ho
  have g : Go H ρ as (ρ.set i (.dat (.dct ks vs))) as := Go.set_dat fun es q => by rw [h] at q; cases q
  have fr : Fr (Own ρ as) H (upd H (as i) (.frz o u)) := fun b ob hb => by
    by_cases e : b = as i
    · subst e; exact ⟨fun z => absurd ⟨i, _, ho, rfl⟩ z, _, upd_same⟩
    · rw [upd_ne e]; exact ⟨fun _ => hb, ob, hb⟩
  have kp : Keep (MM Ex ρ as) (MM Ex (ρ.set i (.dat (.dct ks vs))) as) H (upd H (as i) (.frz o u)) := Keep.of fr g
  have hn : ¬ MM Ex (ρ.set i (.dat (.dct ks vs))) as (as i) := fun q => by
    rcases q with q | ⟨j, es, q, e⟩
    · exact n q
    · have q' := own_set_dat q
      have := k.inj j i es (.M ks vs) q' ho e
      subst this
      exact not_own (.inr (.inr ⟨_, rfl⟩)) (List.getElem?_set_self hi) q
  have rr : Rep K (MM Ex (ρ.set i (.dat (.dct ks vs))) as) (upd H (as i) (.frz o u)) (.dct ks vs) (.ref (as i)) := rep_dct.mpr ⟨_, kus, us, rfl, ⟨hn, o, u, upd_same, hd⟩, r1.keep kp, r2.keep kp⟩
  refine ⟨rr, ⟨by rw [List.length_set]; exact k.len, fun b z => ?_, fun j e hj => ?_, fun j es hj => ?_, fun j l ds es h1 h2 e => k.inj j l ds es (own_set_dat h1) (own_set_dat h2) e⟩, fr, g⟩
  · obtain ⟨ob, hb⟩ := k.exs b z
    exact (fr b ob hb).2
  · by_cases q : i = j
    · subst q
      rw [List.getElem?_set_self hi] at hj; cases hj
      exact ⟨_, e1, rr⟩
    · rw [List.getElem?_set_ne q] at hj
      obtain ⟨w, e3, r1⟩ := k.dat j e hj
      exact ⟨w, e3, r1.keep kp⟩
  · have hj' := own_set_dat hj
    obtain ⟨e3, n3, r3⟩ := k.own j es hj'
    have ne : as j ≠ as i := fun q => by
      have := k.inj j i es (.M ks vs) hj' ho q
      subst this
      exact not_own (.inr (.inr ⟨_, rfl⟩)) (List.getElem?_set_self hi) hj
    exact ⟨e3, n3, r3.keep kp fun ob hb => by rw [upd_ne ne]; exact hb⟩
end
section
variable {X : Cx}
theorem de_varM (i : Nat) {e : Expr} (h : PE X e (tVar i)) : DE X e (eVarM i) := ⟨_, pe_fz h, fun Ex σ H ρ as d ρ' Q k e q => by
  unfold eVarM at e
  split at e
  · rename_i ks vs h1
    cases e
    obtain ⟨e1, n, kus, us, u, hu, hd, r1, r2⟩ := k.own i (.M ks vs) h1
    refine ⟨_, e1, .inr ⟨as i, u, rfl, hu, hd.mut, fun o => ?_⟩⟩
    obtain ⟨r, k', f, g⟩ := k.let_goM (o := o) h1 hu hd r1 r2
    exact q _ _ k' f g r
  · rename_i ks vs h1
    cases e
    obtain ⟨v, e1, r⟩ := k.dat i _ h1
    exact ⟨v, e1, .inl (q v H k .refl .refl r)⟩
  · cases e⟩
/-! ### new dicts -/
structure DM (X : Cx) (e : Expr) (f : C (List D × List D)) : Prop where
  ex : ∃ t, PE X e t ∧ ∀ (Ex : Addr → Prop) (σ : St) (H : Hp) (ρ : Rho) (as : Nat → Addr) (r : List D × List D) (ρ' : Rho) (Q : VK), Ok X.K Ex σ H ρ as → f ρ = some (r, ρ') →
    (∀ a H', Ok X.K (fun b => Ex b ∨ b = a) σ H' ρ' as → Fr (Own ρ as) H H' → Go H ρ as ρ' as → H a = none → Held X.K (MM (fun b => Ex b ∨ b = a) ρ' as) H' a (.M r.1 r.2) → Q (.ref a) H') → t σ H Q
theorem Ok.newM {K : PySem.W.Frag} {Ex : Addr → Prop} {σ : St} {H : Hp} {ρ : Rho} {as : Nat → Addr} {p : Addr} {u : HO} (k : Ok K Ex σ H ρ as) (hp : H p = none) : Ok K (fun b => Ex b ∨ b = p) σ (upd H p u) ρ as ∧ Keep (MM Ex ρ as) (MM (fun b => Ex b ∨ b = p) ρ as) H (upd H p u) := by
  have kp : Keep (MM Ex ρ as) (MM (fun b => Ex b ∨ b = p) ρ as) H (upd H p u) := fun b o e hm => by
    have ne := ne_of_none e hp
    refine ⟨by rw [upd_ne ne]; exact e, fun z => ?_⟩
    rcases z with (z | z) | z
    · exact hm (.inl z)
    · exact ne z
    · exact hm (.inr z)
  refine ⟨⟨k.len, fun a h => ?_, fun i d h => ?_, fun i es h => ?_, k.inj⟩, kp⟩
  · rcases h with h | h
    · obtain ⟨o, e⟩ := k.exs a h
      exact ⟨o, same_upd hp a o e⟩
    · subst h
      exact ⟨_, upd_same⟩
  · obtain ⟨v, e, r⟩ := k.dat i d h
    exact ⟨v, e, r.keep kp⟩
  · obtain ⟨e, n, r⟩ := k.own i es h
    refine ⟨e, fun q => ?_, r.keep kp fun o z => same_upd hp _ _ z⟩
    rcases q with q | q
    · exact n q
    · obtain ⟨o, e1⟩ := r.trk
      rw [q, hp] at e1; cases e1
def mNew : C (List D × List D) := fun ρ => some (([], []), ρ)
theorem dm_new {pos : Pos} : DM X (.Dict [] [] pos) mNew := ⟨_, pe_dnewK, fun Ex σ H ρ as r ρ' Q k e q => by
  cases e
  intro p hp
  obtain ⟨k2, kp⟩ := k.newM (u := .dK []) hp
  exact q p _ k2 (.of_same (same_upd hp)) .refl hp ⟨[], [], _, upd_same, .inl ⟨[], rfl, rfl, rfl⟩, RepL.nil, RepL.nil⟩⟩
/-- a new dict as data -/
def eOfM (f : C (List D × List D)) : C D := fun ρ => match f ρ with | some (r, ρ') => some (.dct r.1 r.2, ρ') | none => none
theorem de_m {e : Expr} {f : C (List D × List D)} (h : DM X e f) : DE X e (eOfM f) := by
  obtain ⟨t, h, run⟩ := h.ex
  refine ⟨_, pe_fz h, fun Ex σ H ρ as d ρ' Q k e q => ?_⟩
  unfold eOfM at e
  split at e
  · rename_i r ρ1 e1
    cases e
    refine run Ex σ H ρ as _ _ _ k e1 fun a H' k' f' g' hn hh => ?_
    obtain ⟨kus, us, u, hu, hd, r1, r2⟩ := hh
    refine .inr ⟨a, u, rfl, hu, hd.mut, fun o => ?_⟩
    have no : ¬ Own ρ' as a := fun ⟨i, es, h1, h2⟩ => by
      obtain ⟨_, n, _⟩ := k'.own i es h1
      exact n (.inr h2)
    have nx : ¬ Ex a := fun z => by
      obtain ⟨ob, e⟩ := k.exs a z
      rw [hn] at e; cases e
    have kp : Keep (MM (fun b => Ex b ∨ b = a) ρ' as) (MM Ex ρ' as) H' (upd H' a (.frz o u)) := fun b ob e hm => by
      have ne : b ≠ a := fun z => hm (.inl (.inr z))
      exact ⟨by rw [upd_ne ne]; exact e, fun z => hm (z.elim (fun z => .inl (.inl z)) .inr)⟩
    have fr : Fr (Own ρ as) H (upd H' a (.frz o u)) := fun b ob hb => by
      have ne := ne_of_none hb hn
      rw [upd_ne ne]
      exact f' b ob hb
    refine q _ _ ⟨k'.len, fun b z => ?_, fun i d h => ?_, fun i es h => ?_, k'.inj⟩ fr g' (rep_dct.mpr ⟨a, kus, us, rfl, ⟨fun z => z.elim nx no, o, u, upd_same, hd⟩, r1.keep kp, r2.keep kp⟩)
    · obtain ⟨ob, hb⟩ := k.exs b z
      exact (fr b ob hb).2
    · obtain ⟨v, e, r⟩ := k'.dat i d h
      exact ⟨v, e, r.keep kp⟩
    · obtain ⟨e, n, r⟩ := k'.own i es h
      exact ⟨e, fun z => n (.inl z), r.keep kp fun ob hb => by rw [upd_ne fun z => n (.inr z)]; exact hb⟩
  · cases e
def sSetM (i : Nat) (f : C (List D × List D)) : S := fun ρ => match f ρ with
  | some (r, ρ1) => (match ρ1[i]? with | some (.ino _) => none | some _ => some (.nx (ρ1.set i (.dic r.1 r.2))) | none => none)
  | none => none
theorem ds_setM {st : Stmt} {ow : Bool} {i : Nat} {e : Expr} {fe : C (List D × List D)} (h : DM X e fe) (hp : ∀ t, PE X e t → PS X st (tAsg t (gName i))) : DS X ow st (sSetM i fe) := by
  obtain ⟨t, h, run⟩ := h.ex
  refine ⟨_, hp t h, fun Ex σ H ρ as o D k e q => ?_⟩
  unfold sSetM at e
  split at e
  · rename_i ds ρ1 e1
    split at e
    · cases e
    · rename_i sl hn hs
      cases e
      refine run Ex σ H ρ as _ _ _ k e1 fun a H' k' f' g' ha hh => ?_
      exact q _ H' _ (k'.set_cn (ds := .M ds.1 ds.2) (new_not_ex k ha) hh (lt_of_get hs)) f' (g'.set_cn' (ds := .M ds.1 ds.2) ha fun es z => by rw [hs] at z; exact hn es (Option.some.inj z))
    · cases e
  · cases e
def vDic (f : C (List D × List D)) : C Sl := fun ρ => match f ρ with | some (r, ρ') => some (.dic r.1 r.2, ρ') | none => none
theorem dv_m {e : Expr} {f : C (List D × List D)} (h : DM X e f) : DV X e (vDic f) := by
  obtain ⟨t, h, run⟩ := h.ex
  refine ⟨_, h, fun Ex σ H ρ as r ρ' Q k e q => ?_⟩
  unfold vDic at e
  split at e
  · cases e
    exact run Ex σ H ρ as _ _ _ k ‹_› fun a H' k' f' g' h1 h2 => q _ H' f' g' ⟨a, rfl, k', h1, h2⟩
  · cases e
theorem s_setM {ow : Bool} {i : Nat} {x : Str} {e : Expr} {p pos : Pos} {fo : C (List D × List D)} (hN : X.N.Nodup) (he : DM X e fo) (hi : X.N[i]? = some x := by rfl) (hx : Loc X.env.scope x := by first | exact .inl rfl | exact .inr rfl) (hs : swapsWith e (some (.Name x p)) pos.line X.env = pure false := by rfl) (hf : X.fn x = true := by rfl) : DS X ow (.Assign [.Name x p] e pos) (sSetM i fo) :=
  ds_setM he fun _ h => ps_set hN hi hx h hs (.inl hf)
/-! ### reading -/
def tGetD (K : PySem.W.Frag) (td ty : TE) : TE := fun σ H Q => td σ H fun x H1 => ty σ H1 fun y H2 => ∃ (a : Addr) (M : Addr → Prop) (ks vs : List D) (k d : D), x = .ref a ∧ IsDct K M H2 a ks vs ∧ keyOk ks k = true ∧ Rep K M H2 k y ∧ dGet ks vs k = some d ∧ ∀ v, Rep K M H2 d v → Q v H2
def tInD (K : PySem.W.Frag) (neg : Bool) (ty td : TE) : TE := fun σ H Q => ty σ H fun y H1 => td σ H1 fun x H2 => ∃ (a : Addr) (M : Addr → Prop) (ks vs : List D) (k : D), x = .ref a ∧ IsDct K M H2 a ks vs ∧ keyOk ks k = true ∧ Rep K M H2 k y ∧ Q (.bl (if neg = true then !dHas ks k else dHas ks k)) H2
def tGetX (K : PySem.W.Frag) (td ty tx : TE) : TE := fun σ H Q => td σ H fun x H1 => ∃ (a : Addr), x = .ref a ∧ (∃ M ks vs, IsDct K M H1 a ks vs) ∧ ty σ H1 fun y H2 => tx σ H2 fun z H3 => ∃ (M : Addr → Prop) (ks vs : List D) (k d : D), IsDct K M H3 a ks vs ∧ keyOk ks k = true ∧ Rep K M H3 k y ∧ Rep K M H3 d z ∧ ∀ v, Rep K M H3 ((dGet ks vs k).getD d) v → Q v H3
def sPutD (K : PySem.W.Frag) (td ty tv : TE) : TS := fun D σ H => tv σ H fun v H1 => td σ H1 fun x H2 => ty σ H2 fun y H3 => ∃ (a : Addr) (M : Addr → Prop) (o : HO) (kus us : List V) (ks vs : List PD.D) (k z : PD.D), x = .ref a ∧ H3 a = some o ∧ DObj a o ks kus us ∧ RepL K M H3 ks kus ∧ RepL K M H3 vs us ∧ ks.length < sizeLine ∧ keyOk ks k = true ∧ Rep K M H3 k y ∧ Rep K M H3 z v ∧
  ∀ o' kus' us', DObj a o' (dPut ks vs k z).1 kus' us' → RepL K M H3 (dPut ks vs k z).1 kus' → RepL K M H3 (dPut ks vs k z).2 us' → D.nx σ (upd H3 a o')
variable {o i e f value : Expr} {pos pos' apos cpos : Pos} {td ty tv tx : TE}
theorem pe_getD (hu : X.A.units + 65 < cLine) (ho : PE X o td) (hi : PE X i ty) (hs : NoSl i) : PE X (.Subscript o i pos) (tGetD X.K td ty) := by
  refine ⟨fun pins s σ H Q I h => ?_⟩
  refine subD_of PySem.F.slot_dict_getitem.lookup hs (thn (ho.run pins s σ H _ I h) fun u s1 ⟨x, H1, I1, rx, q1⟩ => thn (hi.run pins s1 σ H1 _ I1 q1) fun iv s2 ⟨y, H2, I2, ry, a, M, ks, vs, k, d, ex, g, ok, rk, hv, q2⟩ => ?_)
  subst ex
  obtain rfl : u = Value.ref a := rx
  exact ⟨(dct_type I2 g).1, dD_getItem (by omega) I2 g ok rk ry hv fun v w' s3 I3 rv rw' => ⟨v, H2, I3, rw', q2 v rv⟩⟩
theorem pc_inD (hu : X.A.units + 65 < cLine) (hi : PE X i ty) (ho : PE X o td) : PC X .In i o (tInD X.K false ty td) := by
  refine ⟨fun pins s σ H Q I h => ?_⟩
  refine thn (hi.run pins s σ H _ I h) fun iv s1 ⟨y, H1, I1, ry, q1⟩ => thn (ho.run pins s1 σ H1 _ I1 q1) fun u s2 ⟨x, H2, I2, rx, a, M, ks, vs, k, ex, g, ok, rk, q2⟩ => ?_
  subst ex
  obtain rfl : u = Value.ref a := rx
  exact dD_in (by omega) I2 g ok rk ry fun s3 I3 => ⟨.bl _, H2, I3, rfl, q2⟩
theorem pc_notinD (hu : X.A.units + 65 < cLine) (hi : PE X i ty) (ho : PE X o td) : PC X .NotIn i o (tInD X.K true ty td) := by
  refine ⟨fun pins s σ H Q I h => ?_⟩
  refine thn (hi.run pins s σ H _ I h) fun iv s1 ⟨y, H1, I1, ry, q1⟩ => thn (ho.run pins s1 σ H1 _ I1 q1) fun u s2 ⟨x, H2, I2, rx, a, M, ks, vs, k, ex, g, ok, rk, q2⟩ => ?_
  subst ex
  obtain rfl : u = Value.ref a := rx
  exact dD_notIn (by omega) I2 g ok rk ry fun s3 I3 => ⟨.bl _, H2, I3, rfl, q2⟩
theorem pe_getX (hu : X.A.units + 65 < cLine) (ho : PE X o td) (he : PE X e ty) (hf : PE X f tx) (m : M2 X o "get" apos e f cpos) : PE X (.Call (.Attribute o "get" apos) [e, f] [] cpos) (tGetX X.K td ty tx) := by
  refine ⟨fun pins s σ H Q I h => ?_⟩
  refine wpAny_Call_method m.base m.few m.line PySem.F.plainAttrs_dict PySem.F.slot_dict_get PySem.F.type_dict_get (thn (ho.run pins s σ H _ I h) fun u s1 ⟨x, H1, I1, rx, a, ex, ⟨M0, ks0, vs0, d0⟩, q1⟩ => ?_)
  subst ex
  obtain rfl : u = Value.ref a := rx
  obtain ⟨t1, t2, _⟩ := dct_type I1 d0
  refine ⟨t1, t2, ?_⟩
  rw [m.trees]
  refine Calls.callWith_builtin rfl (Calls.evalArgs_plain (Calls.spliced_cons (thn (he.run pins s1 σ H1 _ I1 q1) fun iv s2 ⟨y, H2, I2, ry, q2⟩ =>
    Calls.spliced_cons (thn (hf.run pins s2 σ H2 _ I2 q2) fun fv s3 ⟨z, H3, I3, rz, M, ks, vs, k, d, g, ok, rk, rd, q3⟩ => Calls.spliced_nil ?_))))
  exact dD_get (by omega) I3 g ok rk ry rd rz fun v w' s4 I4 rv rw' => ⟨_, H3, I4, rw', q3 v rv⟩
theorem ps_putD (hu : X.A.units + 65 < cLine) (ho : PE X o td) (hi : PE X i ty) (hv : PE X value tv) (hs : swapsWith value (some (.Subscript o i pos')) pos.line X.env = pure false) :
    PS X (.Assign [.Subscript o i pos'] value pos) (sPutD X.K td ty tv) := by
  refine ⟨fun pins s σ H D I h => ?_⟩
  refine wpAny_Assign_Subscript (thn (hv.run pins s σ H _ I h) fun r s1 ⟨v, H1, I1, rv, q1⟩ => thn (ho.run pins s1 σ H1 _ I1 q1) fun u s2 ⟨x, H2, I2, rx, q2⟩ => thn (hi.run pins s2 σ H2 _ I2 q2) fun iv s3 ⟨y, H3, I3, ry, a, M, ob, kus, us, ks, vs, k, z, ex, eo, g, g1, g2, hl, ok, rk, rz, q3⟩ => ?_) hs
  subst ex
  obtain rfl : u = Value.ref a := rx
  exact dD_setItem (by omega) I3 eo g g1 g2 hl ok rk ry rz rv fun o' kus' us' s4 I4 d' r1 r2 => ⟨σ, _, I4, q3 o' kus' us' d' r1 r2⟩
end
end PD

/-! dicts in the layer: reads, stores, walks -/
namespace PD
open PySem L2
def lookM (ρ : Rho) (i : Nat) : Option (List D × List D) := match ρ[i]? with
  | some (.dic ks vs) => some (ks, vs) | some (.dat (.dct ks vs)) => some (ks, vs) | _ => none
theorem Ok.lookM {K : PySem.W.Frag} {Ex : Addr → Prop} {σ : St} {H : Hp} {ρ : Rho} {as : Nat → Addr} {i : Nat} {r : List D × List D} (k : Ok K Ex σ H ρ as) (h : lookM ρ i = some r) : ∃ a, σ[i]? = some (some (.ref a)) ∧ IsDct K (MM Ex ρ as) H a r.1 r.2 := by
  unfold PD.lookM at h
  split at h
  · rename_i ks vs h1
    cases h
    obtain ⟨e, n, kus, us, u, hu, hd, r1, r2⟩ := k.own i (.M ks vs) h1
    exact ⟨_, e, u, kus, us, .inl hu, hd, r1, r2⟩
  · rename_i ks vs h1
    cases h
    obtain ⟨v, e, r⟩ := k.dat i _ h1
    obtain ⟨a, rfl, q⟩ := r.isDct
    exact ⟨a, e, q _ _ (Keep.sub fun _ z => z)⟩
  · cases h
/-- d[k] of a variable, d.get(k, x), k in d -/
def eGetV (i : Nat) (g : C D) : C D := fun ρ => match lookM ρ i with
  | none => none
  | some _ => (match g ρ with
    | none => none
    | some (k, ρ1) => (match lookM ρ1 i with
      | none => none
      | some r => if keyOk r.1 k = true then (match dGet r.1 r.2 k with | some d => some (d, ρ1) | none => none) else none))
def eGetXV (i : Nat) (g h : C D) : C D := fun ρ => match lookM ρ i with
  | none => none
  | some _ => (match g ρ with
    | none => none
    | some (k, ρ1) => (match h ρ1 with
      | none => none
      | some (z, ρ2) => (match lookM ρ2 i with
        | none => none
        | some r => if keyOk r.1 k = true then some ((dGet r.1 r.2 k).getD z, ρ2) else none)))
def cInV (neg : Bool) (g : C D) (i : Nat) : C Bool := fun ρ => match g ρ with
  | none => none
  | some (k, ρ1) => (match lookM ρ1 i with
    | none => none
    | some r => if keyOk r.1 k = true then some (if neg = true then !dHas r.1 k else dHas r.1 k, ρ1) else none)
def sPutV (i : Nat) (f g : C D) : S := fun ρ => match f ρ with
  | none => none
  | some (z, ρ1) => (match lookM ρ1 i with
    | none => none
    | some _ => (match g ρ1 with
      | none => none
      | some (k, ρ2) => (match ρ2[i]? with
        | some (.dic ks vs) => if keyOk ks k = true ∧ ks.length < lim then some (.nx (ρ2.set i (.dic (dPut ks vs k z).1 (dPut ks vs k z).2))) else none
        | _ => none)))
/-- a fresh or frozen dict's -/
def fGetD (d k : D) : Option D := match d with | .dct ks vs => if keyOk ks k = true then dGet ks vs k else none | _ => none
def eGetX (f g h : C D) : C D := fun ρ => match f ρ with
  | some (.dct ks vs, ρ0) => (match g ρ0 with
    | none => none
    | some (k, ρ1) => (match h ρ1 with
      | none => none
      | some (z, ρ2) => if keyOk ks k = true then some ((dGet ks vs k).getD z, ρ2) else none))
  | _ => none
section
variable {X : Cx} {o a b e f : Expr} {fo fa fb : C D} {pos apos cpos : Pos} {i : Nat} {ow : Bool}
theorem de_getV (hr : X.A.units + 65 < cLine) (ho : PE X o (tVar i)) (ha : DE X a fa) (hs : NoSl a := by intro _ _; rfl) : DE X (.Subscript o a pos) (eGetV i fa) := by
  obtain ⟨t, h, run⟩ := ha.ex
  refine ⟨_, pe_getD hr ho h hs, fun Ex σ H ρ as d ρ' Q k e q => ?_⟩
  unfold eGetV at e
  split at e
  · cases e
  · rename_i r0 h0
    obtain ⟨ad, hv, _⟩ := k.lookM h0
    split at e
    · cases e
    · rename_i kk ρ1 e1
      split at e
      · cases e
      · rename_i r h1
        split at e
        · rename_i hok
          split at e
          · rename_i d1 hd
            cases e
            refine ⟨_, hv, run Ex σ H ρ as _ _ _ k e1 fun w H1 k1 f1 g1 rw' => ?_⟩
            obtain ⟨ad', hv', g⟩ := k1.lookM h1
            rw [hv] at hv'
            cases hv'
            exact ⟨ad, _, _, _, kk, _, rfl, g, hok, rw', hd, fun v rv => q v H1 k1 f1 g1 rv⟩
          · cases e
        · cases e
theorem de_getXV (hr : X.A.units + 65 < cLine) (ho : PE X o (tVar i)) (ha : DE X a fa) (hb : DE X b fb) (hm : M2 X o "get" apos a b cpos) : DE X (.Call (.Attribute o "get" apos) [a, b] [] cpos) (eGetXV i fa fb) := by
  obtain ⟨t, h, run⟩ := ha.ex
  obtain ⟨t2, h2, run2⟩ := hb.ex
  refine ⟨_, pe_getX hr ho h h2 hm, fun Ex σ H ρ as d ρ' Q k e q => ?_⟩
  unfold eGetXV at e
  split at e
  · cases e
  · rename_i r0 h0
    obtain ⟨ad, hv, g0⟩ := k.lookM h0
    split at e
    · cases e
    · rename_i kk ρ1 e1
      split at e
      · cases e
      · rename_i z ρ2 e2
        split at e
        · cases e
        · rename_i r h1
          split at e
          · rename_i hok
            cases e
            refine ⟨_, hv, ad, rfl, ⟨_, _, _, g0⟩, run Ex σ H ρ as _ _ _ k e1 fun w H1 k1 f1 g1 rw' => run2 Ex σ H1 ρ1 as _ _ _ k1 e2 fun w2 H2 k2 f2 g2 rw2 => ?_⟩
            obtain ⟨ad', hv', g⟩ := k2.lookM h1
            rw [hv] at hv'
            cases hv'
            exact ⟨_, _, _, kk, z, g, hok, rw'.keep (Keep.of f2 g2), rw2, fun v rv => q v H2 k2 (f1.trans g1 f2) (Go.trans f1 g1 g2) rv⟩
          · cases e
theorem dt_inV (hr : X.A.units + 65 < cLine) (ha : DE X a fa) (ho : PE X o (tVar i)) (hm : behindInMarks .In o = false := by rfl) : DT X (.Compare a [.In] [o] pos) (cInV false fa i) := by
  obtain ⟨t, h, run⟩ := ha.ex
  refine ⟨_, pt_cmp (pc_inD hr h ho) hm, fun Ex σ H ρ as d ρ' Q k e q => ?_⟩
  unfold cInV at e
  split at e
  · cases e
  · rename_i kk ρ1 e1
    split at e
    · cases e
    · rename_i r h1
      split at e
      · rename_i hok
        cases e
        refine run Ex σ H ρ as _ _ _ k e1 fun w H1 k1 f1 g1 rw' => ?_
        obtain ⟨ad, hv, g⟩ := k1.lookM h1
        exact ⟨_, hv, ad, _, _, _, kk, rfl, g, hok, rw', _, rfl, q H1 k1 f1 g1⟩
      · cases e
theorem dt_notinV (hr : X.A.units + 65 < cLine) (ha : DE X a fa) (ho : PE X o (tVar i)) (hm : behindInMarks .NotIn o = false := by rfl) : DT X (.Compare a [.NotIn] [o] pos) (cInV true fa i) := by
  obtain ⟨t, h, run⟩ := ha.ex
  refine ⟨_, pt_cmp (pc_notinD hr h ho) hm, fun Ex σ H ρ as d ρ' Q k e q => ?_⟩
  unfold cInV at e
  split at e
  · cases e
  · rename_i kk ρ1 e1
    split at e
    · cases e
    · rename_i r h1
      split at e
      · rename_i hok
        cases e
        refine run Ex σ H ρ as _ _ _ k e1 fun w H1 k1 f1 g1 rw' => ?_
        obtain ⟨ad, hv, g⟩ := k1.lookM h1
        exact ⟨_, hv, ad, _, _, _, kk, rfl, g, hok, rw', _, rfl, q H1 k1 f1 g1⟩
      · cases e
theorem s_putV {p : Pos} (hr : X.A.units + 65 < cLine) (ho : PE X o (tVar i)) (hz : DE X b fb) (ha : DE X a fa) (hs : swapsWith b (some (.Subscript o a p)) pos.line X.env = pure false := by rfl) : DS X ow (.Assign [.Subscript o a p] b pos) (sPutV i fb fa) := by
  obtain ⟨t, h, run⟩ := ha.ex
  obtain ⟨t2, h2, run2⟩ := hz.ex
  refine ⟨_, ps_putD hr ho h h2 hs, fun Ex σ H ρ as oo D k e q => ?_⟩
  unfold sPutV at e
  split at e
  · cases e
  · rename_i z ρ1 e1
    split at e
    · cases e
    · rename_i r0 h0
      split at e
      · cases e
      · rename_i kk ρ2 e2
        split at e
        · rename_i ks vs h1
          split at e
          · rename_i hok
            cases e
            refine run2 Ex σ H ρ as _ _ _ k e1 fun w H1 k1 f1 g1 rw' => ?_
            obtain ⟨ad, hv, _⟩ := k1.lookM h0
            refine ⟨_, hv, run Ex σ H1 ρ1 as _ _ _ k1 e2 fun w2 H2 k2 f2 g2 rw2 => ?_⟩
            have ho : IsOwn ρ2 i (.M ks vs) := h1
            obtain ⟨e3, n, kus, us, u, hu, hd, r1, r2⟩ := k2.own i (.M ks vs) ho
            rw [hv] at e3
            cases e3
            refine ⟨_, _, u, kus, us, ks, vs, kk, z, rfl, hu, hd, r1, r2, Nat.lt_of_lt_of_le hok.2 lim_line, hok.1, rw2, rw'.keep (Keep.of f2 g2), fun o' kus' us' d' q1 q2 => ?_⟩
            obtain ⟨k3, f3, g3, _⟩ := k2.swapC (c' := .M (dPut ks vs kk z).1 (dPut ks vs kk z).2) (s := .dic (dPut ks vs kk z).1 (dPut ks vs kk z).2) ho (.inl ⟨rfl, .M ks vs, h1⟩) Fr.upd ⟨kus', us', o', upd_same, d', q1.keep (Keep.updO ho), q2.keep (Keep.updO ho)⟩
            exact q _ _ as k3 (f1.trans g1 (f2.trans g2 f3)) (Go.trans f1 g1 (Go.trans f2 g2 g3))
          · cases e
        · cases e
/-- {..}[k], d[k] of data -/
theorem e_getD (hr : X.A.units + 65 < cLine) (ho : DE X o fo) (ha : DE X a fa) (hs : NoSl a := by intro _ _; rfl) : DE X (.Subscript o a pos) (eBin fGetD fo fa) := by
  obtain ⟨t, h, run⟩ := ho.ex
  obtain ⟨t2, h2, run2⟩ := ha.ex
  refine ⟨_, pe_getD hr h h2 hs, fun Ex σ H ρ as d ρ' Q k e q => ?_⟩
  unfold eBin at e
  split at e
  · rename_i d1 ρ1 e1
    split at e
    · rename_i d2 ρ2 e2
      split at e
      · rename_i r1 e3
        cases e
        refine run Ex σ H ρ as _ _ _ k e1 fun v H1 k1 f1 g1 rv => run2 Ex σ H1 ρ1 as _ _ _ k1 e2 fun w H2 k2 f2 g2 rw' => ?_
        unfold fGetD at e3
        split at e3
        · rename_i ks vs
          split at e3
          · rename_i hok
            obtain ⟨ad, rfl, g⟩ := rv.isDct
            exact ⟨ad, _, ks, vs, d2, _, rfl, g _ _ (Keep.of f2 g2), hok, rw', e3, fun u ru => q u H2 k2 (f1.trans g1 f2) (Go.trans f1 g1 g2) ru⟩
          · cases e3
        · cases e3
      · cases e
    · cases e
  · cases e
theorem e_getX (hr : X.A.units + 65 < cLine) (ho : DE X o fo) (ha : DE X a fa) (hb : DE X b fb) (hm : M2 X o "get" apos a b cpos) : DE X (.Call (.Attribute o "get" apos) [a, b] [] cpos) (eGetX fo fa fb) := by
  obtain ⟨t0, h0, run0⟩ := ho.ex
  obtain ⟨t, h, run⟩ := ha.ex
  obtain ⟨t2, h2, run2⟩ := hb.ex
  refine ⟨_, pe_getX hr h0 h h2 hm, fun Ex σ H ρ as d ρ' Q k e q => ?_⟩
  unfold eGetX at e
  split at e
  · rename_i ks vs ρ0 e0
    split at e
    · cases e
    · rename_i kk ρ1 e1
      split at e
      · cases e
      · rename_i z ρ2 e2
        split at e
        · rename_i hok
          cases e
          refine run0 Ex σ H ρ as _ _ _ k e0 fun v0 H0 k0 f0 g0 rv0 => ?_
          obtain ⟨ad, rfl, g⟩ := rv0.isDct
          refine ⟨ad, rfl, ⟨_, _, _, g _ _ (Keep.sub fun _ z => z)⟩, run Ex σ H0 ρ0 as _ _ _ k0 e1 fun w H1 k1 f1 g1 rw' => run2 Ex σ H1 ρ1 as _ _ _ k1 e2 fun w2 H2 k2 f2 g2 rw2 => ?_⟩
          have f12 := f1.trans g1 f2
          have g12 := Go.trans f1 g1 g2
          exact ⟨_, ks, vs, kk, z, g _ _ (Keep.of f12 g12), hok, rw'.keep (Keep.of f2 g2), rw2, fun v rv => q v H2 k2 (f0.trans g0 f12) (Go.trans f0 g0 g12) rv⟩
        · cases e
  · cases e
end
/-! ### walks -/
section
variable {X : Cx} {pins : List (Addr × Obj)} {σ : St} {H : Hp} {s : Shared} {d : Addr} {o : Obj} {u : HO} {ks : List D} {kus us : List V} {es : Array DictEntry} {ep : Nat}
theorem vals_at {us : List V} {ws : List Value} (h : Vals us ws) {i : Nat} {v : V} (e : us[i]? = some v) : ∃ w, ws[i]? = some w ∧ RelV v w := h.get e
theorem frz_raw (I : Inv X pins σ H s) (e : H d = some (.frz o u)) (g : DObj d u ks kus us) : (d == sysModules) = false ∧ ∃ es ep, o.data = .dict es ep ∧ s.heap.DictRaw d es ep ∧ Vals kus (es.toList.map (·.key)) ∧ Vals us (es.toList.map (·.val)) ∧ es.size ≤ sizeLine ∧ es.size = kus.length ∧ kus.length = us.length := by
  obtain ⟨hd, o', es, ep, h1, h2, h3, h4, h5, h6⟩ := dct_raw I (.inr ⟨o, e⟩) g
  obtain ⟨h0, _⟩ := I.hok d _ e
  rw [h0] at h1
  cases h1
  have l1 := h4.length
  have l2 := h5.length
  simp at l1 l2
  exact ⟨hd, es, ep, h3, ⟨o, h0, h2, h3⟩, h4, h5, h6, l1.symm, l1.trans l2.symm⟩
def ItkR (d : Addr) (o : Obj) (u : HO) (kus : List V) : It :=
  ⟨fun i H => H d = some (.frz o u) ∧ i < kus.length, fun i H x H' => H' = H ∧ kus[i]? = some x, fun i H => H d = some (.frz o u) ∧ kus.length ≤ i⟩
def ItiR (d : Addr) (o : Obj) (u : HO) (kus us : List V) : It :=
  ⟨fun i H => H d = some (.frz o u) ∧ i < kus.length, fun i H x H' => ∃ T k v, kus[i]? = some k ∧ us[i]? = some v ∧ x = .ref T ∧ H T = none ∧ H' = upd H T (.tup [k, v]), fun i H => H d = some (.frz o u) ∧ kus.length ≤ i⟩
theorem turn_keysR {P : Program} {w : World} {K : PySem.W.Frag} {tg : Expr} (it : Addr) (g : DObj d u ks kus us) (hod : o.data = .dict es ep) (hsz : es.size = kus.length) : Turn P w K tg (ItkR d o u kus) [it] it (fun i h => h.IsKeyIter it d i kus.length ep) where
  mem := by simp
  obj := fun i h st b hb => by
    have e : b = it := by simpa using hb
    subst e
    obtain ⟨oi, e, c, dd⟩ := st
    exact ⟨oi, e, fun v z => by rw [dd] at z; cases z⟩
  keep := fun i h h' st k => st.at fun oi e => k it (by simp) oi e
  item := by
    intro X hP hw hK hc i pins s σ H E I hf st hg
    subst hP hw hK
    obtain ⟨hd, hi⟩ := hg
    obtain ⟨f0, f1, f2, f3, f4, f5⟩ := hf it (by simp)
    obtain ⟨hs, es', ep', hdt, hraw, hk, hv, hz, hl, _⟩ := frz_raw I hd g
    obtain ⟨rfl, rfl⟩ := dict_ep hod hdt
    rw [← hl] at st
    have hi' : i < es'.size := by omega
    obtain ⟨w, hw, rw'⟩ := hk.get (List.getElem?_eq_getElem hi)
    refine wpAny_pyNext_keys_item_raw st hraw hi' fun h' st' sb => ?_
    have I1 : Inv X pins σ H { s with heap := h' } := I.turned (t' := s.toks) (fun b ob hb e => (sb.2 b hb).trans e) f0 f1 f3 f4 f5
    obtain ⟨oi, e, c, dd⟩ := id st'
    have ew : w = es'[i].key := by simpa [hi'] using hw.symm
    refine ⟨es'[i].key, rfl, go_of (s := { s with heap := h' }) e c dd (by decide) ⟨kus[i], H, I1, ew ▸ rw', ⟨rfl, List.getElem?_eq_getElem hi⟩, ?_, fun b hb => (hf b hb).1⟩⟩
    show h'.IsKeyIter it d (i + 1) kus.length _
    rw [← hl]
    exact st'
  done := by
    intro X hP hw hK hc i pins s σ H E I hf st hg
    subst hP hw hK
    obtain ⟨hd, hi⟩ := hg
    obtain ⟨f0, f1, f2, f3, f4, f5⟩ := hf it (by simp)
    obtain ⟨hs, es', ep', hdt, hraw, hk, hv, hz, hl, _⟩ := frz_raw I hd g
    obtain ⟨rfl, rfl⟩ := dict_ep hod hdt
    rw [← hl] at st
    exact wpAny_pyNext_keys_end_raw (I.ok.hd hc) st hraw (by omega) fun h' eb => ⟨rfl, I.turned (t' := s.toks) (fun b ob hb e => eb b ob hb e) f0 f1 f3 f4 f5⟩
  self := fun A i s Q E st h => wpAny_pyIter_keyiter st h
theorem turn_itemsR {P : Program} {w : World} {K : PySem.W.Frag} {elts : List Expr} {kk : Nat} {tpos : Pos} (it : Addr) (g : DObj d u ks kus us) (hod : o.data = .dict es ep) (hsz : es.size = kus.length) :
    Turn P w K (.Tuple elts kk tpos) (ItiR d o u kus us) [it] it (fun i h => ∃ ok ov, IsItemIter h it d i kus.length ep ok ov) where
  mem := by simp
  obj := fun i h st b hb => by
    have e : b = it := by simpa using hb
    subst e
    obtain ⟨ok, ov, e⟩ := st
    exact ⟨_, e, fun v z => nomatch z⟩
  keep := fun i h h' st k => let ⟨ok, ov, e⟩ := st; ⟨ok, ov, k it (by simp) _ e⟩
  item := by
    intro X hP hw hK hc i pins s σ H E I hf st hg
    subst hP hw hK
    obtain ⟨hd, hi⟩ := hg
    obtain ⟨hs, es', ep', hdt, hraw, hk, hv, hz, hl, hl2⟩ := frz_raw I hd g
    obtain ⟨rfl, rfl⟩ := dict_ep hod hdt
    have hi' : i < es'.size := by omega
    have hi2 : i < us.length := by omega
    obtain ⟨w1, hw1, rw1⟩ := hk.get (List.getElem?_eq_getElem hi)
    obtain ⟨w2, hw2, rw2⟩ := hv.get (List.getElem?_eq_getElem hi2)
    have ew1 : w1 = es'[i].key := by simpa [hi'] using hw1.symm
    have ew2 : w2 = es'[i].val := by simpa [hi'] using hw2.symm
    subst ew1 ew2
    obtain ⟨ok, ov, he⟩ := st
    rw [← hl] at he
    have hlt : it < s.heap.objs.size := Heap.lt_size he
    refine wpAny_pyNext_items_item_raw he hraw hi' fun h' ho hT hz' hk' => ?_
    refine ⟨_, rfl, wpAny_letOwnedTupleGo_items (s := { s with heap := h' }) ho fun h'' he' sb => ?_⟩
    have hT2 : h''.get? s.heap.objs.size = some { cls := .type "tuple", data := .seq #[es'[i].key, es'[i].val] } := (sb.2 _ (Nat.ne_of_gt hlt)).trans hT
    have new : ObjOk X.prog X.w (upd H s.heap.objs.size (.tup [kus[i], us[i]])) h'' s.heap.objs.size (.tup [kus[i], us[i]]) :=
      ⟨by show 2 ≤ sizeLine; decide, [es'[i].key, es'[i].val], .cons rw1 (.cons rw2 .nil), ⟨_, hT2, rfl, _, rfl⟩⟩
    have I1 : Inv X pins σ (upd H s.heap.objs.size (.tup [kus[i], us[i]])) { s with heap := h'' } :=
      I.turnedNew (t' := s.toks) (ch := [it]) (fun b ob hb e => (sb.2 b (by simpa using hb)).trans (hk' b ob (by simpa using hb) e)) hf (Nat.le_refl _) new
    refine ⟨.ref s.heap.objs.size, _, I1, rfl, ⟨_, kus[i], us[i], List.getElem?_eq_getElem hi, List.getElem?_eq_getElem hi2, rfl, I.hok.fresh (Nat.le_refl _), rfl⟩, ⟨es'[i].key, es'[i].val, ?_⟩, fun b hb => ?_⟩
    · rw [← hl]; exact he'
    · have e : b = it := by simpa using hb
      rw [e, upd_ne (Nat.ne_of_lt hlt)]
      exact (hf it (by simp)).1
  done := by
    intro X hP hw hK hc i pins s σ H E I hf st hg
    subst hP hw hK
    obtain ⟨hd, hi⟩ := hg
    obtain ⟨f0, f1, f2, f3, f4, f5⟩ := hf it (by simp)
    obtain ⟨hs, es', ep', hdt, hraw, hk, hv, hz, hl, hl2⟩ := frz_raw I hd g
    obtain ⟨rfl, rfl⟩ := dict_ep hod hdt
    obtain ⟨ok, ov, he⟩ := st
    rw [← hl] at he
    exact wpAny_pyNext_items_end_raw (I.ok.hd hc) he hraw (by omega) fun h' eb => ⟨rfl, I.turned (t' := s.toks) (fun b ob hb e => eb b ob hb e) f0 f1 f3 f4 f5⟩
  self := fun A i s Q E st h => let ⟨_, _, e⟩ := st; PySem.W.kcp_self e h
def iKeysR (td : TE) : TI := fun σ H R => td σ H fun x H1 => ∃ d o u ks kus us, x = .ref d ∧ H1 d = some (.frz o u) ∧ DObj d u ks kus us ∧ R (ItkR d o u kus) H1
def iItemsR (td : TE) : TI := fun σ H R => td σ H fun x H1 => ∃ d o u ks kus us, x = .ref d ∧ H1 d = some (.frz o u) ∧ DObj d u ks kus us ∧ R (ItiR d o u kus us) H1
end
section
variable {X : Cx} {tg e : Expr} {td : TE} {apos cpos : Pos}
theorem pi_keysR (he : PE X e td) : PI X tg e (iKeysR td) := by
  refine ⟨fun pins s σ H R I h => ?_⟩
  refine thn (he.run pins s σ H _ I h) fun v s1 ⟨x, H1, I1, rx, d, o, u, ks, kus, us, ex, hd, g, q⟩ => ?_
  subst ex
  obtain rfl : v = Value.ref d := rx
  obtain ⟨hs, es, ep, hdt, hraw, hk, hv, hz, hl, hl2⟩ := frz_raw I1 hd g
  refine wpAny_pyIter_dict_raw hs hraw (pi_one (tk := s1.toks) I1 _ (turn_keysR _ g hdt hl) ⟨_, Heap.get?_push_size _ rfl, rfl, ?_⟩ q)
  rw [hl] <;> rfl
theorem pi_itemsR {elts : List Expr} {kk : Nat} {tpos : Pos} (he : PE X e td) (hbase : attributeBase e "items" X.env (eval e X.env) = eval e X.env := by rfl) (hline : (apos.endLine == cpos.line) = true := by rfl) :
    PI X (.Tuple elts kk tpos) (.Call (.Attribute e "items" apos) [] [] cpos) (iItemsR td) := by
  refine ⟨fun pins s σ H R I h => ?_⟩
  refine wpAny_Call_method (T := "dict") (id := "dict.items") hbase rfl hline PySem.F.plainAttrs_dict PySem.F.slot_dict_items PySem.F.type_dict_items (thn (he.run pins s σ H _ I h) fun v s1 ⟨x, H1, I1, rx, d, o, u, ks, kus, us, ex, hd, g, q⟩ => ?_)
  subst ex
  obtain rfl : v = Value.ref d := rx
  obtain ⟨hs, es, ep, hdt, hraw, hk, hv, hz, hl, hl2⟩ := frz_raw I1 hd g
  obtain ⟨od, hod1, hod2, hod3⟩ := id hraw
  refine ⟨hraw.typeIs, fun b q => by cases q; exact ⟨od, hod1, hod2.2.1⟩, ?_⟩
  have I2 : Inv X pins σ H1 { s1 with heap := s1.heap.push { cls := .type "dict_items", data := .fields #[.ref d] } } := I1.kept (t' := s1.toks) fun b ob q => Heap.get?_push_of_some _ q
  have fin : wpAny (model X.prog X.w) X.A (pyIter (.ref s1.heap.objs.size)) (PIE X pins σ (.Tuple elts kk tpos) R) X.xe { s1 with heap := s1.heap.push { cls := .type "dict_items", data := .fields #[.ref d] } } := by
    refine wpAny_pyIter_items_raw (d := d) (s := { s1 with heap := s1.heap.push { cls := .type "dict_items", data := .fields #[.ref d] } }) ⟨_, Heap.get?_push_size _ rfl, rfl, rfl⟩ (hraw.push _) (pi_one (tk := s1.toks) I2 _ (turn_itemsR _ g hdt hl) ⟨.none, .none, ?_⟩ q)
    rw [← hl]
    exact Heap.get?_push_size _ rfl
  show wpAny _ _ (callWith cpos (.builtin "dict.items") [.ref d] [] []) _ X.xe s1
  exact method_meetsIn PySem.F.slot_dict_items PySem.F.entry_dict_items rfl (PySem.evalArgs_none ⟨rfl, hraw.typeIs, PySem.F.args_dict_items_1 _, _, meets_dict_items_raw d hs, ⟨es, ep, hraw⟩, fin⟩)
end
end PD

/-! dicts in the layer: walks, len, lists of them, displays -/
namespace PD
open PySem L2
def iKeysD (f : C D) : C (List D) := fun ρ => match f ρ with | some (.dct ks _, ρ1) => some (ks, ρ1) | _ => none
def pairsD (ks vs : List D) : List D := ks.zipWith (fun k v => .tup [k, v]) vs
def iItemsD (f : C D) : C (List D) := fun ρ => match f ρ with | some (.dct ks vs, ρ1) => some (pairsD ks vs, ρ1) | _ => none
theorem walk_keysR {d : Addr} {o : Obj} {u : HO} {kus : List V} : Walk (ItkR d o u kus) kus.length (fun H => H d = some (.frz o u)) (YAt kus) :=
  ⟨fun i H hi q => ⟨q, hi⟩, fun H q => ⟨q, Nat.le_refl _⟩, fun i H x H' _ _ y => y⟩
theorem walk_itemsR {d : Addr} {o : Obj} {u : HO} {kus us : List V} : Walk (ItiR d o u kus us) kus.length (fun H => H d = some (.frz o u)) (YPair (fun i => kus[i]?) (fun i => us[i]?)) :=
  ⟨fun i H hi q => ⟨q, hi⟩, fun H q => ⟨q, Nat.le_refl _⟩, fun i H x H' _ _ y => let ⟨T, k, v, h1, h2, h3, h4, h5⟩ := y; ⟨T, k, v, h3, h4, h5, h1, h2⟩⟩
section
variable {X : Cx} {tg e : Expr} {f : C D} {apos cpos tpos : Pos} {elts : List Expr} {kk : Nat}
theorem i_keys (h : DE X e f) : DI X tg e (iKeysD f) := by
  obtain ⟨t, h, run⟩ := h.ex
  refine ⟨_, pi_keysR h, fun Ex σ H ρ as ds ρ' R k e q => ?_⟩
  unfold iKeysD at e
  split at e
  · rename_i ks vs ρ1 e1
    cases e
    refine run Ex σ H ρ as _ _ _ k e1 fun v H' k' f' g' r => ?_
    obtain ⟨a, kus, us, ev, ⟨n, o, u, hu, hd⟩, r1, r2⟩ := rep_dct.mp r
    refine ⟨a, o, u, _, kus, us, ev, hu, hd, q _ H' _ _ k' f' g' (by rw [← r1.length]; exact walk_keysR) (fun H2 M2 kp => (kp _ _ hu n).1) fun i H2 x H3 M2 hi kp tk y => ?_⟩
    obtain ⟨e4, e5⟩ := y
    subst e4
    obtain ⟨d, hdd⟩ : ∃ d, ds[i]? = some d := ⟨_, List.getElem?_eq_getElem hi⟩
    obtain ⟨w, e6, rw'⟩ := r1.get hdd
    rw [e5] at e6
    cases e6
    exact ⟨fun _ _ h => h, d, hdd, rw'.keep kp⟩
  · cases e
theorem i_items (h : DE X e f) (hbase : attributeBase e "items" X.env (eval e X.env) = eval e X.env := by rfl) (hline : (apos.endLine == cpos.line) = true := by rfl) : DI X (.Tuple elts kk tpos) (.Call (.Attribute e "items" apos) [] [] cpos) (iItemsD f) := by
  obtain ⟨t, h, run⟩ := h.ex
  refine ⟨_, pi_itemsR h hbase hline, fun Ex σ H ρ as ds ρ' R k e q => ?_⟩
  unfold iItemsD at e
  split at e
  · rename_i ks vs ρ1 e1
    cases e
    refine run Ex σ H ρ as _ _ _ k e1 fun v H' k' f' g' r => ?_
    obtain ⟨a, kus, us, ev, ⟨n, o, u, hu, hd⟩, r1, r2⟩ := rep_dct.mp r
    refine ⟨a, o, u, ks, kus, us, ev, hu, hd, ?_⟩
    have hq : kus.length = us.length := by
      rcases hd with ⟨kvs, _, rfl, rfl⟩ | ⟨_, _, _, _, _, hq⟩
      · simp
      · exact hq
    have hl : (pairsD ks vs).length = kus.length := by simp [pairsD, ← r1.length, ← r2.length, hq]
    refine q _ H' _ _ k' f' g' (by rw [hl]; exact walk_itemsR) (fun H2 M2 kp => (kp _ _ hu n).1) fun i H2 x H3 M2 hi kp tk y => ?_
    obtain ⟨T, x', y', e4, hT, e5, e6, e7⟩ := y
    subst e4 e5
    have hi1 : i < ks.length := by rw [hl] at hi; rw [← r1.length]; exact hi
    have hi2 : i < vs.length := by rw [hl, hq] at hi; rw [← r2.length]; exact hi
    have h1 : ks[i]? = some ks[i] := List.getElem?_eq_getElem _
    have h2 : vs[i]? = some vs[i] := List.getElem?_eq_getElem _
    obtain ⟨w1, e8, q1⟩ := r1.get h1
    obtain ⟨w2, e9, q2⟩ := r2.get h2
    have e6 : kus[i]? = some x' := e6
    have e7 : us[i]? = some y' := e7
    rw [e6] at e8
    rw [e7] at e9
    cases e8
    cases e9
    exact ⟨same_upd hT, .tup [ks[i], vs[i]], by simp [pairsD, List.getElem?_zipWith, h1, h2], rep_newT tk hT (RepL.cons (q1.keep kp) (RepL.cons (q2.keep kp) RepL.nil))⟩
  · cases e
end
end PD

/-! dicts in the layer: len, lists of keys and of values, displays -/
namespace PD
open PySem L2
def fLenD (ds : List D) : Option D := match ds with | [.dct ks _] => some (.int ks.length) | _ => none
def gKeysD (ds : List D) : Option (List D) := match ds with | [.dct ks _] => some ks | _ => none
def gValsD (d : D) : Option (List D) := match d with | .dct _ vs => some vs | _ => none
def rDct (P : Addr → List V → List V → Hp → Prop) : List V → Hp → Prop := fun xs H => ∃ a u ks kus us, xs = [.ref a] ∧ Rd H a u ∧ DObj a u ks kus us ∧ P a kus us H
section
variable {X : Cx}
theorem call_lenR : CallR X (.builtin "len") (fun xs H Q => rDct (fun _ kus _ H => Q (.int kus.length) H) xs H) := by
  intro pins s σ H xs us Q I r h
  obtain ⟨a, u, ks, kus, uss, rfl, hu, hd, q⟩ := h
  obtain ⟨w, rfl, ru⟩ := vals1 r
  cases (show w = Value.ref a from ru)
  obtain ⟨hs, o, es, ep, h1, h2, h3, h4, h5, h6⟩ := dct_raw I hu hd
  have hr : s.heap.DictRaw a es ep := ⟨o, h1, h2, h3⟩
  have hl : (es.size : Int) = (kus.length : Int) := by have := h4.length; simp at this; omega
  rw [sizeLine_eq] at h6
  exact PyProof.Rows.call_len_slot (n := (es.size : Int)) hr.typeIs PySem.F.slot_dict_len (fun Q' hq => call_len_raw hs hr hq) (by omega) (by omega) ⟨.int kus.length, H, (I.tok _), ⟨s.toks + 1, by rw [hl]⟩, q⟩
theorem call_listR (hc : X.calm = true) : CallR X (.type "list") (fun xs H Q => rDct (fun _ kus _ H => ∀ p, H p = none → Q (.ref p) (upd H p (.lst kus))) xs H) := by
  intro pins s σ H xs us Q I r h
  obtain ⟨a, u, ks, kus, uss, rfl, hu, hd, q⟩ := h
  obtain ⟨w, rfl, ru⟩ := vals1 r
  cases (show w = Value.ref a from ru)
  obtain ⟨hs, o, es, ep, h1, h2, h3, h4, h5, h6⟩ := dct_raw I hu hd
  have hr : s.heap.DictRaw a es ep := ⟨o, h1, h2, h3⟩
  refine PySem.W.kdl_call (KdlSrc.rawDict (es := es) (ep := ep) hs) (I.ok.hd hc) hr h6 fun h' tk acc' c' hkeep hS hacc => ?_
  have hl : kus.length = es.size := by have := h4.length; simpa using this
  refine ⟨.ref s.heap.objs.size, upd H s.heap.objs.size (.lst kus), I.laid hkeep (Nat.le_refl _) (show ObjOk X.prog X.w _ _ _ (.lst kus) from ⟨by omega, acc'.toList, c', vals_of_at (by simp [hacc.1, hl]) fun j x w h1 h2 => ?_, by rw [Array.toArray_toList]; exact hS⟩), rfl, q _ (I.hok.fresh (Nat.le_refl _))⟩
  obtain ⟨hi, e⟩ := hacc.2 j w (by rw [← Array.getElem?_toList]; exact h2)
  obtain ⟨w', hw', rw'⟩ := h4.get h1
  have : w' = es[j].key := by simpa [hi] using hw'.symm
  rw [e, ← this]; exact rw'
variable {a e : Expr} {fs : C (List D)} {f : C D} {q pos p apos cpos : Pos}
theorem rep_rd {K : PySem.W.Frag} {M : Addr → Prop} {H : Hp} {ks ds : List D} {v : V} (h : Rep K M H (.dct ks ds) v) : ∃ a u kus us, v = .ref a ∧ Rd H a u ∧ DObj a u ks kus us ∧ RepL K M H ks kus ∧ RepL K M H ds us := by
  obtain ⟨a, kus, us, e, ⟨_, o, u, hu, hd⟩, r1, r2⟩ := rep_dct.mp h
  exact ⟨a, u, kus, us, e, .inr ⟨o, hu⟩, hd, r1, r2⟩
theorem v_lenD : VN X.K (fun xs H Q => rDct (fun _ kus _ H => Q (.int kus.length) H) xs H) fLenD := fun M H xs ds res Q t r h q => by
  unfold fLenD at h
  split at h
  · cases h
    obtain ⟨v, rfl, rv⟩ := repL_one r
    obtain ⟨a, u, kus, us, rfl, hu, hd, r1, r2⟩ := rep_rd rv
    refine ⟨a, u, _, kus, us, rfl, hu, hd, q _ H (fun _ _ h => h) (rep_int.mpr (by rw [r1.length]))⟩
  · cases h
theorem v_listD : VNo X.K (fun xs H Q => rDct (fun _ kus _ H => kus.length ≤ sizeLine ∧ ∀ p, H p = none → Q (.ref p) (upd H p (.lst kus))) xs H) (fun ds => (gKeysD ds).filter fun ks => decide (ks.length ≤ lim)) := fun M H xs ds res Q t r h q => by
  obtain ⟨h1, h2⟩ := Option.filter_eq_some_iff.mp h
  unfold gKeysD at h1
  split at h1
  · cases h1
    obtain ⟨v, rfl, rv⟩ := repL_one r
    obtain ⟨a, u, kus, us, rfl, hu, hd, r1, r2⟩ := rep_rd rv
    have hz : kus.length ≤ sizeLine := by rw [r1.length]; exact Nat.le_trans (of_decide_eq_true h2) lim_line
    exact ⟨a, u, _, kus, us, rfl, hu, hd, hz, fun p hp => q p kus hp hz r1⟩
  · cases h1
theorem call_listR' (hc : X.calm = true) : CallR X (.type "list") (fun xs H Q => rDct (fun _ kus _ H => kus.length ≤ sizeLine ∧ ∀ p, H p = none → Q (.ref p) (upd H p (.lst kus))) xs H) := fun pins s σ H xs us Q I r h =>
  call_listR hc pins s σ H xs us Q I r (let ⟨a, u, ks, kus, uss, e, hu, hd, _, q⟩ := h; ⟨a, u, ks, kus, uss, e, hu, hd, q⟩)
def gKeysL (ds : List D) : Option (List D) := (gKeysD ds).filter fun ks => decide (ks.length ≤ lim)
theorem e_lenD (hm : X.mg "len" = none) (ha : DA X [a] fs) (hg : Gl X "len" := by rfl) (hs : starEach [a] X.env = (false, eval a X.env) :: starEach [] X.env := by rfl) : DE X (.Call (.Name "len" q) [a] [] pos) (eCall fLenD fs) :=
  de_call v_lenD ha fun _ h => pe_callB call_lenR hg hm (by decide +kernel) h (by decide) (by decide) hs rfl
theorem o_keys (hc : X.calm = true) (hm : X.mg "list" = none) (ha : DA X [a] fs) (hg : Gl X "list" := by rfl) (hs : starEach [a] X.env = (false, eval a X.env) :: starEach [] X.env := by rfl) : DO X (.Call (.Name "list" q) [a] [] pos) (oCall gKeysL fs) :=
  do_call v_listD ha fun _ h => pe_callTy (call_listR' hc) hg hm (by decide +kernel) h (by decide) (by decide) hs rfl
/-! list(d.values()) -/
def tLV (ta : TE) : TE := fun σ H Q => ta σ H fun x H1 => ∃ a u ks kus us, x = .ref a ∧ Rd H1 a u ∧ DObj a u ks kus us ∧ ∀ p, H1 p = none → Q (.ref p) (upd H1 p (.lst us))
theorem pe_lv {ta : TE} (hc : X.calm = true) (hg : Gl X "list") (hm : X.mg "list" = none) (ha : PE X a ta) (hbase : attributeBase a "values" X.env (eval a X.env) = eval a X.env) (hline : (apos.endLine == cpos.line) = true)
    (na : starEach [.Call (.Attribute a "values" apos) [] [] cpos] X.env = (false, eval (.Call (.Attribute a "values" apos) [] [] cpos) X.env) :: starEach [] X.env) :
    PE X (.Call (.Name "list" p) [.Call (.Attribute a "values" apos) [] [] cpos] [] pos) (tLV ta) := by
  refine ⟨fun pins s σ H Q I h => PyProof.Rows.Call_ (ld_blt I hg hm (show bootBuiltins "list" = some (.type "list") by decide +kernel) (PyProof.Rows.callWith_type1 (PyProof.Rows.args_cons ?_ na) na rfl))⟩
  refine wpAny_Call_method (T := "dict") (id := "dict.values") hbase rfl hline PySem.F.plainAttrs_dict PySem.F.slot_dict_values PySem.F.type_dict_values (thn (ha.run pins s σ H _ I h) fun v s1 ⟨x, H1, I1, rx, a, u, ks, kus, us, ex, hu, hd, q⟩ => ?_)
  subst ex
  obtain rfl : v = Value.ref a := rx
  obtain ⟨hs, o, es, ep, h1, h2, h3, h4, h5, h6⟩ := dct_raw I1 hu hd
  have hraw : s1.heap.DictRaw a es ep := ⟨o, h1, h2, h3⟩
  refine ⟨hraw.typeIs, fun b q => by cases q; exact ⟨o, h1, h2.2.1⟩, ?_⟩
  have I2 : Inv X pins σ H1 { s1 with heap := s1.heap.push { cls := .type "dict_values", data := .fields #[.ref a] } } := I1.kept (t' := s1.toks) fun b ob q => Heap.get?_push_of_some _ q
  show wpAny _ _ (callWith cpos (.builtin "dict.values") [.ref a] [] []) _ X.xe s1
  refine method_meetsIn PySem.F.slot_dict_values PySem.F.entry_dict_values rfl (PySem.evalArgs_none ⟨rfl, hraw.typeIs, PySem.F.args_dict_values_1 _, _, meets_dict_values_raw a hs, ⟨es, ep, hraw⟩, ?_⟩)
  refine PyProof.Rows.args_nil ?_
  refine PySem.W.kdl_call (KdlSrc.rawValues (d := a) (es := es) (ep := ep)) (I2.ok.hd hc) ⟨⟨_, Heap.get?_push_size _ rfl, rfl, rfl⟩, hraw.push _⟩ h6 fun h' tk acc' c' hkeep hS hacc => ?_
  have hl : us.length = es.size := by have := h5.length; simpa using this
  refine ⟨.ref _, upd H1 _ (.lst us), I2.laid hkeep (Nat.le_refl _) (show ObjOk X.prog X.w _ _ _ (.lst us) from ⟨by omega, acc'.toList, c', vals_of_at (by simp [hacc.1, hl]) fun j x w h1 h2 => ?_, by rw [Array.toArray_toList]; exact hS⟩), rfl, q _ (I2.hok.fresh (Nat.le_refl _))⟩
  obtain ⟨hi, e⟩ := hacc.2 j w (by rw [← Array.getElem?_toList]; exact h2)
  obtain ⟨w', hw', rw'⟩ := h5.get h1
  have : w' = es[j].val := by simpa [hi] using hw'.symm
  rw [e, ← this]; exact rw'
theorem v_lv : V1o X.K (fun x H Q => ∃ a u ks kus us, x = .ref a ∧ Rd H a u ∧ DObj a u ks kus us ∧ ∀ p, H p = none → Q (.ref p) (upd H p (.lst us))) (fun d => (gValsD d).filter fun vs => decide (vs.length ≤ lim)) := fun M H x d res Q t rx h q => by
  obtain ⟨h1, h2⟩ := Option.filter_eq_some_iff.mp h
  unfold gValsD at h1
  split at h1
  · cases h1
    obtain ⟨a, u, kus, us, rfl, hu, hd, r1, r2⟩ := rep_rd rx
    have hz : us.length ≤ sizeLine := by rw [r2.length]; exact Nat.le_trans (of_decide_eq_true h2) lim_line
    exact ⟨a, u, _, kus, us, rfl, hu, hd, fun p hp => q p us hp hz r2⟩
  · cases h1
def gValsL (d : D) : Option (List D) := (gValsD d).filter fun vs => decide (vs.length ≤ lim)
theorem o_vals (hc : X.calm = true) (hm : X.mg "list" = none) (ha : DE X a f) (hg : Gl X "list" := by rfl) (hbase : attributeBase a "values" X.env (eval a X.env) = eval a X.env := by rfl) (hline : (apos.endLine == cpos.line) = true := by rfl)
    (na : starEach [.Call (.Attribute a "values" apos) [] [] cpos] X.env = (false, eval (.Call (.Attribute a "values" apos) [] [] cpos) X.env) :: starEach [] X.env := by rfl) :
    DO X (.Call (.Name "list" p) [.Call (.Attribute a "values" apos) [] [] cpos] [] pos) (oUn gValsL f) :=
  do_un (r := fun x H Q => ∃ a u ks kus us, x = .ref a ∧ Rd H a u ∧ DObj a u ks kus us ∧ ∀ p, H p = none → Q (.ref p) (upd H p (.lst us))) v_lv ha fun t ht => pe_lv hc hg hm ht hbase hline na
end
/-! ### displays -/
theorem Ok.updEx {K : PySem.W.Frag} {Ex : Addr → Prop} {σ : St} {H : Hp} {ρ : Rho} {as : Nat → Addr} {p : Addr} {u : HO} (k : Ok K Ex σ H ρ as) (hp : Ex p) : Ok K Ex σ (upd H p u) ρ as ∧ Keep (MM Ex ρ as) (MM Ex ρ as) H (upd H p u) := by
  have kp : Keep (MM Ex ρ as) (MM Ex ρ as) H (upd H p u) := fun b o e hm => by
    have ne : b ≠ p := fun z => hm (.inl (z ▸ hp))
    exact ⟨by rw [upd_ne ne]; exact e, hm⟩
  refine ⟨⟨k.len, fun c hc => ?_, fun i d h => ?_, fun i es h => ?_, k.inj⟩, kp⟩
  · by_cases ne : c = p
    · subst ne; exact ⟨_, upd_same⟩
    · obtain ⟨o, ho⟩ := k.exs c hc
      exact ⟨o, by rw [upd_ne ne]; exact ho⟩
  · obtain ⟨v, e, r⟩ := k.dat i d h
    exact ⟨v, e, r.keep kp⟩
  · obtain ⟨e, n, r⟩ := k.own i es h
    exact ⟨e, n, r.keep kp fun o z => by rw [upd_ne fun q => n (by rw [q]; exact hp)]; exact z⟩
structure DPs (X : Cx) (pos : Pos) (keys : List (Option Expr)) (vals : List Expr) (ns : List (List Nat)) (f : C (List D)) : Prop where
  ex : ∃ trs, PPs X pos keys vals trs ∧ ∀ (Ex : Addr → Prop) (σ : St) (H : Hp) (ρ : Rho) (as : Nat → Addr) (ds : List D) (ρ' : Rho) (Q : List (V × V) → Hp → Prop), Ok X.K Ex σ H ρ as → f ρ = some (ds, ρ') →
    (∀ vs H', Ok X.K Ex σ H' ρ' as → Fr (Own ρ as) H H' → Go H ρ as ρ' as → RepL X.K (MM Ex ρ' as) H' ds vs → vs.length = ns.length → Q ((ns.map fun n => V.str (mk n)).zip vs) H') → tPairs trs σ H Q
section
variable {X : Cx} {pos p : Pos} {k : Nat}
theorem dps_nil : DPs X pos [] [] [] eNil := ⟨_, pps_nil, fun Ex σ H ρ as ds ρ' Q k e q => by cases e; exact q [] H k .refl .refl RepL.nil rfl⟩
theorem dps_cons {x : Str} {n : List Nat} {v : Expr} {ks : List (Option Expr)} {vs : List Expr} {ns : List (List Nat)} {f : C D} {g : C (List D)} (hx : x = mk n) (hv : DE X v f) (hr : DPs X pos ks vs ns g) :
    DPs X pos (some (.Constant (.str x) k p) :: ks) (v :: vs) (n :: ns) (eCons f g) := by
  obtain ⟨t, h, run⟩ := hv.ex
  obtain ⟨trs, h2, run2⟩ := hr.ex
  refine ⟨_, pps_cons pe_str h h2, fun Ex σ H ρ as ds ρ' Q k e q => ?_⟩
  unfold eCons at e
  split at e
  · rename_i d1 ρ1 e1
    split at e
    · rename_i ds2 ρ2 e2
      cases e
      refine run Ex σ H ρ as _ _ _ k e1 fun w H1 k1 f1 g1 rw' => run2 Ex σ H1 ρ1 as _ _ _ k1 e2 fun ws H2 k2 f2 g2 rs hl => ?_
      have := q (w :: ws) H2 k2 (f1.trans g1 f2) (Go.trans f1 g1 g2) (RepL.cons (rw'.keep (Keep.of f2 g2)) rs) (by simp [hl])
      rw [hx]
      exact this
    · cases e
  · cases e
def dispD : List (List Nat) → List D → List D × List D → List D × List D
  | n :: ns, d :: ds, acc => dispD ns ds (dPut acc.1 acc.2 (.str n) d)
  | _, _, acc => acc
def mDisp (ns : List (List Nat)) (f : C (List D)) : C (List D × List D) := fun ρ => match f ρ with
  | some (ds, ρ1) => some (dispD ns ds ([], []), ρ1)
  | none => none
theorem disp_rep {K : PySem.W.Frag} {M : Addr → Prop} {H : Hp} : ∀ {ns : List (List Nat)} {ds : List D} {vs : List V} {acc : List D × List D} {kvs : List (Key × V)}, RepL K M H ds vs → vs.length = ns.length → RepL K M H acc.1 (kvs.map fun p => kV p.1) → RepL K M H acc.2 (kvs.map (·.2)) →
    ∃ more : List (Key × V), (ns.map fun n => V.str (mk n)).zip vs = more.map (fun kv => (kV kv.1, kv.2)) ∧ more.length = ns.length ∧ RepL K M H (dispD ns ds acc).1 ((mergeK kvs more).map fun p => kV p.1) ∧ RepL K M H (dispD ns ds acc).2 ((mergeK kvs more).map (·.2)) := fun {ns} => by
  induction ns with
  | nil =>
    intro ds vs acc kvs r hl h1 h2
    cases vs with
    | nil => exact ⟨[], rfl, rfl, by cases ds <;> exact h1, by cases ds <;> exact h2⟩
    | cons => cases hl
  | cons n ns ih =>
    intro ds vs acc kvs r hl h1 h2
    cases ds with
    | nil => rw [repL_nil.mp r] at hl; cases hl
    | cons d ds =>
      obtain ⟨v, vs', e, r1, r2⟩ := repL_cons.mp r
      subst e
      obtain ⟨q1, q2⟩ := dPut_key (s := n) r1 h1 h2
      obtain ⟨more, m1, m2, m3, m4⟩ := ih r2 (by simpa using hl) q1 q2
      exact ⟨(.inr (mk n), v) :: more, by simp [m1, kV], by simp [m2], m3, m4⟩
theorem dm_disp {keys : List (Option Expr)} {vals : List Expr} {ns : List (List Nat)} {f : C (List D)} (h : DPs X pos keys vals ns f) (hall : keys.all (·.isSome) = true := by rfl) (hl : keys.length = vals.length := by rfl) (h0 : keys ≠ [] := by simp) (h15 : keys.length ≤ 15 := by decide) (hn : ns.length ≤ 15 := by decide) :
    DM X (.Dict keys vals pos) (mDisp ns f) := by
  obtain ⟨trs, h, run⟩ := h.ex
  refine ⟨_, pe_disp h hall hl h0 h15, fun Ex σ H ρ as r ρ' Q k e q => ?_⟩
  unfold mDisp at e
  split at e
  · rename_i ds ρ1 e1
    cases e
    intro p hp
    obtain ⟨k2, kp⟩ := k.newM (u := .dK []) hp
    refine run _ σ _ ρ as _ _ _ k2 e1 fun vs H2 k3 f3 g3 rs hlen => ?_
    have no : ¬ Own ρ as p := fun ⟨i, es, h1, h2⟩ => by
      obtain ⟨_, n, _⟩ := k2.own i es h1
      exact n (.inr h2)
    have hp2 : H2 p = some (.dK []) := (f3 p _ upd_same).1 no
    obtain ⟨more, m1, m2, m3, m4⟩ := disp_rep (acc := ([], [])) (kvs := []) rs hlen RepL.nil RepL.nil
    refine ⟨hp2, more, m1, by rw [m2]; exact hn, ?_⟩
    obtain ⟨k4, kp4⟩ := k3.updEx (p := p) (u := .dK (mergeK [] more)) (.inr rfl)
    have f0 : Fr (Own ρ as) H (upd H2 p (.dK (mergeK [] more))) := fun b ob hb => by
      have ne := ne_of_none hb hp
      rw [upd_ne ne]
      exact f3 b ob (by rw [upd_ne ne]; exact hb)
    have g0 : Go H ρ as ρ' as := ⟨fun b hb => (g3.own b hb).elim .inl fun z => .inr (by
        by_cases ne : b = p
        · rw [ne]; exact hp
        · rw [upd_ne ne] at z; exact z), g3.ino, g3.ini⟩
    exact q p _ k4 f0 g0 hp ⟨_, _, _, upd_same, .inl ⟨_, rfl, rfl, rfl⟩, m3.keep kp4, m4.keep kp4⟩
  · cases e
/-- {k: v} with a tuple as its key -/
def tDispT (K : PySem.W.Frag) (tk tv : TE) : TE := fun σ H Q => ∀ p, H p = none → tPairs [(tk, tv)] σ (upd H p (.dK [])) fun ps H2 => ∃ x y, ps = [(x, y)] ∧ H2 p = some (.dK []) ∧ ∃ (M : Addr → Prop) (k : D), isTK k = true ∧ Rep K M H2 k x ∧ ∀ o', DObj p o' [k] [x] [y] → Q (.ref p) (upd H2 p o')
theorem pe_dispT {a b : Expr} {tk tv : TE} (hu : X.A.units + 65 < cLine) (ha : PE X a tk) (hb : PE X b tv) : PE X (.Dict [some a] [b] pos) (tDispT X.K tk tv) := by
  refine ⟨fun pins s σ H Q I q => ?_⟩
  have hn := I.hok.fresh (Nat.le_refl s.heap.objs.size)
  have I1 := I.laid (a := s.heap.objs.size) (o := .dK []) (h' := s.heap.push { cls := .type "dict", data := .dict #[] }) (t' := s.toks) (fun _ _ q => Heap.get?_push_of_some _ q) (Nat.le_refl _) (dk_empty s.heap I.big)
  have hlen : (pairTrees [some a] [b] X.env pos).length = 1 := pairTrees_length [some a] [b] X.env pos rfl rfl
  rw [arm_eval_Dict, zip_pairTrees [some a] [b] X.env pos rfl rfl, dictDisplay_pairs (pairTrees [some a] [b] X.env pos) (by intro h; rw [h] at hlen; cases hlen) (by rw [hlen]; decide)]
  refine wpAny_bind (wpAny_standAt (wpAny_bind (wpAny_subDictH (knd := nestedKind X.prog X.w) (show X.A.units + 8 < cLine by omega) (by rw [hlen]; decide) ?_)))
  refine thn ((pps_cons ha hb pps_nil).run pins _ σ _ _ I1 (q _ hn)) fun ws s2 ⟨ps, H2, I2, rel, x, y, ep, e, M, k, hk, rk, q2⟩ => ?_
  subst ep
  cases rel with
  | @cons _ w _ _ r1 r2 =>
    cases r2
    obtain ⟨wk, wv⟩ := w
    obtain ⟨b, rfl, ew, hb⟩ := tk_is I2 rk r1.1 hk
    obtain rfl : wk = Value.ref b := ew
    obtain ⟨z, hd, vs0, r0, dd⟩ := dk_of I2.hok e
    cases r0
    have dH : s2.heap.DictOfH (nestedKind X.prog X.w) s.heap.objs.size [] := by
      obtain ⟨o, es, ep, h1, h2, h3, _, h5, _⟩ := dd
      have : es.toList = [] := List.eq_nil_of_length_eq_zero h5.length
      exact ⟨o, es, ep, h1, h2, h3, this, fun _ z => absurd z (by simp), by simp⟩
    refine ⟨[(nkD k, b, wv)], ⟨rfl, rfl, hb, trivial⟩, dH, fun h' tk dd' hs => wpAny_pure ?_⟩
    obtain ⟨o, es, ep, h1, h2, h3, h4, h5, h6⟩ := dd'
    have h4' : es.toList = [entryOfKey (nestedKind X.prog X.w) (nkD k, b, wv)] := h4
    refine ⟨.ref s.heap.objs.size, _, d_write I2 (by rw [e]; exact True.intro) hs ⟨o, h1⟩ ?_, rfl, q2 (tD s.heap.objs.size ([k].map fun d => hashK (nkD d)) [.ref b] [y]) (.inr ⟨rfl, by simp, fun k' hk' => by rw [List.mem_singleton.mp hk']; exact hk, by simp, by simp [sizeLine_eq], rfl⟩)⟩
    refine ⟨⟨hd, o, es, ep, h1, h2, h3, ?_, ?_, ?_⟩, ⟨o, h1⟩, fun h1 h2' p keep => ?_⟩
    · rw [h4']
      show [(nkD k).hash X.w] = [hashK (nkD k)]
      rw [hashK_eq X.w 8 k (isTK_inK hk)]
    · rw [h4']; exact .cons rfl .nil
    · rw [h4']; exact .cons r1.2 .nil
    · obtain ⟨p0, o1, es1, ep1, p1, pr⟩ := p
      exact ⟨p0, o1, es1, ep1, keep _ p1, pr⟩
def mDispT (f g : C D) : C (List D × List D) := fun ρ => match f ρ with
  | some (k, ρ1) => (match g ρ1 with
    | some (v, ρ2) => if isTK k = true then some (([k], [v]), ρ2) else none
    | none => none)
  | none => none
theorem dm_dispT {a b : Expr} {f g : C D} (hu : X.A.units + 65 < cLine) (ha : DE X a f) (hb : DE X b g) : DM X (.Dict [some a] [b] pos) (mDispT f g) := by
  obtain ⟨t, h, run⟩ := ha.ex
  obtain ⟨t2, h2, run2⟩ := hb.ex
  refine ⟨_, pe_dispT hu h h2, fun Ex σ H ρ as r ρ' Q k e q => ?_⟩
  unfold mDispT at e
  split at e
  · rename_i kk ρ1 e1
    split at e
    · rename_i z ρ2 e2
      split at e
      · rename_i hk
        cases e
        intro p hp
        obtain ⟨k2, kp⟩ := k.newM (u := .dK []) hp
        refine run _ σ _ ρ as _ _ _ k2 e1 fun v H2 k3 f3 g3 rv => run2 _ σ _ ρ1 as _ _ _ k3 e2 fun w H4 k4 f4 g4 rw' => ?_
        have f34 := f3.trans g3 f4
        have g34 := Go.trans f3 g3 g4
        have no : ¬ Own ρ as p := fun ⟨i, es, h1, h2⟩ => by
          obtain ⟨_, n, _⟩ := k2.own i es h1
          exact n (.inr h2)
        have hp4 : H4 p = some (.dK []) := (f34 p _ upd_same).1 no
        refine ⟨v, w, rfl, hp4, _, kk, hk, rv.keep (Keep.of f4 g4), fun o' d' => ?_⟩
        obtain ⟨k5, kp5⟩ := k4.updEx (p := p) (u := o') (.inr rfl)
        have f0 : Fr (Own ρ as) H (upd H4 p o') := fun b ob hb => by
          have ne := ne_of_none hb hp
          rw [upd_ne ne]
          exact f34 b ob (by rw [upd_ne ne]; exact hb)
        have g0 : Go H ρ as ρ' as := ⟨fun b hb => (g34.own b hb).elim .inl fun z => .inr (by
            by_cases ne : b = p
            · rw [ne]; exact hp
            · rw [upd_ne ne] at z; exact z), g34.ino, g34.ini⟩
        exact q p _ k5 f0 g0 hp ⟨[v], [w], _, upd_same, d', RepL.cons ((rv.keep (Keep.of f4 g4)).keep kp5) RepL.nil, RepL.cons (rw'.keep kp5) RepL.nil⟩
      · cases e
    · cases e
  · cases e
end
end PD

/-! sorted(xs), min(xs) of data -/
namespace PD
open PySem L2
def isTupD : D → Bool
  | .tup (_ :: _) => true | _ => false
def noTupD : D → Bool
  | .tup _ => false | .non => false | _ => true
def alikeAllD (xs : List D) : Bool := xs.all fun a => xs.all fun b => alikeD a b
def sortOk (xs : List D) : Bool := xs.all okD && alikeAllD xs && (xs.all isTupD || xs.all noTupD) && decide (xs.length ≤ lim)
def dle (a b : D) : Bool := !dlt b a
def sortDs (xs : List D) : List D := xs.mergeSort dle
def gSortD (ds : List D) : Option (List D) := match ds with | [.lst xs] => if sortOk xs = true then some (sortDs xs) else none | _ => none
def minDs : D → List D → D
  | x, y :: ys => minDs (if dlt y x = true then y else x) ys
  | x, [] => x
section
variable {X : Cx}
theorem each_rep {K : PySem.W.Frag} {M : Addr → Prop} {H : Hp} : ∀ {ds : List D} {vs : List V} {us : List Value}, RepL K M H ds vs → Vals vs us → PySem.W.EachIs (fun u d => ∃ v, RelV v u ∧ Rep K M H d v) us ds
  | [], _, _, h, r => by rw [repL_nil.mp h] at r; cases r; exact .nil
  | d :: ds, _, _, h, r => by
    obtain ⟨v, vs', e, h1, h2⟩ := repL_cons.mp h
    subst e
    cases r with
    | cons r1 r2 => exact .cons ⟨v, r1, h1⟩ (each_rep h2 r2)
theorem rep_each {K : PySem.W.Frag} {M : Addr → Prop} {H : Hp} : ∀ {us : List Value} {ds : List D}, PySem.W.EachIs (fun u d => ∃ v, RelV v u ∧ Rep K M H d v) us ds → ∃ vs, RepL K M H ds vs ∧ Vals vs us
  | [], _, h => by cases h; exact ⟨[], RepL.nil, .nil⟩
  | u :: us, _, h => by
    cases h with
    | cons h1 h2 =>
      obtain ⟨v, r1, r2⟩ := h1
      obtain ⟨vs, q1, q2⟩ := rep_each h2
      exact ⟨v :: vs, RepL.cons r2 q1, .cons r1 q2⟩
theorem each_reads {pins : List (Addr × Obj)} {σ : St} {H : Hp} {s : Shared} {M : Addr → Prop} (I : Inv X pins σ H s) : ∀ {us : List Value} {ds : List D}, PySem.W.EachIs (fun u d => ∃ v, RelV v u ∧ Rep X.K M H d v) us ds → (∀ d, d ∈ ds → okD d = true) → PySem.W.EachIs (fun u d => ∃ as, Reads s.heap u (py d) as) us ds
  | [], _, h, _ => by cases h; exact .nil
  | u :: us, _, h, k => by
    cases h with
    | cons h1 h2 =>
      obtain ⟨v, r1, r2⟩ := h1
      exact .cons (Dp.reads I _ v u (r2.dp (SeqAt.canLay_of_shaped (k _ (.head _)))) r1) (each_reads I h2 fun d hd => k d (.tail _ hd))
def rSortD (K : PySem.W.Frag) : List V → Hp → VK → Prop := fun xs H Q => ∃ (a : Addr) (M : Addr → Prop) (ds : List D) (vs : List V), xs = [.ref a] ∧ SqL K H a vs ∧ RepL K M H ds vs ∧ sortOk ds = true ∧ ∀ p out, H p = none → RepL K M H (sortDs ds) out → Q (.ref p) (upd H p (.lst out))
theorem sortOk_spec {ds : List D} (h : sortOk ds = true) : (∀ d, d ∈ ds → okD d = true) ∧ PySem.W.AllAlike (ds.map py) ∧ PySem.W.Sortable (ds.map py) ∧ ds.length ≤ lim := by
  unfold sortOk alikeAllD at h
  simp only [Bool.and_eq_true, List.all_eq_true, decide_eq_true_eq, Bool.or_eq_true] at h
  obtain ⟨⟨⟨h1, h2⟩, h3⟩, h4⟩ := h
  refine ⟨h1, fun d hd d' hd' => ?_, ?_, h4⟩
  · obtain ⟨a, ha, rfl⟩ := List.mem_map.mp hd
    obtain ⟨b, hb, rfl⟩ := List.mem_map.mp hd'
    exact h2 a ha b hb
  · rcases h3 with h3 | h3
    · refine .inl fun d hd => ?_
      obtain ⟨a, ha, rfl⟩ := List.mem_map.mp hd
      have := h3 a ha
      cases a <;> simp [isTupD] at this
      rename_i xs
      cases xs with
      | nil => simp at this
      | cons x xs => exact ⟨py x, pyL xs, by simp [py, pyL]⟩
    · refine .inr fun d hd => ?_
      obtain ⟨a, ha, rfl⟩ := List.mem_map.mp hd
      have := h3 a ha
      cases a <;> simp [noTupD, py] at this ⊢
theorem okD_depth {d : D} (h : okD d = true) : (py d).depth ≤ 64 := by
  unfold okD SeqAt.shaped at h
  simp only [Bool.and_eq_true, decide_eq_true_eq] at h
  first | exact h.1 | exact h.2
theorem cr_sortD (hu : X.A.units + 70 < cLine) : CallR X (.builtin "sorted") (rSortD X.K) := by
  intro pins s σ H xs us Q I r h
  obtain ⟨a, M, ds, vs, rfl, hs, rr, hok, q⟩ := h
  obtain ⟨its, rv, hl, hz⟩ := I.list hs
  rw [Vals.ref1 r]
  obtain ⟨h1, h2, h3, h4⟩ := sortOk_spec hok
  have e := each_rep rr rv
  refine PySem.W.sorted_data (enc := py) hl.isList e (each_reads I e h1) h2 h3 (Nat.le_trans h4 lim_line) (fun b hb => by have := okD_depth (h1 b hb); omega) fun out hlen ho => ?_
  obtain ⟨ws, q1, q2⟩ := rep_each ho
  obtain ⟨ep, he'⟩ := PyProof.Rows.sortedAll_at s.heap its out.toArray
  have hw : ws.length ≤ sizeLine := by rw [q2.length, hlen]; exact Nat.le_trans h4 lim_line
  exact ⟨.ref _, upd H (s.heap.objs.size + 1) (.lst ws), I.laid (t' := s.toks) (fun _ _ => PyProof.Rows.sortedAll_old) (Nat.le_succ _) ⟨hw, out, ep, q2, he'⟩, rfl, q _ ws (I.hok.fresh (Nat.le_succ _)) q1⟩
theorem v_sortD {K : PySem.W.Frag} : VNo K (rSortD K) gSortD := fun M H xs ds res Q t r h q => by
  unfold gSortD at h
  split at h
  · split at h
    · rename_i ys hok
      cases h
      obtain ⟨v, e, rv⟩ := repL_one r
      obtain ⟨a, vs, e1, l1, r1⟩ := rep_lst.mp rv
      subst e1
      refine ⟨a, M, ys, vs, e, l1.seq, r1, hok, fun p out hp ro => q p out hp ?_ ro⟩
      rw [ro.length, sortDs, List.length_mergeSort]
      exact Nat.le_trans (sortOk_spec hok).2.2.2 lim_line
    · cases h
  · cases h
variable {a : Expr} {fs : C (List D)} {f : C D} {q pos : Pos} {QL : List D → Prop} {Q : D → Prop}
theorem room70 {k : Nat} {A : Around} (h : Room k A) : A.units + 70 < cLine := by have := h.un; omega
theorem o_sortD (hu : X.A.units + 70 < cLine) (hm : X.mg "sorted" = none) (ha : DA X [a] fs) (hg : Gl X "sorted" := by rfl) (hs : starEach [a] X.env = (false, eval a X.env) :: starEach [] X.env := by rfl) : DO X (.Call (.Name "sorted" q) [a] [] pos) (oCall gSortD fs) :=
  do_call v_sortD ha fun _ h => pe_callB (cr_sortD hu) hg hm (by decide +kernel) h (by decide) (by decide) hs rfl
theorem z_sortD {xs : List D} : ho (gSortD [.lst xs]) QL = (sortOk xs = true ∧ QL (sortDs xs)) := by
  unfold gSortD ho; by_cases h : sortOk xs = true <;> simp [h]
/-! min -/
theorem minD_py : ∀ (xs : List D) (x : D), PySem.W.minD (py x) (xs.map py) = py (minDs x xs)
  | [], x => rfl
  | y :: ys, x => by
    unfold PySem.W.minD
    rw [List.map_cons, List.foldl_cons, minDs]
    have : (if PySem.W.dataLt (py y) (py x) = true then py y else py x) = py (if dlt y x = true then y else x) := by
      show (if dlt y x = true then py y else py x) = _
      split <;> rfl
    rw [this]
    exact minD_py ys _
theorem pyL_eq : ∀ ds : List D, pyL ds = ds.map py
  | [] => rfl
  | d :: ds => by rw [pyL, pyL_eq ds]; rfl
theorem depthAll_le : ∀ ds : List D, (∀ d, d ∈ ds → okD d = true) → PyData.depthAll (ds.map py) ≤ 64
  | [], _ => by simp [PyData.depthAll]
  | d :: ds, h => by
    rw [List.map_cons, PyData.depthAll]
    have := okD_depth (h d (.head _))
    have := depthAll_le ds fun e he => h e (.tail _ he)
    omega
def rMinD (K : PySem.W.Frag) : List V → Hp → VK → Prop := fun xs H Q => ∃ (a : Addr) (M : Addr → Prop) (x : D) (ds : List D) (vs : List V), xs = [.ref a] ∧ SqL K H a vs ∧ RepL K M H (x :: ds) vs ∧ sortOk (x :: ds) = true ∧ (∀ y, y ∈ x :: ds → pl y = true) ∧ ∀ v, Rep K M H (minDs x ds) v → Q v H
theorem minDs_mem : ∀ (xs : List D) (x : D), minDs x xs ∈ x :: xs
  | [], x => .head _
  | y :: ys, x => by
    rw [minDs]
    have := minDs_mem ys (if dlt y x = true then y else x)
    rcases List.mem_cons.mp this with h | h
    · rw [h]; split
      · exact .tail _ (.head _)
      · exact .head _
    · exact .tail _ (.tail _ h)
theorem cr_minD (hc : X.calm = true) (hu : X.A.units + 70 < cLine) : CallR X (.builtin "min") (rMinD X.K) := by
  intro pins s σ H xs us Q I r h
  obtain ⟨a, M, x, ds, vs, rfl, hs, rr, hok, hpl, q⟩ := h
  obtain ⟨its, rv, hl, hz⟩ := I.list hs
  rw [Vals.ref1 r]
  obtain ⟨h1, h2, h3, h4⟩ := sortOk_spec hok
  have e := each_rep rr rv
  have hcl : PyData.canLayAll0 (pyL (x :: ds)) = true := by
    have : ∀ ys : List D, (∀ d, d ∈ ys → okD d = true) → PyData.canLayAll0 (pyL ys) = true := fun ys => by
      induction ys with
      | nil => intro _; simp [pyL, PyData.canLayAll0]
      | cons y ys ih => intro h; rw [pyL]; simp only [PyData.canLayAll0, Bool.and_eq_true]; exact ⟨SeqAt.canLay_of_shaped (h y (.head _)), ih fun d hd => h d (.tail _ hd)⟩
    exact this _ h1
  obtain ⟨as, hr⟩ := Dp.readsAll I _ vs its (rr.dp hcl) rv
  rw [pyL_eq, List.map_cons] at hr
  have hne : ∀ y ∈ py x :: ds.map py, y ≠ PyData.none := by
    intro y hy
    rw [← List.map_cons] at hy
    rcases h3 with h3 | h3
    · obtain ⟨_, _, z⟩ := h3 y hy
      rw [z]; exact fun z => nomatch z
    · exact (h3 y hy).1
  refine PySem.W.min_list_data (I.ok.hd hc) hl.isList (x := py x) (xs := ds.map py) (by simpa using hr) ⟨fun y hy z hz => h2 y (by simpa using hy) z (by simpa using hz), hne⟩ (by have := depthAll_le (x :: ds) h1; simp only [List.map_cons] at this; omega) fun i v h' tk bs hv hread hkeep => ?_
  have I2 : Inv X pins σ H { s with heap := h', toks := tk } := I.kept hkeep
  have hv' : its[i]? = some v := by simpa using hv
  obtain ⟨w, hw⟩ : ∃ w, vs[i]? = some w := by
    have := rv.length
    have hi := (List.getElem?_eq_some_iff.mp hv').1
    exact ⟨vs[i]'(by omega), List.getElem?_eq_getElem _⟩
  obtain ⟨u, hu1, ru⟩ := rv.get hw
  rw [hv'] at hu1; cases hu1
  -- the item itself is the least
  obtain ⟨d, hd⟩ : ∃ d, (x :: ds)[i]? = some d := by
    have := rr.length
    have hi := (List.getElem?_eq_some_iff.mp hw).1
    exact ⟨(x :: ds)[i]'(by omega), List.getElem?_eq_getElem _⟩
  obtain ⟨w2, hw2, rw2⟩ := rr.get hd
  rw [hw] at hw2; cases hw2
  have hdm : d ∈ x :: ds := List.mem_of_getElem? hd
  obtain ⟨cs, hread2⟩ := Dp.reads I2 _ w v (rw2.dp (SeqAt.canLay_of_shaped (h1 d hdm))) ru
  rw [minD_py] at hread
  have he : py d = py (minDs x ds) := SeqAt.Reads.unique _ _ v cs bs (SeqAt.canLay_of_shaped (h1 d hdm)) hread2 hread
  have hm := minDs_mem ds x
  have : d = minDs x ds := (eqv_pl (hpl d hdm) (hpl _ hm)).mp (by rw [he]; exact SeqAt.eqv_refl _ (SeqAt.canLay_of_shaped (h1 _ hm)))
  exact ⟨w, H, I2, ru, q w (this ▸ rw2)⟩
def fMinDs (ds : List D) : Option D := match ds with | [.lst (x :: xs)] => if sortOk (x :: xs) = true ∧ (x :: xs).all pl = true then some (minDs x xs) else none | _ => none
theorem v_minD {K : PySem.W.Frag} : VN K (rMinD K) fMinDs := fun M H xs ds res Q t r h q => by
  unfold fMinDs at h
  split at h
  · split at h
    · rename_i y ys hok
      cases h
      obtain ⟨v, e, rv⟩ := repL_one r
      obtain ⟨a, vs, e1, l1, r1⟩ := rep_lst.mp rv
      subst e1
      exact ⟨a, M, y, ys, vs, e, l1.seq, r1, hok.1, fun z hz => List.all_eq_true.mp hok.2 z hz, fun v rv => q v H (fun _ _ h => h) rv⟩
    · cases h
  · cases h
theorem e_minD (hc : X.calm = true) (hu : X.A.units + 70 < cLine) (hm : X.mg "min" = none) (ha : DA X [a] fs) (hg : Gl X "min" := by rfl) (hs : starEach [a] X.env = (false, eval a X.env) :: starEach [] X.env := by rfl) : DE X (.Call (.Name "min" q) [a] [] pos) (eCall fMinDs fs) :=
  de_call v_minD ha fun _ h => pe_callB (cr_minD hc hu) hg hm (by decide +kernel) h (by decide) (by decide) hs rfl
end
end PD

/-! weakest premises of the readings over dicts -/
namespace PD
open PySem L2
@[simp] theorem oN_dic {ks vs : List D} {Q : Prop} : oN (some (.dic ks vs)) Q = Q := rfl
section
variable {ρ : Rho} {QD : D → Rho → Prop} {QL : List D → Rho → Prop} {QB : Bool → Rho → Prop} {QO : Out → Prop} {QM : List D × List D → Rho → Prop} {QS : Sl → Rho → Prop} {Q : D → Prop} {QLs : List D → Prop}
theorem w_eVarM {i : Nat} : wp (eVarM i) ρ QD = match ρ[i]? with | some (.dic ks vs) => QD (.dct ks vs) (ρ.set i (.dat (.dct ks vs))) | some (.dat (.dct ks vs)) => QD (.dct ks vs) ρ | _ => False := by
  unfold wp eVarM; cases ρ[i]? with
  | none => rfl
  | some s => cases s with
    | dat d => cases d <;> rfl
    | _ => rfl
theorem w_eOfM {f : C (List D × List D)} : wp (eOfM f) ρ QD = wp f ρ fun r ρ1 => QD (.dct r.1 r.2) ρ1 := by unfold wp eOfM; cases f ρ <;> rfl
theorem w_mNew : wp mNew ρ QM = QM ([], []) ρ := rfl
theorem w_mDisp {ns : List (List Nat)} {f : C (List D)} : wp (mDisp ns f) ρ QM = wp f ρ fun ds ρ1 => QM (dispD ns ds ([], [])) ρ1 := by unfold wp mDisp; cases f ρ <;> rfl
theorem w_mDispT {f g : C D} : wp (mDispT f g) ρ QM = wp f ρ fun k ρ1 => wp g ρ1 fun v ρ2 => isTK k = true ∧ QM ([k], [v]) ρ2 := by
  unfold wp mDispT; cases f ρ with
  | none => rfl
  | some p => obtain ⟨d, r⟩ := p; cases h : g r with
    | none => simp [h]
    | some q => obtain ⟨e, r2⟩ := q; cases hq : isTK d <;> simp [h, hq]
theorem s_sSetM {i : Nat} {f : C (List D × List D)} : ws (sSetM i f) ρ QO = wp f ρ fun r ρ1 => oN (ρ1[i]?) (QO (.nx (ρ1.set i (.dic r.1 r.2)))) := by
  unfold ws wp sSetM oN; cases f ρ with
  | none => rfl
  | some p => obtain ⟨d, r⟩ := p; cases h : r[i]? with
    | none => simp [h]
    | some s => cases s <;> simp [h]
theorem w_vDic {f : C (List D × List D)} : wp (vDic f) ρ QS = wp f ρ fun r ρ1 => QS (.dic r.1 r.2) ρ1 := by unfold wp vDic; cases f ρ <;> rfl
theorem w_eGetV {i : Nat} {g : C D} : wp (eGetV i g) ρ QD = ((lookM ρ i).isSome = true ∧ wp g ρ fun k ρ1 => ho (lookM ρ1 i) fun r => keyOk r.1 k = true ∧ ho (dGet r.1 r.2 k) fun d => QD d ρ1) := by
  unfold wp eGetV ho; cases h0 : lookM ρ i with
  | none => simp
  | some r0 => cases g ρ with
    | none => simp
    | some p => obtain ⟨k, r⟩ := p; cases h1 : lookM r i with
      | none => simp [h1]
      | some m => cases h2 : keyOk m.1 k with
        | false => simp [h1, h2]
        | true => cases h3 : dGet m.1 m.2 k <;> simp [h1, h2, h3]
theorem w_eGetXV {i : Nat} {g h : C D} : wp (eGetXV i g h) ρ QD = ((lookM ρ i).isSome = true ∧ wp g ρ fun k ρ1 => wp h ρ1 fun z ρ2 => ho (lookM ρ2 i) fun r => keyOk r.1 k = true ∧ QD ((dGet r.1 r.2 k).getD z) ρ2) := by
  unfold wp eGetXV ho; cases h0 : lookM ρ i with
  | none => simp
  | some r0 => cases g ρ with
    | none => simp
    | some p => obtain ⟨k, r⟩ := p; cases h1 : h r with
      | none => simp [h1]
      | some q => obtain ⟨z, r2⟩ := q; cases h2 : lookM r2 i with
        | none => simp [h1, h2]
        | some m => cases h3 : keyOk m.1 k <;> simp [h1, h2, h3]
theorem w_cInV {neg : Bool} {i : Nat} {g : C D} : wp (cInV neg g i) ρ QB = wp g ρ fun k ρ1 => ho (lookM ρ1 i) fun r => keyOk r.1 k = true ∧ QB (if neg = true then !dHas r.1 k else dHas r.1 k) ρ1 := by
  unfold wp cInV ho; cases g ρ with
  | none => simp
  | some p => obtain ⟨k, r⟩ := p; cases h1 : lookM r i with
    | none => simp [h1]
    | some m => cases h3 : keyOk m.1 k <;> simp [h1, h3]
theorem s_sPutV {i : Nat} {f g : C D} : ws (sPutV i f g) ρ QO = wp f ρ fun z ρ1 => ((lookM ρ1 i).isSome = true ∧ wp g ρ1 fun k ρ2 => (match ρ2[i]? with | some (.dic ks vs) => (keyOk ks k = true ∧ ks.length < lim) ∧ QO (.nx (ρ2.set i (.dic (dPut ks vs k z).1 (dPut ks vs k z).2))) | _ => False)) := by
  unfold ws wp sPutV; cases f ρ with
  | none => rfl
  | some p => obtain ⟨z, r⟩ := p; cases h0 : lookM r i with
    | none => simp [h0]
    | some m => cases h1 : g r with
      | none => simp [h0, h1]
      | some q => obtain ⟨k, r2⟩ := q; cases h2 : r2[i]? with
        | none => simp [h0, h1, h2]
        | some s => cases s with
          | dic ks vs => by_cases h3 : keyOk ks k = true ∧ ks.length < lim <;> simp [h0, h1, h2, h3]
          | _ => simp [h0, h1, h2]
theorem w_eGetX {f g h : C D} : wp (eGetX f g h) ρ QD = wp f ρ fun d ρ0 => (match d with | .dct ks vs => wp g ρ0 fun k ρ1 => wp h ρ1 fun z ρ2 => keyOk ks k = true ∧ QD ((dGet ks vs k).getD z) ρ2 | _ => False) := by
  unfold wp eGetX; cases f ρ with
  | none => rfl
  | some p => obtain ⟨d, r⟩ := p; cases d with
    | dct ks vs => cases h1 : g r with
      | none => simp [h1]
      | some q => obtain ⟨k, r1⟩ := q; cases h2 : h r1 with
        | none => simp [h1, h2]
        | some q2 => obtain ⟨z, r2⟩ := q2; cases h3 : keyOk ks k <;> simp [h1, h2, h3]
    | _ => rfl
theorem z_getD {ks vs : List D} {k : D} : ho (fGetD (.dct ks vs) k) Q = (keyOk ks k = true ∧ ho (dGet ks vs k) Q) := by
  unfold fGetD ho; cases h : keyOk ks k <;> simp [h]
theorem w_iKeysD {f : C D} : wp (iKeysD f) ρ QL = wp f ρ fun d ρ1 => (match d with | .dct ks _ => QL ks ρ1 | _ => False) := by
  unfold wp iKeysD; cases f ρ with
  | none => rfl
  | some p => obtain ⟨d, r⟩ := p; cases d <;> rfl
theorem w_iItemsD {f : C D} : wp (iItemsD f) ρ QL = wp f ρ fun d ρ1 => (match d with | .dct ks vs => QL (pairsD ks vs) ρ1 | _ => False) := by
  unfold wp iItemsD; cases f ρ with
  | none => rfl
  | some p => obtain ⟨d, r⟩ := p; cases d <;> rfl
theorem z_lenD {ks vs : List D} : ho (fLenD [.dct ks vs]) Q = Q (.int ks.length) := rfl
theorem z_keysL {ks vs : List D} : ho (gKeysL [.dct ks vs]) QLs = (ks.length ≤ lim ∧ QLs ks) := by
  unfold gKeysL ho; by_cases h : ks.length ≤ lim <;> simp [gKeysD, Option.filter, h]
theorem z_valsL {ks vs : List D} : ho (gValsL (.dct ks vs)) QLs = (vs.length ≤ lim ∧ QLs vs) := by
  unfold gValsL ho; by_cases h : vs.length ≤ lim <;> simp [gValsD, Option.filter, h]
theorem z_sset_l {xs : List D} : ho (gSortSet (.lst xs)) QLs = ho (strsD xs) fun ss => ss.length < 64 ∧ QLs ((sortU ss).map .str) := by
  unfold gSortSet ho; cases h : strsD xs with
  | none => simp [h]
  | some ss => by_cases h2 : ss.length < 64 <;> simp [h, h2]
theorem z_minDs {x : D} {xs : List D} : ho (fMinDs [.lst (x :: xs)]) Q = ((sortOk (x :: xs) = true ∧ (x :: xs).all pl = true) ∧ Q (minDs x xs)) := by
  unfold fMinDs ho; by_cases h : sortOk (x :: xs) = true ∧ (x :: xs).all pl = true <;> simp only [h] <;> simp
end
end PD

/-! closed values, by the kernel -/
namespace PD
open PySem L2
mutual
def dEq : D → D → Bool
  | .non, .non => true
  | .bl a, .bl b => a == b
  | .int i, .int j => decide (i = j)
  | .str s, .str t => s == t
  | .lst ds, .lst es => dEqL ds es
  | .tup ds, .tup es => dEqL ds es
  | .scr ds, .scr es => dEqL ds es
  | .dct ks vs, .dct js us => dEqL ks js && dEqL vs us
  | _, _ => false
def dEqL : List D → List D → Bool
  | [], [] => true
  | d :: ds, e :: es => dEq d e && dEqL ds es
  | [], _ :: _ => false
  | _ :: _, [] => false
end
mutual
theorem dEq_eq : ∀ d e : D, dEq d e = true → d = e
  | .non, e, h => by cases e <;> simp [dEq] at h; rfl
  | .bl a, e, h => by cases e <;> simp [dEq] at h; rw [h]
  | .int a, e, h => by cases e <;> simp [dEq] at h; rw [h]
  | .str a, e, h => by cases e <;> simp [dEq] at h; rw [h]
  | .lst a, e, h => by cases e <;> simp [dEq] at h; rw [dEqL_eq _ _ h]
  | .tup a, e, h => by cases e <;> simp [dEq] at h; rw [dEqL_eq _ _ h]
  | .scr a, e, h => by cases e <;> simp [dEq] at h; rw [dEqL_eq _ _ h]
  | .dct a b, e, h => by cases e <;> simp [dEq] at h; rw [dEqL_eq _ _ h.1, dEqL_eq _ _ h.2]
theorem dEqL_eq : ∀ d e : List D, dEqL d e = true → d = e
  | [], [], _ => rfl
  | [], _ :: _, h => by simp [dEqL] at h
  | _ :: _, [], h => by simp [dEqL] at h
  | d :: ds, e :: es, h => by
    simp [dEqL] at h
    rw [dEq_eq d e h.1, dEqL_eq ds es h.2]
end
def oIs (o : Option D) (d : D) : Bool := match o with | some e => dEq e d | none => false
theorem some_is {o : Option D} {d : D} (h : oIs o d = true) : o = some d := by
  unfold oIs at h; split at h
  · rw [dEq_eq _ _ h]
  · cases h
end PD

namespace Lw
open PySem L2 PD
def g__law_source : S :=
  (sSeq (sSet 2 (eC (.int 0)))
    (sSeq (sIf (cT (eBin fLt (eVar 1) (eUnX (fun d => fLen [d]) (eVar 0))))
    (sSet 2 (eCall fAbs (eCons (eBin fIdx (eVar 0) (eVar 1)) eNil)))
    sNil)
    (sSeq (sIf (cT (eBin fLt (eVar 2) (eBin fPow (eC (.int 10)) (eC (.int 18)))))
    (sRetO (oLst (eCons (eC (.int 0)) (eCons (eBin fAdd (eC (.int 1)) (eBin fMod (eCall fInt1 (eCons (eBin fAdd (eBin fMul (eVar 2) (eC (.int 7919))) (eBin fMul (eC (.int 104729)) (eVar 1))) eNil)) (eC (.int 2147483646)))) eNil))))
    sNil)
    (sRetO (oLst (eCons (eVar 2) (eCons (eBin fAdd (eC (.int 1)) (eBin fMod (eCall fInt1 (eCons (eBin fAdd (eVar 2) (eVar 1)) eNil)) (eC (.int 2147483646)))) eNil)))))))
def m__law_source : List D → Option (List D) := mO 2 3 g__law_source
def g__law_draw : S :=
  (sSeq (sIf (cT (eBin fGt (eOwnIdx 0 (eC (.int 0))) (eC (.int 0))))
    (sSeq (sSet 2 (eBin fMod (eCall fInt1 (eCons (eOwnIdx 0 (eC (.int 0))) eNil)) (eVar 1)))
    (sSeq (sSetIx 0 (eBin fDiv (eOwnIdx 0 (eC (.int 0))) (eVar 1)) (eC (.int 0)))
    (sRet (eVar 2))))
    sNil)
    (sSeq (sSetIx 0 (eBin fMod (eCall fInt1 (eCons (eBin fMul (eOwnIdx 0 (eC (.int 1))) (eC (.int 48271))) eNil)) (eC (.int 2147483647))) (eC (.int 1)))
    (sRet (eBin fMod (eCall fInt1 (eCons (eBin fDiv (eBin fMod (eCall fInt1 (eCons (eBin fMul (eOwnIdx 0 (eC (.int 1))) (eOwnIdx 0 (eC (.int 1)))) eNil)) (eC (.int 2147483629))) (eC (.int 64))) eNil)) (eVar 1)))))
def m__law_draw : List D → List D → Option (D × List D) := mB 2 3 g__law_draw
def g__law_choice : S :=
  (sRet (eBin fIdx (eVar 1) (eCallS 0 m__law_draw (eCons (eUnX (fun d => fLen [d]) (eVar 1)) eNil))))
def m__law_choice : List D → List D → Option (D × List D) := mB 2 2 g__law_choice
def g_is_way : S :=
  (sSeq (sIf (cOr (cNot (cT (eUnX (fIsi "tuple") (eVar 0)))) (cOr (cT (eBin fNe (eUnX (fun d => fLen [d]) (eVar 0)) (eC (.int 4)))) (cNot (cT (eUnX (fun d => fAll [d]) (eOfO (oComp [1] (iAny (eVar 0)) (bName 1) cYes (eUnX (fIsi "str") (eVar 1)))))))))
    (sRet (eC (.bl false)))
    sNil)
    (sRet (eAndV (eBin fIn (eBin fIdx (eVar 0) (eC (.int 0))) (eC (strsT [[101, 110, 100], [109, 105, 100, 100, 108, 101], [115, 116, 97, 114, 116]]))) (eAndV (eBin fIn (eBin fIdx (eVar 0) (eC (.int 1))) (eC (strsT [[115, 105, 103, 110, 115], [119, 111, 114, 100, 115]]))) (eAndV (eBin fIn (eBin fIdx (eVar 0) (eC (.int 2))) (eC (strsT [[100, 114, 111, 112], [107, 101, 101, 112]]))) (eBin fIn (eBin fIdx (eVar 0) (eC (.int 3))) (eC (strsT [[], [46], [126]]))))))))
def m_is_way : List D → Option D := mA 1 2 g_is_way
def g_need_way : S :=
  (sIf (cNot (cT (eCall m_is_way (eCons (eVar 0) eNil))))
    sNever
    sNil)
def m_need_way : List D → Option D := mA 1 1 g_need_way
def g_is_text : S :=
  (sRet (eAndV (eUnX (fIsi "str") (eVar 0)) (eAndV (eBin fLe (eUnX (fun d => fLen [d]) (eVar 0)) (eC (.int 40))) (eUnX (fun d => fAll [d]) (eOfO (oComp [1] (iAny (eVar 0)) (bName 1) cYes (eBin fIn (eVar 1) (eC (.str [32, 46, 97, 98, 99, 126])))))))))
def m_is_text : List D → Option D := mA 1 2 g_is_text
def g_need_text : S :=
  (sIf (cNot (cT (eCall m_is_text (eCons (eVar 0) eNil))))
    sNever
    sNil)
def m_need_text : List D → Option D := mA 1 1 g_need_text
def g_ending_of : S :=
  (sSeq (sSet 1 (eM1 fRfind (eVar 0) (eC (.str [46]))))
    (sSeq (sSet 2 (eCut (eVar 0) (qSome (eBin fAdd (eVar 1) (eC (.int 1)))) qNone))
    (sSeq (sIf (cOr (cT (eBin fLt (eVar 1) (eC (.int 1)))) (cOr (cNot (cT (eChain fLe fLe (eC (.int 1)) (eUnX (fun d => fLen [d]) (eVar 2)) (eC (.int 4))))) (cNot (cT (eUnX (fun d => fAll [d]) (eOfO (oComp [3] (iAny (eVar 2)) (bName 3) cYes (eBin fIn (eVar 3) (eC (.str [97, 98, 99]))))))))))
    (sRet (eC (.str [])))
    sNil)
    (sRet (eCut (eVar 0) (qSome (eVar 1)) qNone)))))
def m_ending_of : List D → Option D := mA 1 4 g_ending_of
def g_ending : S :=
  (sSeq (sDrop (eCall m_need_text (eCons (eVar 0) eNil)))
    (sRet (eCall m_ending_of (eCons (eVar 0) eNil))))
def m_ending : List D → Option D := mA 1 1 g_ending
def g_all_ways : S :=
  (sSeq (sSetO 0 (oLst eNil))
    (sSeq (sFor (iAny (eC (strsT [[101, 110, 100], [109, 105, 100, 100, 108, 101], [115, 116, 97, 114, 116]]))) (bName 1)
    (sFor (iAny (eC (strsT [[115, 105, 103, 110, 115], [119, 111, 114, 100, 115]]))) (bName 2)
    (sFor (iAny (eC (strsT [[100, 114, 111, 112], [107, 101, 101, 112]]))) (bName 3)
    (sSetO 0 (oBin gAdd (eVar 0) (eOfO (oComp [4] (iAny (eC (strsT [[], [46], [126]]))) (bName 4) cYes (eTup (eCons (eVar 1) (eCons (eVar 2) (eCons (eVar 3) (eCons (eVar 4) eNil))))))))))))
    (sRet (eVar 0))))
def m_all_ways : List D → Option D := mA 0 5 g_all_ways
def g_are_alike : S :=
  (sSeq (sIf (cAnd (cT (eBin fEq (eCut (eVar 0) qNone (qSome (eC (.int 2)))) (eTup (eCons (eC (.str [115, 116, 97, 114, 116])) (eCons (eC (.str [115, 105, 103, 110, 115])) eNil))))) (cT (eBin fEq (eCut (eVar 1) qNone (qSome (eC (.int 2)))) (eTup (eCons (eC (.str [115, 116, 97, 114, 116])) (eCons (eC (.str [115, 105, 103, 110, 115])) eNil))))))
    (sRet (eBin fEq (eBin fIdx (eVar 0) (eC (.int 3))) (eBin fIdx (eVar 1) (eC (.int 3)))))
    sNil)
    (sRet (eBin fEq (eVar 0) (eVar 1))))
def m_are_alike : List D → Option D := mA 2 2 g_are_alike
def g_same_ways : S :=
  (sSeq (sDrop (eCall m_need_way (eCons (eVar 0) eNil)))
    (sRet (eOfO (oComp [1] (iAny (eCall m_all_ways eNil)) (bName 1) (cT (eCall m_are_alike (eCons (eVar 0) (eCons (eVar 1) eNil)))) (eVar 1)))))
def m_same_ways : List D → Option D := mA 1 2 g_same_ways
def g__law_way : S :=
  (sSeq (sParD [1, 2] (eCons (eCallS 0 m__law_choice (eCons (eOfO (oLst (eCons (eC (.str [101, 110, 100])) (eCons (eC (.str [109, 105, 100, 100, 108, 101])) (eCons (eC (.str [115, 116, 97, 114, 116])) eNil))))) eNil)) (eCons (eCallS 0 m__law_choice (eCons (eOfO (oLst (eCons (eC (.str [115, 105, 103, 110, 115])) (eCons (eC (.str [119, 111, 114, 100, 115])) eNil)))) eNil)) eNil)))
    (sRet (eTup (eCons (eVar 1) (eCons (eVar 2) (eCons (eCallS 0 m__law_choice (eCons (eOfO (oLst (eCons (eC (.str [100, 114, 111, 112])) (eCons (eC (.str [107, 101, 101, 112])) eNil)))) eNil)) (eCons (eCallS 0 m__law_choice (eCons (eOfO (oLst (eCons (eC (.str [])) (eCons (eC (.str [46])) (eCons (eC (.str [126])) eNil))))) eNil)) eNil)))))))
def m__law_way : List D → List D → Option (D × List D) := mB 1 3 g__law_way
def g__law_text : S :=
  (sSeq (sSet 2 (eCallS 0 m__law_choice (eCons (eOfO (oLst (eCons (eC (.str [97, 98])) (eCons (eC (.str [97, 98, 99, 32])) (eCons (eC (.str [97, 98, 32, 32, 32])) (eCons (eC (.str [97, 46, 32])) (eCons (eC (.str [97, 98, 99, 46, 32, 126])) eNil))))))) eNil)))
    (sSeq (sSet 3 (eM1 fJoin (eC (.str [])) (eOfO (oComp [5] (iRange1 (eCons (eCallS 0 m__law_draw (eCons (eBin fAdd (eVar 1) (eC (.int 1))) eNil)) eNil)) (bName 5) cYes (eCallS 0 m__law_choice (eCons (eOfO (oCall gList (eCons (eVar 2) eNil))) eNil))))))
    (sSeq (sIf (cT (eBin fEq (eCallS 0 m__law_draw (eCons (eC (.int 3)) eNil)) (eC (.int 0))))
    (sSeq (sSet 4 (eBin fAdd (eC (.int 1)) (eCallS 0 m__law_draw (eCons (eC (.int 5)) eNil))))
    (sSet 3 (eBin fAdd (eBin fAdd (eVar 3) (eC (.str [46]))) (eM1 fJoin (eC (.str [])) (eOfO (oComp [5] (iRange1 (eCons (eVar 4) eNil)) (bName 5) cYes (eCallS 0 m__law_choice (eCons (eOfO (oLst (eCons (eC (.str [97])) (eCons (eC (.str [98])) (eCons (eC (.str [99])) eNil))))) eNil))))))))
    sNil)
    (sRet (eCut (eVar 3) qNone (qSome (eVar 1)))))))
def m__law_text : List D → List D → Option (D × List D) := mB 2 6 g__law_text
def g_is_between : S :=
  (sRet (eAndV (eUnX (fIsi "int") (eVar 0)) (eAndV (eNotV (eUnX (fIsi "bool") (eVar 0))) (eChain fLe fLe (eVar 1) (eVar 0) (eVar 2)))))
def m_is_between : List D → Option D := mA 3 3 g_is_between
def g_need_width : S :=
  (sIf (cNot (cT (eCall m_is_between (eCons (eVar 0) (eCons (eC (.int 0)) (eCons (eC (.int 40)) eNil))))))
    sNever
    sNil)
def m_need_width : List D → Option D := mA 1 1 g_need_width
def g_front_of : S :=
  (sSeq (sIf (cT (eBin fEq (eVar 2) (eC (.str [119, 111, 114, 100, 115]))))
    (sFor (iRange3 (eCons (eVar 1) (eCons (eC (.int 0)) (eCons (eUn fNeg (eC (.int 1))) eNil)))) (bName 3)
    (sIf (cAnd (cT (eBin fNe (eBin fIdx (eVar 0) (eBin fSub (eVar 3) (eC (.int 1)))) (eC (.str [32])))) (cT (eBin fEq (eBin fIdx (eVar 0) (eVar 3)) (eC (.str [32])))))
    (sRet (eCut (eVar 0) qNone (qSome (eVar 3))))
    sNil))
    sNil)
    (sRet (eCut (eVar 0) qNone (qSome (eVar 1)))))
def m_front_of : List D → Option D := mA 3 4 g_front_of
def g_back_of : S :=
  (sRet (eUn fRev (eCall m_front_of (eCons (eUn fRev (eVar 0)) (eCons (eVar 1) (eCons (eVar 2) eNil))))))
def m_back_of : List D → Option D := mA 3 3 g_back_of
def g_cut_plain : S :=
  (sSeq (sUnpack (eVar 0) (bTup 4 (bCons (bName 3) (bCons (bName 4) (bCons (bName 5) (bCons (bName 6) bNil))))))
    (sSeq (sSet 7 (eBin fSub (eVar 2) (eUnX (fun d => fLen [d]) (eVar 6))))
    (sSeq (sIf (cT (eBin fLt (eVar 7) (eC (.int 0))))
    (sRet (eC (.str [])))
    sNil)
    (sSeq (sIf (cT (eBin fEq (eVar 3) (eC (.str [101, 110, 100]))))
    (sRet (eBin fAdd (eCall m_front_of (eCons (eVar 1) (eCons (eVar 7) (eCons (eVar 4) eNil)))) (eVar 6)))
    sNil)
    (sSeq (sIf (cT (eBin fEq (eVar 3) (eC (.str [115, 116, 97, 114, 116]))))
    (sRet (eBin fAdd (eVar 6) (eCall m_back_of (eCons (eVar 1) (eCons (eVar 7) (eCons (eVar 4) eNil))))))
    sNil)
    (sRet (eBin fAdd (eBin fAdd (eCall m_front_of (eCons (eVar 1) (eCons (eBin fSub (eVar 7) (eBin fDiv (eVar 7) (eC (.int 2)))) (eCons (eVar 4) eNil)))) (eVar 6)) (eCall m_back_of (eCons (eVar 1) (eCons (eBin fDiv (eVar 7) (eC (.int 2))) (eCons (eVar 4) eNil)))))))))))
def m_cut_plain : List D → Option D := mA 3 8 g_cut_plain
def g_show : S :=
  (sSeq (sIf (cT (eBin fLe (eUnX (fun d => fLen [d]) (eVar 1)) (eVar 2)))
    (sRet (eVar 1))
    sNil)
    (sSeq (sSet 3 (eIf (cT (eBin fEq (eBin fIdx (eVar 0) (eC (.int 2))) (eC (.str [107, 101, 101, 112])))) (eCall m_ending_of (eCons (eVar 1) eNil)) (eC (.str []))))
    (sSeq (sIf (cOr (cT (eBin fEq (eVar 3) (eC (.str [])))) (cT (eBin fGt (eBin fAdd (eUnX (fun d => fLen [d]) (eBin fIdx (eVar 0) (eC (.int 3)))) (eUnX (fun d => fLen [d]) (eVar 3))) (eVar 2))))
    (sRet (eCall m_cut_plain (eCons (eVar 0) (eCons (eVar 1) (eCons (eVar 2) eNil)))))
    sNil)
    (sRet (eBin fAdd (eCall m_cut_plain (eCons (eVar 0) (eCons (eCut (eVar 1) qNone (qSome (eBin fSub (eUnX (fun d => fLen [d]) (eVar 1)) (eUnX (fun d => fLen [d]) (eVar 3))))) (eCons (eBin fSub (eVar 2) (eUnX (fun d => fLen [d]) (eVar 3))) eNil)))) (eVar 3))))))
def m_show : List D → Option D := mA 3 4 g_show
def g_shown : S :=
  (sSeq (sDrop (eCall m_need_way (eCons (eVar 0) eNil)))
    (sSeq (sDrop (eCall m_need_text (eCons (eVar 1) eNil)))
    (sSeq (sDrop (eCall m_need_width (eCons (eVar 2) eNil)))
    (sRet (eCall m_show (eCons (eVar 0) (eCons (eVar 1) (eCons (eVar 2) eNil))))))))
def m_shown : List D → Option D := mA 3 3 g_shown
def g__law_named : S :=
  (sRet (eM1 fJoin (eC (.str [])) (eOfO (oComp [2] (iAny (eVar 1)) (bName 2) cYes (eGetV 0 (eVar 2))))))
def m__law_named : List D → Option D := mA 2 3 g__law_named
def g_views_of : S :=
  (sSeq (sSetO 2 (oLst eNil))
    (sSeq (sFor (iRange1 (eCons (eBin fAdd (eC (.int 40)) (eC (.int 1))) eNil)) (bName 3)
    (sSeq (sSet 4 (eCall m_show (eCons (eVar 0) (eCons (eVar 1) (eCons (eVar 3) eNil)))))
    (sIf (cAnd (cT (eBin fGt (eUnX (fun d => fLen [d]) (eVar 2)) (eC (.int 0)))) (cT (eBin fEq (eBin fIdx (eBin fIdx (eVar 2) (eUn fNeg (eC (.int 1)))) (eC (.int 2))) (eVar 4))))
    (sSetO 2 (oBin gAdd (eOfO (oCut (eVar 2) qNone (qSome (eUn fNeg (eC (.int 1)))))) (eOfO (oLst (eCons (eTup (eCons (eBin fIdx (eBin fIdx (eVar 2) (eUn fNeg (eC (.int 1)))) (eC (.int 0))) (eCons (eVar 3) (eCons (eVar 4) eNil)))) eNil)))))
    (sSetO 2 (oBin gAdd (eVar 2) (eOfO (oLst (eCons (eTup (eCons (eVar 3) (eCons (eVar 3) (eCons (eVar 4) eNil)))) eNil))))))))
    (sRet (eVar 2))))
def m_views_of : List D → Option D := mA 2 5 g_views_of
def g_views : S :=
  (sSeq (sDrop (eCall m_need_way (eCons (eVar 0) eNil)))
    (sSeq (sDrop (eCall m_need_text (eCons (eVar 1) eNil)))
    (sRet (eCall m_views_of (eCons (eVar 0) (eCons (eVar 1) eNil))))))
def m_views : List D → Option D := mA 2 2 g_views
def g_law : S :=
  (sSeq (sFor (iRange1 (eCons (eBin fAdd (eC (.int 1)) (eCall fMin2 (eCons (eUnX (fun d => fLen [d]) (eVar 0)) (eCons (eC (.int 10)) eNil)))) eNil)) (bName 1)
    (sSeq (sSetO 2 (oCall m__law_source (eCons (eVar 0) (eCons (eVar 1) eNil))))
    (sSeq (sSet 3 (eCallS 2 m__law_choice (eCons (eOfO (oLst (eCons (eC (.str [98, 99, 97])) (eCons (eC (.str [99, 97, 98])) (eCons (eC (.str [97, 99, 98])) (eCons (eC (.str [98, 97, 99])) eNil)))))) eNil)))
    (sSeq (sSetM 4 (mDisp [[97], [98], [99], [32], [46], [126]] (eCons (eBin fIdx (eVar 3) (eC (.int 0))) (eCons (eBin fIdx (eVar 3) (eC (.int 1))) (eCons (eBin fIdx (eVar 3) (eC (.int 2))) (eCons (eC (.str [32])) (eCons (eC (.str [46])) (eCons (eC (.str [126])) eNil))))))))
    (sFor (iRange1 (eCons (eC (.int 6)) eNil)) (bName 5)
    (sSeq (sParD [6, 7] (eCons (eCallS 2 m__law_way eNil) (eCons (eCallS 2 m__law_text (eCons (eC (.int 40)) eNil)) eNil)))
    (sSeq (sSet 8 (eCallS 2 m__law_draw (eCons (eC (.int 41)) eNil)))
    (sSeq (sIf (cT (eBin fNe (eCall m_shown (eCons (eVar 6) (eCons (eCall m__law_named (eCons (eVarM 4) (eCons (eVar 7) eNil))) (eCons (eVar 8) eNil)))) (eCall m__law_named (eCons (eVarM 4) (eCons (eCall m_shown (eCons (eVar 6) (eCons (eVar 7) (eCons (eVar 8) eNil)))) eNil)))))
    (sRet (eC (.bl false)))
    sNil)
    (sSeq (sIf (cT (eBin fNe (eCall m_ending (eCons (eCall m__law_named (eCons (eVarM 4) (eCons (eVar 7) eNil))) eNil)) (eCall m__law_named (eCons (eVarM 4) (eCons (eCall m_ending (eCons (eVar 7) eNil)) eNil)))))
    (sRet (eC (.bl false)))
    sNil)
    (sSeq (sParD [9, 10] (eCons (eTup (eCons (eC (.str [101, 110, 100])) (eCons (eBin fIdx (eVar 6) (eC (.int 1))) (eCons (eC (.str [100, 114, 111, 112])) (eCons (eBin fIdx (eVar 6) (eC (.int 3))) eNil))))) (eCons (eTup (eCons (eC (.str [115, 116, 97, 114, 116])) (eCons (eBin fIdx (eVar 6) (eC (.int 1))) (eCons (eC (.str [100, 114, 111, 112])) (eCons (eBin fIdx (eVar 6) (eC (.int 3))) eNil))))) eNil)))
    (sSeq (sIf (cT (eBin fNe (eCall m_shown (eCons (eVar 10) (eCons (eUn fRev (eVar 7)) (eCons (eVar 8) eNil)))) (eUn fRev (eCall m_shown (eCons (eVar 9) (eCons (eVar 7) (eCons (eVar 8) eNil)))))))
    (sRet (eC (.bl false)))
    sNil)
    (sSeq (sIf (cT (eBin fNe (eOfO (oComp [12] (iAny (eCall m_views (eCons (eVar 10) (eCons (eUn fRev (eVar 7)) eNil)))) (bName 12) cYes (eCut (eVar 12) qNone (qSome (eC (.int 2)))))) (eOfO (oComp [12] (iAny (eCall m_views (eCons (eVar 9) (eCons (eVar 7) eNil)))) (bName 12) cYes (eCut (eVar 12) qNone (qSome (eC (.int 2))))))))
    (sRet (eC (.bl false)))
    sNil)
    (sIf (cAnd (cT (eBin fGt (eUnX (fun d => fLen [d]) (eVar 7)) (eVar 8))) (cAnd (cT (eBin fGt (eVar 8) (eC (.int 1)))) (cT (eBin fEq (eBin fIdx (eVar 6) (eC (.int 1))) (eC (.str [115, 105, 103, 110, 115]))))))
    (sSeq (sSet 11 (eCall m_shown (eCons (eTup (eCons (eC (.str [109, 105, 100, 100, 108, 101])) (eCons (eC (.str [115, 105, 103, 110, 115])) (eCons (eC (.str [100, 114, 111, 112])) (eCons (eBin fIdx (eVar 6) (eC (.int 3))) eNil))))) (eCons (eVar 7) (eCons (eVar 8) eNil)))))
    (sIf (cOr (cT (eBin fNe (eUnX (fun d => fLen [d]) (eVar 11)) (eVar 8))) (cT (eBin fNe (eUnX (fun d => fLen [d]) (eCall m_shown (eCons (eVar 9) (eCons (eVar 7) (eCons (eVar 8) eNil))))) (eVar 8))))
    (sRet (eC (.bl false)))
    sNil))
    sNil)))))))))))))
    (sRet (eBin fEq (eCall m_same_ways (eCons (eTup (eCons (eC (.str [115, 116, 97, 114, 116])) (eCons (eC (.str [119, 111, 114, 100, 115])) (eCons (eC (.str [107, 101, 101, 112])) (eCons (eC (.str [46])) eNil))))) eNil)) (eOfO (oLst (eCons (eTup (eCons (eC (.str [115, 116, 97, 114, 116])) (eCons (eC (.str [119, 111, 114, 100, 115])) (eCons (eC (.str [107, 101, 101, 112])) (eCons (eC (.str [46])) eNil))))) eNil))))))
def m_law : List D → Option D := mA 1 13 g_law
theorem law_draw {src : List D} {n : Int} {Q : D × List D → Prop} (hs : Src src) (hn : 0 < n) (hb : n < 1073741824) (q : ∀ r s', 0 ≤ r → r < n → Src s' → Q (.int r, s')) : ho (m__law_draw src [.int n]) Q := by
  obtain ⟨c, s, rfl, h1, h2, h3⟩ := hs
  unfold m__law_draw g__law_draw
  have e1 : 0 ≤ c % n := Int.emod_nonneg _ (by omega)
  have e2 : c % n < n := Int.emod_lt_of_pos _ hn
  have e3 : 0 ≤ c / n := Int.ediv_nonneg h1 (by omega)
  have e4 : 0 ≤ s * 48271 % 2147483647 := Int.emod_nonneg _ (by omega)
  have e5 : s * 48271 % 2147483647 < 2147483647 := Int.emod_lt_of_pos _ (by omega)
  simp [↓w_eVar, ↓w_eC, ↓w_eUn, ↓w_eUnX, ↓w_eBin, ↓w_eM1, ↓w_oBin, ↓w_oUn, ↓w_eOfO, ↓w_eNil, ↓w_eCons, ↓w_eTup, ↓w_oLst, ↓w_eCall, ↓w_oCall, ↓w_cT, ↓w_cNot, ↓w_cAnd, ↓w_cOr, ↓w_cYes, ↓w_eAndV, ↓w_eOrV, ↓w_eNotV, ↓w_eIf, ↓w_eOwnIdx, ↓w_qNone, ↓w_qSome, ↓w_eCut, ↓w_oCut, ↓w_eChain, ↓w_iAny, ↓w_iRange1, ↓w_iRange2, ↓w_iRange3, ↓w_eCallS, ↓w_oComp, ↓w_bName, ↓w_bNil, ↓w_bCons, ↓w_bTup, ↓s_sNil, ↓s_sSeq, ↓s_sNever, ↓s_sBreak, ↓s_sCont, ↓s_sIf, ↓s_sDrop, ↓s_sRet, ↓s_sRetN, ↓s_sRetO, ↓s_sRetV, ↓s_sSet, ↓s_sSetO, ↓s_sUnpack, ↓s_sParD, ↓w_setD_nil, ↓w_setD_cons, ↓w_vDat, ↓w_vOwn, ↓s_sPar2, ↓s_sAppend, ↓s_sSetIx, ↓s_sFor, ↓ho_mA, ↓ho_mO, ↓ho_mB, frame, ↓seqO_nx, ↓seqO_rt, ↓seqO_bk, ↓seqO_ct, ↓lpO_nx, ↓lpO_rt, ↓lpO_bk, ↓lpO_ct, ↓wsF, ↓wlF, ↓whF, backR, wipeR, datSlot, strsD_signs, join_signs, sum_ones2, ↓w_eOwnBin, ownAt, ↓w_eP, ↓w_eBinX, ↓w_eTupleP, ↓w_iEnumD, ↓w_iZipD, ↓w_eOfM, ↓w_mNew, ↓w_mDisp, ↓w_mDispT, ↓s_sSetM, ↓w_vDic, ↓w_eGetV, ↓w_eGetXV, ↓w_cInV, ↓s_sPutV, ↓w_eGetX, ↓w_iKeysD, ↓w_iItemsD, lookM, ↓z_add_i, ↓z_add_s, ↓z_add_t, ↓z_sub, ↓z_mul_i, ↓z_mul_s, ↓z_div, ↓z_mod, ↓z_pow, ↓z_neg, ↓z_eq_i, ↓z_eq_s, ↓z_eq_b, ↓z_eq_l, ↓z_eq_t, ↓z_ne_i, ↓z_ne_s, ↓z_ne_b, ↓z_ne_l, ↓z_ne_t, ↓z_eq_ns, ↓z_eq_sn, ↓z_ne_ns, ↓z_ne_sn, ↓z_lt, ↓z_le, ↓z_gt, ↓z_ge, ↓z_idx_l, ↓z_idx_t, ↓z_idx_r, ↓z_idx_s, ↓z_len_s, ↓z_len_l, ↓z_len_t, ↓z_len_r, ↓z_abs, ↓z_min2, ↓z_max2, ↓z_int_i, ↓z_int_b, ↓z_cut_s, ↓z_cut_t, ↓z_gcut, ↓z_rev, ↓z_grev, ↓z_gadd, ↓z_gmul, ↓z_list_l, ↓z_list_t, ↓z_list_s, ↓z_tuple_l, ↓z_tuple_t, ↓z_all, ↓z_any, ↓z_sum, ↓z_maxl, ↓z_minl, ↓z_rfind, ↓z_join_l, ↓z_join_t, ↓z_in_s, ↓z_nin_s, ↓z_in_t, ↓z_nin_t, ↓z_in_l, ↓z_nin_l, ↓z_items_l, ↓z_items_t, ↓z_items_r, ↓z_items_s, ↓z_isi_s, ↓z_isi_i, ↓z_isi_b, ↓z_isi_n, ↓z_isi_l, ↓z_isi_t, ↓z_isi_r, ↓z_ty_s, ↓z_ty_i, ↓z_ty_b, ↓z_ty_n, ↓z_ty_l, ↓z_ty_t, ↓z_k_ss, ↓z_k_ii, ↓z_k_ib, ↓z_k_tt, ↓z_k_ll, flatD, pVar, ↓ho_ite, ↓z_lset_l, ↓z_lset_t, ↓z_rg2, ↓z_rg1, ↓z_is_nn, ↓z_is_tn, ↓z_is_ln, ↓z_is_sn, ↓z_is_in, ↓z_is_bb, ↓z_isn_nn, ↓z_isn_tn, ↓z_isn_ln, ↓z_isn_sn, ↓z_isn_in, ↓z_isn_bb, ↓z_ne_nn, ↓z_eq_nn, ↓z_k_bb, ↓z_seq_l, ↓z_zip_l, ↓z_zip_t, ↓z_ltD_i, ↓z_gtD_i, ↓z_leD_i, ↓z_geD_i, ↓z_ltD_s, ↓z_gtD_s, ↓z_ltD_t, ↓z_gtD_t, ↓z_mulT, ↓z_getD, ↓z_lenD, ↓z_keysL, ↓z_valsL, ↓z_sset_l, ↓z_sortD, ↓z_minDs, hn, hb, atI, ixN]
  split
  · exact q _ _ e1 e2 ⟨_, _, rfl, e3, h2, h3⟩
  · exact ⟨.inr (by decide), sm_ok (by omega) (by omega), q _ _ (Int.emod_nonneg _ (by omega)) (Int.emod_lt_of_pos _ hn) ⟨_, _, rfl, h1, by omega, by omega⟩⟩
theorem law_choice {src : List D} {ds : List D} {Q : D × List D → Prop} (hs : Src src) (hn : ds ≠ []) (hb : ds.length ≤ 1000) (q : ∀ d s', d ∈ ds → Src s' → Q (d, s')) : ho (m__law_choice src [.lst ds]) Q := by
  unfold m__law_choice g__law_choice
  have hl : 0 < ds.length := List.length_pos_iff.mpr hn
  simp [↓w_eVar, ↓w_eC, ↓w_eUn, ↓w_eUnX, ↓w_eBin, ↓w_eM1, ↓w_oBin, ↓w_oUn, ↓w_eOfO, ↓w_eNil, ↓w_eCons, ↓w_eTup, ↓w_oLst, ↓w_eCall, ↓w_oCall, ↓w_cT, ↓w_cNot, ↓w_cAnd, ↓w_cOr, ↓w_cYes, ↓w_eAndV, ↓w_eOrV, ↓w_eNotV, ↓w_eIf, ↓w_eOwnIdx, ↓w_qNone, ↓w_qSome, ↓w_eCut, ↓w_oCut, ↓w_eChain, ↓w_iAny, ↓w_iRange1, ↓w_iRange2, ↓w_iRange3, ↓w_eCallS, ↓w_oComp, ↓w_bName, ↓w_bNil, ↓w_bCons, ↓w_bTup, ↓s_sNil, ↓s_sSeq, ↓s_sNever, ↓s_sBreak, ↓s_sCont, ↓s_sIf, ↓s_sDrop, ↓s_sRet, ↓s_sRetN, ↓s_sRetO, ↓s_sRetV, ↓s_sSet, ↓s_sSetO, ↓s_sUnpack, ↓s_sParD, ↓w_setD_nil, ↓w_setD_cons, ↓w_vDat, ↓w_vOwn, ↓s_sPar2, ↓s_sAppend, ↓s_sSetIx, ↓s_sFor, ↓ho_mA, ↓ho_mO, ↓ho_mB, frame, ↓seqO_nx, ↓seqO_rt, ↓seqO_bk, ↓seqO_ct, ↓lpO_nx, ↓lpO_rt, ↓lpO_bk, ↓lpO_ct, ↓wsF, ↓wlF, ↓whF, backR, wipeR, datSlot, strsD_signs, join_signs, sum_ones2, ↓w_eOwnBin, ownAt, ↓w_eP, ↓w_eBinX, ↓w_eTupleP, ↓w_iEnumD, ↓w_iZipD, ↓w_eOfM, ↓w_mNew, ↓w_mDisp, ↓w_mDispT, ↓s_sSetM, ↓w_vDic, ↓w_eGetV, ↓w_eGetXV, ↓w_cInV, ↓s_sPutV, ↓w_eGetX, ↓w_iKeysD, ↓w_iItemsD, lookM, ↓z_add_i, ↓z_add_s, ↓z_add_t, ↓z_sub, ↓z_mul_i, ↓z_mul_s, ↓z_div, ↓z_mod, ↓z_pow, ↓z_neg, ↓z_eq_i, ↓z_eq_s, ↓z_eq_b, ↓z_eq_l, ↓z_eq_t, ↓z_ne_i, ↓z_ne_s, ↓z_ne_b, ↓z_ne_l, ↓z_ne_t, ↓z_eq_ns, ↓z_eq_sn, ↓z_ne_ns, ↓z_ne_sn, ↓z_lt, ↓z_le, ↓z_gt, ↓z_ge, ↓z_idx_l, ↓z_idx_t, ↓z_idx_r, ↓z_idx_s, ↓z_len_s, ↓z_len_l, ↓z_len_t, ↓z_len_r, ↓z_abs, ↓z_min2, ↓z_max2, ↓z_int_i, ↓z_int_b, ↓z_cut_s, ↓z_cut_t, ↓z_gcut, ↓z_rev, ↓z_grev, ↓z_gadd, ↓z_gmul, ↓z_list_l, ↓z_list_t, ↓z_list_s, ↓z_tuple_l, ↓z_tuple_t, ↓z_all, ↓z_any, ↓z_sum, ↓z_maxl, ↓z_minl, ↓z_rfind, ↓z_join_l, ↓z_join_t, ↓z_in_s, ↓z_nin_s, ↓z_in_t, ↓z_nin_t, ↓z_in_l, ↓z_nin_l, ↓z_items_l, ↓z_items_t, ↓z_items_r, ↓z_items_s, ↓z_isi_s, ↓z_isi_i, ↓z_isi_b, ↓z_isi_n, ↓z_isi_l, ↓z_isi_t, ↓z_isi_r, ↓z_ty_s, ↓z_ty_i, ↓z_ty_b, ↓z_ty_n, ↓z_ty_l, ↓z_ty_t, ↓z_k_ss, ↓z_k_ii, ↓z_k_ib, ↓z_k_tt, ↓z_k_ll, flatD, pVar, ↓ho_ite, ↓z_lset_l, ↓z_lset_t, ↓z_rg2, ↓z_rg1, ↓z_is_nn, ↓z_is_tn, ↓z_is_ln, ↓z_is_sn, ↓z_is_in, ↓z_is_bb, ↓z_isn_nn, ↓z_isn_tn, ↓z_isn_ln, ↓z_isn_sn, ↓z_isn_in, ↓z_isn_bb, ↓z_ne_nn, ↓z_eq_nn, ↓z_k_bb, ↓z_seq_l, ↓z_zip_l, ↓z_zip_t, ↓z_ltD_i, ↓z_gtD_i, ↓z_leD_i, ↓z_geD_i, ↓z_ltD_s, ↓z_gtD_s, ↓z_ltD_t, ↓z_gtD_t, ↓z_mulT, ↓z_getD, ↓z_lenD, ↓z_keysL, ↓z_valsL, ↓z_sset_l, ↓z_sortD, ↓z_minDs, ↓frz (m__law_draw _ _)]
  refine law_draw hs (n := ds.length) (by omega) (by omega) fun r s' h1 h2 h3 => ?_
  simp [↓w_eVar, ↓w_eC, ↓w_eUn, ↓w_eUnX, ↓w_eBin, ↓w_eM1, ↓w_oBin, ↓w_oUn, ↓w_eOfO, ↓w_eNil, ↓w_eCons, ↓w_eTup, ↓w_oLst, ↓w_eCall, ↓w_oCall, ↓w_cT, ↓w_cNot, ↓w_cAnd, ↓w_cOr, ↓w_cYes, ↓w_eAndV, ↓w_eOrV, ↓w_eNotV, ↓w_eIf, ↓w_eOwnIdx, ↓w_qNone, ↓w_qSome, ↓w_eCut, ↓w_oCut, ↓w_eChain, ↓w_iAny, ↓w_iRange1, ↓w_iRange2, ↓w_iRange3, ↓w_eCallS, ↓w_oComp, ↓w_bName, ↓w_bNil, ↓w_bCons, ↓w_bTup, ↓s_sNil, ↓s_sSeq, ↓s_sNever, ↓s_sBreak, ↓s_sCont, ↓s_sIf, ↓s_sDrop, ↓s_sRet, ↓s_sRetN, ↓s_sRetO, ↓s_sRetV, ↓s_sSet, ↓s_sSetO, ↓s_sUnpack, ↓s_sParD, ↓w_setD_nil, ↓w_setD_cons, ↓w_vDat, ↓w_vOwn, ↓s_sPar2, ↓s_sAppend, ↓s_sSetIx, ↓s_sFor, ↓ho_mA, ↓ho_mO, ↓ho_mB, frame, ↓seqO_nx, ↓seqO_rt, ↓seqO_bk, ↓seqO_ct, ↓lpO_nx, ↓lpO_rt, ↓lpO_bk, ↓lpO_ct, ↓wsF, ↓wlF, ↓whF, backR, wipeR, datSlot, strsD_signs, join_signs, sum_ones2, ↓w_eOwnBin, ownAt, ↓w_eP, ↓w_eBinX, ↓w_eTupleP, ↓w_iEnumD, ↓w_iZipD, ↓w_eOfM, ↓w_mNew, ↓w_mDisp, ↓w_mDispT, ↓s_sSetM, ↓w_vDic, ↓w_eGetV, ↓w_eGetXV, ↓w_cInV, ↓s_sPutV, ↓w_eGetX, ↓w_iKeysD, ↓w_iItemsD, lookM, ↓z_add_i, ↓z_add_s, ↓z_add_t, ↓z_sub, ↓z_mul_i, ↓z_mul_s, ↓z_div, ↓z_mod, ↓z_pow, ↓z_neg, ↓z_eq_i, ↓z_eq_s, ↓z_eq_b, ↓z_eq_l, ↓z_eq_t, ↓z_ne_i, ↓z_ne_s, ↓z_ne_b, ↓z_ne_l, ↓z_ne_t, ↓z_eq_ns, ↓z_eq_sn, ↓z_ne_ns, ↓z_ne_sn, ↓z_lt, ↓z_le, ↓z_gt, ↓z_ge, ↓z_idx_l, ↓z_idx_t, ↓z_idx_r, ↓z_idx_s, ↓z_len_s, ↓z_len_l, ↓z_len_t, ↓z_len_r, ↓z_abs, ↓z_min2, ↓z_max2, ↓z_int_i, ↓z_int_b, ↓z_cut_s, ↓z_cut_t, ↓z_gcut, ↓z_rev, ↓z_grev, ↓z_gadd, ↓z_gmul, ↓z_list_l, ↓z_list_t, ↓z_list_s, ↓z_tuple_l, ↓z_tuple_t, ↓z_all, ↓z_any, ↓z_sum, ↓z_maxl, ↓z_minl, ↓z_rfind, ↓z_join_l, ↓z_join_t, ↓z_in_s, ↓z_nin_s, ↓z_in_t, ↓z_nin_t, ↓z_in_l, ↓z_nin_l, ↓z_items_l, ↓z_items_t, ↓z_items_r, ↓z_items_s, ↓z_isi_s, ↓z_isi_i, ↓z_isi_b, ↓z_isi_n, ↓z_isi_l, ↓z_isi_t, ↓z_isi_r, ↓z_ty_s, ↓z_ty_i, ↓z_ty_b, ↓z_ty_n, ↓z_ty_l, ↓z_ty_t, ↓z_k_ss, ↓z_k_ii, ↓z_k_ib, ↓z_k_tt, ↓z_k_ll, flatD, pVar, ↓ho_ite, ↓z_lset_l, ↓z_lset_t, ↓z_rg2, ↓z_rg1, ↓z_is_nn, ↓z_is_tn, ↓z_is_ln, ↓z_is_sn, ↓z_is_in, ↓z_is_bb, ↓z_isn_nn, ↓z_isn_tn, ↓z_isn_ln, ↓z_isn_sn, ↓z_isn_in, ↓z_isn_bb, ↓z_ne_nn, ↓z_eq_nn, ↓z_k_bb, ↓z_seq_l, ↓z_zip_l, ↓z_zip_t, ↓z_ltD_i, ↓z_gtD_i, ↓z_leD_i, ↓z_geD_i, ↓z_ltD_s, ↓z_gtD_s, ↓z_ltD_t, ↓z_gtD_t, ↓z_mulT, ↓z_getD, ↓z_lenD, ↓z_keysL, ↓z_valsL, ↓z_sset_l, ↓z_sortD, ↓z_minDs, atI_pos h1]
  have : r.toNat < ds.length := by omega
  rw [List.getElem?_eq_getElem this]
  exact q _ _ (List.getElem_mem _) h3
theorem law_source {ns : List Int} {k : Int} (hk : 0 ≤ k) (hk2 : k ≤ 1000) : ho (m__law_source [scr ns, .int k]) Src := by
  unfold m__law_source g__law_source scr
  have key : ∀ c : Int, 0 ≤ c → (if c < 1000000000000000000 then ((PD.small64 c = true ∨ PD.small64 7919 = true) ∧ (PD.small64 104729 = true ∨ PD.small64 k = true) ∧ Src [.int 0, .int (1 + (c * 7919 + 104729 * k) % 2147483646)]) else Src [.int c, .int (1 + (c + k) % 2147483646)]) := by
    intro c hc
    have := Int.emod_nonneg (c * 7919 + 104729 * k) (b := 2147483646) (by omega)
    have := Int.emod_lt_of_pos (c * 7919 + 104729 * k) (b := 2147483646) (by omega)
    have := Int.emod_nonneg (c + k) (b := 2147483646) (by omega)
    have := Int.emod_lt_of_pos (c + k) (b := 2147483646) (by omega)
    split
    · exact ⟨.inr (by decide), .inl (by decide), _, _, rfl, by omega, by omega, by omega⟩
    · exact ⟨_, _, rfl, by omega, by omega, by omega⟩
  simp [↓w_eVar, ↓w_eC, ↓w_eUn, ↓w_eUnX, ↓w_eBin, ↓w_eM1, ↓w_oBin, ↓w_oUn, ↓w_eOfO, ↓w_eNil, ↓w_eCons, ↓w_eTup, ↓w_oLst, ↓w_eCall, ↓w_oCall, ↓w_cT, ↓w_cNot, ↓w_cAnd, ↓w_cOr, ↓w_cYes, ↓w_eAndV, ↓w_eOrV, ↓w_eNotV, ↓w_eIf, ↓w_eOwnIdx, ↓w_qNone, ↓w_qSome, ↓w_eCut, ↓w_oCut, ↓w_eChain, ↓w_iAny, ↓w_iRange1, ↓w_iRange2, ↓w_iRange3, ↓w_eCallS, ↓w_oComp, ↓w_bName, ↓w_bNil, ↓w_bCons, ↓w_bTup, ↓s_sNil, ↓s_sSeq, ↓s_sNever, ↓s_sBreak, ↓s_sCont, ↓s_sIf, ↓s_sDrop, ↓s_sRet, ↓s_sRetN, ↓s_sRetO, ↓s_sRetV, ↓s_sSet, ↓s_sSetO, ↓s_sUnpack, ↓s_sParD, ↓w_setD_nil, ↓w_setD_cons, ↓w_vDat, ↓w_vOwn, ↓s_sPar2, ↓s_sAppend, ↓s_sSetIx, ↓s_sFor, ↓ho_mA, ↓ho_mO, ↓ho_mB, frame, ↓seqO_nx, ↓seqO_rt, ↓seqO_bk, ↓seqO_ct, ↓lpO_nx, ↓lpO_rt, ↓lpO_bk, ↓lpO_ct, ↓wsF, ↓wlF, ↓whF, backR, wipeR, datSlot, strsD_signs, join_signs, sum_ones2, ↓w_eOwnBin, ownAt, ↓w_eP, ↓w_eBinX, ↓w_eTupleP, ↓w_iEnumD, ↓w_iZipD, ↓w_eOfM, ↓w_mNew, ↓w_mDisp, ↓w_mDispT, ↓s_sSetM, ↓w_vDic, ↓w_eGetV, ↓w_eGetXV, ↓w_cInV, ↓s_sPutV, ↓w_eGetX, ↓w_iKeysD, ↓w_iItemsD, lookM, ↓z_add_i, ↓z_add_s, ↓z_add_t, ↓z_sub, ↓z_mul_i, ↓z_mul_s, ↓z_div, ↓z_mod, ↓z_pow, ↓z_neg, ↓z_eq_i, ↓z_eq_s, ↓z_eq_b, ↓z_eq_l, ↓z_eq_t, ↓z_ne_i, ↓z_ne_s, ↓z_ne_b, ↓z_ne_l, ↓z_ne_t, ↓z_eq_ns, ↓z_eq_sn, ↓z_ne_ns, ↓z_ne_sn, ↓z_lt, ↓z_le, ↓z_gt, ↓z_ge, ↓z_idx_l, ↓z_idx_t, ↓z_idx_r, ↓z_idx_s, ↓z_len_s, ↓z_len_l, ↓z_len_t, ↓z_len_r, ↓z_abs, ↓z_min2, ↓z_max2, ↓z_int_i, ↓z_int_b, ↓z_cut_s, ↓z_cut_t, ↓z_gcut, ↓z_rev, ↓z_grev, ↓z_gadd, ↓z_gmul, ↓z_list_l, ↓z_list_t, ↓z_list_s, ↓z_tuple_l, ↓z_tuple_t, ↓z_all, ↓z_any, ↓z_sum, ↓z_maxl, ↓z_minl, ↓z_rfind, ↓z_join_l, ↓z_join_t, ↓z_in_s, ↓z_nin_s, ↓z_in_t, ↓z_nin_t, ↓z_in_l, ↓z_nin_l, ↓z_items_l, ↓z_items_t, ↓z_items_r, ↓z_items_s, ↓z_isi_s, ↓z_isi_i, ↓z_isi_b, ↓z_isi_n, ↓z_isi_l, ↓z_isi_t, ↓z_isi_r, ↓z_ty_s, ↓z_ty_i, ↓z_ty_b, ↓z_ty_n, ↓z_ty_l, ↓z_ty_t, ↓z_k_ss, ↓z_k_ii, ↓z_k_ib, ↓z_k_tt, ↓z_k_ll, flatD, pVar, ↓ho_ite, ↓z_lset_l, ↓z_lset_t, ↓z_rg2, ↓z_rg1, ↓z_is_nn, ↓z_is_tn, ↓z_is_ln, ↓z_is_sn, ↓z_is_in, ↓z_is_bb, ↓z_isn_nn, ↓z_isn_tn, ↓z_isn_ln, ↓z_isn_sn, ↓z_isn_in, ↓z_isn_bb, ↓z_ne_nn, ↓z_eq_nn, ↓z_k_bb, ↓z_seq_l, ↓z_zip_l, ↓z_zip_t, ↓z_ltD_i, ↓z_gtD_i, ↓z_leD_i, ↓z_geD_i, ↓z_ltD_s, ↓z_gtD_s, ↓z_ltD_t, ↓z_gtD_t, ↓z_mulT, ↓z_getD, ↓z_lenD, ↓z_keysL, ↓z_valsL, ↓z_sset_l, ↓z_sortD, ↓z_minDs]
  split
  · rename_i h
    rw [atI_pos hk]
    have h9 : k.toNat < ns.length := by omega
    simp only [List.getElem?_map, List.getElem?_eq_getElem h9, Option.map_some]
    simp [↓w_eVar, ↓w_eC, ↓w_eUn, ↓w_eUnX, ↓w_eBin, ↓w_eM1, ↓w_oBin, ↓w_oUn, ↓w_eOfO, ↓w_eNil, ↓w_eCons, ↓w_eTup, ↓w_oLst, ↓w_eCall, ↓w_oCall, ↓w_cT, ↓w_cNot, ↓w_cAnd, ↓w_cOr, ↓w_cYes, ↓w_eAndV, ↓w_eOrV, ↓w_eNotV, ↓w_eIf, ↓w_eOwnIdx, ↓w_qNone, ↓w_qSome, ↓w_eCut, ↓w_oCut, ↓w_eChain, ↓w_iAny, ↓w_iRange1, ↓w_iRange2, ↓w_iRange3, ↓w_eCallS, ↓w_oComp, ↓w_bName, ↓w_bNil, ↓w_bCons, ↓w_bTup, ↓s_sNil, ↓s_sSeq, ↓s_sNever, ↓s_sBreak, ↓s_sCont, ↓s_sIf, ↓s_sDrop, ↓s_sRet, ↓s_sRetN, ↓s_sRetO, ↓s_sRetV, ↓s_sSet, ↓s_sSetO, ↓s_sUnpack, ↓s_sParD, ↓w_setD_nil, ↓w_setD_cons, ↓w_vDat, ↓w_vOwn, ↓s_sPar2, ↓s_sAppend, ↓s_sSetIx, ↓s_sFor, ↓ho_mA, ↓ho_mO, ↓ho_mB, frame, ↓seqO_nx, ↓seqO_rt, ↓seqO_bk, ↓seqO_ct, ↓lpO_nx, ↓lpO_rt, ↓lpO_bk, ↓lpO_ct, ↓wsF, ↓wlF, ↓whF, backR, wipeR, datSlot, strsD_signs, join_signs, sum_ones2, ↓w_eOwnBin, ownAt, ↓w_eP, ↓w_eBinX, ↓w_eTupleP, ↓w_iEnumD, ↓w_iZipD, ↓w_eOfM, ↓w_mNew, ↓w_mDisp, ↓w_mDispT, ↓s_sSetM, ↓w_vDic, ↓w_eGetV, ↓w_eGetXV, ↓w_cInV, ↓s_sPutV, ↓w_eGetX, ↓w_iKeysD, ↓w_iItemsD, lookM, ↓z_add_i, ↓z_add_s, ↓z_add_t, ↓z_sub, ↓z_mul_i, ↓z_mul_s, ↓z_div, ↓z_mod, ↓z_pow, ↓z_neg, ↓z_eq_i, ↓z_eq_s, ↓z_eq_b, ↓z_eq_l, ↓z_eq_t, ↓z_ne_i, ↓z_ne_s, ↓z_ne_b, ↓z_ne_l, ↓z_ne_t, ↓z_eq_ns, ↓z_eq_sn, ↓z_ne_ns, ↓z_ne_sn, ↓z_lt, ↓z_le, ↓z_gt, ↓z_ge, ↓z_idx_l, ↓z_idx_t, ↓z_idx_r, ↓z_idx_s, ↓z_len_s, ↓z_len_l, ↓z_len_t, ↓z_len_r, ↓z_abs, ↓z_min2, ↓z_max2, ↓z_int_i, ↓z_int_b, ↓z_cut_s, ↓z_cut_t, ↓z_gcut, ↓z_rev, ↓z_grev, ↓z_gadd, ↓z_gmul, ↓z_list_l, ↓z_list_t, ↓z_list_s, ↓z_tuple_l, ↓z_tuple_t, ↓z_all, ↓z_any, ↓z_sum, ↓z_maxl, ↓z_minl, ↓z_rfind, ↓z_join_l, ↓z_join_t, ↓z_in_s, ↓z_nin_s, ↓z_in_t, ↓z_nin_t, ↓z_in_l, ↓z_nin_l, ↓z_items_l, ↓z_items_t, ↓z_items_r, ↓z_items_s, ↓z_isi_s, ↓z_isi_i, ↓z_isi_b, ↓z_isi_n, ↓z_isi_l, ↓z_isi_t, ↓z_isi_r, ↓z_ty_s, ↓z_ty_i, ↓z_ty_b, ↓z_ty_n, ↓z_ty_l, ↓z_ty_t, ↓z_k_ss, ↓z_k_ii, ↓z_k_ib, ↓z_k_tt, ↓z_k_ll, flatD, pVar, ↓ho_ite, ↓z_lset_l, ↓z_lset_t, ↓z_rg2, ↓z_rg1, ↓z_is_nn, ↓z_is_tn, ↓z_is_ln, ↓z_is_sn, ↓z_is_in, ↓z_is_bb, ↓z_isn_nn, ↓z_isn_tn, ↓z_isn_ln, ↓z_isn_sn, ↓z_isn_in, ↓z_isn_bb, ↓z_ne_nn, ↓z_eq_nn, ↓z_k_bb, ↓z_seq_l, ↓z_zip_l, ↓z_zip_t, ↓z_ltD_i, ↓z_gtD_i, ↓z_leD_i, ↓z_geD_i, ↓z_ltD_s, ↓z_gtD_s, ↓z_ltD_t, ↓z_gtD_t, ↓z_mulT, ↓z_getD, ↓z_lenD, ↓z_keysL, ↓z_valsL, ↓z_sset_l, ↓z_sortD, ↓z_minDs]
    refine key _ ?_
    split <;> omega
  · have := key 0 (by omega)
    simpa using this
theorem fz_draw {s d : List D} {Q : D × List D → Prop} : ho (m__law_draw s d) Q = @Frz _ (m__law_draw s d) ⟨Q⟩ := rfl
theorem fz_choice {s d : List D} {Q : D × List D → Prop} : ho (m__law_choice s d) Q = @Frz _ (m__law_choice s d) ⟨Q⟩ := rfl

theorem law_way {src : List D} {Q : D × List D → Prop} (hs : Src src) (q : ∀ d s', Way d → Src s' → Q (d, s')) : ho (m__law_way src []) Q := by
  unfold m__law_way g__law_way
  simp [↓w_eVar, ↓w_eC, ↓w_eUn, ↓w_eUnX, ↓w_eBin, ↓w_eM1, ↓w_oBin, ↓w_oUn, ↓w_eOfO, ↓w_eNil, ↓w_eCons, ↓w_eTup, ↓w_oLst, ↓w_eCall, ↓w_oCall, ↓w_cT, ↓w_cNot, ↓w_cAnd, ↓w_cOr, ↓w_cYes, ↓w_eAndV, ↓w_eOrV, ↓w_eNotV, ↓w_eIf, ↓w_eOwnIdx, ↓w_qNone, ↓w_qSome, ↓w_eCut, ↓w_oCut, ↓w_eChain, ↓w_iAny, ↓w_iRange1, ↓w_iRange2, ↓w_iRange3, ↓w_eCallS, ↓w_oComp, ↓w_bName, ↓w_bNil, ↓w_bCons, ↓w_bTup, ↓s_sNil, ↓s_sSeq, ↓s_sNever, ↓s_sBreak, ↓s_sCont, ↓s_sIf, ↓s_sDrop, ↓s_sRet, ↓s_sRetN, ↓s_sRetO, ↓s_sRetV, ↓s_sSet, ↓s_sSetO, ↓s_sUnpack, ↓s_sParD, ↓w_setD_nil, ↓w_setD_cons, ↓w_vDat, ↓w_vOwn, ↓s_sPar2, ↓s_sAppend, ↓s_sSetIx, ↓s_sFor, ↓ho_mA, ↓ho_mO, ↓ho_mB, frame, ↓seqO_nx, ↓seqO_rt, ↓seqO_bk, ↓seqO_ct, ↓lpO_nx, ↓lpO_rt, ↓lpO_bk, ↓lpO_ct, ↓wsF, ↓wlF, ↓whF, backR, wipeR, datSlot, strsD_signs, join_signs, sum_ones2, ↓w_eOwnBin, ownAt, ↓w_eP, ↓w_eBinX, ↓w_eTupleP, ↓w_iEnumD, ↓w_iZipD, ↓w_eOfM, ↓w_mNew, ↓w_mDisp, ↓w_mDispT, ↓s_sSetM, ↓w_vDic, ↓w_eGetV, ↓w_eGetXV, ↓w_cInV, ↓s_sPutV, ↓w_eGetX, ↓w_iKeysD, ↓w_iItemsD, lookM, ↓z_add_i, ↓z_add_s, ↓z_add_t, ↓z_sub, ↓z_mul_i, ↓z_mul_s, ↓z_div, ↓z_mod, ↓z_pow, ↓z_neg, ↓z_eq_i, ↓z_eq_s, ↓z_eq_b, ↓z_eq_l, ↓z_eq_t, ↓z_ne_i, ↓z_ne_s, ↓z_ne_b, ↓z_ne_l, ↓z_ne_t, ↓z_eq_ns, ↓z_eq_sn, ↓z_ne_ns, ↓z_ne_sn, ↓z_lt, ↓z_le, ↓z_gt, ↓z_ge, ↓z_idx_l, ↓z_idx_t, ↓z_idx_r, ↓z_idx_s, ↓z_len_s, ↓z_len_l, ↓z_len_t, ↓z_len_r, ↓z_abs, ↓z_min2, ↓z_max2, ↓z_int_i, ↓z_int_b, ↓z_cut_s, ↓z_cut_t, ↓z_gcut, ↓z_rev, ↓z_grev, ↓z_gadd, ↓z_gmul, ↓z_list_l, ↓z_list_t, ↓z_list_s, ↓z_tuple_l, ↓z_tuple_t, ↓z_all, ↓z_any, ↓z_sum, ↓z_maxl, ↓z_minl, ↓z_rfind, ↓z_join_l, ↓z_join_t, ↓z_in_s, ↓z_nin_s, ↓z_in_t, ↓z_nin_t, ↓z_in_l, ↓z_nin_l, ↓z_items_l, ↓z_items_t, ↓z_items_r, ↓z_items_s, ↓z_isi_s, ↓z_isi_i, ↓z_isi_b, ↓z_isi_n, ↓z_isi_l, ↓z_isi_t, ↓z_isi_r, ↓z_ty_s, ↓z_ty_i, ↓z_ty_b, ↓z_ty_n, ↓z_ty_l, ↓z_ty_t, ↓z_k_ss, ↓z_k_ii, ↓z_k_ib, ↓z_k_tt, ↓z_k_ll, flatD, pVar, ↓ho_ite, ↓z_lset_l, ↓z_lset_t, ↓z_rg2, ↓z_rg1, ↓z_is_nn, ↓z_is_tn, ↓z_is_ln, ↓z_is_sn, ↓z_is_in, ↓z_is_bb, ↓z_isn_nn, ↓z_isn_tn, ↓z_isn_ln, ↓z_isn_sn, ↓z_isn_in, ↓z_isn_bb, ↓z_ne_nn, ↓z_eq_nn, ↓z_k_bb, ↓z_seq_l, ↓z_zip_l, ↓z_zip_t, ↓z_ltD_i, ↓z_gtD_i, ↓z_leD_i, ↓z_geD_i, ↓z_ltD_s, ↓z_gtD_s, ↓z_ltD_t, ↓z_gtD_t, ↓z_mulT, ↓z_getD, ↓z_lenD, ↓z_keysL, ↓z_valsL, ↓z_sset_l, ↓z_sortD, ↓z_minDs, ↓fz_choice]
  refine law_choice hs (by simp) (by simp) fun d1 s1 k1 h1 => ?_
  simp [↓w_eVar, ↓w_eC, ↓w_eUn, ↓w_eUnX, ↓w_eBin, ↓w_eM1, ↓w_oBin, ↓w_oUn, ↓w_eOfO, ↓w_eNil, ↓w_eCons, ↓w_eTup, ↓w_oLst, ↓w_eCall, ↓w_oCall, ↓w_cT, ↓w_cNot, ↓w_cAnd, ↓w_cOr, ↓w_cYes, ↓w_eAndV, ↓w_eOrV, ↓w_eNotV, ↓w_eIf, ↓w_eOwnIdx, ↓w_qNone, ↓w_qSome, ↓w_eCut, ↓w_oCut, ↓w_eChain, ↓w_iAny, ↓w_iRange1, ↓w_iRange2, ↓w_iRange3, ↓w_eCallS, ↓w_oComp, ↓w_bName, ↓w_bNil, ↓w_bCons, ↓w_bTup, ↓s_sNil, ↓s_sSeq, ↓s_sNever, ↓s_sBreak, ↓s_sCont, ↓s_sIf, ↓s_sDrop, ↓s_sRet, ↓s_sRetN, ↓s_sRetO, ↓s_sRetV, ↓s_sSet, ↓s_sSetO, ↓s_sUnpack, ↓s_sParD, ↓w_setD_nil, ↓w_setD_cons, ↓w_vDat, ↓w_vOwn, ↓s_sPar2, ↓s_sAppend, ↓s_sSetIx, ↓s_sFor, ↓ho_mA, ↓ho_mO, ↓ho_mB, frame, ↓seqO_nx, ↓seqO_rt, ↓seqO_bk, ↓seqO_ct, ↓lpO_nx, ↓lpO_rt, ↓lpO_bk, ↓lpO_ct, ↓wsF, ↓wlF, ↓whF, backR, wipeR, datSlot, strsD_signs, join_signs, sum_ones2, ↓w_eOwnBin, ownAt, ↓w_eP, ↓w_eBinX, ↓w_eTupleP, ↓w_iEnumD, ↓w_iZipD, ↓w_eOfM, ↓w_mNew, ↓w_mDisp, ↓w_mDispT, ↓s_sSetM, ↓w_vDic, ↓w_eGetV, ↓w_eGetXV, ↓w_cInV, ↓s_sPutV, ↓w_eGetX, ↓w_iKeysD, ↓w_iItemsD, lookM, ↓z_add_i, ↓z_add_s, ↓z_add_t, ↓z_sub, ↓z_mul_i, ↓z_mul_s, ↓z_div, ↓z_mod, ↓z_pow, ↓z_neg, ↓z_eq_i, ↓z_eq_s, ↓z_eq_b, ↓z_eq_l, ↓z_eq_t, ↓z_ne_i, ↓z_ne_s, ↓z_ne_b, ↓z_ne_l, ↓z_ne_t, ↓z_eq_ns, ↓z_eq_sn, ↓z_ne_ns, ↓z_ne_sn, ↓z_lt, ↓z_le, ↓z_gt, ↓z_ge, ↓z_idx_l, ↓z_idx_t, ↓z_idx_r, ↓z_idx_s, ↓z_len_s, ↓z_len_l, ↓z_len_t, ↓z_len_r, ↓z_abs, ↓z_min2, ↓z_max2, ↓z_int_i, ↓z_int_b, ↓z_cut_s, ↓z_cut_t, ↓z_gcut, ↓z_rev, ↓z_grev, ↓z_gadd, ↓z_gmul, ↓z_list_l, ↓z_list_t, ↓z_list_s, ↓z_tuple_l, ↓z_tuple_t, ↓z_all, ↓z_any, ↓z_sum, ↓z_maxl, ↓z_minl, ↓z_rfind, ↓z_join_l, ↓z_join_t, ↓z_in_s, ↓z_nin_s, ↓z_in_t, ↓z_nin_t, ↓z_in_l, ↓z_nin_l, ↓z_items_l, ↓z_items_t, ↓z_items_r, ↓z_items_s, ↓z_isi_s, ↓z_isi_i, ↓z_isi_b, ↓z_isi_n, ↓z_isi_l, ↓z_isi_t, ↓z_isi_r, ↓z_ty_s, ↓z_ty_i, ↓z_ty_b, ↓z_ty_n, ↓z_ty_l, ↓z_ty_t, ↓z_k_ss, ↓z_k_ii, ↓z_k_ib, ↓z_k_tt, ↓z_k_ll, flatD, pVar, ↓ho_ite, ↓z_lset_l, ↓z_lset_t, ↓z_rg2, ↓z_rg1, ↓z_is_nn, ↓z_is_tn, ↓z_is_ln, ↓z_is_sn, ↓z_is_in, ↓z_is_bb, ↓z_isn_nn, ↓z_isn_tn, ↓z_isn_ln, ↓z_isn_sn, ↓z_isn_in, ↓z_isn_bb, ↓z_ne_nn, ↓z_eq_nn, ↓z_k_bb, ↓z_seq_l, ↓z_zip_l, ↓z_zip_t, ↓z_ltD_i, ↓z_gtD_i, ↓z_leD_i, ↓z_geD_i, ↓z_ltD_s, ↓z_gtD_s, ↓z_ltD_t, ↓z_gtD_t, ↓z_mulT, ↓z_getD, ↓z_lenD, ↓z_keysL, ↓z_valsL, ↓z_sset_l, ↓z_sortD, ↓z_minDs, ↓fz_choice]
  refine law_choice h1 (by simp) (by simp) fun d2 s2 k2 h2 => ?_
  simp [↓w_eVar, ↓w_eC, ↓w_eUn, ↓w_eUnX, ↓w_eBin, ↓w_eM1, ↓w_oBin, ↓w_oUn, ↓w_eOfO, ↓w_eNil, ↓w_eCons, ↓w_eTup, ↓w_oLst, ↓w_eCall, ↓w_oCall, ↓w_cT, ↓w_cNot, ↓w_cAnd, ↓w_cOr, ↓w_cYes, ↓w_eAndV, ↓w_eOrV, ↓w_eNotV, ↓w_eIf, ↓w_eOwnIdx, ↓w_qNone, ↓w_qSome, ↓w_eCut, ↓w_oCut, ↓w_eChain, ↓w_iAny, ↓w_iRange1, ↓w_iRange2, ↓w_iRange3, ↓w_eCallS, ↓w_oComp, ↓w_bName, ↓w_bNil, ↓w_bCons, ↓w_bTup, ↓s_sNil, ↓s_sSeq, ↓s_sNever, ↓s_sBreak, ↓s_sCont, ↓s_sIf, ↓s_sDrop, ↓s_sRet, ↓s_sRetN, ↓s_sRetO, ↓s_sRetV, ↓s_sSet, ↓s_sSetO, ↓s_sUnpack, ↓s_sParD, ↓w_setD_nil, ↓w_setD_cons, ↓w_vDat, ↓w_vOwn, ↓s_sPar2, ↓s_sAppend, ↓s_sSetIx, ↓s_sFor, ↓ho_mA, ↓ho_mO, ↓ho_mB, frame, ↓seqO_nx, ↓seqO_rt, ↓seqO_bk, ↓seqO_ct, ↓lpO_nx, ↓lpO_rt, ↓lpO_bk, ↓lpO_ct, ↓wsF, ↓wlF, ↓whF, backR, wipeR, datSlot, strsD_signs, join_signs, sum_ones2, ↓w_eOwnBin, ownAt, ↓w_eP, ↓w_eBinX, ↓w_eTupleP, ↓w_iEnumD, ↓w_iZipD, ↓w_eOfM, ↓w_mNew, ↓w_mDisp, ↓w_mDispT, ↓s_sSetM, ↓w_vDic, ↓w_eGetV, ↓w_eGetXV, ↓w_cInV, ↓s_sPutV, ↓w_eGetX, ↓w_iKeysD, ↓w_iItemsD, lookM, ↓z_add_i, ↓z_add_s, ↓z_add_t, ↓z_sub, ↓z_mul_i, ↓z_mul_s, ↓z_div, ↓z_mod, ↓z_pow, ↓z_neg, ↓z_eq_i, ↓z_eq_s, ↓z_eq_b, ↓z_eq_l, ↓z_eq_t, ↓z_ne_i, ↓z_ne_s, ↓z_ne_b, ↓z_ne_l, ↓z_ne_t, ↓z_eq_ns, ↓z_eq_sn, ↓z_ne_ns, ↓z_ne_sn, ↓z_lt, ↓z_le, ↓z_gt, ↓z_ge, ↓z_idx_l, ↓z_idx_t, ↓z_idx_r, ↓z_idx_s, ↓z_len_s, ↓z_len_l, ↓z_len_t, ↓z_len_r, ↓z_abs, ↓z_min2, ↓z_max2, ↓z_int_i, ↓z_int_b, ↓z_cut_s, ↓z_cut_t, ↓z_gcut, ↓z_rev, ↓z_grev, ↓z_gadd, ↓z_gmul, ↓z_list_l, ↓z_list_t, ↓z_list_s, ↓z_tuple_l, ↓z_tuple_t, ↓z_all, ↓z_any, ↓z_sum, ↓z_maxl, ↓z_minl, ↓z_rfind, ↓z_join_l, ↓z_join_t, ↓z_in_s, ↓z_nin_s, ↓z_in_t, ↓z_nin_t, ↓z_in_l, ↓z_nin_l, ↓z_items_l, ↓z_items_t, ↓z_items_r, ↓z_items_s, ↓z_isi_s, ↓z_isi_i, ↓z_isi_b, ↓z_isi_n, ↓z_isi_l, ↓z_isi_t, ↓z_isi_r, ↓z_ty_s, ↓z_ty_i, ↓z_ty_b, ↓z_ty_n, ↓z_ty_l, ↓z_ty_t, ↓z_k_ss, ↓z_k_ii, ↓z_k_ib, ↓z_k_tt, ↓z_k_ll, flatD, pVar, ↓ho_ite, ↓z_lset_l, ↓z_lset_t, ↓z_rg2, ↓z_rg1, ↓z_is_nn, ↓z_is_tn, ↓z_is_ln, ↓z_is_sn, ↓z_is_in, ↓z_is_bb, ↓z_isn_nn, ↓z_isn_tn, ↓z_isn_ln, ↓z_isn_sn, ↓z_isn_in, ↓z_isn_bb, ↓z_ne_nn, ↓z_eq_nn, ↓z_k_bb, ↓z_seq_l, ↓z_zip_l, ↓z_zip_t, ↓z_ltD_i, ↓z_gtD_i, ↓z_leD_i, ↓z_geD_i, ↓z_ltD_s, ↓z_gtD_s, ↓z_ltD_t, ↓z_gtD_t, ↓z_mulT, ↓z_getD, ↓z_lenD, ↓z_keysL, ↓z_valsL, ↓z_sset_l, ↓z_sortD, ↓z_minDs, ↓fz_choice]
  refine law_choice h2 (by simp) (by simp) fun d3 s3 k3 h3 => ?_
  simp [↓w_eVar, ↓w_eC, ↓w_eUn, ↓w_eUnX, ↓w_eBin, ↓w_eM1, ↓w_oBin, ↓w_oUn, ↓w_eOfO, ↓w_eNil, ↓w_eCons, ↓w_eTup, ↓w_oLst, ↓w_eCall, ↓w_oCall, ↓w_cT, ↓w_cNot, ↓w_cAnd, ↓w_cOr, ↓w_cYes, ↓w_eAndV, ↓w_eOrV, ↓w_eNotV, ↓w_eIf, ↓w_eOwnIdx, ↓w_qNone, ↓w_qSome, ↓w_eCut, ↓w_oCut, ↓w_eChain, ↓w_iAny, ↓w_iRange1, ↓w_iRange2, ↓w_iRange3, ↓w_eCallS, ↓w_oComp, ↓w_bName, ↓w_bNil, ↓w_bCons, ↓w_bTup, ↓s_sNil, ↓s_sSeq, ↓s_sNever, ↓s_sBreak, ↓s_sCont, ↓s_sIf, ↓s_sDrop, ↓s_sRet, ↓s_sRetN, ↓s_sRetO, ↓s_sRetV, ↓s_sSet, ↓s_sSetO, ↓s_sUnpack, ↓s_sParD, ↓w_setD_nil, ↓w_setD_cons, ↓w_vDat, ↓w_vOwn, ↓s_sPar2, ↓s_sAppend, ↓s_sSetIx, ↓s_sFor, ↓ho_mA, ↓ho_mO, ↓ho_mB, frame, ↓seqO_nx, ↓seqO_rt, ↓seqO_bk, ↓seqO_ct, ↓lpO_nx, ↓lpO_rt, ↓lpO_bk, ↓lpO_ct, ↓wsF, ↓wlF, ↓whF, backR, wipeR, datSlot, strsD_signs, join_signs, sum_ones2, ↓w_eOwnBin, ownAt, ↓w_eP, ↓w_eBinX, ↓w_eTupleP, ↓w_iEnumD, ↓w_iZipD, ↓w_eOfM, ↓w_mNew, ↓w_mDisp, ↓w_mDispT, ↓s_sSetM, ↓w_vDic, ↓w_eGetV, ↓w_eGetXV, ↓w_cInV, ↓s_sPutV, ↓w_eGetX, ↓w_iKeysD, ↓w_iItemsD, lookM, ↓z_add_i, ↓z_add_s, ↓z_add_t, ↓z_sub, ↓z_mul_i, ↓z_mul_s, ↓z_div, ↓z_mod, ↓z_pow, ↓z_neg, ↓z_eq_i, ↓z_eq_s, ↓z_eq_b, ↓z_eq_l, ↓z_eq_t, ↓z_ne_i, ↓z_ne_s, ↓z_ne_b, ↓z_ne_l, ↓z_ne_t, ↓z_eq_ns, ↓z_eq_sn, ↓z_ne_ns, ↓z_ne_sn, ↓z_lt, ↓z_le, ↓z_gt, ↓z_ge, ↓z_idx_l, ↓z_idx_t, ↓z_idx_r, ↓z_idx_s, ↓z_len_s, ↓z_len_l, ↓z_len_t, ↓z_len_r, ↓z_abs, ↓z_min2, ↓z_max2, ↓z_int_i, ↓z_int_b, ↓z_cut_s, ↓z_cut_t, ↓z_gcut, ↓z_rev, ↓z_grev, ↓z_gadd, ↓z_gmul, ↓z_list_l, ↓z_list_t, ↓z_list_s, ↓z_tuple_l, ↓z_tuple_t, ↓z_all, ↓z_any, ↓z_sum, ↓z_maxl, ↓z_minl, ↓z_rfind, ↓z_join_l, ↓z_join_t, ↓z_in_s, ↓z_nin_s, ↓z_in_t, ↓z_nin_t, ↓z_in_l, ↓z_nin_l, ↓z_items_l, ↓z_items_t, ↓z_items_r, ↓z_items_s, ↓z_isi_s, ↓z_isi_i, ↓z_isi_b, ↓z_isi_n, ↓z_isi_l, ↓z_isi_t, ↓z_isi_r, ↓z_ty_s, ↓z_ty_i, ↓z_ty_b, ↓z_ty_n, ↓z_ty_l, ↓z_ty_t, ↓z_k_ss, ↓z_k_ii, ↓z_k_ib, ↓z_k_tt, ↓z_k_ll, flatD, pVar, ↓ho_ite, ↓z_lset_l, ↓z_lset_t, ↓z_rg2, ↓z_rg1, ↓z_is_nn, ↓z_is_tn, ↓z_is_ln, ↓z_is_sn, ↓z_is_in, ↓z_is_bb, ↓z_isn_nn, ↓z_isn_tn, ↓z_isn_ln, ↓z_isn_sn, ↓z_isn_in, ↓z_isn_bb, ↓z_ne_nn, ↓z_eq_nn, ↓z_k_bb, ↓z_seq_l, ↓z_zip_l, ↓z_zip_t, ↓z_ltD_i, ↓z_gtD_i, ↓z_leD_i, ↓z_geD_i, ↓z_ltD_s, ↓z_gtD_s, ↓z_ltD_t, ↓z_gtD_t, ↓z_mulT, ↓z_getD, ↓z_lenD, ↓z_keysL, ↓z_valsL, ↓z_sset_l, ↓z_sortD, ↓z_minDs, ↓fz_choice]
  refine law_choice h3 (by simp) (by simp) fun d4 s4 k4 h4 => ?_
  simp [↓w_eVar, ↓w_eC, ↓w_eUn, ↓w_eUnX, ↓w_eBin, ↓w_eM1, ↓w_oBin, ↓w_oUn, ↓w_eOfO, ↓w_eNil, ↓w_eCons, ↓w_eTup, ↓w_oLst, ↓w_eCall, ↓w_oCall, ↓w_cT, ↓w_cNot, ↓w_cAnd, ↓w_cOr, ↓w_cYes, ↓w_eAndV, ↓w_eOrV, ↓w_eNotV, ↓w_eIf, ↓w_eOwnIdx, ↓w_qNone, ↓w_qSome, ↓w_eCut, ↓w_oCut, ↓w_eChain, ↓w_iAny, ↓w_iRange1, ↓w_iRange2, ↓w_iRange3, ↓w_eCallS, ↓w_oComp, ↓w_bName, ↓w_bNil, ↓w_bCons, ↓w_bTup, ↓s_sNil, ↓s_sSeq, ↓s_sNever, ↓s_sBreak, ↓s_sCont, ↓s_sIf, ↓s_sDrop, ↓s_sRet, ↓s_sRetN, ↓s_sRetO, ↓s_sRetV, ↓s_sSet, ↓s_sSetO, ↓s_sUnpack, ↓s_sParD, ↓w_setD_nil, ↓w_setD_cons, ↓w_vDat, ↓w_vOwn, ↓s_sPar2, ↓s_sAppend, ↓s_sSetIx, ↓s_sFor, ↓ho_mA, ↓ho_mO, ↓ho_mB, frame, ↓seqO_nx, ↓seqO_rt, ↓seqO_bk, ↓seqO_ct, ↓lpO_nx, ↓lpO_rt, ↓lpO_bk, ↓lpO_ct, ↓wsF, ↓wlF, ↓whF, backR, wipeR, datSlot, strsD_signs, join_signs, sum_ones2, ↓w_eOwnBin, ownAt, ↓w_eP, ↓w_eBinX, ↓w_eTupleP, ↓w_iEnumD, ↓w_iZipD, ↓w_eOfM, ↓w_mNew, ↓w_mDisp, ↓w_mDispT, ↓s_sSetM, ↓w_vDic, ↓w_eGetV, ↓w_eGetXV, ↓w_cInV, ↓s_sPutV, ↓w_eGetX, ↓w_iKeysD, ↓w_iItemsD, lookM, ↓z_add_i, ↓z_add_s, ↓z_add_t, ↓z_sub, ↓z_mul_i, ↓z_mul_s, ↓z_div, ↓z_mod, ↓z_pow, ↓z_neg, ↓z_eq_i, ↓z_eq_s, ↓z_eq_b, ↓z_eq_l, ↓z_eq_t, ↓z_ne_i, ↓z_ne_s, ↓z_ne_b, ↓z_ne_l, ↓z_ne_t, ↓z_eq_ns, ↓z_eq_sn, ↓z_ne_ns, ↓z_ne_sn, ↓z_lt, ↓z_le, ↓z_gt, ↓z_ge, ↓z_idx_l, ↓z_idx_t, ↓z_idx_r, ↓z_idx_s, ↓z_len_s, ↓z_len_l, ↓z_len_t, ↓z_len_r, ↓z_abs, ↓z_min2, ↓z_max2, ↓z_int_i, ↓z_int_b, ↓z_cut_s, ↓z_cut_t, ↓z_gcut, ↓z_rev, ↓z_grev, ↓z_gadd, ↓z_gmul, ↓z_list_l, ↓z_list_t, ↓z_list_s, ↓z_tuple_l, ↓z_tuple_t, ↓z_all, ↓z_any, ↓z_sum, ↓z_maxl, ↓z_minl, ↓z_rfind, ↓z_join_l, ↓z_join_t, ↓z_in_s, ↓z_nin_s, ↓z_in_t, ↓z_nin_t, ↓z_in_l, ↓z_nin_l, ↓z_items_l, ↓z_items_t, ↓z_items_r, ↓z_items_s, ↓z_isi_s, ↓z_isi_i, ↓z_isi_b, ↓z_isi_n, ↓z_isi_l, ↓z_isi_t, ↓z_isi_r, ↓z_ty_s, ↓z_ty_i, ↓z_ty_b, ↓z_ty_n, ↓z_ty_l, ↓z_ty_t, ↓z_k_ss, ↓z_k_ii, ↓z_k_ib, ↓z_k_tt, ↓z_k_ll, flatD, pVar, ↓ho_ite, ↓z_lset_l, ↓z_lset_t, ↓z_rg2, ↓z_rg1, ↓z_is_nn, ↓z_is_tn, ↓z_is_ln, ↓z_is_sn, ↓z_is_in, ↓z_is_bb, ↓z_isn_nn, ↓z_isn_tn, ↓z_isn_ln, ↓z_isn_sn, ↓z_isn_in, ↓z_isn_bb, ↓z_ne_nn, ↓z_eq_nn, ↓z_k_bb, ↓z_seq_l, ↓z_zip_l, ↓z_zip_t, ↓z_ltD_i, ↓z_gtD_i, ↓z_leD_i, ↓z_geD_i, ↓z_ltD_s, ↓z_gtD_s, ↓z_ltD_t, ↓z_gtD_t, ↓z_mulT, ↓z_getD, ↓z_lenD, ↓z_keysL, ↓z_valsL, ↓z_sset_l, ↓z_sortD, ↓z_minDs, ↓fz_choice]
  refine q _ _ ?_ h4
  simp only [List.mem_cons, List.not_mem_nil, or_false] at k1 k2 k3 k4
  rcases k1 with rfl | rfl | rfl <;> rcases k2 with rfl | rfl <;> rcases k3 with rfl | rfl <;> rcases k4 with rfl | rfl | rfl <;> exact ⟨_, _, _, _, rfl, by simp, by simp, by simp, by simp⟩
theorem fz_way {s d : List D} {Q : D × List D → Prop} : ho (m__law_way s d) Q = @Frz _ (m__law_way s d) ⟨Q⟩ := rfl

theorem law_text {src : List D} {n : Nat} {Q : D × List D → Prop} (hs : Src src) (hn : n ≤ 1000) (q : ∀ d s', Text n d → Src s' → Q (d, s')) : ho (m__law_text src [.int n]) Q := by
  unfold m__law_text g__law_text
  simp [↓w_eVar, ↓w_eC, ↓w_eUn, ↓w_eUnX, ↓w_eBin, ↓w_eM1, ↓w_oBin, ↓w_oUn, ↓w_eOfO, ↓w_eNil, ↓w_eCons, ↓w_eTup, ↓w_oLst, ↓w_eCall, ↓w_oCall, ↓w_cT, ↓w_cNot, ↓w_cAnd, ↓w_cOr, ↓w_cYes, ↓w_eAndV, ↓w_eOrV, ↓w_eNotV, ↓w_eIf, ↓w_eOwnIdx, ↓w_qNone, ↓w_qSome, ↓w_eCut, ↓w_oCut, ↓w_eChain, ↓w_iAny, ↓w_iRange1, ↓w_iRange2, ↓w_iRange3, ↓w_eCallS, ↓w_oComp, ↓w_bName, ↓w_bNil, ↓w_bCons, ↓w_bTup, ↓s_sNil, ↓s_sSeq, ↓s_sNever, ↓s_sBreak, ↓s_sCont, ↓s_sIf, ↓s_sDrop, ↓s_sRet, ↓s_sRetN, ↓s_sRetO, ↓s_sRetV, ↓s_sSet, ↓s_sSetO, ↓s_sUnpack, ↓s_sParD, ↓w_setD_nil, ↓w_setD_cons, ↓w_vDat, ↓w_vOwn, ↓s_sPar2, ↓s_sAppend, ↓s_sSetIx, ↓s_sFor, ↓ho_mA, ↓ho_mO, ↓ho_mB, frame, ↓seqO_nx, ↓seqO_rt, ↓seqO_bk, ↓seqO_ct, ↓lpO_nx, ↓lpO_rt, ↓lpO_bk, ↓lpO_ct, ↓wsF, ↓wlF, ↓whF, backR, wipeR, datSlot, strsD_signs, join_signs, sum_ones2, ↓w_eOwnBin, ownAt, ↓w_eP, ↓w_eBinX, ↓w_eTupleP, ↓w_iEnumD, ↓w_iZipD, ↓w_eOfM, ↓w_mNew, ↓w_mDisp, ↓w_mDispT, ↓s_sSetM, ↓w_vDic, ↓w_eGetV, ↓w_eGetXV, ↓w_cInV, ↓s_sPutV, ↓w_eGetX, ↓w_iKeysD, ↓w_iItemsD, lookM, ↓z_add_i, ↓z_add_s, ↓z_add_t, ↓z_sub, ↓z_mul_i, ↓z_mul_s, ↓z_div, ↓z_mod, ↓z_pow, ↓z_neg, ↓z_eq_i, ↓z_eq_s, ↓z_eq_b, ↓z_eq_l, ↓z_eq_t, ↓z_ne_i, ↓z_ne_s, ↓z_ne_b, ↓z_ne_l, ↓z_ne_t, ↓z_eq_ns, ↓z_eq_sn, ↓z_ne_ns, ↓z_ne_sn, ↓z_lt, ↓z_le, ↓z_gt, ↓z_ge, ↓z_idx_l, ↓z_idx_t, ↓z_idx_r, ↓z_idx_s, ↓z_len_s, ↓z_len_l, ↓z_len_t, ↓z_len_r, ↓z_abs, ↓z_min2, ↓z_max2, ↓z_int_i, ↓z_int_b, ↓z_cut_s, ↓z_cut_t, ↓z_gcut, ↓z_rev, ↓z_grev, ↓z_gadd, ↓z_gmul, ↓z_list_l, ↓z_list_t, ↓z_list_s, ↓z_tuple_l, ↓z_tuple_t, ↓z_all, ↓z_any, ↓z_sum, ↓z_maxl, ↓z_minl, ↓z_rfind, ↓z_join_l, ↓z_join_t, ↓z_in_s, ↓z_nin_s, ↓z_in_t, ↓z_nin_t, ↓z_in_l, ↓z_nin_l, ↓z_items_l, ↓z_items_t, ↓z_items_r, ↓z_items_s, ↓z_isi_s, ↓z_isi_i, ↓z_isi_b, ↓z_isi_n, ↓z_isi_l, ↓z_isi_t, ↓z_isi_r, ↓z_ty_s, ↓z_ty_i, ↓z_ty_b, ↓z_ty_n, ↓z_ty_l, ↓z_ty_t, ↓z_k_ss, ↓z_k_ii, ↓z_k_ib, ↓z_k_tt, ↓z_k_ll, flatD, pVar, ↓ho_ite, ↓z_lset_l, ↓z_lset_t, ↓z_rg2, ↓z_rg1, ↓z_is_nn, ↓z_is_tn, ↓z_is_ln, ↓z_is_sn, ↓z_is_in, ↓z_is_bb, ↓z_isn_nn, ↓z_isn_tn, ↓z_isn_ln, ↓z_isn_sn, ↓z_isn_in, ↓z_isn_bb, ↓z_ne_nn, ↓z_eq_nn, ↓z_k_bb, ↓z_seq_l, ↓z_zip_l, ↓z_zip_t, ↓z_ltD_i, ↓z_gtD_i, ↓z_leD_i, ↓z_geD_i, ↓z_ltD_s, ↓z_gtD_s, ↓z_ltD_t, ↓z_gtD_t, ↓z_mulT, ↓z_getD, ↓z_lenD, ↓z_keysL, ↓z_valsL, ↓z_sset_l, ↓z_sortD, ↓z_minDs, ↓fz_choice, ↓fz_draw]
  refine law_choice hs (by simp) (by simp) fun d1 s1 k1 h1 => ?_
  obtain ⟨z, rfl, hz0, hz1, hz⟩ : ∃ z : List Nat, d1 = .str z ∧ z ≠ [] ∧ z.length ≤ 1000 ∧ ∀ c, c ∈ z → isSign c := by
    simp only [List.mem_cons, List.not_mem_nil, or_false] at k1
    rcases k1 with rfl | rfl | rfl | rfl | rfl <;> refine ⟨_, rfl, by simp, by simp, fun c h => ?_⟩ <;> simp at h <;> rcases h with h | h | h | h | h | h | h <;> simp_all [isSign]
  simp [↓w_eVar, ↓w_eC, ↓w_eUn, ↓w_eUnX, ↓w_eBin, ↓w_eM1, ↓w_oBin, ↓w_oUn, ↓w_eOfO, ↓w_eNil, ↓w_eCons, ↓w_eTup, ↓w_oLst, ↓w_eCall, ↓w_oCall, ↓w_cT, ↓w_cNot, ↓w_cAnd, ↓w_cOr, ↓w_cYes, ↓w_eAndV, ↓w_eOrV, ↓w_eNotV, ↓w_eIf, ↓w_eOwnIdx, ↓w_qNone, ↓w_qSome, ↓w_eCut, ↓w_oCut, ↓w_eChain, ↓w_iAny, ↓w_iRange1, ↓w_iRange2, ↓w_iRange3, ↓w_eCallS, ↓w_oComp, ↓w_bName, ↓w_bNil, ↓w_bCons, ↓w_bTup, ↓s_sNil, ↓s_sSeq, ↓s_sNever, ↓s_sBreak, ↓s_sCont, ↓s_sIf, ↓s_sDrop, ↓s_sRet, ↓s_sRetN, ↓s_sRetO, ↓s_sRetV, ↓s_sSet, ↓s_sSetO, ↓s_sUnpack, ↓s_sParD, ↓w_setD_nil, ↓w_setD_cons, ↓w_vDat, ↓w_vOwn, ↓s_sPar2, ↓s_sAppend, ↓s_sSetIx, ↓s_sFor, ↓ho_mA, ↓ho_mO, ↓ho_mB, frame, ↓seqO_nx, ↓seqO_rt, ↓seqO_bk, ↓seqO_ct, ↓lpO_nx, ↓lpO_rt, ↓lpO_bk, ↓lpO_ct, ↓wsF, ↓wlF, ↓whF, backR, wipeR, datSlot, strsD_signs, join_signs, sum_ones2, ↓w_eOwnBin, ownAt, ↓w_eP, ↓w_eBinX, ↓w_eTupleP, ↓w_iEnumD, ↓w_iZipD, ↓w_eOfM, ↓w_mNew, ↓w_mDisp, ↓w_mDispT, ↓s_sSetM, ↓w_vDic, ↓w_eGetV, ↓w_eGetXV, ↓w_cInV, ↓s_sPutV, ↓w_eGetX, ↓w_iKeysD, ↓w_iItemsD, lookM, ↓z_add_i, ↓z_add_s, ↓z_add_t, ↓z_sub, ↓z_mul_i, ↓z_mul_s, ↓z_div, ↓z_mod, ↓z_pow, ↓z_neg, ↓z_eq_i, ↓z_eq_s, ↓z_eq_b, ↓z_eq_l, ↓z_eq_t, ↓z_ne_i, ↓z_ne_s, ↓z_ne_b, ↓z_ne_l, ↓z_ne_t, ↓z_eq_ns, ↓z_eq_sn, ↓z_ne_ns, ↓z_ne_sn, ↓z_lt, ↓z_le, ↓z_gt, ↓z_ge, ↓z_idx_l, ↓z_idx_t, ↓z_idx_r, ↓z_idx_s, ↓z_len_s, ↓z_len_l, ↓z_len_t, ↓z_len_r, ↓z_abs, ↓z_min2, ↓z_max2, ↓z_int_i, ↓z_int_b, ↓z_cut_s, ↓z_cut_t, ↓z_gcut, ↓z_rev, ↓z_grev, ↓z_gadd, ↓z_gmul, ↓z_list_l, ↓z_list_t, ↓z_list_s, ↓z_tuple_l, ↓z_tuple_t, ↓z_all, ↓z_any, ↓z_sum, ↓z_maxl, ↓z_minl, ↓z_rfind, ↓z_join_l, ↓z_join_t, ↓z_in_s, ↓z_nin_s, ↓z_in_t, ↓z_nin_t, ↓z_in_l, ↓z_nin_l, ↓z_items_l, ↓z_items_t, ↓z_items_r, ↓z_items_s, ↓z_isi_s, ↓z_isi_i, ↓z_isi_b, ↓z_isi_n, ↓z_isi_l, ↓z_isi_t, ↓z_isi_r, ↓z_ty_s, ↓z_ty_i, ↓z_ty_b, ↓z_ty_n, ↓z_ty_l, ↓z_ty_t, ↓z_k_ss, ↓z_k_ii, ↓z_k_ib, ↓z_k_tt, ↓z_k_ll, flatD, pVar, ↓ho_ite, ↓z_lset_l, ↓z_lset_t, ↓z_rg2, ↓z_rg1, ↓z_is_nn, ↓z_is_tn, ↓z_is_ln, ↓z_is_sn, ↓z_is_in, ↓z_is_bb, ↓z_isn_nn, ↓z_isn_tn, ↓z_isn_ln, ↓z_isn_sn, ↓z_isn_in, ↓z_isn_bb, ↓z_ne_nn, ↓z_eq_nn, ↓z_k_bb, ↓z_seq_l, ↓z_zip_l, ↓z_zip_t, ↓z_ltD_i, ↓z_gtD_i, ↓z_leD_i, ↓z_geD_i, ↓z_ltD_s, ↓z_gtD_s, ↓z_ltD_t, ↓z_gtD_t, ↓z_mulT, ↓z_getD, ↓z_lenD, ↓z_keysL, ↓z_valsL, ↓z_sset_l, ↓z_sortD, ↓z_minDs, ↓fz_choice, ↓fz_draw]
  refine law_draw h1 (by omega) (by omega) fun r s2 h3 h4 h5 => ?_
  simp [↓w_eVar, ↓w_eC, ↓w_eUn, ↓w_eUnX, ↓w_eBin, ↓w_eM1, ↓w_oBin, ↓w_oUn, ↓w_eOfO, ↓w_eNil, ↓w_eCons, ↓w_eTup, ↓w_oLst, ↓w_eCall, ↓w_oCall, ↓w_cT, ↓w_cNot, ↓w_cAnd, ↓w_cOr, ↓w_cYes, ↓w_eAndV, ↓w_eOrV, ↓w_eNotV, ↓w_eIf, ↓w_eOwnIdx, ↓w_qNone, ↓w_qSome, ↓w_eCut, ↓w_oCut, ↓w_eChain, ↓w_iAny, ↓w_iRange1, ↓w_iRange2, ↓w_iRange3, ↓w_eCallS, ↓w_oComp, ↓w_bName, ↓w_bNil, ↓w_bCons, ↓w_bTup, ↓s_sNil, ↓s_sSeq, ↓s_sNever, ↓s_sBreak, ↓s_sCont, ↓s_sIf, ↓s_sDrop, ↓s_sRet, ↓s_sRetN, ↓s_sRetO, ↓s_sRetV, ↓s_sSet, ↓s_sSetO, ↓s_sUnpack, ↓s_sParD, ↓w_setD_nil, ↓w_setD_cons, ↓w_vDat, ↓w_vOwn, ↓s_sPar2, ↓s_sAppend, ↓s_sSetIx, ↓s_sFor, ↓ho_mA, ↓ho_mO, ↓ho_mB, frame, ↓seqO_nx, ↓seqO_rt, ↓seqO_bk, ↓seqO_ct, ↓lpO_nx, ↓lpO_rt, ↓lpO_bk, ↓lpO_ct, ↓wsF, ↓wlF, ↓whF, backR, wipeR, datSlot, strsD_signs, join_signs, sum_ones2, ↓w_eOwnBin, ownAt, ↓w_eP, ↓w_eBinX, ↓w_eTupleP, ↓w_iEnumD, ↓w_iZipD, ↓w_eOfM, ↓w_mNew, ↓w_mDisp, ↓w_mDispT, ↓s_sSetM, ↓w_vDic, ↓w_eGetV, ↓w_eGetXV, ↓w_cInV, ↓s_sPutV, ↓w_eGetX, ↓w_iKeysD, ↓w_iItemsD, lookM, ↓z_add_i, ↓z_add_s, ↓z_add_t, ↓z_sub, ↓z_mul_i, ↓z_mul_s, ↓z_div, ↓z_mod, ↓z_pow, ↓z_neg, ↓z_eq_i, ↓z_eq_s, ↓z_eq_b, ↓z_eq_l, ↓z_eq_t, ↓z_ne_i, ↓z_ne_s, ↓z_ne_b, ↓z_ne_l, ↓z_ne_t, ↓z_eq_ns, ↓z_eq_sn, ↓z_ne_ns, ↓z_ne_sn, ↓z_lt, ↓z_le, ↓z_gt, ↓z_ge, ↓z_idx_l, ↓z_idx_t, ↓z_idx_r, ↓z_idx_s, ↓z_len_s, ↓z_len_l, ↓z_len_t, ↓z_len_r, ↓z_abs, ↓z_min2, ↓z_max2, ↓z_int_i, ↓z_int_b, ↓z_cut_s, ↓z_cut_t, ↓z_gcut, ↓z_rev, ↓z_grev, ↓z_gadd, ↓z_gmul, ↓z_list_l, ↓z_list_t, ↓z_list_s, ↓z_tuple_l, ↓z_tuple_t, ↓z_all, ↓z_any, ↓z_sum, ↓z_maxl, ↓z_minl, ↓z_rfind, ↓z_join_l, ↓z_join_t, ↓z_in_s, ↓z_nin_s, ↓z_in_t, ↓z_nin_t, ↓z_in_l, ↓z_nin_l, ↓z_items_l, ↓z_items_t, ↓z_items_r, ↓z_items_s, ↓z_isi_s, ↓z_isi_i, ↓z_isi_b, ↓z_isi_n, ↓z_isi_l, ↓z_isi_t, ↓z_isi_r, ↓z_ty_s, ↓z_ty_i, ↓z_ty_b, ↓z_ty_n, ↓z_ty_l, ↓z_ty_t, ↓z_k_ss, ↓z_k_ii, ↓z_k_ib, ↓z_k_tt, ↓z_k_ll, flatD, pVar, ↓ho_ite, ↓z_lset_l, ↓z_lset_t, ↓z_rg2, ↓z_rg1, ↓z_is_nn, ↓z_is_tn, ↓z_is_ln, ↓z_is_sn, ↓z_is_in, ↓z_is_bb, ↓z_isn_nn, ↓z_isn_tn, ↓z_isn_ln, ↓z_isn_sn, ↓z_isn_in, ↓z_isn_bb, ↓z_ne_nn, ↓z_eq_nn, ↓z_k_bb, ↓z_seq_l, ↓z_zip_l, ↓z_zip_t, ↓z_ltD_i, ↓z_gtD_i, ↓z_leD_i, ↓z_geD_i, ↓z_ltD_s, ↓z_gtD_s, ↓z_ltD_t, ↓z_gtD_t, ↓z_mulT, ↓z_getD, ↓z_lenD, ↓z_keysL, ↓z_valsL, ↓z_sset_l, ↓z_sortD, ↓z_minDs, ↓fz_choice, ↓fz_draw]
  refine ⟨big_small (by omega) (by omega), by rw [len_rangeD]; unfold lim; omega, ?_⟩
  refine wl_drawn (F := fun s => [Sl.ino s, Sl.dat (D.int n), Sl.dat (D.str z), Sl.emp, Sl.emp, Sl.emp]) (fun d => ∃ c : Nat, d = .str [c] ∧ isSign c) h5 ?_ ?_
  · intro d hd s k
    simp [↓w_eVar, ↓w_eC, ↓w_eUn, ↓w_eUnX, ↓w_eBin, ↓w_eM1, ↓w_oBin, ↓w_oUn, ↓w_eOfO, ↓w_eNil, ↓w_eCons, ↓w_eTup, ↓w_oLst, ↓w_eCall, ↓w_oCall, ↓w_cT, ↓w_cNot, ↓w_cAnd, ↓w_cOr, ↓w_cYes, ↓w_eAndV, ↓w_eOrV, ↓w_eNotV, ↓w_eIf, ↓w_eOwnIdx, ↓w_qNone, ↓w_qSome, ↓w_eCut, ↓w_oCut, ↓w_eChain, ↓w_iAny, ↓w_iRange1, ↓w_iRange2, ↓w_iRange3, ↓w_eCallS, ↓w_oComp, ↓w_bName, ↓w_bNil, ↓w_bCons, ↓w_bTup, ↓s_sNil, ↓s_sSeq, ↓s_sNever, ↓s_sBreak, ↓s_sCont, ↓s_sIf, ↓s_sDrop, ↓s_sRet, ↓s_sRetN, ↓s_sRetO, ↓s_sRetV, ↓s_sSet, ↓s_sSetO, ↓s_sUnpack, ↓s_sParD, ↓w_setD_nil, ↓w_setD_cons, ↓w_vDat, ↓w_vOwn, ↓s_sPar2, ↓s_sAppend, ↓s_sSetIx, ↓s_sFor, ↓ho_mA, ↓ho_mO, ↓ho_mB, frame, ↓seqO_nx, ↓seqO_rt, ↓seqO_bk, ↓seqO_ct, ↓lpO_nx, ↓lpO_rt, ↓lpO_bk, ↓lpO_ct, ↓wsF, ↓wlF, ↓whF, backR, wipeR, datSlot, strsD_signs, join_signs, sum_ones2, ↓w_eOwnBin, ownAt, ↓w_eP, ↓w_eBinX, ↓w_eTupleP, ↓w_iEnumD, ↓w_iZipD, ↓w_eOfM, ↓w_mNew, ↓w_mDisp, ↓w_mDispT, ↓s_sSetM, ↓w_vDic, ↓w_eGetV, ↓w_eGetXV, ↓w_cInV, ↓s_sPutV, ↓w_eGetX, ↓w_iKeysD, ↓w_iItemsD, lookM, ↓z_add_i, ↓z_add_s, ↓z_add_t, ↓z_sub, ↓z_mul_i, ↓z_mul_s, ↓z_div, ↓z_mod, ↓z_pow, ↓z_neg, ↓z_eq_i, ↓z_eq_s, ↓z_eq_b, ↓z_eq_l, ↓z_eq_t, ↓z_ne_i, ↓z_ne_s, ↓z_ne_b, ↓z_ne_l, ↓z_ne_t, ↓z_eq_ns, ↓z_eq_sn, ↓z_ne_ns, ↓z_ne_sn, ↓z_lt, ↓z_le, ↓z_gt, ↓z_ge, ↓z_idx_l, ↓z_idx_t, ↓z_idx_r, ↓z_idx_s, ↓z_len_s, ↓z_len_l, ↓z_len_t, ↓z_len_r, ↓z_abs, ↓z_min2, ↓z_max2, ↓z_int_i, ↓z_int_b, ↓z_cut_s, ↓z_cut_t, ↓z_gcut, ↓z_rev, ↓z_grev, ↓z_gadd, ↓z_gmul, ↓z_list_l, ↓z_list_t, ↓z_list_s, ↓z_tuple_l, ↓z_tuple_t, ↓z_all, ↓z_any, ↓z_sum, ↓z_maxl, ↓z_minl, ↓z_rfind, ↓z_join_l, ↓z_join_t, ↓z_in_s, ↓z_nin_s, ↓z_in_t, ↓z_nin_t, ↓z_in_l, ↓z_nin_l, ↓z_items_l, ↓z_items_t, ↓z_items_r, ↓z_items_s, ↓z_isi_s, ↓z_isi_i, ↓z_isi_b, ↓z_isi_n, ↓z_isi_l, ↓z_isi_t, ↓z_isi_r, ↓z_ty_s, ↓z_ty_i, ↓z_ty_b, ↓z_ty_n, ↓z_ty_l, ↓z_ty_t, ↓z_k_ss, ↓z_k_ii, ↓z_k_ib, ↓z_k_tt, ↓z_k_ll, flatD, pVar, ↓ho_ite, ↓z_lset_l, ↓z_lset_t, ↓z_rg2, ↓z_rg1, ↓z_is_nn, ↓z_is_tn, ↓z_is_ln, ↓z_is_sn, ↓z_is_in, ↓z_is_bb, ↓z_isn_nn, ↓z_isn_tn, ↓z_isn_ln, ↓z_isn_sn, ↓z_isn_in, ↓z_isn_bb, ↓z_ne_nn, ↓z_eq_nn, ↓z_k_bb, ↓z_seq_l, ↓z_zip_l, ↓z_zip_t, ↓z_ltD_i, ↓z_gtD_i, ↓z_leD_i, ↓z_geD_i, ↓z_ltD_s, ↓z_gtD_s, ↓z_ltD_t, ↓z_gtD_t, ↓z_mulT, ↓z_getD, ↓z_lenD, ↓z_keysL, ↓z_valsL, ↓z_sset_l, ↓z_sortD, ↓z_minDs, ↓fz_choice, ↓fz_draw]
    refine ⟨by unfold lim; omega, law_choice k (by simpa [signsD] using hz0) (by simpa [signsD] using hz1) fun d2 s3 k3 h3 => ?_⟩
    simp [signsD] at k3
    obtain ⟨c, hc, rfl⟩ := k3
    exact ⟨⟨c, rfl, hz c hc⟩, _, h3, rfl⟩
  · intro ys s3 h6 hy hl
    rw [len_rangeD] at hl
    obtain ⟨x, rfl, hx⟩ := signs_of hy
    rw [List.length_map] at hl
    simp [↓w_eVar, ↓w_eC, ↓w_eUn, ↓w_eUnX, ↓w_eBin, ↓w_eM1, ↓w_oBin, ↓w_oUn, ↓w_eOfO, ↓w_eNil, ↓w_eCons, ↓w_eTup, ↓w_oLst, ↓w_eCall, ↓w_oCall, ↓w_cT, ↓w_cNot, ↓w_cAnd, ↓w_cOr, ↓w_cYes, ↓w_eAndV, ↓w_eOrV, ↓w_eNotV, ↓w_eIf, ↓w_eOwnIdx, ↓w_qNone, ↓w_qSome, ↓w_eCut, ↓w_oCut, ↓w_eChain, ↓w_iAny, ↓w_iRange1, ↓w_iRange2, ↓w_iRange3, ↓w_eCallS, ↓w_oComp, ↓w_bName, ↓w_bNil, ↓w_bCons, ↓w_bTup, ↓s_sNil, ↓s_sSeq, ↓s_sNever, ↓s_sBreak, ↓s_sCont, ↓s_sIf, ↓s_sDrop, ↓s_sRet, ↓s_sRetN, ↓s_sRetO, ↓s_sRetV, ↓s_sSet, ↓s_sSetO, ↓s_sUnpack, ↓s_sParD, ↓w_setD_nil, ↓w_setD_cons, ↓w_vDat, ↓w_vOwn, ↓s_sPar2, ↓s_sAppend, ↓s_sSetIx, ↓s_sFor, ↓ho_mA, ↓ho_mO, ↓ho_mB, frame, ↓seqO_nx, ↓seqO_rt, ↓seqO_bk, ↓seqO_ct, ↓lpO_nx, ↓lpO_rt, ↓lpO_bk, ↓lpO_ct, ↓wsF, ↓wlF, ↓whF, backR, wipeR, datSlot, strsD_signs, join_signs, sum_ones2, ↓w_eOwnBin, ownAt, ↓w_eP, ↓w_eBinX, ↓w_eTupleP, ↓w_iEnumD, ↓w_iZipD, ↓w_eOfM, ↓w_mNew, ↓w_mDisp, ↓w_mDispT, ↓s_sSetM, ↓w_vDic, ↓w_eGetV, ↓w_eGetXV, ↓w_cInV, ↓s_sPutV, ↓w_eGetX, ↓w_iKeysD, ↓w_iItemsD, lookM, ↓z_add_i, ↓z_add_s, ↓z_add_t, ↓z_sub, ↓z_mul_i, ↓z_mul_s, ↓z_div, ↓z_mod, ↓z_pow, ↓z_neg, ↓z_eq_i, ↓z_eq_s, ↓z_eq_b, ↓z_eq_l, ↓z_eq_t, ↓z_ne_i, ↓z_ne_s, ↓z_ne_b, ↓z_ne_l, ↓z_ne_t, ↓z_eq_ns, ↓z_eq_sn, ↓z_ne_ns, ↓z_ne_sn, ↓z_lt, ↓z_le, ↓z_gt, ↓z_ge, ↓z_idx_l, ↓z_idx_t, ↓z_idx_r, ↓z_idx_s, ↓z_len_s, ↓z_len_l, ↓z_len_t, ↓z_len_r, ↓z_abs, ↓z_min2, ↓z_max2, ↓z_int_i, ↓z_int_b, ↓z_cut_s, ↓z_cut_t, ↓z_gcut, ↓z_rev, ↓z_grev, ↓z_gadd, ↓z_gmul, ↓z_list_l, ↓z_list_t, ↓z_list_s, ↓z_tuple_l, ↓z_tuple_t, ↓z_all, ↓z_any, ↓z_sum, ↓z_maxl, ↓z_minl, ↓z_rfind, ↓z_join_l, ↓z_join_t, ↓z_in_s, ↓z_nin_s, ↓z_in_t, ↓z_nin_t, ↓z_in_l, ↓z_nin_l, ↓z_items_l, ↓z_items_t, ↓z_items_r, ↓z_items_s, ↓z_isi_s, ↓z_isi_i, ↓z_isi_b, ↓z_isi_n, ↓z_isi_l, ↓z_isi_t, ↓z_isi_r, ↓z_ty_s, ↓z_ty_i, ↓z_ty_b, ↓z_ty_n, ↓z_ty_l, ↓z_ty_t, ↓z_k_ss, ↓z_k_ii, ↓z_k_ib, ↓z_k_tt, ↓z_k_ll, flatD, pVar, ↓ho_ite, ↓z_lset_l, ↓z_lset_t, ↓z_rg2, ↓z_rg1, ↓z_is_nn, ↓z_is_tn, ↓z_is_ln, ↓z_is_sn, ↓z_is_in, ↓z_is_bb, ↓z_isn_nn, ↓z_isn_tn, ↓z_isn_ln, ↓z_isn_sn, ↓z_isn_in, ↓z_isn_bb, ↓z_ne_nn, ↓z_eq_nn, ↓z_k_bb, ↓z_seq_l, ↓z_zip_l, ↓z_zip_t, ↓z_ltD_i, ↓z_gtD_i, ↓z_leD_i, ↓z_geD_i, ↓z_ltD_s, ↓z_gtD_s, ↓z_ltD_t, ↓z_gtD_t, ↓z_mulT, ↓z_getD, ↓z_lenD, ↓z_keysL, ↓z_valsL, ↓z_sset_l, ↓z_sortD, ↓z_minDs, ↓fz_choice, ↓fz_draw]
    refine ⟨by unfold lim; omega, law_draw h6 (by omega) (by omega) fun r2 s4 _ _ h7 => ?_⟩
    have fin : ∀ (y s' : List Nat) (s : List D), Src s → (∀ c, c ∈ y → isSign c) → Q (.str (y.take n), s) := by
      intro y s' s k hy
      exact q _ _ ⟨_, rfl, by simp; omega, fun c hc => hy c (List.mem_of_mem_take hc)⟩ k
    simp [↓w_eVar, ↓w_eC, ↓w_eUn, ↓w_eUnX, ↓w_eBin, ↓w_eM1, ↓w_oBin, ↓w_oUn, ↓w_eOfO, ↓w_eNil, ↓w_eCons, ↓w_eTup, ↓w_oLst, ↓w_eCall, ↓w_oCall, ↓w_cT, ↓w_cNot, ↓w_cAnd, ↓w_cOr, ↓w_cYes, ↓w_eAndV, ↓w_eOrV, ↓w_eNotV, ↓w_eIf, ↓w_eOwnIdx, ↓w_qNone, ↓w_qSome, ↓w_eCut, ↓w_oCut, ↓w_eChain, ↓w_iAny, ↓w_iRange1, ↓w_iRange2, ↓w_iRange3, ↓w_eCallS, ↓w_oComp, ↓w_bName, ↓w_bNil, ↓w_bCons, ↓w_bTup, ↓s_sNil, ↓s_sSeq, ↓s_sNever, ↓s_sBreak, ↓s_sCont, ↓s_sIf, ↓s_sDrop, ↓s_sRet, ↓s_sRetN, ↓s_sRetO, ↓s_sRetV, ↓s_sSet, ↓s_sSetO, ↓s_sUnpack, ↓s_sParD, ↓w_setD_nil, ↓w_setD_cons, ↓w_vDat, ↓w_vOwn, ↓s_sPar2, ↓s_sAppend, ↓s_sSetIx, ↓s_sFor, ↓ho_mA, ↓ho_mO, ↓ho_mB, frame, ↓seqO_nx, ↓seqO_rt, ↓seqO_bk, ↓seqO_ct, ↓lpO_nx, ↓lpO_rt, ↓lpO_bk, ↓lpO_ct, ↓wsF, ↓wlF, ↓whF, backR, wipeR, datSlot, strsD_signs, join_signs, sum_ones2, ↓w_eOwnBin, ownAt, ↓w_eP, ↓w_eBinX, ↓w_eTupleP, ↓w_iEnumD, ↓w_iZipD, ↓w_eOfM, ↓w_mNew, ↓w_mDisp, ↓w_mDispT, ↓s_sSetM, ↓w_vDic, ↓w_eGetV, ↓w_eGetXV, ↓w_cInV, ↓s_sPutV, ↓w_eGetX, ↓w_iKeysD, ↓w_iItemsD, lookM, ↓z_add_i, ↓z_add_s, ↓z_add_t, ↓z_sub, ↓z_mul_i, ↓z_mul_s, ↓z_div, ↓z_mod, ↓z_pow, ↓z_neg, ↓z_eq_i, ↓z_eq_s, ↓z_eq_b, ↓z_eq_l, ↓z_eq_t, ↓z_ne_i, ↓z_ne_s, ↓z_ne_b, ↓z_ne_l, ↓z_ne_t, ↓z_eq_ns, ↓z_eq_sn, ↓z_ne_ns, ↓z_ne_sn, ↓z_lt, ↓z_le, ↓z_gt, ↓z_ge, ↓z_idx_l, ↓z_idx_t, ↓z_idx_r, ↓z_idx_s, ↓z_len_s, ↓z_len_l, ↓z_len_t, ↓z_len_r, ↓z_abs, ↓z_min2, ↓z_max2, ↓z_int_i, ↓z_int_b, ↓z_cut_s, ↓z_cut_t, ↓z_gcut, ↓z_rev, ↓z_grev, ↓z_gadd, ↓z_gmul, ↓z_list_l, ↓z_list_t, ↓z_list_s, ↓z_tuple_l, ↓z_tuple_t, ↓z_all, ↓z_any, ↓z_sum, ↓z_maxl, ↓z_minl, ↓z_rfind, ↓z_join_l, ↓z_join_t, ↓z_in_s, ↓z_nin_s, ↓z_in_t, ↓z_nin_t, ↓z_in_l, ↓z_nin_l, ↓z_items_l, ↓z_items_t, ↓z_items_r, ↓z_items_s, ↓z_isi_s, ↓z_isi_i, ↓z_isi_b, ↓z_isi_n, ↓z_isi_l, ↓z_isi_t, ↓z_isi_r, ↓z_ty_s, ↓z_ty_i, ↓z_ty_b, ↓z_ty_n, ↓z_ty_l, ↓z_ty_t, ↓z_k_ss, ↓z_k_ii, ↓z_k_ib, ↓z_k_tt, ↓z_k_ll, flatD, pVar, ↓ho_ite, ↓z_lset_l, ↓z_lset_t, ↓z_rg2, ↓z_rg1, ↓z_is_nn, ↓z_is_tn, ↓z_is_ln, ↓z_is_sn, ↓z_is_in, ↓z_is_bb, ↓z_isn_nn, ↓z_isn_tn, ↓z_isn_ln, ↓z_isn_sn, ↓z_isn_in, ↓z_isn_bb, ↓z_ne_nn, ↓z_eq_nn, ↓z_k_bb, ↓z_seq_l, ↓z_zip_l, ↓z_zip_t, ↓z_ltD_i, ↓z_gtD_i, ↓z_leD_i, ↓z_geD_i, ↓z_ltD_s, ↓z_gtD_s, ↓z_ltD_t, ↓z_gtD_t, ↓z_mulT, ↓z_getD, ↓z_lenD, ↓z_keysL, ↓z_valsL, ↓z_sset_l, ↓z_sortD, ↓z_minDs, ↓fz_choice, ↓fz_draw]
    split
    · refine law_draw h7 (by omega) (by omega) fun r3 s5 k5 k6 h8 => ?_
      simp [↓w_eVar, ↓w_eC, ↓w_eUn, ↓w_eUnX, ↓w_eBin, ↓w_eM1, ↓w_oBin, ↓w_oUn, ↓w_eOfO, ↓w_eNil, ↓w_eCons, ↓w_eTup, ↓w_oLst, ↓w_eCall, ↓w_oCall, ↓w_cT, ↓w_cNot, ↓w_cAnd, ↓w_cOr, ↓w_cYes, ↓w_eAndV, ↓w_eOrV, ↓w_eNotV, ↓w_eIf, ↓w_eOwnIdx, ↓w_qNone, ↓w_qSome, ↓w_eCut, ↓w_oCut, ↓w_eChain, ↓w_iAny, ↓w_iRange1, ↓w_iRange2, ↓w_iRange3, ↓w_eCallS, ↓w_oComp, ↓w_bName, ↓w_bNil, ↓w_bCons, ↓w_bTup, ↓s_sNil, ↓s_sSeq, ↓s_sNever, ↓s_sBreak, ↓s_sCont, ↓s_sIf, ↓s_sDrop, ↓s_sRet, ↓s_sRetN, ↓s_sRetO, ↓s_sRetV, ↓s_sSet, ↓s_sSetO, ↓s_sUnpack, ↓s_sParD, ↓w_setD_nil, ↓w_setD_cons, ↓w_vDat, ↓w_vOwn, ↓s_sPar2, ↓s_sAppend, ↓s_sSetIx, ↓s_sFor, ↓ho_mA, ↓ho_mO, ↓ho_mB, frame, ↓seqO_nx, ↓seqO_rt, ↓seqO_bk, ↓seqO_ct, ↓lpO_nx, ↓lpO_rt, ↓lpO_bk, ↓lpO_ct, ↓wsF, ↓wlF, ↓whF, backR, wipeR, datSlot, strsD_signs, join_signs, sum_ones2, ↓w_eOwnBin, ownAt, ↓w_eP, ↓w_eBinX, ↓w_eTupleP, ↓w_iEnumD, ↓w_iZipD, ↓w_eOfM, ↓w_mNew, ↓w_mDisp, ↓w_mDispT, ↓s_sSetM, ↓w_vDic, ↓w_eGetV, ↓w_eGetXV, ↓w_cInV, ↓s_sPutV, ↓w_eGetX, ↓w_iKeysD, ↓w_iItemsD, lookM, ↓z_add_i, ↓z_add_s, ↓z_add_t, ↓z_sub, ↓z_mul_i, ↓z_mul_s, ↓z_div, ↓z_mod, ↓z_pow, ↓z_neg, ↓z_eq_i, ↓z_eq_s, ↓z_eq_b, ↓z_eq_l, ↓z_eq_t, ↓z_ne_i, ↓z_ne_s, ↓z_ne_b, ↓z_ne_l, ↓z_ne_t, ↓z_eq_ns, ↓z_eq_sn, ↓z_ne_ns, ↓z_ne_sn, ↓z_lt, ↓z_le, ↓z_gt, ↓z_ge, ↓z_idx_l, ↓z_idx_t, ↓z_idx_r, ↓z_idx_s, ↓z_len_s, ↓z_len_l, ↓z_len_t, ↓z_len_r, ↓z_abs, ↓z_min2, ↓z_max2, ↓z_int_i, ↓z_int_b, ↓z_cut_s, ↓z_cut_t, ↓z_gcut, ↓z_rev, ↓z_grev, ↓z_gadd, ↓z_gmul, ↓z_list_l, ↓z_list_t, ↓z_list_s, ↓z_tuple_l, ↓z_tuple_t, ↓z_all, ↓z_any, ↓z_sum, ↓z_maxl, ↓z_minl, ↓z_rfind, ↓z_join_l, ↓z_join_t, ↓z_in_s, ↓z_nin_s, ↓z_in_t, ↓z_nin_t, ↓z_in_l, ↓z_nin_l, ↓z_items_l, ↓z_items_t, ↓z_items_r, ↓z_items_s, ↓z_isi_s, ↓z_isi_i, ↓z_isi_b, ↓z_isi_n, ↓z_isi_l, ↓z_isi_t, ↓z_isi_r, ↓z_ty_s, ↓z_ty_i, ↓z_ty_b, ↓z_ty_n, ↓z_ty_l, ↓z_ty_t, ↓z_k_ss, ↓z_k_ii, ↓z_k_ib, ↓z_k_tt, ↓z_k_ll, flatD, pVar, ↓ho_ite, ↓z_lset_l, ↓z_lset_t, ↓z_rg2, ↓z_rg1, ↓z_is_nn, ↓z_is_tn, ↓z_is_ln, ↓z_is_sn, ↓z_is_in, ↓z_is_bb, ↓z_isn_nn, ↓z_isn_tn, ↓z_isn_ln, ↓z_isn_sn, ↓z_isn_in, ↓z_isn_bb, ↓z_ne_nn, ↓z_eq_nn, ↓z_k_bb, ↓z_seq_l, ↓z_zip_l, ↓z_zip_t, ↓z_ltD_i, ↓z_gtD_i, ↓z_leD_i, ↓z_geD_i, ↓z_ltD_s, ↓z_gtD_s, ↓z_ltD_t, ↓z_gtD_t, ↓z_mulT, ↓z_getD, ↓z_lenD, ↓z_keysL, ↓z_valsL, ↓z_sset_l, ↓z_sortD, ↓z_minDs, ↓fz_choice, ↓fz_draw]
      refine ⟨by unfold lim; omega, big_small (by omega) (by omega), by rw [len_rangeD]; unfold lim; omega, ?_⟩
      refine wl_drawn (F := fun s => [Sl.ino s, Sl.dat (D.int n), Sl.dat (D.str z), Sl.dat (D.str x), Sl.dat (D.int (1 + r3)), Sl.emp]) (fun d => ∃ c : Nat, d = .str [c] ∧ isSign c) h8 ?_ ?_
      · intro d hd s k
        simp [↓w_eVar, ↓w_eC, ↓w_eUn, ↓w_eUnX, ↓w_eBin, ↓w_eM1, ↓w_oBin, ↓w_oUn, ↓w_eOfO, ↓w_eNil, ↓w_eCons, ↓w_eTup, ↓w_oLst, ↓w_eCall, ↓w_oCall, ↓w_cT, ↓w_cNot, ↓w_cAnd, ↓w_cOr, ↓w_cYes, ↓w_eAndV, ↓w_eOrV, ↓w_eNotV, ↓w_eIf, ↓w_eOwnIdx, ↓w_qNone, ↓w_qSome, ↓w_eCut, ↓w_oCut, ↓w_eChain, ↓w_iAny, ↓w_iRange1, ↓w_iRange2, ↓w_iRange3, ↓w_eCallS, ↓w_oComp, ↓w_bName, ↓w_bNil, ↓w_bCons, ↓w_bTup, ↓s_sNil, ↓s_sSeq, ↓s_sNever, ↓s_sBreak, ↓s_sCont, ↓s_sIf, ↓s_sDrop, ↓s_sRet, ↓s_sRetN, ↓s_sRetO, ↓s_sRetV, ↓s_sSet, ↓s_sSetO, ↓s_sUnpack, ↓s_sParD, ↓w_setD_nil, ↓w_setD_cons, ↓w_vDat, ↓w_vOwn, ↓s_sPar2, ↓s_sAppend, ↓s_sSetIx, ↓s_sFor, ↓ho_mA, ↓ho_mO, ↓ho_mB, frame, ↓seqO_nx, ↓seqO_rt, ↓seqO_bk, ↓seqO_ct, ↓lpO_nx, ↓lpO_rt, ↓lpO_bk, ↓lpO_ct, ↓wsF, ↓wlF, ↓whF, backR, wipeR, datSlot, strsD_signs, join_signs, sum_ones2, ↓w_eOwnBin, ownAt, ↓w_eP, ↓w_eBinX, ↓w_eTupleP, ↓w_iEnumD, ↓w_iZipD, ↓w_eOfM, ↓w_mNew, ↓w_mDisp, ↓w_mDispT, ↓s_sSetM, ↓w_vDic, ↓w_eGetV, ↓w_eGetXV, ↓w_cInV, ↓s_sPutV, ↓w_eGetX, ↓w_iKeysD, ↓w_iItemsD, lookM, ↓z_add_i, ↓z_add_s, ↓z_add_t, ↓z_sub, ↓z_mul_i, ↓z_mul_s, ↓z_div, ↓z_mod, ↓z_pow, ↓z_neg, ↓z_eq_i, ↓z_eq_s, ↓z_eq_b, ↓z_eq_l, ↓z_eq_t, ↓z_ne_i, ↓z_ne_s, ↓z_ne_b, ↓z_ne_l, ↓z_ne_t, ↓z_eq_ns, ↓z_eq_sn, ↓z_ne_ns, ↓z_ne_sn, ↓z_lt, ↓z_le, ↓z_gt, ↓z_ge, ↓z_idx_l, ↓z_idx_t, ↓z_idx_r, ↓z_idx_s, ↓z_len_s, ↓z_len_l, ↓z_len_t, ↓z_len_r, ↓z_abs, ↓z_min2, ↓z_max2, ↓z_int_i, ↓z_int_b, ↓z_cut_s, ↓z_cut_t, ↓z_gcut, ↓z_rev, ↓z_grev, ↓z_gadd, ↓z_gmul, ↓z_list_l, ↓z_list_t, ↓z_list_s, ↓z_tuple_l, ↓z_tuple_t, ↓z_all, ↓z_any, ↓z_sum, ↓z_maxl, ↓z_minl, ↓z_rfind, ↓z_join_l, ↓z_join_t, ↓z_in_s, ↓z_nin_s, ↓z_in_t, ↓z_nin_t, ↓z_in_l, ↓z_nin_l, ↓z_items_l, ↓z_items_t, ↓z_items_r, ↓z_items_s, ↓z_isi_s, ↓z_isi_i, ↓z_isi_b, ↓z_isi_n, ↓z_isi_l, ↓z_isi_t, ↓z_isi_r, ↓z_ty_s, ↓z_ty_i, ↓z_ty_b, ↓z_ty_n, ↓z_ty_l, ↓z_ty_t, ↓z_k_ss, ↓z_k_ii, ↓z_k_ib, ↓z_k_tt, ↓z_k_ll, flatD, pVar, ↓ho_ite, ↓z_lset_l, ↓z_lset_t, ↓z_rg2, ↓z_rg1, ↓z_is_nn, ↓z_is_tn, ↓z_is_ln, ↓z_is_sn, ↓z_is_in, ↓z_is_bb, ↓z_isn_nn, ↓z_isn_tn, ↓z_isn_ln, ↓z_isn_sn, ↓z_isn_in, ↓z_isn_bb, ↓z_ne_nn, ↓z_eq_nn, ↓z_k_bb, ↓z_seq_l, ↓z_zip_l, ↓z_zip_t, ↓z_ltD_i, ↓z_gtD_i, ↓z_leD_i, ↓z_geD_i, ↓z_ltD_s, ↓z_gtD_s, ↓z_ltD_t, ↓z_gtD_t, ↓z_mulT, ↓z_getD, ↓z_lenD, ↓z_keysL, ↓z_valsL, ↓z_sset_l, ↓z_sortD, ↓z_minDs, ↓fz_choice, ↓fz_draw]
        refine law_choice k (by simp) (by simp) fun d2 s3 k3 h3 => ?_
        simp at k3
        refine ⟨?_, _, h3, rfl⟩
        rcases k3 with rfl | rfl | rfl <;> exact ⟨_, rfl, by simp [isSign]⟩
      · intro ys s3 h6 hy hl
        rw [len_rangeD] at hl
        obtain ⟨x2, rfl, hx2⟩ := signs_of hy
        rw [List.length_map] at hl
        simp [↓w_eVar, ↓w_eC, ↓w_eUn, ↓w_eUnX, ↓w_eBin, ↓w_eM1, ↓w_oBin, ↓w_oUn, ↓w_eOfO, ↓w_eNil, ↓w_eCons, ↓w_eTup, ↓w_oLst, ↓w_eCall, ↓w_oCall, ↓w_cT, ↓w_cNot, ↓w_cAnd, ↓w_cOr, ↓w_cYes, ↓w_eAndV, ↓w_eOrV, ↓w_eNotV, ↓w_eIf, ↓w_eOwnIdx, ↓w_qNone, ↓w_qSome, ↓w_eCut, ↓w_oCut, ↓w_eChain, ↓w_iAny, ↓w_iRange1, ↓w_iRange2, ↓w_iRange3, ↓w_eCallS, ↓w_oComp, ↓w_bName, ↓w_bNil, ↓w_bCons, ↓w_bTup, ↓s_sNil, ↓s_sSeq, ↓s_sNever, ↓s_sBreak, ↓s_sCont, ↓s_sIf, ↓s_sDrop, ↓s_sRet, ↓s_sRetN, ↓s_sRetO, ↓s_sRetV, ↓s_sSet, ↓s_sSetO, ↓s_sUnpack, ↓s_sParD, ↓w_setD_nil, ↓w_setD_cons, ↓w_vDat, ↓w_vOwn, ↓s_sPar2, ↓s_sAppend, ↓s_sSetIx, ↓s_sFor, ↓ho_mA, ↓ho_mO, ↓ho_mB, frame, ↓seqO_nx, ↓seqO_rt, ↓seqO_bk, ↓seqO_ct, ↓lpO_nx, ↓lpO_rt, ↓lpO_bk, ↓lpO_ct, ↓wsF, ↓wlF, ↓whF, backR, wipeR, datSlot, strsD_signs, join_signs, sum_ones2, ↓w_eOwnBin, ownAt, ↓w_eP, ↓w_eBinX, ↓w_eTupleP, ↓w_iEnumD, ↓w_iZipD, ↓w_eOfM, ↓w_mNew, ↓w_mDisp, ↓w_mDispT, ↓s_sSetM, ↓w_vDic, ↓w_eGetV, ↓w_eGetXV, ↓w_cInV, ↓s_sPutV, ↓w_eGetX, ↓w_iKeysD, ↓w_iItemsD, lookM, ↓z_add_i, ↓z_add_s, ↓z_add_t, ↓z_sub, ↓z_mul_i, ↓z_mul_s, ↓z_div, ↓z_mod, ↓z_pow, ↓z_neg, ↓z_eq_i, ↓z_eq_s, ↓z_eq_b, ↓z_eq_l, ↓z_eq_t, ↓z_ne_i, ↓z_ne_s, ↓z_ne_b, ↓z_ne_l, ↓z_ne_t, ↓z_eq_ns, ↓z_eq_sn, ↓z_ne_ns, ↓z_ne_sn, ↓z_lt, ↓z_le, ↓z_gt, ↓z_ge, ↓z_idx_l, ↓z_idx_t, ↓z_idx_r, ↓z_idx_s, ↓z_len_s, ↓z_len_l, ↓z_len_t, ↓z_len_r, ↓z_abs, ↓z_min2, ↓z_max2, ↓z_int_i, ↓z_int_b, ↓z_cut_s, ↓z_cut_t, ↓z_gcut, ↓z_rev, ↓z_grev, ↓z_gadd, ↓z_gmul, ↓z_list_l, ↓z_list_t, ↓z_list_s, ↓z_tuple_l, ↓z_tuple_t, ↓z_all, ↓z_any, ↓z_sum, ↓z_maxl, ↓z_minl, ↓z_rfind, ↓z_join_l, ↓z_join_t, ↓z_in_s, ↓z_nin_s, ↓z_in_t, ↓z_nin_t, ↓z_in_l, ↓z_nin_l, ↓z_items_l, ↓z_items_t, ↓z_items_r, ↓z_items_s, ↓z_isi_s, ↓z_isi_i, ↓z_isi_b, ↓z_isi_n, ↓z_isi_l, ↓z_isi_t, ↓z_isi_r, ↓z_ty_s, ↓z_ty_i, ↓z_ty_b, ↓z_ty_n, ↓z_ty_l, ↓z_ty_t, ↓z_k_ss, ↓z_k_ii, ↓z_k_ib, ↓z_k_tt, ↓z_k_ll, flatD, pVar, ↓ho_ite, ↓z_lset_l, ↓z_lset_t, ↓z_rg2, ↓z_rg1, ↓z_is_nn, ↓z_is_tn, ↓z_is_ln, ↓z_is_sn, ↓z_is_in, ↓z_is_bb, ↓z_isn_nn, ↓z_isn_tn, ↓z_isn_ln, ↓z_isn_sn, ↓z_isn_in, ↓z_isn_bb, ↓z_ne_nn, ↓z_eq_nn, ↓z_k_bb, ↓z_seq_l, ↓z_zip_l, ↓z_zip_t, ↓z_ltD_i, ↓z_gtD_i, ↓z_leD_i, ↓z_geD_i, ↓z_ltD_s, ↓z_gtD_s, ↓z_ltD_t, ↓z_gtD_t, ↓z_mulT, ↓z_getD, ↓z_lenD, ↓z_keysL, ↓z_valsL, ↓z_sset_l, ↓z_sortD, ↓z_minDs, ↓fz_choice, ↓fz_draw]
        refine ⟨by unfold lim; omega, by unfold lim; omega, by unfold lim; omega, ?_⟩
        rw [cut_take (by omega)]
        refine fin _ [] _ h6 fun c hc => ?_
        simp at hc
        rcases hc with hc | hc | hc
        · exact hx c hc
        · subst hc; simp [isSign]
        · exact hx2 c hc
    · refine ⟨by unfold lim; omega, ?_⟩
      rw [cut_take (by omega)]
      exact fin _ [] _ h7 hx
theorem fz_text {s d : List D} {Q : D × List D → Prop} : ho (m__law_text s d) Q = @Frz _ (m__law_text s d) ⟨Q⟩ := rfl

theorem front_eq {t : List Nat} {n : Nat} {u : List Nat} (h : n < t.length) (hl : t.length ≤ lim) : m_front_of [.str t, .int n, .str u] = some (.str (front t n u)) := by
  rw [← ho_eq]; unfold m_front_of g_front_of front
  simp [↓w_eVar, ↓w_eC, ↓w_eUn, ↓w_eUnX, ↓w_eBin, ↓w_eM1, ↓w_oBin, ↓w_oUn, ↓w_eOfO, ↓w_eNil, ↓w_eCons, ↓w_eTup, ↓w_oLst, ↓w_eCall, ↓w_oCall, ↓w_cT, ↓w_cNot, ↓w_cAnd, ↓w_cOr, ↓w_cYes, ↓w_eAndV, ↓w_eOrV, ↓w_eNotV, ↓w_eIf, ↓w_eOwnIdx, ↓w_qNone, ↓w_qSome, ↓w_eCut, ↓w_oCut, ↓w_eChain, ↓w_iAny, ↓w_iRange1, ↓w_iRange2, ↓w_iRange3, ↓w_eCallS, ↓w_oComp, ↓w_bName, ↓w_bNil, ↓w_bCons, ↓w_bTup, ↓s_sNil, ↓s_sSeq, ↓s_sNever, ↓s_sBreak, ↓s_sCont, ↓s_sIf, ↓s_sDrop, ↓s_sRet, ↓s_sRetN, ↓s_sRetO, ↓s_sRetV, ↓s_sSet, ↓s_sSetO, ↓s_sUnpack, ↓s_sParD, ↓w_setD_nil, ↓w_setD_cons, ↓w_vDat, ↓w_vOwn, ↓s_sPar2, ↓s_sAppend, ↓s_sSetIx, ↓s_sFor, ↓ho_mA, ↓ho_mO, ↓ho_mB, frame, ↓seqO_nx, ↓seqO_rt, ↓seqO_bk, ↓seqO_ct, ↓lpO_nx, ↓lpO_rt, ↓lpO_bk, ↓lpO_ct, ↓wsF, ↓wlF, ↓whF, backR, wipeR, datSlot, strsD_signs, join_signs, sum_ones2, ↓w_eOwnBin, ownAt, ↓w_eP, ↓w_eBinX, ↓w_eTupleP, ↓w_iEnumD, ↓w_iZipD, ↓w_eOfM, ↓w_mNew, ↓w_mDisp, ↓w_mDispT, ↓s_sSetM, ↓w_vDic, ↓w_eGetV, ↓w_eGetXV, ↓w_cInV, ↓s_sPutV, ↓w_eGetX, ↓w_iKeysD, ↓w_iItemsD, lookM, ↓z_add_i, ↓z_add_s, ↓z_add_t, ↓z_sub, ↓z_mul_i, ↓z_mul_s, ↓z_div, ↓z_mod, ↓z_pow, ↓z_neg, ↓z_eq_i, ↓z_eq_s, ↓z_eq_b, ↓z_eq_l, ↓z_eq_t, ↓z_ne_i, ↓z_ne_s, ↓z_ne_b, ↓z_ne_l, ↓z_ne_t, ↓z_eq_ns, ↓z_eq_sn, ↓z_ne_ns, ↓z_ne_sn, ↓z_lt, ↓z_le, ↓z_gt, ↓z_ge, ↓z_idx_l, ↓z_idx_t, ↓z_idx_r, ↓z_idx_s, ↓z_len_s, ↓z_len_l, ↓z_len_t, ↓z_len_r, ↓z_abs, ↓z_min2, ↓z_max2, ↓z_int_i, ↓z_int_b, ↓z_cut_s, ↓z_cut_t, ↓z_gcut, ↓z_rev, ↓z_grev, ↓z_gadd, ↓z_gmul, ↓z_list_l, ↓z_list_t, ↓z_list_s, ↓z_tuple_l, ↓z_tuple_t, ↓z_all, ↓z_any, ↓z_sum, ↓z_maxl, ↓z_minl, ↓z_rfind, ↓z_join_l, ↓z_join_t, ↓z_in_s, ↓z_nin_s, ↓z_in_t, ↓z_nin_t, ↓z_in_l, ↓z_nin_l, ↓z_items_l, ↓z_items_t, ↓z_items_r, ↓z_items_s, ↓z_isi_s, ↓z_isi_i, ↓z_isi_b, ↓z_isi_n, ↓z_isi_l, ↓z_isi_t, ↓z_isi_r, ↓z_ty_s, ↓z_ty_i, ↓z_ty_b, ↓z_ty_n, ↓z_ty_l, ↓z_ty_t, ↓z_k_ss, ↓z_k_ii, ↓z_k_ib, ↓z_k_tt, ↓z_k_ll, flatD, pVar, ↓ho_ite, ↓z_lset_l, ↓z_lset_t, ↓z_rg2, ↓z_rg1, ↓z_is_nn, ↓z_is_tn, ↓z_is_ln, ↓z_is_sn, ↓z_is_in, ↓z_is_bb, ↓z_isn_nn, ↓z_isn_tn, ↓z_isn_ln, ↓z_isn_sn, ↓z_isn_in, ↓z_isn_bb, ↓z_ne_nn, ↓z_eq_nn, ↓z_k_bb, ↓z_seq_l, ↓z_zip_l, ↓z_zip_t, ↓z_ltD_i, ↓z_gtD_i, ↓z_leD_i, ↓z_geD_i, ↓z_ltD_s, ↓z_gtD_s, ↓z_ltD_t, ↓z_gtD_t, ↓z_mulT, ↓z_getD, ↓z_lenD, ↓z_keysL, ↓z_valsL, ↓z_sset_l, ↓z_sortD, ↓z_minDs]
  have hl' : t.length ≤ 1000000 := hl
  split
  · refine ⟨⟨big_small (by omega) (by omega), rfl⟩, ws_forL (fun rem ρ => ∃ (k : Nat) (s : Sl), rem = downD k k ∧ ρ = [.dat (.str t), .dat (.int n), .dat (.str u), s] ∧ k ≤ n ∧ lastP (gap t) k = lastP (gap t) n ∧ oN (some s) True) ?_ ?_ _ _ ⟨n, .emp, rfl, rfl, Nat.le_refl _, rfl, by simp⟩⟩
    · intro d ds ρ hI
      obtain ⟨k, s, e1, e2, e3, e4, e5⟩ := hI
      subst e2
      cases k with
      | zero => simp [downD_zero] at e1
      | succ k =>
        rw [show ((k + 1 : Nat) : Int) = (k : Int) + 1 by omega] at e1
        rw [downD_succ] at e1; cases e1
        have a1 : k < t.length := by omega
        have a2 : k + 1 < t.length := by omega
        have e6 := e4
        rw [lastP] at e6
        have g1 : gap t (k + 1) = (decide (t[k] ≠ 32) && decide (t[k + 1] = 32)) := by simp [gap, a1, a2]
        rw [g1] at e6
        cases s with
        | ino => cases e5
        | _ =>
          have a3 : atI t ((k : Int) + 1) = t[k + 1]? := atN (k := k + 1)
          by_cases b1 : t[k] = 32
          · simp [↓w_eVar, ↓w_eC, ↓w_eUn, ↓w_eUnX, ↓w_eBin, ↓w_eM1, ↓w_oBin, ↓w_oUn, ↓w_eOfO, ↓w_eNil, ↓w_eCons, ↓w_eTup, ↓w_oLst, ↓w_eCall, ↓w_oCall, ↓w_cT, ↓w_cNot, ↓w_cAnd, ↓w_cOr, ↓w_cYes, ↓w_eAndV, ↓w_eOrV, ↓w_eNotV, ↓w_eIf, ↓w_eOwnIdx, ↓w_qNone, ↓w_qSome, ↓w_eCut, ↓w_oCut, ↓w_eChain, ↓w_iAny, ↓w_iRange1, ↓w_iRange2, ↓w_iRange3, ↓w_eCallS, ↓w_oComp, ↓w_bName, ↓w_bNil, ↓w_bCons, ↓w_bTup, ↓s_sNil, ↓s_sSeq, ↓s_sNever, ↓s_sBreak, ↓s_sCont, ↓s_sIf, ↓s_sDrop, ↓s_sRet, ↓s_sRetN, ↓s_sRetO, ↓s_sRetV, ↓s_sSet, ↓s_sSetO, ↓s_sUnpack, ↓s_sParD, ↓w_setD_nil, ↓w_setD_cons, ↓w_vDat, ↓w_vOwn, ↓s_sPar2, ↓s_sAppend, ↓s_sSetIx, ↓s_sFor, ↓ho_mA, ↓ho_mO, ↓ho_mB, frame, ↓seqO_nx, ↓seqO_rt, ↓seqO_bk, ↓seqO_ct, ↓lpO_nx, ↓lpO_rt, ↓lpO_bk, ↓lpO_ct, ↓wsF, ↓wlF, ↓whF, backR, wipeR, datSlot, strsD_signs, join_signs, sum_ones2, ↓w_eOwnBin, ownAt, ↓w_eP, ↓w_eBinX, ↓w_eTupleP, ↓w_iEnumD, ↓w_iZipD, ↓w_eOfM, ↓w_mNew, ↓w_mDisp, ↓w_mDispT, ↓s_sSetM, ↓w_vDic, ↓w_eGetV, ↓w_eGetXV, ↓w_cInV, ↓s_sPutV, ↓w_eGetX, ↓w_iKeysD, ↓w_iItemsD, lookM, ↓z_add_i, ↓z_add_s, ↓z_add_t, ↓z_sub, ↓z_mul_i, ↓z_mul_s, ↓z_div, ↓z_mod, ↓z_pow, ↓z_neg, ↓z_eq_i, ↓z_eq_s, ↓z_eq_b, ↓z_eq_l, ↓z_eq_t, ↓z_ne_i, ↓z_ne_s, ↓z_ne_b, ↓z_ne_l, ↓z_ne_t, ↓z_eq_ns, ↓z_eq_sn, ↓z_ne_ns, ↓z_ne_sn, ↓z_lt, ↓z_le, ↓z_gt, ↓z_ge, ↓z_idx_l, ↓z_idx_t, ↓z_idx_r, ↓z_idx_s, ↓z_len_s, ↓z_len_l, ↓z_len_t, ↓z_len_r, ↓z_abs, ↓z_min2, ↓z_max2, ↓z_int_i, ↓z_int_b, ↓z_cut_s, ↓z_cut_t, ↓z_gcut, ↓z_rev, ↓z_grev, ↓z_gadd, ↓z_gmul, ↓z_list_l, ↓z_list_t, ↓z_list_s, ↓z_tuple_l, ↓z_tuple_t, ↓z_all, ↓z_any, ↓z_sum, ↓z_maxl, ↓z_minl, ↓z_rfind, ↓z_join_l, ↓z_join_t, ↓z_in_s, ↓z_nin_s, ↓z_in_t, ↓z_nin_t, ↓z_in_l, ↓z_nin_l, ↓z_items_l, ↓z_items_t, ↓z_items_r, ↓z_items_s, ↓z_isi_s, ↓z_isi_i, ↓z_isi_b, ↓z_isi_n, ↓z_isi_l, ↓z_isi_t, ↓z_isi_r, ↓z_ty_s, ↓z_ty_i, ↓z_ty_b, ↓z_ty_n, ↓z_ty_l, ↓z_ty_t, ↓z_k_ss, ↓z_k_ii, ↓z_k_ib, ↓z_k_tt, ↓z_k_ll, flatD, pVar, ↓ho_ite, ↓z_lset_l, ↓z_lset_t, ↓z_rg2, ↓z_rg1, ↓z_is_nn, ↓z_is_tn, ↓z_is_ln, ↓z_is_sn, ↓z_is_in, ↓z_is_bb, ↓z_isn_nn, ↓z_isn_tn, ↓z_isn_ln, ↓z_isn_sn, ↓z_isn_in, ↓z_isn_bb, ↓z_ne_nn, ↓z_eq_nn, ↓z_k_bb, ↓z_seq_l, ↓z_zip_l, ↓z_zip_t, ↓z_ltD_i, ↓z_gtD_i, ↓z_leD_i, ↓z_geD_i, ↓z_ltD_s, ↓z_gtD_s, ↓z_ltD_t, ↓z_gtD_t, ↓z_mulT, ↓z_getD, ↓z_lenD, ↓z_keysL, ↓z_valsL, ↓z_sset_l, ↓z_sortD, ↓z_minDs, hl, atN, a1, a2, a3, b1]
            exact ⟨k, rfl, by omega, by rw [← e6]; simp [b1]⟩
          · by_cases b2 : t[k + 1] = 32
            · simp [↓w_eVar, ↓w_eC, ↓w_eUn, ↓w_eUnX, ↓w_eBin, ↓w_eM1, ↓w_oBin, ↓w_oUn, ↓w_eOfO, ↓w_eNil, ↓w_eCons, ↓w_eTup, ↓w_oLst, ↓w_eCall, ↓w_oCall, ↓w_cT, ↓w_cNot, ↓w_cAnd, ↓w_cOr, ↓w_cYes, ↓w_eAndV, ↓w_eOrV, ↓w_eNotV, ↓w_eIf, ↓w_eOwnIdx, ↓w_qNone, ↓w_qSome, ↓w_eCut, ↓w_oCut, ↓w_eChain, ↓w_iAny, ↓w_iRange1, ↓w_iRange2, ↓w_iRange3, ↓w_eCallS, ↓w_oComp, ↓w_bName, ↓w_bNil, ↓w_bCons, ↓w_bTup, ↓s_sNil, ↓s_sSeq, ↓s_sNever, ↓s_sBreak, ↓s_sCont, ↓s_sIf, ↓s_sDrop, ↓s_sRet, ↓s_sRetN, ↓s_sRetO, ↓s_sRetV, ↓s_sSet, ↓s_sSetO, ↓s_sUnpack, ↓s_sParD, ↓w_setD_nil, ↓w_setD_cons, ↓w_vDat, ↓w_vOwn, ↓s_sPar2, ↓s_sAppend, ↓s_sSetIx, ↓s_sFor, ↓ho_mA, ↓ho_mO, ↓ho_mB, frame, ↓seqO_nx, ↓seqO_rt, ↓seqO_bk, ↓seqO_ct, ↓lpO_nx, ↓lpO_rt, ↓lpO_bk, ↓lpO_ct, ↓wsF, ↓wlF, ↓whF, backR, wipeR, datSlot, strsD_signs, join_signs, sum_ones2, ↓w_eOwnBin, ownAt, ↓w_eP, ↓w_eBinX, ↓w_eTupleP, ↓w_iEnumD, ↓w_iZipD, ↓w_eOfM, ↓w_mNew, ↓w_mDisp, ↓w_mDispT, ↓s_sSetM, ↓w_vDic, ↓w_eGetV, ↓w_eGetXV, ↓w_cInV, ↓s_sPutV, ↓w_eGetX, ↓w_iKeysD, ↓w_iItemsD, lookM, ↓z_add_i, ↓z_add_s, ↓z_add_t, ↓z_sub, ↓z_mul_i, ↓z_mul_s, ↓z_div, ↓z_mod, ↓z_pow, ↓z_neg, ↓z_eq_i, ↓z_eq_s, ↓z_eq_b, ↓z_eq_l, ↓z_eq_t, ↓z_ne_i, ↓z_ne_s, ↓z_ne_b, ↓z_ne_l, ↓z_ne_t, ↓z_eq_ns, ↓z_eq_sn, ↓z_ne_ns, ↓z_ne_sn, ↓z_lt, ↓z_le, ↓z_gt, ↓z_ge, ↓z_idx_l, ↓z_idx_t, ↓z_idx_r, ↓z_idx_s, ↓z_len_s, ↓z_len_l, ↓z_len_t, ↓z_len_r, ↓z_abs, ↓z_min2, ↓z_max2, ↓z_int_i, ↓z_int_b, ↓z_cut_s, ↓z_cut_t, ↓z_gcut, ↓z_rev, ↓z_grev, ↓z_gadd, ↓z_gmul, ↓z_list_l, ↓z_list_t, ↓z_list_s, ↓z_tuple_l, ↓z_tuple_t, ↓z_all, ↓z_any, ↓z_sum, ↓z_maxl, ↓z_minl, ↓z_rfind, ↓z_join_l, ↓z_join_t, ↓z_in_s, ↓z_nin_s, ↓z_in_t, ↓z_nin_t, ↓z_in_l, ↓z_nin_l, ↓z_items_l, ↓z_items_t, ↓z_items_r, ↓z_items_s, ↓z_isi_s, ↓z_isi_i, ↓z_isi_b, ↓z_isi_n, ↓z_isi_l, ↓z_isi_t, ↓z_isi_r, ↓z_ty_s, ↓z_ty_i, ↓z_ty_b, ↓z_ty_n, ↓z_ty_l, ↓z_ty_t, ↓z_k_ss, ↓z_k_ii, ↓z_k_ib, ↓z_k_tt, ↓z_k_ll, flatD, pVar, ↓ho_ite, ↓z_lset_l, ↓z_lset_t, ↓z_rg2, ↓z_rg1, ↓z_is_nn, ↓z_is_tn, ↓z_is_ln, ↓z_is_sn, ↓z_is_in, ↓z_is_bb, ↓z_isn_nn, ↓z_isn_tn, ↓z_isn_ln, ↓z_isn_sn, ↓z_isn_in, ↓z_isn_bb, ↓z_ne_nn, ↓z_eq_nn, ↓z_k_bb, ↓z_seq_l, ↓z_zip_l, ↓z_zip_t, ↓z_ltD_i, ↓z_gtD_i, ↓z_leD_i, ↓z_geD_i, ↓z_ltD_s, ↓z_gtD_s, ↓z_ltD_t, ↓z_gtD_t, ↓z_mulT, ↓z_getD, ↓z_lenD, ↓z_keysL, ↓z_valsL, ↓z_sset_l, ↓z_sortD, ↓z_minDs, hl, atN, a1, a2, a3, b1, b2]
              rw [← e6]; simp [b1, b2, cut_take (show (0 : Int) ≤ (k : Int) + 1 by omega)]
              rw [if_pos (by assumption)]
            · simp [↓w_eVar, ↓w_eC, ↓w_eUn, ↓w_eUnX, ↓w_eBin, ↓w_eM1, ↓w_oBin, ↓w_oUn, ↓w_eOfO, ↓w_eNil, ↓w_eCons, ↓w_eTup, ↓w_oLst, ↓w_eCall, ↓w_oCall, ↓w_cT, ↓w_cNot, ↓w_cAnd, ↓w_cOr, ↓w_cYes, ↓w_eAndV, ↓w_eOrV, ↓w_eNotV, ↓w_eIf, ↓w_eOwnIdx, ↓w_qNone, ↓w_qSome, ↓w_eCut, ↓w_oCut, ↓w_eChain, ↓w_iAny, ↓w_iRange1, ↓w_iRange2, ↓w_iRange3, ↓w_eCallS, ↓w_oComp, ↓w_bName, ↓w_bNil, ↓w_bCons, ↓w_bTup, ↓s_sNil, ↓s_sSeq, ↓s_sNever, ↓s_sBreak, ↓s_sCont, ↓s_sIf, ↓s_sDrop, ↓s_sRet, ↓s_sRetN, ↓s_sRetO, ↓s_sRetV, ↓s_sSet, ↓s_sSetO, ↓s_sUnpack, ↓s_sParD, ↓w_setD_nil, ↓w_setD_cons, ↓w_vDat, ↓w_vOwn, ↓s_sPar2, ↓s_sAppend, ↓s_sSetIx, ↓s_sFor, ↓ho_mA, ↓ho_mO, ↓ho_mB, frame, ↓seqO_nx, ↓seqO_rt, ↓seqO_bk, ↓seqO_ct, ↓lpO_nx, ↓lpO_rt, ↓lpO_bk, ↓lpO_ct, ↓wsF, ↓wlF, ↓whF, backR, wipeR, datSlot, strsD_signs, join_signs, sum_ones2, ↓w_eOwnBin, ownAt, ↓w_eP, ↓w_eBinX, ↓w_eTupleP, ↓w_iEnumD, ↓w_iZipD, ↓w_eOfM, ↓w_mNew, ↓w_mDisp, ↓w_mDispT, ↓s_sSetM, ↓w_vDic, ↓w_eGetV, ↓w_eGetXV, ↓w_cInV, ↓s_sPutV, ↓w_eGetX, ↓w_iKeysD, ↓w_iItemsD, lookM, ↓z_add_i, ↓z_add_s, ↓z_add_t, ↓z_sub, ↓z_mul_i, ↓z_mul_s, ↓z_div, ↓z_mod, ↓z_pow, ↓z_neg, ↓z_eq_i, ↓z_eq_s, ↓z_eq_b, ↓z_eq_l, ↓z_eq_t, ↓z_ne_i, ↓z_ne_s, ↓z_ne_b, ↓z_ne_l, ↓z_ne_t, ↓z_eq_ns, ↓z_eq_sn, ↓z_ne_ns, ↓z_ne_sn, ↓z_lt, ↓z_le, ↓z_gt, ↓z_ge, ↓z_idx_l, ↓z_idx_t, ↓z_idx_r, ↓z_idx_s, ↓z_len_s, ↓z_len_l, ↓z_len_t, ↓z_len_r, ↓z_abs, ↓z_min2, ↓z_max2, ↓z_int_i, ↓z_int_b, ↓z_cut_s, ↓z_cut_t, ↓z_gcut, ↓z_rev, ↓z_grev, ↓z_gadd, ↓z_gmul, ↓z_list_l, ↓z_list_t, ↓z_list_s, ↓z_tuple_l, ↓z_tuple_t, ↓z_all, ↓z_any, ↓z_sum, ↓z_maxl, ↓z_minl, ↓z_rfind, ↓z_join_l, ↓z_join_t, ↓z_in_s, ↓z_nin_s, ↓z_in_t, ↓z_nin_t, ↓z_in_l, ↓z_nin_l, ↓z_items_l, ↓z_items_t, ↓z_items_r, ↓z_items_s, ↓z_isi_s, ↓z_isi_i, ↓z_isi_b, ↓z_isi_n, ↓z_isi_l, ↓z_isi_t, ↓z_isi_r, ↓z_ty_s, ↓z_ty_i, ↓z_ty_b, ↓z_ty_n, ↓z_ty_l, ↓z_ty_t, ↓z_k_ss, ↓z_k_ii, ↓z_k_ib, ↓z_k_tt, ↓z_k_ll, flatD, pVar, ↓ho_ite, ↓z_lset_l, ↓z_lset_t, ↓z_rg2, ↓z_rg1, ↓z_is_nn, ↓z_is_tn, ↓z_is_ln, ↓z_is_sn, ↓z_is_in, ↓z_is_bb, ↓z_isn_nn, ↓z_isn_tn, ↓z_isn_ln, ↓z_isn_sn, ↓z_isn_in, ↓z_isn_bb, ↓z_ne_nn, ↓z_eq_nn, ↓z_k_bb, ↓z_seq_l, ↓z_zip_l, ↓z_zip_t, ↓z_ltD_i, ↓z_gtD_i, ↓z_leD_i, ↓z_geD_i, ↓z_ltD_s, ↓z_gtD_s, ↓z_ltD_t, ↓z_gtD_t, ↓z_mulT, ↓z_getD, ↓z_lenD, ↓z_keysL, ↓z_valsL, ↓z_sset_l, ↓z_sortD, ↓z_minDs, hl, atN, a1, a2, a3, b1, b2]
              exact ⟨k, rfl, by omega, by rw [← e6]; simp [b2]⟩
    · intro ρ hI
      obtain ⟨k, s, e1, e2, e3, e4, e5⟩ := hI
      subst e2
      have : k = 0 := by have := congrArg List.length e1; simp [len_downD] at this; omega
      subst this
      rw [lastP] at e4
      simp [↓w_eVar, ↓w_eC, ↓w_eUn, ↓w_eUnX, ↓w_eBin, ↓w_eM1, ↓w_oBin, ↓w_oUn, ↓w_eOfO, ↓w_eNil, ↓w_eCons, ↓w_eTup, ↓w_oLst, ↓w_eCall, ↓w_oCall, ↓w_cT, ↓w_cNot, ↓w_cAnd, ↓w_cOr, ↓w_cYes, ↓w_eAndV, ↓w_eOrV, ↓w_eNotV, ↓w_eIf, ↓w_eOwnIdx, ↓w_qNone, ↓w_qSome, ↓w_eCut, ↓w_oCut, ↓w_eChain, ↓w_iAny, ↓w_iRange1, ↓w_iRange2, ↓w_iRange3, ↓w_eCallS, ↓w_oComp, ↓w_bName, ↓w_bNil, ↓w_bCons, ↓w_bTup, ↓s_sNil, ↓s_sSeq, ↓s_sNever, ↓s_sBreak, ↓s_sCont, ↓s_sIf, ↓s_sDrop, ↓s_sRet, ↓s_sRetN, ↓s_sRetO, ↓s_sRetV, ↓s_sSet, ↓s_sSetO, ↓s_sUnpack, ↓s_sParD, ↓w_setD_nil, ↓w_setD_cons, ↓w_vDat, ↓w_vOwn, ↓s_sPar2, ↓s_sAppend, ↓s_sSetIx, ↓s_sFor, ↓ho_mA, ↓ho_mO, ↓ho_mB, frame, ↓seqO_nx, ↓seqO_rt, ↓seqO_bk, ↓seqO_ct, ↓lpO_nx, ↓lpO_rt, ↓lpO_bk, ↓lpO_ct, ↓wsF, ↓wlF, ↓whF, backR, wipeR, datSlot, strsD_signs, join_signs, sum_ones2, ↓w_eOwnBin, ownAt, ↓w_eP, ↓w_eBinX, ↓w_eTupleP, ↓w_iEnumD, ↓w_iZipD, ↓w_eOfM, ↓w_mNew, ↓w_mDisp, ↓w_mDispT, ↓s_sSetM, ↓w_vDic, ↓w_eGetV, ↓w_eGetXV, ↓w_cInV, ↓s_sPutV, ↓w_eGetX, ↓w_iKeysD, ↓w_iItemsD, lookM, ↓z_add_i, ↓z_add_s, ↓z_add_t, ↓z_sub, ↓z_mul_i, ↓z_mul_s, ↓z_div, ↓z_mod, ↓z_pow, ↓z_neg, ↓z_eq_i, ↓z_eq_s, ↓z_eq_b, ↓z_eq_l, ↓z_eq_t, ↓z_ne_i, ↓z_ne_s, ↓z_ne_b, ↓z_ne_l, ↓z_ne_t, ↓z_eq_ns, ↓z_eq_sn, ↓z_ne_ns, ↓z_ne_sn, ↓z_lt, ↓z_le, ↓z_gt, ↓z_ge, ↓z_idx_l, ↓z_idx_t, ↓z_idx_r, ↓z_idx_s, ↓z_len_s, ↓z_len_l, ↓z_len_t, ↓z_len_r, ↓z_abs, ↓z_min2, ↓z_max2, ↓z_int_i, ↓z_int_b, ↓z_cut_s, ↓z_cut_t, ↓z_gcut, ↓z_rev, ↓z_grev, ↓z_gadd, ↓z_gmul, ↓z_list_l, ↓z_list_t, ↓z_list_s, ↓z_tuple_l, ↓z_tuple_t, ↓z_all, ↓z_any, ↓z_sum, ↓z_maxl, ↓z_minl, ↓z_rfind, ↓z_join_l, ↓z_join_t, ↓z_in_s, ↓z_nin_s, ↓z_in_t, ↓z_nin_t, ↓z_in_l, ↓z_nin_l, ↓z_items_l, ↓z_items_t, ↓z_items_r, ↓z_items_s, ↓z_isi_s, ↓z_isi_i, ↓z_isi_b, ↓z_isi_n, ↓z_isi_l, ↓z_isi_t, ↓z_isi_r, ↓z_ty_s, ↓z_ty_i, ↓z_ty_b, ↓z_ty_n, ↓z_ty_l, ↓z_ty_t, ↓z_k_ss, ↓z_k_ii, ↓z_k_ib, ↓z_k_tt, ↓z_k_ll, flatD, pVar, ↓ho_ite, ↓z_lset_l, ↓z_lset_t, ↓z_rg2, ↓z_rg1, ↓z_is_nn, ↓z_is_tn, ↓z_is_ln, ↓z_is_sn, ↓z_is_in, ↓z_is_bb, ↓z_isn_nn, ↓z_isn_tn, ↓z_isn_ln, ↓z_isn_sn, ↓z_isn_in, ↓z_isn_bb, ↓z_ne_nn, ↓z_eq_nn, ↓z_k_bb, ↓z_seq_l, ↓z_zip_l, ↓z_zip_t, ↓z_ltD_i, ↓z_gtD_i, ↓z_leD_i, ↓z_geD_i, ↓z_ltD_s, ↓z_gtD_s, ↓z_ltD_t, ↓z_gtD_t, ↓z_mulT, ↓z_getD, ↓z_lenD, ↓z_keysL, ↓z_valsL, ↓z_sset_l, ↓z_sortD, ↓z_minDs, hl, ← e4, cut_take (show (0 : Int) ≤ (n : Int) by omega)]
  · simp [hl, cut_take (show (0 : Int) ≤ (n : Int) by omega)]
theorem back_eq {t : List Nat} {n : Nat} {u : List Nat} (h : n < t.length) (hl : t.length ≤ lim) : m_back_of [.str t, .int n, .str u] = some (.str (back t n u)) := by
  rw [← ho_eq]; unfold m_back_of g_back_of back
  have := front_len (t := t.reverse) (n := n) (u := u)
  have hl' : t.length ≤ 1000000 := hl
  simp [↓w_eVar, ↓w_eC, ↓w_eUn, ↓w_eUnX, ↓w_eBin, ↓w_eM1, ↓w_oBin, ↓w_oUn, ↓w_eOfO, ↓w_eNil, ↓w_eCons, ↓w_eTup, ↓w_oLst, ↓w_eCall, ↓w_oCall, ↓w_cT, ↓w_cNot, ↓w_cAnd, ↓w_cOr, ↓w_cYes, ↓w_eAndV, ↓w_eOrV, ↓w_eNotV, ↓w_eIf, ↓w_eOwnIdx, ↓w_qNone, ↓w_qSome, ↓w_eCut, ↓w_oCut, ↓w_eChain, ↓w_iAny, ↓w_iRange1, ↓w_iRange2, ↓w_iRange3, ↓w_eCallS, ↓w_oComp, ↓w_bName, ↓w_bNil, ↓w_bCons, ↓w_bTup, ↓s_sNil, ↓s_sSeq, ↓s_sNever, ↓s_sBreak, ↓s_sCont, ↓s_sIf, ↓s_sDrop, ↓s_sRet, ↓s_sRetN, ↓s_sRetO, ↓s_sRetV, ↓s_sSet, ↓s_sSetO, ↓s_sUnpack, ↓s_sParD, ↓w_setD_nil, ↓w_setD_cons, ↓w_vDat, ↓w_vOwn, ↓s_sPar2, ↓s_sAppend, ↓s_sSetIx, ↓s_sFor, ↓ho_mA, ↓ho_mO, ↓ho_mB, frame, ↓seqO_nx, ↓seqO_rt, ↓seqO_bk, ↓seqO_ct, ↓lpO_nx, ↓lpO_rt, ↓lpO_bk, ↓lpO_ct, ↓wsF, ↓wlF, ↓whF, backR, wipeR, datSlot, strsD_signs, join_signs, sum_ones2, ↓w_eOwnBin, ownAt, ↓w_eP, ↓w_eBinX, ↓w_eTupleP, ↓w_iEnumD, ↓w_iZipD, ↓w_eOfM, ↓w_mNew, ↓w_mDisp, ↓w_mDispT, ↓s_sSetM, ↓w_vDic, ↓w_eGetV, ↓w_eGetXV, ↓w_cInV, ↓s_sPutV, ↓w_eGetX, ↓w_iKeysD, ↓w_iItemsD, lookM, ↓z_add_i, ↓z_add_s, ↓z_add_t, ↓z_sub, ↓z_mul_i, ↓z_mul_s, ↓z_div, ↓z_mod, ↓z_pow, ↓z_neg, ↓z_eq_i, ↓z_eq_s, ↓z_eq_b, ↓z_eq_l, ↓z_eq_t, ↓z_ne_i, ↓z_ne_s, ↓z_ne_b, ↓z_ne_l, ↓z_ne_t, ↓z_eq_ns, ↓z_eq_sn, ↓z_ne_ns, ↓z_ne_sn, ↓z_lt, ↓z_le, ↓z_gt, ↓z_ge, ↓z_idx_l, ↓z_idx_t, ↓z_idx_r, ↓z_idx_s, ↓z_len_s, ↓z_len_l, ↓z_len_t, ↓z_len_r, ↓z_abs, ↓z_min2, ↓z_max2, ↓z_int_i, ↓z_int_b, ↓z_cut_s, ↓z_cut_t, ↓z_gcut, ↓z_rev, ↓z_grev, ↓z_gadd, ↓z_gmul, ↓z_list_l, ↓z_list_t, ↓z_list_s, ↓z_tuple_l, ↓z_tuple_t, ↓z_all, ↓z_any, ↓z_sum, ↓z_maxl, ↓z_minl, ↓z_rfind, ↓z_join_l, ↓z_join_t, ↓z_in_s, ↓z_nin_s, ↓z_in_t, ↓z_nin_t, ↓z_in_l, ↓z_nin_l, ↓z_items_l, ↓z_items_t, ↓z_items_r, ↓z_items_s, ↓z_isi_s, ↓z_isi_i, ↓z_isi_b, ↓z_isi_n, ↓z_isi_l, ↓z_isi_t, ↓z_isi_r, ↓z_ty_s, ↓z_ty_i, ↓z_ty_b, ↓z_ty_n, ↓z_ty_l, ↓z_ty_t, ↓z_k_ss, ↓z_k_ii, ↓z_k_ib, ↓z_k_tt, ↓z_k_ll, flatD, pVar, ↓ho_ite, ↓z_lset_l, ↓z_lset_t, ↓z_rg2, ↓z_rg1, ↓z_is_nn, ↓z_is_tn, ↓z_is_ln, ↓z_is_sn, ↓z_is_in, ↓z_is_bb, ↓z_isn_nn, ↓z_isn_tn, ↓z_isn_ln, ↓z_isn_sn, ↓z_isn_in, ↓z_isn_bb, ↓z_ne_nn, ↓z_eq_nn, ↓z_k_bb, ↓z_seq_l, ↓z_zip_l, ↓z_zip_t, ↓z_ltD_i, ↓z_gtD_i, ↓z_leD_i, ↓z_geD_i, ↓z_ltD_s, ↓z_gtD_s, ↓z_ltD_t, ↓z_gtD_t, ↓z_mulT, ↓z_getD, ↓z_lenD, ↓z_keysL, ↓z_valsL, ↓z_sset_l, ↓z_sortD, ↓z_minDs, hl, front_eq (t := t.reverse) (n := n) (u := u) (by simpa using h) (by simpa using hl)]
  unfold lim; omega

theorem all_in (z : List Nat) (F : Nat → D) (hF : ∀ c, F c = .bl (decide (c ∈ z))) : ∀ s : List Nat, allB (s.map F) = some (decide (∀ c, c ∈ s → c ∈ z))
  | [] => by simp [allB]
  | c :: s => by
    simp only [List.map_cons, hF, allB, all_in z F hF s, List.mem_cons, forall_eq_or_imp, Bool.decide_and]
theorem ending_eq {t : List Nat} (hl : t.length ≤ lim) : m_ending_of [.str t] = some (.str (tail t)) := by
  rw [← ho_eq]; unfold m_ending_of g_ending_of
  have hl' : t.length ≤ 1000000 := hl
  have dec : ∀ (z : List Nat) (w : Rho) (hw : w = [.dat (.str t), .dat (.int (rfindL 46 t)), .dat (.str z), .emp]) (Q : List D → Rho → Prop), Q (z.map fun c => .bl (decide (c ∈ [97, 98, 99]))) w → wl [3] (bName 3) cYes (eBin fIn (eVar 3) (eC (.str [97, 98, 99]))) (signsD z) w Q := by
    intro z w hw Q hQ
    subst hw
    refine wl_fix (p := fun _ => true) (q := fun d => match d with | .str [c] => .bl (decide (c ∈ [97, 98, 99])) | _ => .non) ?_ ?_
    · intro d hd
      obtain ⟨c, hc, rfl⟩ := List.mem_map.mp hd
      simp [↓w_eVar, ↓w_eC, ↓w_eUn, ↓w_eUnX, ↓w_eBin, ↓w_eM1, ↓w_oBin, ↓w_oUn, ↓w_eOfO, ↓w_eNil, ↓w_eCons, ↓w_eTup, ↓w_oLst, ↓w_eCall, ↓w_oCall, ↓w_cT, ↓w_cNot, ↓w_cAnd, ↓w_cOr, ↓w_cYes, ↓w_eAndV, ↓w_eOrV, ↓w_eNotV, ↓w_eIf, ↓w_eOwnIdx, ↓w_qNone, ↓w_qSome, ↓w_eCut, ↓w_oCut, ↓w_eChain, ↓w_iAny, ↓w_iRange1, ↓w_iRange2, ↓w_iRange3, ↓w_eCallS, ↓w_oComp, ↓w_bName, ↓w_bNil, ↓w_bCons, ↓w_bTup, ↓s_sNil, ↓s_sSeq, ↓s_sNever, ↓s_sBreak, ↓s_sCont, ↓s_sIf, ↓s_sDrop, ↓s_sRet, ↓s_sRetN, ↓s_sRetO, ↓s_sRetV, ↓s_sSet, ↓s_sSetO, ↓s_sUnpack, ↓s_sParD, ↓w_setD_nil, ↓w_setD_cons, ↓w_vDat, ↓w_vOwn, ↓s_sPar2, ↓s_sAppend, ↓s_sSetIx, ↓s_sFor, ↓ho_mA, ↓ho_mO, ↓ho_mB, frame, ↓seqO_nx, ↓seqO_rt, ↓seqO_bk, ↓seqO_ct, ↓lpO_nx, ↓lpO_rt, ↓lpO_bk, ↓lpO_ct, ↓wsF, ↓wlF, ↓whF, backR, wipeR, datSlot, strsD_signs, join_signs, sum_ones2, ↓w_eOwnBin, ownAt, ↓w_eP, ↓w_eBinX, ↓w_eTupleP, ↓w_iEnumD, ↓w_iZipD, ↓w_eOfM, ↓w_mNew, ↓w_mDisp, ↓w_mDispT, ↓s_sSetM, ↓w_vDic, ↓w_eGetV, ↓w_eGetXV, ↓w_cInV, ↓s_sPutV, ↓w_eGetX, ↓w_iKeysD, ↓w_iItemsD, lookM, ↓z_add_i, ↓z_add_s, ↓z_add_t, ↓z_sub, ↓z_mul_i, ↓z_mul_s, ↓z_div, ↓z_mod, ↓z_pow, ↓z_neg, ↓z_eq_i, ↓z_eq_s, ↓z_eq_b, ↓z_eq_l, ↓z_eq_t, ↓z_ne_i, ↓z_ne_s, ↓z_ne_b, ↓z_ne_l, ↓z_ne_t, ↓z_eq_ns, ↓z_eq_sn, ↓z_ne_ns, ↓z_ne_sn, ↓z_lt, ↓z_le, ↓z_gt, ↓z_ge, ↓z_idx_l, ↓z_idx_t, ↓z_idx_r, ↓z_idx_s, ↓z_len_s, ↓z_len_l, ↓z_len_t, ↓z_len_r, ↓z_abs, ↓z_min2, ↓z_max2, ↓z_int_i, ↓z_int_b, ↓z_cut_s, ↓z_cut_t, ↓z_gcut, ↓z_rev, ↓z_grev, ↓z_gadd, ↓z_gmul, ↓z_list_l, ↓z_list_t, ↓z_list_s, ↓z_tuple_l, ↓z_tuple_t, ↓z_all, ↓z_any, ↓z_sum, ↓z_maxl, ↓z_minl, ↓z_rfind, ↓z_join_l, ↓z_join_t, ↓z_in_s, ↓z_nin_s, ↓z_in_t, ↓z_nin_t, ↓z_in_l, ↓z_nin_l, ↓z_items_l, ↓z_items_t, ↓z_items_r, ↓z_items_s, ↓z_isi_s, ↓z_isi_i, ↓z_isi_b, ↓z_isi_n, ↓z_isi_l, ↓z_isi_t, ↓z_isi_r, ↓z_ty_s, ↓z_ty_i, ↓z_ty_b, ↓z_ty_n, ↓z_ty_l, ↓z_ty_t, ↓z_k_ss, ↓z_k_ii, ↓z_k_ib, ↓z_k_tt, ↓z_k_ll, flatD, pVar, ↓ho_ite, ↓z_lset_l, ↓z_lset_t, ↓z_rg2, ↓z_rg1, ↓z_is_nn, ↓z_is_tn, ↓z_is_ln, ↓z_is_sn, ↓z_is_in, ↓z_is_bb, ↓z_isn_nn, ↓z_isn_tn, ↓z_isn_ln, ↓z_isn_sn, ↓z_isn_in, ↓z_isn_bb, ↓z_ne_nn, ↓z_eq_nn, ↓z_k_bb, ↓z_seq_l, ↓z_zip_l, ↓z_zip_t, ↓z_ltD_i, ↓z_gtD_i, ↓z_leD_i, ↓z_geD_i, ↓z_ltD_s, ↓z_gtD_s, ↓z_ltD_t, ↓z_gtD_t, ↓z_mulT, ↓z_getD, ↓z_lenD, ↓z_keysL, ↓z_valsL, ↓z_sset_l, ↓z_sortD, ↓z_minDs]
    · rw [List.filter_eq_self.mpr (by simp)]
      unfold signsD
      rw [List.map_map]
      exact hQ
  rcases rfind_two 46 t with ⟨h1, h2⟩ | ⟨k, h1, h2, h3⟩
  · have e : tail t = [] := by unfold tail; rw [if_neg]; rw [h1]; omega
    simp [↓w_eVar, ↓w_eC, ↓w_eUn, ↓w_eUnX, ↓w_eBin, ↓w_eM1, ↓w_oBin, ↓w_oUn, ↓w_eOfO, ↓w_eNil, ↓w_eCons, ↓w_eTup, ↓w_oLst, ↓w_eCall, ↓w_oCall, ↓w_cT, ↓w_cNot, ↓w_cAnd, ↓w_cOr, ↓w_cYes, ↓w_eAndV, ↓w_eOrV, ↓w_eNotV, ↓w_eIf, ↓w_eOwnIdx, ↓w_qNone, ↓w_qSome, ↓w_eCut, ↓w_oCut, ↓w_eChain, ↓w_iAny, ↓w_iRange1, ↓w_iRange2, ↓w_iRange3, ↓w_eCallS, ↓w_oComp, ↓w_bName, ↓w_bNil, ↓w_bCons, ↓w_bTup, ↓s_sNil, ↓s_sSeq, ↓s_sNever, ↓s_sBreak, ↓s_sCont, ↓s_sIf, ↓s_sDrop, ↓s_sRet, ↓s_sRetN, ↓s_sRetO, ↓s_sRetV, ↓s_sSet, ↓s_sSetO, ↓s_sUnpack, ↓s_sParD, ↓w_setD_nil, ↓w_setD_cons, ↓w_vDat, ↓w_vOwn, ↓s_sPar2, ↓s_sAppend, ↓s_sSetIx, ↓s_sFor, ↓ho_mA, ↓ho_mO, ↓ho_mB, frame, ↓seqO_nx, ↓seqO_rt, ↓seqO_bk, ↓seqO_ct, ↓lpO_nx, ↓lpO_rt, ↓lpO_bk, ↓lpO_ct, ↓wsF, ↓wlF, ↓whF, backR, wipeR, datSlot, strsD_signs, join_signs, sum_ones2, ↓w_eOwnBin, ownAt, ↓w_eP, ↓w_eBinX, ↓w_eTupleP, ↓w_iEnumD, ↓w_iZipD, ↓w_eOfM, ↓w_mNew, ↓w_mDisp, ↓w_mDispT, ↓s_sSetM, ↓w_vDic, ↓w_eGetV, ↓w_eGetXV, ↓w_cInV, ↓s_sPutV, ↓w_eGetX, ↓w_iKeysD, ↓w_iItemsD, lookM, ↓z_add_i, ↓z_add_s, ↓z_add_t, ↓z_sub, ↓z_mul_i, ↓z_mul_s, ↓z_div, ↓z_mod, ↓z_pow, ↓z_neg, ↓z_eq_i, ↓z_eq_s, ↓z_eq_b, ↓z_eq_l, ↓z_eq_t, ↓z_ne_i, ↓z_ne_s, ↓z_ne_b, ↓z_ne_l, ↓z_ne_t, ↓z_eq_ns, ↓z_eq_sn, ↓z_ne_ns, ↓z_ne_sn, ↓z_lt, ↓z_le, ↓z_gt, ↓z_ge, ↓z_idx_l, ↓z_idx_t, ↓z_idx_r, ↓z_idx_s, ↓z_len_s, ↓z_len_l, ↓z_len_t, ↓z_len_r, ↓z_abs, ↓z_min2, ↓z_max2, ↓z_int_i, ↓z_int_b, ↓z_cut_s, ↓z_cut_t, ↓z_gcut, ↓z_rev, ↓z_grev, ↓z_gadd, ↓z_gmul, ↓z_list_l, ↓z_list_t, ↓z_list_s, ↓z_tuple_l, ↓z_tuple_t, ↓z_all, ↓z_any, ↓z_sum, ↓z_maxl, ↓z_minl, ↓z_rfind, ↓z_join_l, ↓z_join_t, ↓z_in_s, ↓z_nin_s, ↓z_in_t, ↓z_nin_t, ↓z_in_l, ↓z_nin_l, ↓z_items_l, ↓z_items_t, ↓z_items_r, ↓z_items_s, ↓z_isi_s, ↓z_isi_i, ↓z_isi_b, ↓z_isi_n, ↓z_isi_l, ↓z_isi_t, ↓z_isi_r, ↓z_ty_s, ↓z_ty_i, ↓z_ty_b, ↓z_ty_n, ↓z_ty_l, ↓z_ty_t, ↓z_k_ss, ↓z_k_ii, ↓z_k_ib, ↓z_k_tt, ↓z_k_ll, flatD, pVar, ↓ho_ite, ↓z_lset_l, ↓z_lset_t, ↓z_rg2, ↓z_rg1, ↓z_is_nn, ↓z_is_tn, ↓z_is_ln, ↓z_is_sn, ↓z_is_in, ↓z_is_bb, ↓z_isn_nn, ↓z_isn_tn, ↓z_isn_ln, ↓z_isn_sn, ↓z_isn_in, ↓z_isn_bb, ↓z_ne_nn, ↓z_eq_nn, ↓z_k_bb, ↓z_seq_l, ↓z_zip_l, ↓z_zip_t, ↓z_ltD_i, ↓z_gtD_i, ↓z_leD_i, ↓z_geD_i, ↓z_ltD_s, ↓z_gtD_s, ↓z_ltD_t, ↓z_gtD_t, ↓z_mulT, ↓z_getD, ↓z_lenD, ↓z_keysL, ↓z_valsL, ↓z_sset_l, ↓z_sortD, ↓z_minDs, h1, e, hl]
  · have hk : k < t.length := by
      rcases Nat.lt_or_ge k t.length with z | z
      · exact z
      · rw [List.getElem?_eq_none z] at h2; cases h2
    rw [h1] at dec
    simp [↓w_eVar, ↓w_eC, ↓w_eUn, ↓w_eUnX, ↓w_eBin, ↓w_eM1, ↓w_oBin, ↓w_oUn, ↓w_eOfO, ↓w_eNil, ↓w_eCons, ↓w_eTup, ↓w_oLst, ↓w_eCall, ↓w_oCall, ↓w_cT, ↓w_cNot, ↓w_cAnd, ↓w_cOr, ↓w_cYes, ↓w_eAndV, ↓w_eOrV, ↓w_eNotV, ↓w_eIf, ↓w_eOwnIdx, ↓w_qNone, ↓w_qSome, ↓w_eCut, ↓w_oCut, ↓w_eChain, ↓w_iAny, ↓w_iRange1, ↓w_iRange2, ↓w_iRange3, ↓w_eCallS, ↓w_oComp, ↓w_bName, ↓w_bNil, ↓w_bCons, ↓w_bTup, ↓s_sNil, ↓s_sSeq, ↓s_sNever, ↓s_sBreak, ↓s_sCont, ↓s_sIf, ↓s_sDrop, ↓s_sRet, ↓s_sRetN, ↓s_sRetO, ↓s_sRetV, ↓s_sSet, ↓s_sSetO, ↓s_sUnpack, ↓s_sParD, ↓w_setD_nil, ↓w_setD_cons, ↓w_vDat, ↓w_vOwn, ↓s_sPar2, ↓s_sAppend, ↓s_sSetIx, ↓s_sFor, ↓ho_mA, ↓ho_mO, ↓ho_mB, frame, ↓seqO_nx, ↓seqO_rt, ↓seqO_bk, ↓seqO_ct, ↓lpO_nx, ↓lpO_rt, ↓lpO_bk, ↓lpO_ct, ↓wsF, ↓wlF, ↓whF, backR, wipeR, datSlot, strsD_signs, join_signs, sum_ones2, ↓w_eOwnBin, ownAt, ↓w_eP, ↓w_eBinX, ↓w_eTupleP, ↓w_iEnumD, ↓w_iZipD, ↓w_eOfM, ↓w_mNew, ↓w_mDisp, ↓w_mDispT, ↓s_sSetM, ↓w_vDic, ↓w_eGetV, ↓w_eGetXV, ↓w_cInV, ↓s_sPutV, ↓w_eGetX, ↓w_iKeysD, ↓w_iItemsD, lookM, ↓z_add_i, ↓z_add_s, ↓z_add_t, ↓z_sub, ↓z_mul_i, ↓z_mul_s, ↓z_div, ↓z_mod, ↓z_pow, ↓z_neg, ↓z_eq_i, ↓z_eq_s, ↓z_eq_b, ↓z_eq_l, ↓z_eq_t, ↓z_ne_i, ↓z_ne_s, ↓z_ne_b, ↓z_ne_l, ↓z_ne_t, ↓z_eq_ns, ↓z_eq_sn, ↓z_ne_ns, ↓z_ne_sn, ↓z_lt, ↓z_le, ↓z_gt, ↓z_ge, ↓z_idx_l, ↓z_idx_t, ↓z_idx_r, ↓z_idx_s, ↓z_len_s, ↓z_len_l, ↓z_len_t, ↓z_len_r, ↓z_abs, ↓z_min2, ↓z_max2, ↓z_int_i, ↓z_int_b, ↓z_cut_s, ↓z_cut_t, ↓z_gcut, ↓z_rev, ↓z_grev, ↓z_gadd, ↓z_gmul, ↓z_list_l, ↓z_list_t, ↓z_list_s, ↓z_tuple_l, ↓z_tuple_t, ↓z_all, ↓z_any, ↓z_sum, ↓z_maxl, ↓z_minl, ↓z_rfind, ↓z_join_l, ↓z_join_t, ↓z_in_s, ↓z_nin_s, ↓z_in_t, ↓z_nin_t, ↓z_in_l, ↓z_nin_l, ↓z_items_l, ↓z_items_t, ↓z_items_r, ↓z_items_s, ↓z_isi_s, ↓z_isi_i, ↓z_isi_b, ↓z_isi_n, ↓z_isi_l, ↓z_isi_t, ↓z_isi_r, ↓z_ty_s, ↓z_ty_i, ↓z_ty_b, ↓z_ty_n, ↓z_ty_l, ↓z_ty_t, ↓z_k_ss, ↓z_k_ii, ↓z_k_ib, ↓z_k_tt, ↓z_k_ll, flatD, pVar, ↓ho_ite, ↓z_lset_l, ↓z_lset_t, ↓z_rg2, ↓z_rg1, ↓z_is_nn, ↓z_is_tn, ↓z_is_ln, ↓z_is_sn, ↓z_is_in, ↓z_is_bb, ↓z_isn_nn, ↓z_isn_tn, ↓z_isn_ln, ↓z_isn_sn, ↓z_isn_in, ↓z_isn_bb, ↓z_ne_nn, ↓z_eq_nn, ↓z_k_bb, ↓z_seq_l, ↓z_zip_l, ↓z_zip_t, ↓z_ltD_i, ↓z_gtD_i, ↓z_leD_i, ↓z_geD_i, ↓z_ltD_s, ↓z_gtD_s, ↓z_ltD_t, ↓z_gtD_t, ↓z_mulT, ↓z_getD, ↓z_lenD, ↓z_keysL, ↓z_valsL, ↓z_sset_l, ↓z_sortD, ↓z_minDs, h1, hl]
    rw [cut_drop (by omega), show ((k : Int) + 1).toNat = k + 1 by omega]
    have e : tail t = if isTail t k then t.drop k else [] := by unfold tail; rw [h1]; simp
    by_cases c1 : (k : Int) < 1
    · rw [if_pos c1]
      have : ¬ isTail t k := fun h => by have := h.1; omega
      rw [e, if_neg this]
    · rw [if_neg c1]
      refine ⟨by simp; omega, ?_⟩
      have hz : (t.drop (k + 1)).length = t.length - (k + 1) := by simp
      have iT : isTail t k ↔ (2 ≤ t.length - k ∧ t.length - k ≤ 5 ∧ ∀ c, c ∈ t.drop (k + 1) → c ∈ [97, 98, 99]) := by
        unfold isTail; exact ⟨fun h => ⟨by omega, by omega, h.2.2.2.2⟩, fun h => ⟨by omega, by omega, by omega, h2, h.2.2⟩⟩
      generalize t.drop (k + 1) = z at hz iT dec ⊢
      have ai := all_in [97, 98, 99] (fun c => .bl (decide (c ∈ [97, 98, 99]))) (fun _ => rfl) z
      simp [↓w_eVar, ↓w_eC, ↓w_eUn, ↓w_eUnX, ↓w_eBin, ↓w_eM1, ↓w_oBin, ↓w_oUn, ↓w_eOfO, ↓w_eNil, ↓w_eCons, ↓w_eTup, ↓w_oLst, ↓w_eCall, ↓w_oCall, ↓w_cT, ↓w_cNot, ↓w_cAnd, ↓w_cOr, ↓w_cYes, ↓w_eAndV, ↓w_eOrV, ↓w_eNotV, ↓w_eIf, ↓w_eOwnIdx, ↓w_qNone, ↓w_qSome, ↓w_eCut, ↓w_oCut, ↓w_eChain, ↓w_iAny, ↓w_iRange1, ↓w_iRange2, ↓w_iRange3, ↓w_eCallS, ↓w_oComp, ↓w_bName, ↓w_bNil, ↓w_bCons, ↓w_bTup, ↓s_sNil, ↓s_sSeq, ↓s_sNever, ↓s_sBreak, ↓s_sCont, ↓s_sIf, ↓s_sDrop, ↓s_sRet, ↓s_sRetN, ↓s_sRetO, ↓s_sRetV, ↓s_sSet, ↓s_sSetO, ↓s_sUnpack, ↓s_sParD, ↓w_setD_nil, ↓w_setD_cons, ↓w_vDat, ↓w_vOwn, ↓s_sPar2, ↓s_sAppend, ↓s_sSetIx, ↓s_sFor, ↓ho_mA, ↓ho_mO, ↓ho_mB, frame, ↓seqO_nx, ↓seqO_rt, ↓seqO_bk, ↓seqO_ct, ↓lpO_nx, ↓lpO_rt, ↓lpO_bk, ↓lpO_ct, ↓wsF, ↓wlF, ↓whF, backR, wipeR, datSlot, strsD_signs, join_signs, sum_ones2, ↓w_eOwnBin, ownAt, ↓w_eP, ↓w_eBinX, ↓w_eTupleP, ↓w_iEnumD, ↓w_iZipD, ↓w_eOfM, ↓w_mNew, ↓w_mDisp, ↓w_mDispT, ↓s_sSetM, ↓w_vDic, ↓w_eGetV, ↓w_eGetXV, ↓w_cInV, ↓s_sPutV, ↓w_eGetX, ↓w_iKeysD, ↓w_iItemsD, lookM, ↓z_add_i, ↓z_add_s, ↓z_add_t, ↓z_sub, ↓z_mul_i, ↓z_mul_s, ↓z_div, ↓z_mod, ↓z_pow, ↓z_neg, ↓z_eq_i, ↓z_eq_s, ↓z_eq_b, ↓z_eq_l, ↓z_eq_t, ↓z_ne_i, ↓z_ne_s, ↓z_ne_b, ↓z_ne_l, ↓z_ne_t, ↓z_eq_ns, ↓z_eq_sn, ↓z_ne_ns, ↓z_ne_sn, ↓z_lt, ↓z_le, ↓z_gt, ↓z_ge, ↓z_idx_l, ↓z_idx_t, ↓z_idx_r, ↓z_idx_s, ↓z_len_s, ↓z_len_l, ↓z_len_t, ↓z_len_r, ↓z_abs, ↓z_min2, ↓z_max2, ↓z_int_i, ↓z_int_b, ↓z_cut_s, ↓z_cut_t, ↓z_gcut, ↓z_rev, ↓z_grev, ↓z_gadd, ↓z_gmul, ↓z_list_l, ↓z_list_t, ↓z_list_s, ↓z_tuple_l, ↓z_tuple_t, ↓z_all, ↓z_any, ↓z_sum, ↓z_maxl, ↓z_minl, ↓z_rfind, ↓z_join_l, ↓z_join_t, ↓z_in_s, ↓z_nin_s, ↓z_in_t, ↓z_nin_t, ↓z_in_l, ↓z_nin_l, ↓z_items_l, ↓z_items_t, ↓z_items_r, ↓z_items_s, ↓z_isi_s, ↓z_isi_i, ↓z_isi_b, ↓z_isi_n, ↓z_isi_l, ↓z_isi_t, ↓z_isi_r, ↓z_ty_s, ↓z_ty_i, ↓z_ty_b, ↓z_ty_n, ↓z_ty_l, ↓z_ty_t, ↓z_k_ss, ↓z_k_ii, ↓z_k_ib, ↓z_k_tt, ↓z_k_ll, flatD, pVar, ↓ho_ite, ↓z_lset_l, ↓z_lset_t, ↓z_rg2, ↓z_rg1, ↓z_is_nn, ↓z_is_tn, ↓z_is_ln, ↓z_is_sn, ↓z_is_in, ↓z_is_bb, ↓z_isn_nn, ↓z_isn_tn, ↓z_isn_ln, ↓z_isn_sn, ↓z_isn_in, ↓z_isn_bb, ↓z_ne_nn, ↓z_eq_nn, ↓z_k_bb, ↓z_seq_l, ↓z_zip_l, ↓z_zip_t, ↓z_ltD_i, ↓z_gtD_i, ↓z_leD_i, ↓z_geD_i, ↓z_ltD_s, ↓z_gtD_s, ↓z_ltD_t, ↓z_gtD_t, ↓z_mulT, ↓z_getD, ↓z_lenD, ↓z_keysL, ↓z_valsL, ↓z_sset_l, ↓z_sortD, ↓z_minDs, hl, hz]
      split
      · split
        · rw [e, if_neg (fun h => by have := iT.mp h; omega)]
        · refine ⟨by simp [signsD, hz]; omega, dec z _ rfl _ ?_⟩
          by_cases c3 : ∀ c, c ∈ z → c ∈ [97, 98, 99]
          · have it := iT.mpr ⟨by omega, by omega, c3⟩
            rw [decide_eq_true c3] at ai
            simp only [↓w_eVar, ↓w_eC, ↓w_eUn, ↓w_eUnX, ↓w_eBin, ↓w_eM1, ↓w_oBin, ↓w_oUn, ↓w_eOfO, ↓w_eNil, ↓w_eCons, ↓w_eTup, ↓w_oLst, ↓w_eCall, ↓w_oCall, ↓w_cT, ↓w_cNot, ↓w_cAnd, ↓w_cOr, ↓w_cYes, ↓w_eAndV, ↓w_eOrV, ↓w_eNotV, ↓w_eIf, ↓w_eOwnIdx, ↓w_qNone, ↓w_qSome, ↓w_eCut, ↓w_oCut, ↓w_eChain, ↓w_iAny, ↓w_iRange1, ↓w_iRange2, ↓w_iRange3, ↓w_eCallS, ↓w_oComp, ↓w_bName, ↓w_bNil, ↓w_bCons, ↓w_bTup, ↓s_sNil, ↓s_sSeq, ↓s_sNever, ↓s_sBreak, ↓s_sCont, ↓s_sIf, ↓s_sDrop, ↓s_sRet, ↓s_sRetN, ↓s_sRetO, ↓s_sRetV, ↓s_sSet, ↓s_sSetO, ↓s_sUnpack, ↓s_sParD, ↓w_setD_nil, ↓w_setD_cons, ↓w_vDat, ↓w_vOwn, ↓s_sPar2, ↓s_sAppend, ↓s_sSetIx, ↓s_sFor, ↓ho_mA, ↓ho_mO, ↓ho_mB, frame, ↓seqO_nx, ↓seqO_rt, ↓seqO_bk, ↓seqO_ct, ↓lpO_nx, ↓lpO_rt, ↓lpO_bk, ↓lpO_ct, ↓wsF, ↓wlF, ↓whF, backR, wipeR, datSlot, strsD_signs, join_signs, sum_ones2, ↓w_eOwnBin, ownAt, ↓w_eP, ↓w_eBinX, ↓w_eTupleP, ↓w_iEnumD, ↓w_iZipD, ↓w_eOfM, ↓w_mNew, ↓w_mDisp, ↓w_mDispT, ↓s_sSetM, ↓w_vDic, ↓w_eGetV, ↓w_eGetXV, ↓w_cInV, ↓s_sPutV, ↓w_eGetX, ↓w_iKeysD, ↓w_iItemsD, lookM, ↓z_all, ai]
            simp [↓w_eVar, ↓w_eC, ↓w_eUn, ↓w_eUnX, ↓w_eBin, ↓w_eM1, ↓w_oBin, ↓w_oUn, ↓w_eOfO, ↓w_eNil, ↓w_eCons, ↓w_eTup, ↓w_oLst, ↓w_eCall, ↓w_oCall, ↓w_cT, ↓w_cNot, ↓w_cAnd, ↓w_cOr, ↓w_cYes, ↓w_eAndV, ↓w_eOrV, ↓w_eNotV, ↓w_eIf, ↓w_eOwnIdx, ↓w_qNone, ↓w_qSome, ↓w_eCut, ↓w_oCut, ↓w_eChain, ↓w_iAny, ↓w_iRange1, ↓w_iRange2, ↓w_iRange3, ↓w_eCallS, ↓w_oComp, ↓w_bName, ↓w_bNil, ↓w_bCons, ↓w_bTup, ↓s_sNil, ↓s_sSeq, ↓s_sNever, ↓s_sBreak, ↓s_sCont, ↓s_sIf, ↓s_sDrop, ↓s_sRet, ↓s_sRetN, ↓s_sRetO, ↓s_sRetV, ↓s_sSet, ↓s_sSetO, ↓s_sUnpack, ↓s_sParD, ↓w_setD_nil, ↓w_setD_cons, ↓w_vDat, ↓w_vOwn, ↓s_sPar2, ↓s_sAppend, ↓s_sSetIx, ↓s_sFor, ↓ho_mA, ↓ho_mO, ↓ho_mB, frame, ↓seqO_nx, ↓seqO_rt, ↓seqO_bk, ↓seqO_ct, ↓lpO_nx, ↓lpO_rt, ↓lpO_bk, ↓lpO_ct, ↓wsF, ↓wlF, ↓whF, backR, wipeR, datSlot, strsD_signs, join_signs, sum_ones2, ↓w_eOwnBin, ownAt, ↓w_eP, ↓w_eBinX, ↓w_eTupleP, ↓w_iEnumD, ↓w_iZipD, ↓w_eOfM, ↓w_mNew, ↓w_mDisp, ↓w_mDispT, ↓s_sSetM, ↓w_vDic, ↓w_eGetV, ↓w_eGetXV, ↓w_cInV, ↓s_sPutV, ↓w_eGetX, ↓w_iKeysD, ↓w_iItemsD, lookM, ↓z_add_i, ↓z_add_s, ↓z_add_t, ↓z_sub, ↓z_mul_i, ↓z_mul_s, ↓z_div, ↓z_mod, ↓z_pow, ↓z_neg, ↓z_eq_i, ↓z_eq_s, ↓z_eq_b, ↓z_eq_l, ↓z_eq_t, ↓z_ne_i, ↓z_ne_s, ↓z_ne_b, ↓z_ne_l, ↓z_ne_t, ↓z_eq_ns, ↓z_eq_sn, ↓z_ne_ns, ↓z_ne_sn, ↓z_lt, ↓z_le, ↓z_gt, ↓z_ge, ↓z_idx_l, ↓z_idx_t, ↓z_idx_r, ↓z_idx_s, ↓z_len_s, ↓z_len_l, ↓z_len_t, ↓z_len_r, ↓z_abs, ↓z_min2, ↓z_max2, ↓z_int_i, ↓z_int_b, ↓z_cut_s, ↓z_cut_t, ↓z_gcut, ↓z_rev, ↓z_grev, ↓z_gadd, ↓z_gmul, ↓z_list_l, ↓z_list_t, ↓z_list_s, ↓z_tuple_l, ↓z_tuple_t, ↓z_all, ↓z_any, ↓z_sum, ↓z_maxl, ↓z_minl, ↓z_rfind, ↓z_join_l, ↓z_join_t, ↓z_in_s, ↓z_nin_s, ↓z_in_t, ↓z_nin_t, ↓z_in_l, ↓z_nin_l, ↓z_items_l, ↓z_items_t, ↓z_items_r, ↓z_items_s, ↓z_isi_s, ↓z_isi_i, ↓z_isi_b, ↓z_isi_n, ↓z_isi_l, ↓z_isi_t, ↓z_isi_r, ↓z_ty_s, ↓z_ty_i, ↓z_ty_b, ↓z_ty_n, ↓z_ty_l, ↓z_ty_t, ↓z_k_ss, ↓z_k_ii, ↓z_k_ib, ↓z_k_tt, ↓z_k_ll, flatD, pVar, ↓ho_ite, ↓z_lset_l, ↓z_lset_t, ↓z_rg2, ↓z_rg1, ↓z_is_nn, ↓z_is_tn, ↓z_is_ln, ↓z_is_sn, ↓z_is_in, ↓z_is_bb, ↓z_isn_nn, ↓z_isn_tn, ↓z_isn_ln, ↓z_isn_sn, ↓z_isn_in, ↓z_isn_bb, ↓z_ne_nn, ↓z_eq_nn, ↓z_k_bb, ↓z_seq_l, ↓z_zip_l, ↓z_zip_t, ↓z_ltD_i, ↓z_gtD_i, ↓z_leD_i, ↓z_geD_i, ↓z_ltD_s, ↓z_gtD_s, ↓z_ltD_t, ↓z_gtD_t, ↓z_mulT, ↓z_getD, ↓z_lenD, ↓z_keysL, ↓z_valsL, ↓z_sset_l, ↓z_sortD, ↓z_minDs, hl, e, it, cut_drop (show (0 : Int) ≤ (k : Int) by omega)]
          · have it : ¬ isTail t k := fun h => c3 (iT.mp h).2.2
            rw [decide_eq_false c3] at ai
            simp only [↓w_eVar, ↓w_eC, ↓w_eUn, ↓w_eUnX, ↓w_eBin, ↓w_eM1, ↓w_oBin, ↓w_oUn, ↓w_eOfO, ↓w_eNil, ↓w_eCons, ↓w_eTup, ↓w_oLst, ↓w_eCall, ↓w_oCall, ↓w_cT, ↓w_cNot, ↓w_cAnd, ↓w_cOr, ↓w_cYes, ↓w_eAndV, ↓w_eOrV, ↓w_eNotV, ↓w_eIf, ↓w_eOwnIdx, ↓w_qNone, ↓w_qSome, ↓w_eCut, ↓w_oCut, ↓w_eChain, ↓w_iAny, ↓w_iRange1, ↓w_iRange2, ↓w_iRange3, ↓w_eCallS, ↓w_oComp, ↓w_bName, ↓w_bNil, ↓w_bCons, ↓w_bTup, ↓s_sNil, ↓s_sSeq, ↓s_sNever, ↓s_sBreak, ↓s_sCont, ↓s_sIf, ↓s_sDrop, ↓s_sRet, ↓s_sRetN, ↓s_sRetO, ↓s_sRetV, ↓s_sSet, ↓s_sSetO, ↓s_sUnpack, ↓s_sParD, ↓w_setD_nil, ↓w_setD_cons, ↓w_vDat, ↓w_vOwn, ↓s_sPar2, ↓s_sAppend, ↓s_sSetIx, ↓s_sFor, ↓ho_mA, ↓ho_mO, ↓ho_mB, frame, ↓seqO_nx, ↓seqO_rt, ↓seqO_bk, ↓seqO_ct, ↓lpO_nx, ↓lpO_rt, ↓lpO_bk, ↓lpO_ct, ↓wsF, ↓wlF, ↓whF, backR, wipeR, datSlot, strsD_signs, join_signs, sum_ones2, ↓w_eOwnBin, ownAt, ↓w_eP, ↓w_eBinX, ↓w_eTupleP, ↓w_iEnumD, ↓w_iZipD, ↓w_eOfM, ↓w_mNew, ↓w_mDisp, ↓w_mDispT, ↓s_sSetM, ↓w_vDic, ↓w_eGetV, ↓w_eGetXV, ↓w_cInV, ↓s_sPutV, ↓w_eGetX, ↓w_iKeysD, ↓w_iItemsD, lookM, ↓z_all, ai]
            simp [↓w_eVar, ↓w_eC, ↓w_eUn, ↓w_eUnX, ↓w_eBin, ↓w_eM1, ↓w_oBin, ↓w_oUn, ↓w_eOfO, ↓w_eNil, ↓w_eCons, ↓w_eTup, ↓w_oLst, ↓w_eCall, ↓w_oCall, ↓w_cT, ↓w_cNot, ↓w_cAnd, ↓w_cOr, ↓w_cYes, ↓w_eAndV, ↓w_eOrV, ↓w_eNotV, ↓w_eIf, ↓w_eOwnIdx, ↓w_qNone, ↓w_qSome, ↓w_eCut, ↓w_oCut, ↓w_eChain, ↓w_iAny, ↓w_iRange1, ↓w_iRange2, ↓w_iRange3, ↓w_eCallS, ↓w_oComp, ↓w_bName, ↓w_bNil, ↓w_bCons, ↓w_bTup, ↓s_sNil, ↓s_sSeq, ↓s_sNever, ↓s_sBreak, ↓s_sCont, ↓s_sIf, ↓s_sDrop, ↓s_sRet, ↓s_sRetN, ↓s_sRetO, ↓s_sRetV, ↓s_sSet, ↓s_sSetO, ↓s_sUnpack, ↓s_sParD, ↓w_setD_nil, ↓w_setD_cons, ↓w_vDat, ↓w_vOwn, ↓s_sPar2, ↓s_sAppend, ↓s_sSetIx, ↓s_sFor, ↓ho_mA, ↓ho_mO, ↓ho_mB, frame, ↓seqO_nx, ↓seqO_rt, ↓seqO_bk, ↓seqO_ct, ↓lpO_nx, ↓lpO_rt, ↓lpO_bk, ↓lpO_ct, ↓wsF, ↓wlF, ↓whF, backR, wipeR, datSlot, strsD_signs, join_signs, sum_ones2, ↓w_eOwnBin, ownAt, ↓w_eP, ↓w_eBinX, ↓w_eTupleP, ↓w_iEnumD, ↓w_iZipD, ↓w_eOfM, ↓w_mNew, ↓w_mDisp, ↓w_mDispT, ↓s_sSetM, ↓w_vDic, ↓w_eGetV, ↓w_eGetXV, ↓w_cInV, ↓s_sPutV, ↓w_eGetX, ↓w_iKeysD, ↓w_iItemsD, lookM, ↓z_add_i, ↓z_add_s, ↓z_add_t, ↓z_sub, ↓z_mul_i, ↓z_mul_s, ↓z_div, ↓z_mod, ↓z_pow, ↓z_neg, ↓z_eq_i, ↓z_eq_s, ↓z_eq_b, ↓z_eq_l, ↓z_eq_t, ↓z_ne_i, ↓z_ne_s, ↓z_ne_b, ↓z_ne_l, ↓z_ne_t, ↓z_eq_ns, ↓z_eq_sn, ↓z_ne_ns, ↓z_ne_sn, ↓z_lt, ↓z_le, ↓z_gt, ↓z_ge, ↓z_idx_l, ↓z_idx_t, ↓z_idx_r, ↓z_idx_s, ↓z_len_s, ↓z_len_l, ↓z_len_t, ↓z_len_r, ↓z_abs, ↓z_min2, ↓z_max2, ↓z_int_i, ↓z_int_b, ↓z_cut_s, ↓z_cut_t, ↓z_gcut, ↓z_rev, ↓z_grev, ↓z_gadd, ↓z_gmul, ↓z_list_l, ↓z_list_t, ↓z_list_s, ↓z_tuple_l, ↓z_tuple_t, ↓z_all, ↓z_any, ↓z_sum, ↓z_maxl, ↓z_minl, ↓z_rfind, ↓z_join_l, ↓z_join_t, ↓z_in_s, ↓z_nin_s, ↓z_in_t, ↓z_nin_t, ↓z_in_l, ↓z_nin_l, ↓z_items_l, ↓z_items_t, ↓z_items_r, ↓z_items_s, ↓z_isi_s, ↓z_isi_i, ↓z_isi_b, ↓z_isi_n, ↓z_isi_l, ↓z_isi_t, ↓z_isi_r, ↓z_ty_s, ↓z_ty_i, ↓z_ty_b, ↓z_ty_n, ↓z_ty_l, ↓z_ty_t, ↓z_k_ss, ↓z_k_ii, ↓z_k_ib, ↓z_k_tt, ↓z_k_ll, flatD, pVar, ↓ho_ite, ↓z_lset_l, ↓z_lset_t, ↓z_rg2, ↓z_rg1, ↓z_is_nn, ↓z_is_tn, ↓z_is_ln, ↓z_is_sn, ↓z_is_in, ↓z_is_bb, ↓z_isn_nn, ↓z_isn_tn, ↓z_isn_ln, ↓z_isn_sn, ↓z_isn_in, ↓z_isn_bb, ↓z_ne_nn, ↓z_eq_nn, ↓z_k_bb, ↓z_seq_l, ↓z_zip_l, ↓z_zip_t, ↓z_ltD_i, ↓z_gtD_i, ↓z_leD_i, ↓z_geD_i, ↓z_ltD_s, ↓z_gtD_s, ↓z_ltD_t, ↓z_gtD_t, ↓z_mulT, ↓z_getD, ↓z_lenD, ↓z_keysL, ↓z_valsL, ↓z_sset_l, ↓z_sortD, ↓z_minDs, hl, e, it]
      · rw [e, if_neg (fun h => by have := iT.mp h; omega)]

theorem cut_eq {p u e m t : List Nat} {w : Nat} (h : w < t.length) (hl : t.length ≤ lim) (hm : m.length ≤ 1) : m_cut_plain [.tup [.str p, .str u, .str e, .str m], .str t, .int w] = some (.str (cutP p u m t w)) := by
  rw [← ho_eq]; unfold m_cut_plain g_cut_plain
  have hl' : t.length ≤ 1000000 := hl
  have hlm : m.length ≤ lim := by unfold lim; omega
  simp [↓w_eVar, ↓w_eC, ↓w_eUn, ↓w_eUnX, ↓w_eBin, ↓w_eM1, ↓w_oBin, ↓w_oUn, ↓w_eOfO, ↓w_eNil, ↓w_eCons, ↓w_eTup, ↓w_oLst, ↓w_eCall, ↓w_oCall, ↓w_cT, ↓w_cNot, ↓w_cAnd, ↓w_cOr, ↓w_cYes, ↓w_eAndV, ↓w_eOrV, ↓w_eNotV, ↓w_eIf, ↓w_eOwnIdx, ↓w_qNone, ↓w_qSome, ↓w_eCut, ↓w_oCut, ↓w_eChain, ↓w_iAny, ↓w_iRange1, ↓w_iRange2, ↓w_iRange3, ↓w_eCallS, ↓w_oComp, ↓w_bName, ↓w_bNil, ↓w_bCons, ↓w_bTup, ↓s_sNil, ↓s_sSeq, ↓s_sNever, ↓s_sBreak, ↓s_sCont, ↓s_sIf, ↓s_sDrop, ↓s_sRet, ↓s_sRetN, ↓s_sRetO, ↓s_sRetV, ↓s_sSet, ↓s_sSetO, ↓s_sUnpack, ↓s_sParD, ↓w_setD_nil, ↓w_setD_cons, ↓w_vDat, ↓w_vOwn, ↓s_sPar2, ↓s_sAppend, ↓s_sSetIx, ↓s_sFor, ↓ho_mA, ↓ho_mO, ↓ho_mB, frame, ↓seqO_nx, ↓seqO_rt, ↓seqO_bk, ↓seqO_ct, ↓lpO_nx, ↓lpO_rt, ↓lpO_bk, ↓lpO_ct, ↓wsF, ↓wlF, ↓whF, backR, wipeR, datSlot, strsD_signs, join_signs, sum_ones2, ↓w_eOwnBin, ownAt, ↓w_eP, ↓w_eBinX, ↓w_eTupleP, ↓w_iEnumD, ↓w_iZipD, ↓w_eOfM, ↓w_mNew, ↓w_mDisp, ↓w_mDispT, ↓s_sSetM, ↓w_vDic, ↓w_eGetV, ↓w_eGetXV, ↓w_cInV, ↓s_sPutV, ↓w_eGetX, ↓w_iKeysD, ↓w_iItemsD, lookM, ↓z_add_i, ↓z_add_s, ↓z_add_t, ↓z_sub, ↓z_mul_i, ↓z_mul_s, ↓z_div, ↓z_mod, ↓z_pow, ↓z_neg, ↓z_eq_i, ↓z_eq_s, ↓z_eq_b, ↓z_eq_l, ↓z_eq_t, ↓z_ne_i, ↓z_ne_s, ↓z_ne_b, ↓z_ne_l, ↓z_ne_t, ↓z_eq_ns, ↓z_eq_sn, ↓z_ne_ns, ↓z_ne_sn, ↓z_lt, ↓z_le, ↓z_gt, ↓z_ge, ↓z_idx_l, ↓z_idx_t, ↓z_idx_r, ↓z_idx_s, ↓z_len_s, ↓z_len_l, ↓z_len_t, ↓z_len_r, ↓z_abs, ↓z_min2, ↓z_max2, ↓z_int_i, ↓z_int_b, ↓z_cut_s, ↓z_cut_t, ↓z_gcut, ↓z_rev, ↓z_grev, ↓z_gadd, ↓z_gmul, ↓z_list_l, ↓z_list_t, ↓z_list_s, ↓z_tuple_l, ↓z_tuple_t, ↓z_all, ↓z_any, ↓z_sum, ↓z_maxl, ↓z_minl, ↓z_rfind, ↓z_join_l, ↓z_join_t, ↓z_in_s, ↓z_nin_s, ↓z_in_t, ↓z_nin_t, ↓z_in_l, ↓z_nin_l, ↓z_items_l, ↓z_items_t, ↓z_items_r, ↓z_items_s, ↓z_isi_s, ↓z_isi_i, ↓z_isi_b, ↓z_isi_n, ↓z_isi_l, ↓z_isi_t, ↓z_isi_r, ↓z_ty_s, ↓z_ty_i, ↓z_ty_b, ↓z_ty_n, ↓z_ty_l, ↓z_ty_t, ↓z_k_ss, ↓z_k_ii, ↓z_k_ib, ↓z_k_tt, ↓z_k_ll, flatD, pVar, ↓ho_ite, ↓z_lset_l, ↓z_lset_t, ↓z_rg2, ↓z_rg1, ↓z_is_nn, ↓z_is_tn, ↓z_is_ln, ↓z_is_sn, ↓z_is_in, ↓z_is_bb, ↓z_isn_nn, ↓z_isn_tn, ↓z_isn_ln, ↓z_isn_sn, ↓z_isn_in, ↓z_isn_bb, ↓z_ne_nn, ↓z_eq_nn, ↓z_k_bb, ↓z_seq_l, ↓z_zip_l, ↓z_zip_t, ↓z_ltD_i, ↓z_gtD_i, ↓z_leD_i, ↓z_geD_i, ↓z_ltD_s, ↓z_gtD_s, ↓z_ltD_t, ↓z_gtD_t, ↓z_mulT, ↓z_getD, ↓z_lenD, ↓z_keysL, ↓z_valsL, ↓z_sset_l, ↓z_sortD, ↓z_minDs, hlm, atI, ixN]
  by_cases h0 : w < m.length
  · rw [if_pos (show (w : Int) - (m.length : Int) < 0 by omega)]; simp [cutP, h0]
  · rw [if_neg (show ¬ (w : Int) - (m.length : Int) < 0 by omega)]
    have e0 : (w : Int) - (m.length : Int) = ((w - m.length : Nat) : Int) := by omega
    have e1 : ((w - m.length : Nat) : Int) / 2 = (((w - m.length) / 2 : Nat) : Int) := by omega
    have e2 : ((w - m.length : Nat) : Int) - (((w - m.length) / 2 : Nat) : Int) = (((w - m.length) - (w - m.length) / 2 : Nat) : Int) := by omega
    rw [e0]
    by_cases c1 : p = [101, 110, 100]
    · simp only [c1, if_true]
      have := front_len (t := t) (n := w - m.length) (u := u)
      rw [front_eq (by omega) hl]; simp [↓w_eVar, ↓w_eC, ↓w_eUn, ↓w_eUnX, ↓w_eBin, ↓w_eM1, ↓w_oBin, ↓w_oUn, ↓w_eOfO, ↓w_eNil, ↓w_eCons, ↓w_eTup, ↓w_oLst, ↓w_eCall, ↓w_oCall, ↓w_cT, ↓w_cNot, ↓w_cAnd, ↓w_cOr, ↓w_cYes, ↓w_eAndV, ↓w_eOrV, ↓w_eNotV, ↓w_eIf, ↓w_eOwnIdx, ↓w_qNone, ↓w_qSome, ↓w_eCut, ↓w_oCut, ↓w_eChain, ↓w_iAny, ↓w_iRange1, ↓w_iRange2, ↓w_iRange3, ↓w_eCallS, ↓w_oComp, ↓w_bName, ↓w_bNil, ↓w_bCons, ↓w_bTup, ↓s_sNil, ↓s_sSeq, ↓s_sNever, ↓s_sBreak, ↓s_sCont, ↓s_sIf, ↓s_sDrop, ↓s_sRet, ↓s_sRetN, ↓s_sRetO, ↓s_sRetV, ↓s_sSet, ↓s_sSetO, ↓s_sUnpack, ↓s_sParD, ↓w_setD_nil, ↓w_setD_cons, ↓w_vDat, ↓w_vOwn, ↓s_sPar2, ↓s_sAppend, ↓s_sSetIx, ↓s_sFor, ↓ho_mA, ↓ho_mO, ↓ho_mB, frame, ↓seqO_nx, ↓seqO_rt, ↓seqO_bk, ↓seqO_ct, ↓lpO_nx, ↓lpO_rt, ↓lpO_bk, ↓lpO_ct, ↓wsF, ↓wlF, ↓whF, backR, wipeR, datSlot, strsD_signs, join_signs, sum_ones2, ↓w_eOwnBin, ownAt, ↓w_eP, ↓w_eBinX, ↓w_eTupleP, ↓w_iEnumD, ↓w_iZipD, ↓w_eOfM, ↓w_mNew, ↓w_mDisp, ↓w_mDispT, ↓s_sSetM, ↓w_vDic, ↓w_eGetV, ↓w_eGetXV, ↓w_cInV, ↓s_sPutV, ↓w_eGetX, ↓w_iKeysD, ↓w_iItemsD, lookM, ↓z_add_i, ↓z_add_s, ↓z_add_t, ↓z_sub, ↓z_mul_i, ↓z_mul_s, ↓z_div, ↓z_mod, ↓z_pow, ↓z_neg, ↓z_eq_i, ↓z_eq_s, ↓z_eq_b, ↓z_eq_l, ↓z_eq_t, ↓z_ne_i, ↓z_ne_s, ↓z_ne_b, ↓z_ne_l, ↓z_ne_t, ↓z_eq_ns, ↓z_eq_sn, ↓z_ne_ns, ↓z_ne_sn, ↓z_lt, ↓z_le, ↓z_gt, ↓z_ge, ↓z_idx_l, ↓z_idx_t, ↓z_idx_r, ↓z_idx_s, ↓z_len_s, ↓z_len_l, ↓z_len_t, ↓z_len_r, ↓z_abs, ↓z_min2, ↓z_max2, ↓z_int_i, ↓z_int_b, ↓z_cut_s, ↓z_cut_t, ↓z_gcut, ↓z_rev, ↓z_grev, ↓z_gadd, ↓z_gmul, ↓z_list_l, ↓z_list_t, ↓z_list_s, ↓z_tuple_l, ↓z_tuple_t, ↓z_all, ↓z_any, ↓z_sum, ↓z_maxl, ↓z_minl, ↓z_rfind, ↓z_join_l, ↓z_join_t, ↓z_in_s, ↓z_nin_s, ↓z_in_t, ↓z_nin_t, ↓z_in_l, ↓z_nin_l, ↓z_items_l, ↓z_items_t, ↓z_items_r, ↓z_items_s, ↓z_isi_s, ↓z_isi_i, ↓z_isi_b, ↓z_isi_n, ↓z_isi_l, ↓z_isi_t, ↓z_isi_r, ↓z_ty_s, ↓z_ty_i, ↓z_ty_b, ↓z_ty_n, ↓z_ty_l, ↓z_ty_t, ↓z_k_ss, ↓z_k_ii, ↓z_k_ib, ↓z_k_tt, ↓z_k_ll, flatD, pVar, ↓ho_ite, ↓z_lset_l, ↓z_lset_t, ↓z_rg2, ↓z_rg1, ↓z_is_nn, ↓z_is_tn, ↓z_is_ln, ↓z_is_sn, ↓z_is_in, ↓z_is_bb, ↓z_isn_nn, ↓z_isn_tn, ↓z_isn_ln, ↓z_isn_sn, ↓z_isn_in, ↓z_isn_bb, ↓z_ne_nn, ↓z_eq_nn, ↓z_k_bb, ↓z_seq_l, ↓z_zip_l, ↓z_zip_t, ↓z_ltD_i, ↓z_gtD_i, ↓z_leD_i, ↓z_geD_i, ↓z_ltD_s, ↓z_gtD_s, ↓z_ltD_t, ↓z_gtD_t, ↓z_mulT, ↓z_getD, ↓z_lenD, ↓z_keysL, ↓z_valsL, ↓z_sset_l, ↓z_sortD, ↓z_minDs, cutP, h0]; unfold lim; omega
    · by_cases c2 : p = [115, 116, 97, 114, 116]
      · simp only [c1, c2, if_true, if_false]
        have := back_len (t := t) (n := w - m.length) (u := u)
        simp [↓w_eVar, ↓w_eC, ↓w_eUn, ↓w_eUnX, ↓w_eBin, ↓w_eM1, ↓w_oBin, ↓w_oUn, ↓w_eOfO, ↓w_eNil, ↓w_eCons, ↓w_eTup, ↓w_oLst, ↓w_eCall, ↓w_oCall, ↓w_cT, ↓w_cNot, ↓w_cAnd, ↓w_cOr, ↓w_cYes, ↓w_eAndV, ↓w_eOrV, ↓w_eNotV, ↓w_eIf, ↓w_eOwnIdx, ↓w_qNone, ↓w_qSome, ↓w_eCut, ↓w_oCut, ↓w_eChain, ↓w_iAny, ↓w_iRange1, ↓w_iRange2, ↓w_iRange3, ↓w_eCallS, ↓w_oComp, ↓w_bName, ↓w_bNil, ↓w_bCons, ↓w_bTup, ↓s_sNil, ↓s_sSeq, ↓s_sNever, ↓s_sBreak, ↓s_sCont, ↓s_sIf, ↓s_sDrop, ↓s_sRet, ↓s_sRetN, ↓s_sRetO, ↓s_sRetV, ↓s_sSet, ↓s_sSetO, ↓s_sUnpack, ↓s_sParD, ↓w_setD_nil, ↓w_setD_cons, ↓w_vDat, ↓w_vOwn, ↓s_sPar2, ↓s_sAppend, ↓s_sSetIx, ↓s_sFor, ↓ho_mA, ↓ho_mO, ↓ho_mB, frame, ↓seqO_nx, ↓seqO_rt, ↓seqO_bk, ↓seqO_ct, ↓lpO_nx, ↓lpO_rt, ↓lpO_bk, ↓lpO_ct, ↓wsF, ↓wlF, ↓whF, backR, wipeR, datSlot, strsD_signs, join_signs, sum_ones2, ↓w_eOwnBin, ownAt, ↓w_eP, ↓w_eBinX, ↓w_eTupleP, ↓w_iEnumD, ↓w_iZipD, ↓w_eOfM, ↓w_mNew, ↓w_mDisp, ↓w_mDispT, ↓s_sSetM, ↓w_vDic, ↓w_eGetV, ↓w_eGetXV, ↓w_cInV, ↓s_sPutV, ↓w_eGetX, ↓w_iKeysD, ↓w_iItemsD, lookM, ↓z_add_i, ↓z_add_s, ↓z_add_t, ↓z_sub, ↓z_mul_i, ↓z_mul_s, ↓z_div, ↓z_mod, ↓z_pow, ↓z_neg, ↓z_eq_i, ↓z_eq_s, ↓z_eq_b, ↓z_eq_l, ↓z_eq_t, ↓z_ne_i, ↓z_ne_s, ↓z_ne_b, ↓z_ne_l, ↓z_ne_t, ↓z_eq_ns, ↓z_eq_sn, ↓z_ne_ns, ↓z_ne_sn, ↓z_lt, ↓z_le, ↓z_gt, ↓z_ge, ↓z_idx_l, ↓z_idx_t, ↓z_idx_r, ↓z_idx_s, ↓z_len_s, ↓z_len_l, ↓z_len_t, ↓z_len_r, ↓z_abs, ↓z_min2, ↓z_max2, ↓z_int_i, ↓z_int_b, ↓z_cut_s, ↓z_cut_t, ↓z_gcut, ↓z_rev, ↓z_grev, ↓z_gadd, ↓z_gmul, ↓z_list_l, ↓z_list_t, ↓z_list_s, ↓z_tuple_l, ↓z_tuple_t, ↓z_all, ↓z_any, ↓z_sum, ↓z_maxl, ↓z_minl, ↓z_rfind, ↓z_join_l, ↓z_join_t, ↓z_in_s, ↓z_nin_s, ↓z_in_t, ↓z_nin_t, ↓z_in_l, ↓z_nin_l, ↓z_items_l, ↓z_items_t, ↓z_items_r, ↓z_items_s, ↓z_isi_s, ↓z_isi_i, ↓z_isi_b, ↓z_isi_n, ↓z_isi_l, ↓z_isi_t, ↓z_isi_r, ↓z_ty_s, ↓z_ty_i, ↓z_ty_b, ↓z_ty_n, ↓z_ty_l, ↓z_ty_t, ↓z_k_ss, ↓z_k_ii, ↓z_k_ib, ↓z_k_tt, ↓z_k_ll, flatD, pVar, ↓ho_ite, ↓z_lset_l, ↓z_lset_t, ↓z_rg2, ↓z_rg1, ↓z_is_nn, ↓z_is_tn, ↓z_is_ln, ↓z_is_sn, ↓z_is_in, ↓z_is_bb, ↓z_isn_nn, ↓z_isn_tn, ↓z_isn_ln, ↓z_isn_sn, ↓z_isn_in, ↓z_isn_bb, ↓z_ne_nn, ↓z_eq_nn, ↓z_k_bb, ↓z_seq_l, ↓z_zip_l, ↓z_zip_t, ↓z_ltD_i, ↓z_gtD_i, ↓z_leD_i, ↓z_geD_i, ↓z_ltD_s, ↓z_gtD_s, ↓z_ltD_t, ↓z_gtD_t, ↓z_mulT, ↓z_getD, ↓z_lenD, ↓z_keysL, ↓z_valsL, ↓z_sset_l, ↓z_sortD, ↓z_minDs]
        rw [back_eq (by omega) hl]; simp [↓w_eVar, ↓w_eC, ↓w_eUn, ↓w_eUnX, ↓w_eBin, ↓w_eM1, ↓w_oBin, ↓w_oUn, ↓w_eOfO, ↓w_eNil, ↓w_eCons, ↓w_eTup, ↓w_oLst, ↓w_eCall, ↓w_oCall, ↓w_cT, ↓w_cNot, ↓w_cAnd, ↓w_cOr, ↓w_cYes, ↓w_eAndV, ↓w_eOrV, ↓w_eNotV, ↓w_eIf, ↓w_eOwnIdx, ↓w_qNone, ↓w_qSome, ↓w_eCut, ↓w_oCut, ↓w_eChain, ↓w_iAny, ↓w_iRange1, ↓w_iRange2, ↓w_iRange3, ↓w_eCallS, ↓w_oComp, ↓w_bName, ↓w_bNil, ↓w_bCons, ↓w_bTup, ↓s_sNil, ↓s_sSeq, ↓s_sNever, ↓s_sBreak, ↓s_sCont, ↓s_sIf, ↓s_sDrop, ↓s_sRet, ↓s_sRetN, ↓s_sRetO, ↓s_sRetV, ↓s_sSet, ↓s_sSetO, ↓s_sUnpack, ↓s_sParD, ↓w_setD_nil, ↓w_setD_cons, ↓w_vDat, ↓w_vOwn, ↓s_sPar2, ↓s_sAppend, ↓s_sSetIx, ↓s_sFor, ↓ho_mA, ↓ho_mO, ↓ho_mB, frame, ↓seqO_nx, ↓seqO_rt, ↓seqO_bk, ↓seqO_ct, ↓lpO_nx, ↓lpO_rt, ↓lpO_bk, ↓lpO_ct, ↓wsF, ↓wlF, ↓whF, backR, wipeR, datSlot, strsD_signs, join_signs, sum_ones2, ↓w_eOwnBin, ownAt, ↓w_eP, ↓w_eBinX, ↓w_eTupleP, ↓w_iEnumD, ↓w_iZipD, ↓w_eOfM, ↓w_mNew, ↓w_mDisp, ↓w_mDispT, ↓s_sSetM, ↓w_vDic, ↓w_eGetV, ↓w_eGetXV, ↓w_cInV, ↓s_sPutV, ↓w_eGetX, ↓w_iKeysD, ↓w_iItemsD, lookM, ↓z_add_i, ↓z_add_s, ↓z_add_t, ↓z_sub, ↓z_mul_i, ↓z_mul_s, ↓z_div, ↓z_mod, ↓z_pow, ↓z_neg, ↓z_eq_i, ↓z_eq_s, ↓z_eq_b, ↓z_eq_l, ↓z_eq_t, ↓z_ne_i, ↓z_ne_s, ↓z_ne_b, ↓z_ne_l, ↓z_ne_t, ↓z_eq_ns, ↓z_eq_sn, ↓z_ne_ns, ↓z_ne_sn, ↓z_lt, ↓z_le, ↓z_gt, ↓z_ge, ↓z_idx_l, ↓z_idx_t, ↓z_idx_r, ↓z_idx_s, ↓z_len_s, ↓z_len_l, ↓z_len_t, ↓z_len_r, ↓z_abs, ↓z_min2, ↓z_max2, ↓z_int_i, ↓z_int_b, ↓z_cut_s, ↓z_cut_t, ↓z_gcut, ↓z_rev, ↓z_grev, ↓z_gadd, ↓z_gmul, ↓z_list_l, ↓z_list_t, ↓z_list_s, ↓z_tuple_l, ↓z_tuple_t, ↓z_all, ↓z_any, ↓z_sum, ↓z_maxl, ↓z_minl, ↓z_rfind, ↓z_join_l, ↓z_join_t, ↓z_in_s, ↓z_nin_s, ↓z_in_t, ↓z_nin_t, ↓z_in_l, ↓z_nin_l, ↓z_items_l, ↓z_items_t, ↓z_items_r, ↓z_items_s, ↓z_isi_s, ↓z_isi_i, ↓z_isi_b, ↓z_isi_n, ↓z_isi_l, ↓z_isi_t, ↓z_isi_r, ↓z_ty_s, ↓z_ty_i, ↓z_ty_b, ↓z_ty_n, ↓z_ty_l, ↓z_ty_t, ↓z_k_ss, ↓z_k_ii, ↓z_k_ib, ↓z_k_tt, ↓z_k_ll, flatD, pVar, ↓ho_ite, ↓z_lset_l, ↓z_lset_t, ↓z_rg2, ↓z_rg1, ↓z_is_nn, ↓z_is_tn, ↓z_is_ln, ↓z_is_sn, ↓z_is_in, ↓z_is_bb, ↓z_isn_nn, ↓z_isn_tn, ↓z_isn_ln, ↓z_isn_sn, ↓z_isn_in, ↓z_isn_bb, ↓z_ne_nn, ↓z_eq_nn, ↓z_k_bb, ↓z_seq_l, ↓z_zip_l, ↓z_zip_t, ↓z_ltD_i, ↓z_gtD_i, ↓z_leD_i, ↓z_geD_i, ↓z_ltD_s, ↓z_gtD_s, ↓z_ltD_t, ↓z_gtD_t, ↓z_mulT, ↓z_getD, ↓z_lenD, ↓z_keysL, ↓z_valsL, ↓z_sset_l, ↓z_sortD, ↓z_minDs, cutP, h0]; unfold lim; omega
      · simp only [c1, c2, if_false]
        have := front_len (t := t) (n := w - m.length - (w - m.length) / 2) (u := u)
        have := back_len (t := t) (n := (w - m.length) / 2) (u := u)
        rw [e1, e2, front_eq (by omega) hl, back_eq (by omega) hl]; simp [↓w_eVar, ↓w_eC, ↓w_eUn, ↓w_eUnX, ↓w_eBin, ↓w_eM1, ↓w_oBin, ↓w_oUn, ↓w_eOfO, ↓w_eNil, ↓w_eCons, ↓w_eTup, ↓w_oLst, ↓w_eCall, ↓w_oCall, ↓w_cT, ↓w_cNot, ↓w_cAnd, ↓w_cOr, ↓w_cYes, ↓w_eAndV, ↓w_eOrV, ↓w_eNotV, ↓w_eIf, ↓w_eOwnIdx, ↓w_qNone, ↓w_qSome, ↓w_eCut, ↓w_oCut, ↓w_eChain, ↓w_iAny, ↓w_iRange1, ↓w_iRange2, ↓w_iRange3, ↓w_eCallS, ↓w_oComp, ↓w_bName, ↓w_bNil, ↓w_bCons, ↓w_bTup, ↓s_sNil, ↓s_sSeq, ↓s_sNever, ↓s_sBreak, ↓s_sCont, ↓s_sIf, ↓s_sDrop, ↓s_sRet, ↓s_sRetN, ↓s_sRetO, ↓s_sRetV, ↓s_sSet, ↓s_sSetO, ↓s_sUnpack, ↓s_sParD, ↓w_setD_nil, ↓w_setD_cons, ↓w_vDat, ↓w_vOwn, ↓s_sPar2, ↓s_sAppend, ↓s_sSetIx, ↓s_sFor, ↓ho_mA, ↓ho_mO, ↓ho_mB, frame, ↓seqO_nx, ↓seqO_rt, ↓seqO_bk, ↓seqO_ct, ↓lpO_nx, ↓lpO_rt, ↓lpO_bk, ↓lpO_ct, ↓wsF, ↓wlF, ↓whF, backR, wipeR, datSlot, strsD_signs, join_signs, sum_ones2, ↓w_eOwnBin, ownAt, ↓w_eP, ↓w_eBinX, ↓w_eTupleP, ↓w_iEnumD, ↓w_iZipD, ↓w_eOfM, ↓w_mNew, ↓w_mDisp, ↓w_mDispT, ↓s_sSetM, ↓w_vDic, ↓w_eGetV, ↓w_eGetXV, ↓w_cInV, ↓s_sPutV, ↓w_eGetX, ↓w_iKeysD, ↓w_iItemsD, lookM, ↓z_add_i, ↓z_add_s, ↓z_add_t, ↓z_sub, ↓z_mul_i, ↓z_mul_s, ↓z_div, ↓z_mod, ↓z_pow, ↓z_neg, ↓z_eq_i, ↓z_eq_s, ↓z_eq_b, ↓z_eq_l, ↓z_eq_t, ↓z_ne_i, ↓z_ne_s, ↓z_ne_b, ↓z_ne_l, ↓z_ne_t, ↓z_eq_ns, ↓z_eq_sn, ↓z_ne_ns, ↓z_ne_sn, ↓z_lt, ↓z_le, ↓z_gt, ↓z_ge, ↓z_idx_l, ↓z_idx_t, ↓z_idx_r, ↓z_idx_s, ↓z_len_s, ↓z_len_l, ↓z_len_t, ↓z_len_r, ↓z_abs, ↓z_min2, ↓z_max2, ↓z_int_i, ↓z_int_b, ↓z_cut_s, ↓z_cut_t, ↓z_gcut, ↓z_rev, ↓z_grev, ↓z_gadd, ↓z_gmul, ↓z_list_l, ↓z_list_t, ↓z_list_s, ↓z_tuple_l, ↓z_tuple_t, ↓z_all, ↓z_any, ↓z_sum, ↓z_maxl, ↓z_minl, ↓z_rfind, ↓z_join_l, ↓z_join_t, ↓z_in_s, ↓z_nin_s, ↓z_in_t, ↓z_nin_t, ↓z_in_l, ↓z_nin_l, ↓z_items_l, ↓z_items_t, ↓z_items_r, ↓z_items_s, ↓z_isi_s, ↓z_isi_i, ↓z_isi_b, ↓z_isi_n, ↓z_isi_l, ↓z_isi_t, ↓z_isi_r, ↓z_ty_s, ↓z_ty_i, ↓z_ty_b, ↓z_ty_n, ↓z_ty_l, ↓z_ty_t, ↓z_k_ss, ↓z_k_ii, ↓z_k_ib, ↓z_k_tt, ↓z_k_ll, flatD, pVar, ↓ho_ite, ↓z_lset_l, ↓z_lset_t, ↓z_rg2, ↓z_rg1, ↓z_is_nn, ↓z_is_tn, ↓z_is_ln, ↓z_is_sn, ↓z_is_in, ↓z_is_bb, ↓z_isn_nn, ↓z_isn_tn, ↓z_isn_ln, ↓z_isn_sn, ↓z_isn_in, ↓z_isn_bb, ↓z_ne_nn, ↓z_eq_nn, ↓z_k_bb, ↓z_seq_l, ↓z_zip_l, ↓z_zip_t, ↓z_ltD_i, ↓z_gtD_i, ↓z_leD_i, ↓z_geD_i, ↓z_ltD_s, ↓z_gtD_s, ↓z_ltD_t, ↓z_gtD_t, ↓z_mulT, ↓z_getD, ↓z_lenD, ↓z_keysL, ↓z_valsL, ↓z_sset_l, ↓z_sortD, ↓z_minDs, cutP, h0, c1, c2]; unfold lim; omega
theorem show_eq {p u e m t : List Nat} {w : Nat} (hl : t.length ≤ lim) (hm : m.length ≤ 1) : m_show [.tup [.str p, .str u, .str e, .str m], .str t, .int w] = some (.str (shw p u e m t w)) := by
  rw [← ho_eq]; unfold m_show g_show
  have hl' : t.length ≤ 1000000 := hl
  have hlm : m.length ≤ lim := by unfold lim; omega
  have ht := tail_len (t := t)
  have hle : (tail t).length ≤ lim := by unfold lim; omega
  simp [↓w_eVar, ↓w_eC, ↓w_eUn, ↓w_eUnX, ↓w_eBin, ↓w_eM1, ↓w_oBin, ↓w_oUn, ↓w_eOfO, ↓w_eNil, ↓w_eCons, ↓w_eTup, ↓w_oLst, ↓w_eCall, ↓w_oCall, ↓w_cT, ↓w_cNot, ↓w_cAnd, ↓w_cOr, ↓w_cYes, ↓w_eAndV, ↓w_eOrV, ↓w_eNotV, ↓w_eIf, ↓w_eOwnIdx, ↓w_qNone, ↓w_qSome, ↓w_eCut, ↓w_oCut, ↓w_eChain, ↓w_iAny, ↓w_iRange1, ↓w_iRange2, ↓w_iRange3, ↓w_eCallS, ↓w_oComp, ↓w_bName, ↓w_bNil, ↓w_bCons, ↓w_bTup, ↓s_sNil, ↓s_sSeq, ↓s_sNever, ↓s_sBreak, ↓s_sCont, ↓s_sIf, ↓s_sDrop, ↓s_sRet, ↓s_sRetN, ↓s_sRetO, ↓s_sRetV, ↓s_sSet, ↓s_sSetO, ↓s_sUnpack, ↓s_sParD, ↓w_setD_nil, ↓w_setD_cons, ↓w_vDat, ↓w_vOwn, ↓s_sPar2, ↓s_sAppend, ↓s_sSetIx, ↓s_sFor, ↓ho_mA, ↓ho_mO, ↓ho_mB, frame, ↓seqO_nx, ↓seqO_rt, ↓seqO_bk, ↓seqO_ct, ↓lpO_nx, ↓lpO_rt, ↓lpO_bk, ↓lpO_ct, ↓wsF, ↓wlF, ↓whF, backR, wipeR, datSlot, strsD_signs, join_signs, sum_ones2, ↓w_eOwnBin, ownAt, ↓w_eP, ↓w_eBinX, ↓w_eTupleP, ↓w_iEnumD, ↓w_iZipD, ↓w_eOfM, ↓w_mNew, ↓w_mDisp, ↓w_mDispT, ↓s_sSetM, ↓w_vDic, ↓w_eGetV, ↓w_eGetXV, ↓w_cInV, ↓s_sPutV, ↓w_eGetX, ↓w_iKeysD, ↓w_iItemsD, lookM, ↓z_add_i, ↓z_add_s, ↓z_add_t, ↓z_sub, ↓z_mul_i, ↓z_mul_s, ↓z_div, ↓z_mod, ↓z_pow, ↓z_neg, ↓z_eq_i, ↓z_eq_s, ↓z_eq_b, ↓z_eq_l, ↓z_eq_t, ↓z_ne_i, ↓z_ne_s, ↓z_ne_b, ↓z_ne_l, ↓z_ne_t, ↓z_eq_ns, ↓z_eq_sn, ↓z_ne_ns, ↓z_ne_sn, ↓z_lt, ↓z_le, ↓z_gt, ↓z_ge, ↓z_idx_l, ↓z_idx_t, ↓z_idx_r, ↓z_idx_s, ↓z_len_s, ↓z_len_l, ↓z_len_t, ↓z_len_r, ↓z_abs, ↓z_min2, ↓z_max2, ↓z_int_i, ↓z_int_b, ↓z_cut_s, ↓z_cut_t, ↓z_gcut, ↓z_rev, ↓z_grev, ↓z_gadd, ↓z_gmul, ↓z_list_l, ↓z_list_t, ↓z_list_s, ↓z_tuple_l, ↓z_tuple_t, ↓z_all, ↓z_any, ↓z_sum, ↓z_maxl, ↓z_minl, ↓z_rfind, ↓z_join_l, ↓z_join_t, ↓z_in_s, ↓z_nin_s, ↓z_in_t, ↓z_nin_t, ↓z_in_l, ↓z_nin_l, ↓z_items_l, ↓z_items_t, ↓z_items_r, ↓z_items_s, ↓z_isi_s, ↓z_isi_i, ↓z_isi_b, ↓z_isi_n, ↓z_isi_l, ↓z_isi_t, ↓z_isi_r, ↓z_ty_s, ↓z_ty_i, ↓z_ty_b, ↓z_ty_n, ↓z_ty_l, ↓z_ty_t, ↓z_k_ss, ↓z_k_ii, ↓z_k_ib, ↓z_k_tt, ↓z_k_ll, flatD, pVar, ↓ho_ite, ↓z_lset_l, ↓z_lset_t, ↓z_rg2, ↓z_rg1, ↓z_is_nn, ↓z_is_tn, ↓z_is_ln, ↓z_is_sn, ↓z_is_in, ↓z_is_bb, ↓z_isn_nn, ↓z_isn_tn, ↓z_isn_ln, ↓z_isn_sn, ↓z_isn_in, ↓z_isn_bb, ↓z_ne_nn, ↓z_eq_nn, ↓z_k_bb, ↓z_seq_l, ↓z_zip_l, ↓z_zip_t, ↓z_ltD_i, ↓z_gtD_i, ↓z_leD_i, ↓z_geD_i, ↓z_ltD_s, ↓z_gtD_s, ↓z_ltD_t, ↓z_gtD_t, ↓z_mulT, ↓z_getD, ↓z_lenD, ↓z_keysL, ↓z_valsL, ↓z_sset_l, ↓z_sortD, ↓z_minDs, hlm, hl, atI, ixN, ending_eq hl]
  by_cases h0 : t.length ≤ w
  · simp [h0, shw]
  · simp only [if_neg h0]
    have hc : ho (m_cut_plain [.tup [.str p, .str u, .str e, .str m], .str t, .int w]) (fun r => r = .str (cutP p u m t w)) := by rw [cut_eq (by omega) hl hm]; simp
    by_cases c1 : e = [107, 101, 101, 112]
    · subst c1
      simp only [if_true, true_and]
      simp [↓w_eVar, ↓w_eC, ↓w_eUn, ↓w_eUnX, ↓w_eBin, ↓w_eM1, ↓w_oBin, ↓w_oUn, ↓w_eOfO, ↓w_eNil, ↓w_eCons, ↓w_eTup, ↓w_oLst, ↓w_eCall, ↓w_oCall, ↓w_cT, ↓w_cNot, ↓w_cAnd, ↓w_cOr, ↓w_cYes, ↓w_eAndV, ↓w_eOrV, ↓w_eNotV, ↓w_eIf, ↓w_eOwnIdx, ↓w_qNone, ↓w_qSome, ↓w_eCut, ↓w_oCut, ↓w_eChain, ↓w_iAny, ↓w_iRange1, ↓w_iRange2, ↓w_iRange3, ↓w_eCallS, ↓w_oComp, ↓w_bName, ↓w_bNil, ↓w_bCons, ↓w_bTup, ↓s_sNil, ↓s_sSeq, ↓s_sNever, ↓s_sBreak, ↓s_sCont, ↓s_sIf, ↓s_sDrop, ↓s_sRet, ↓s_sRetN, ↓s_sRetO, ↓s_sRetV, ↓s_sSet, ↓s_sSetO, ↓s_sUnpack, ↓s_sParD, ↓w_setD_nil, ↓w_setD_cons, ↓w_vDat, ↓w_vOwn, ↓s_sPar2, ↓s_sAppend, ↓s_sSetIx, ↓s_sFor, ↓ho_mA, ↓ho_mO, ↓ho_mB, frame, ↓seqO_nx, ↓seqO_rt, ↓seqO_bk, ↓seqO_ct, ↓lpO_nx, ↓lpO_rt, ↓lpO_bk, ↓lpO_ct, ↓wsF, ↓wlF, ↓whF, backR, wipeR, datSlot, strsD_signs, join_signs, sum_ones2, ↓w_eOwnBin, ownAt, ↓w_eP, ↓w_eBinX, ↓w_eTupleP, ↓w_iEnumD, ↓w_iZipD, ↓w_eOfM, ↓w_mNew, ↓w_mDisp, ↓w_mDispT, ↓s_sSetM, ↓w_vDic, ↓w_eGetV, ↓w_eGetXV, ↓w_cInV, ↓s_sPutV, ↓w_eGetX, ↓w_iKeysD, ↓w_iItemsD, lookM, ↓z_add_i, ↓z_add_s, ↓z_add_t, ↓z_sub, ↓z_mul_i, ↓z_mul_s, ↓z_div, ↓z_mod, ↓z_pow, ↓z_neg, ↓z_eq_i, ↓z_eq_s, ↓z_eq_b, ↓z_eq_l, ↓z_eq_t, ↓z_ne_i, ↓z_ne_s, ↓z_ne_b, ↓z_ne_l, ↓z_ne_t, ↓z_eq_ns, ↓z_eq_sn, ↓z_ne_ns, ↓z_ne_sn, ↓z_lt, ↓z_le, ↓z_gt, ↓z_ge, ↓z_idx_l, ↓z_idx_t, ↓z_idx_r, ↓z_idx_s, ↓z_len_s, ↓z_len_l, ↓z_len_t, ↓z_len_r, ↓z_abs, ↓z_min2, ↓z_max2, ↓z_int_i, ↓z_int_b, ↓z_cut_s, ↓z_cut_t, ↓z_gcut, ↓z_rev, ↓z_grev, ↓z_gadd, ↓z_gmul, ↓z_list_l, ↓z_list_t, ↓z_list_s, ↓z_tuple_l, ↓z_tuple_t, ↓z_all, ↓z_any, ↓z_sum, ↓z_maxl, ↓z_minl, ↓z_rfind, ↓z_join_l, ↓z_join_t, ↓z_in_s, ↓z_nin_s, ↓z_in_t, ↓z_nin_t, ↓z_in_l, ↓z_nin_l, ↓z_items_l, ↓z_items_t, ↓z_items_r, ↓z_items_s, ↓z_isi_s, ↓z_isi_i, ↓z_isi_b, ↓z_isi_n, ↓z_isi_l, ↓z_isi_t, ↓z_isi_r, ↓z_ty_s, ↓z_ty_i, ↓z_ty_b, ↓z_ty_n, ↓z_ty_l, ↓z_ty_t, ↓z_k_ss, ↓z_k_ii, ↓z_k_ib, ↓z_k_tt, ↓z_k_ll, flatD, pVar, ↓ho_ite, ↓z_lset_l, ↓z_lset_t, ↓z_rg2, ↓z_rg1, ↓z_is_nn, ↓z_is_tn, ↓z_is_ln, ↓z_is_sn, ↓z_is_in, ↓z_is_bb, ↓z_isn_nn, ↓z_isn_tn, ↓z_isn_ln, ↓z_isn_sn, ↓z_isn_in, ↓z_isn_bb, ↓z_ne_nn, ↓z_eq_nn, ↓z_k_bb, ↓z_seq_l, ↓z_zip_l, ↓z_zip_t, ↓z_ltD_i, ↓z_gtD_i, ↓z_leD_i, ↓z_geD_i, ↓z_ltD_s, ↓z_gtD_s, ↓z_ltD_t, ↓z_gtD_t, ↓z_mulT, ↓z_getD, ↓z_lenD, ↓z_keysL, ↓z_valsL, ↓z_sset_l, ↓z_sortD, ↓z_minDs, hle]
      by_cases c2 : tail t = []
      · have : shw p u [107, 101, 101, 112] m t w = cutP p u m t w := by simp [shw, h0, c2]
        rw [this]; simp [c2]; exact hc
      · simp only [c2, if_false, not_false_eq_true, true_and]
        by_cases c3 : m.length + (tail t).length ≤ w
        · have e9 : shw p u [107, 101, 101, 112] m t w = cutP p u m (t.take (t.length - (tail t).length)) (w - (tail t).length) ++ tail t := by simp [shw, h0, c2, c3]
          rw [e9]
          rw [if_neg (by omega)]
          rw [cut_take (by omega), show (w : Int) - ((tail t).length : Int) = ((w - (tail t).length : Nat) : Int) by omega, show ((t.length : Int) - ((tail t).length : Int)).toNat = t.length - (tail t).length by omega]
          have := cutP_len (p := p) (u := u) (m := m) (t := t.take (t.length - (tail t).length)) (w := w - (tail t).length)
          rw [cut_eq (by simp; omega) (by simp; omega) hm]
          simp [↓w_eVar, ↓w_eC, ↓w_eUn, ↓w_eUnX, ↓w_eBin, ↓w_eM1, ↓w_oBin, ↓w_oUn, ↓w_eOfO, ↓w_eNil, ↓w_eCons, ↓w_eTup, ↓w_oLst, ↓w_eCall, ↓w_oCall, ↓w_cT, ↓w_cNot, ↓w_cAnd, ↓w_cOr, ↓w_cYes, ↓w_eAndV, ↓w_eOrV, ↓w_eNotV, ↓w_eIf, ↓w_eOwnIdx, ↓w_qNone, ↓w_qSome, ↓w_eCut, ↓w_oCut, ↓w_eChain, ↓w_iAny, ↓w_iRange1, ↓w_iRange2, ↓w_iRange3, ↓w_eCallS, ↓w_oComp, ↓w_bName, ↓w_bNil, ↓w_bCons, ↓w_bTup, ↓s_sNil, ↓s_sSeq, ↓s_sNever, ↓s_sBreak, ↓s_sCont, ↓s_sIf, ↓s_sDrop, ↓s_sRet, ↓s_sRetN, ↓s_sRetO, ↓s_sRetV, ↓s_sSet, ↓s_sSetO, ↓s_sUnpack, ↓s_sParD, ↓w_setD_nil, ↓w_setD_cons, ↓w_vDat, ↓w_vOwn, ↓s_sPar2, ↓s_sAppend, ↓s_sSetIx, ↓s_sFor, ↓ho_mA, ↓ho_mO, ↓ho_mB, frame, ↓seqO_nx, ↓seqO_rt, ↓seqO_bk, ↓seqO_ct, ↓lpO_nx, ↓lpO_rt, ↓lpO_bk, ↓lpO_ct, ↓wsF, ↓wlF, ↓whF, backR, wipeR, datSlot, strsD_signs, join_signs, sum_ones2, ↓w_eOwnBin, ownAt, ↓w_eP, ↓w_eBinX, ↓w_eTupleP, ↓w_iEnumD, ↓w_iZipD, ↓w_eOfM, ↓w_mNew, ↓w_mDisp, ↓w_mDispT, ↓s_sSetM, ↓w_vDic, ↓w_eGetV, ↓w_eGetXV, ↓w_cInV, ↓s_sPutV, ↓w_eGetX, ↓w_iKeysD, ↓w_iItemsD, lookM, ↓z_add_i, ↓z_add_s, ↓z_add_t, ↓z_sub, ↓z_mul_i, ↓z_mul_s, ↓z_div, ↓z_mod, ↓z_pow, ↓z_neg, ↓z_eq_i, ↓z_eq_s, ↓z_eq_b, ↓z_eq_l, ↓z_eq_t, ↓z_ne_i, ↓z_ne_s, ↓z_ne_b, ↓z_ne_l, ↓z_ne_t, ↓z_eq_ns, ↓z_eq_sn, ↓z_ne_ns, ↓z_ne_sn, ↓z_lt, ↓z_le, ↓z_gt, ↓z_ge, ↓z_idx_l, ↓z_idx_t, ↓z_idx_r, ↓z_idx_s, ↓z_len_s, ↓z_len_l, ↓z_len_t, ↓z_len_r, ↓z_abs, ↓z_min2, ↓z_max2, ↓z_int_i, ↓z_int_b, ↓z_cut_s, ↓z_cut_t, ↓z_gcut, ↓z_rev, ↓z_grev, ↓z_gadd, ↓z_gmul, ↓z_list_l, ↓z_list_t, ↓z_list_s, ↓z_tuple_l, ↓z_tuple_t, ↓z_all, ↓z_any, ↓z_sum, ↓z_maxl, ↓z_minl, ↓z_rfind, ↓z_join_l, ↓z_join_t, ↓z_in_s, ↓z_nin_s, ↓z_in_t, ↓z_nin_t, ↓z_in_l, ↓z_nin_l, ↓z_items_l, ↓z_items_t, ↓z_items_r, ↓z_items_s, ↓z_isi_s, ↓z_isi_i, ↓z_isi_b, ↓z_isi_n, ↓z_isi_l, ↓z_isi_t, ↓z_isi_r, ↓z_ty_s, ↓z_ty_i, ↓z_ty_b, ↓z_ty_n, ↓z_ty_l, ↓z_ty_t, ↓z_k_ss, ↓z_k_ii, ↓z_k_ib, ↓z_k_tt, ↓z_k_ll, flatD, pVar, ↓ho_ite, ↓z_lset_l, ↓z_lset_t, ↓z_rg2, ↓z_rg1, ↓z_is_nn, ↓z_is_tn, ↓z_is_ln, ↓z_is_sn, ↓z_is_in, ↓z_is_bb, ↓z_isn_nn, ↓z_isn_tn, ↓z_isn_ln, ↓z_isn_sn, ↓z_isn_in, ↓z_isn_bb, ↓z_ne_nn, ↓z_eq_nn, ↓z_k_bb, ↓z_seq_l, ↓z_zip_l, ↓z_zip_t, ↓z_ltD_i, ↓z_gtD_i, ↓z_leD_i, ↓z_geD_i, ↓z_ltD_s, ↓z_gtD_s, ↓z_ltD_t, ↓z_gtD_t, ↓z_mulT, ↓z_getD, ↓z_lenD, ↓z_keysL, ↓z_valsL, ↓z_sset_l, ↓z_sortD, ↓z_minDs]; unfold lim; omega
        · have : shw p u [107, 101, 101, 112] m t w = cutP p u m t w := by simp [shw, h0, c3]
          rw [this]
          rw [if_pos (by omega)]
          exact hc
    · have : shw p u e m t w = cutP p u m t w := by simp [shw, h0, c1]
      rw [this]
      simp [↓w_eVar, ↓w_eC, ↓w_eUn, ↓w_eUnX, ↓w_eBin, ↓w_eM1, ↓w_oBin, ↓w_oUn, ↓w_eOfO, ↓w_eNil, ↓w_eCons, ↓w_eTup, ↓w_oLst, ↓w_eCall, ↓w_oCall, ↓w_cT, ↓w_cNot, ↓w_cAnd, ↓w_cOr, ↓w_cYes, ↓w_eAndV, ↓w_eOrV, ↓w_eNotV, ↓w_eIf, ↓w_eOwnIdx, ↓w_qNone, ↓w_qSome, ↓w_eCut, ↓w_oCut, ↓w_eChain, ↓w_iAny, ↓w_iRange1, ↓w_iRange2, ↓w_iRange3, ↓w_eCallS, ↓w_oComp, ↓w_bName, ↓w_bNil, ↓w_bCons, ↓w_bTup, ↓s_sNil, ↓s_sSeq, ↓s_sNever, ↓s_sBreak, ↓s_sCont, ↓s_sIf, ↓s_sDrop, ↓s_sRet, ↓s_sRetN, ↓s_sRetO, ↓s_sRetV, ↓s_sSet, ↓s_sSetO, ↓s_sUnpack, ↓s_sParD, ↓w_setD_nil, ↓w_setD_cons, ↓w_vDat, ↓w_vOwn, ↓s_sPar2, ↓s_sAppend, ↓s_sSetIx, ↓s_sFor, ↓ho_mA, ↓ho_mO, ↓ho_mB, frame, ↓seqO_nx, ↓seqO_rt, ↓seqO_bk, ↓seqO_ct, ↓lpO_nx, ↓lpO_rt, ↓lpO_bk, ↓lpO_ct, ↓wsF, ↓wlF, ↓whF, backR, wipeR, datSlot, strsD_signs, join_signs, sum_ones2, ↓w_eOwnBin, ownAt, ↓w_eP, ↓w_eBinX, ↓w_eTupleP, ↓w_iEnumD, ↓w_iZipD, ↓w_eOfM, ↓w_mNew, ↓w_mDisp, ↓w_mDispT, ↓s_sSetM, ↓w_vDic, ↓w_eGetV, ↓w_eGetXV, ↓w_cInV, ↓s_sPutV, ↓w_eGetX, ↓w_iKeysD, ↓w_iItemsD, lookM, ↓z_add_i, ↓z_add_s, ↓z_add_t, ↓z_sub, ↓z_mul_i, ↓z_mul_s, ↓z_div, ↓z_mod, ↓z_pow, ↓z_neg, ↓z_eq_i, ↓z_eq_s, ↓z_eq_b, ↓z_eq_l, ↓z_eq_t, ↓z_ne_i, ↓z_ne_s, ↓z_ne_b, ↓z_ne_l, ↓z_ne_t, ↓z_eq_ns, ↓z_eq_sn, ↓z_ne_ns, ↓z_ne_sn, ↓z_lt, ↓z_le, ↓z_gt, ↓z_ge, ↓z_idx_l, ↓z_idx_t, ↓z_idx_r, ↓z_idx_s, ↓z_len_s, ↓z_len_l, ↓z_len_t, ↓z_len_r, ↓z_abs, ↓z_min2, ↓z_max2, ↓z_int_i, ↓z_int_b, ↓z_cut_s, ↓z_cut_t, ↓z_gcut, ↓z_rev, ↓z_grev, ↓z_gadd, ↓z_gmul, ↓z_list_l, ↓z_list_t, ↓z_list_s, ↓z_tuple_l, ↓z_tuple_t, ↓z_all, ↓z_any, ↓z_sum, ↓z_maxl, ↓z_minl, ↓z_rfind, ↓z_join_l, ↓z_join_t, ↓z_in_s, ↓z_nin_s, ↓z_in_t, ↓z_nin_t, ↓z_in_l, ↓z_nin_l, ↓z_items_l, ↓z_items_t, ↓z_items_r, ↓z_items_s, ↓z_isi_s, ↓z_isi_i, ↓z_isi_b, ↓z_isi_n, ↓z_isi_l, ↓z_isi_t, ↓z_isi_r, ↓z_ty_s, ↓z_ty_i, ↓z_ty_b, ↓z_ty_n, ↓z_ty_l, ↓z_ty_t, ↓z_k_ss, ↓z_k_ii, ↓z_k_ib, ↓z_k_tt, ↓z_k_ll, flatD, pVar, ↓ho_ite, ↓z_lset_l, ↓z_lset_t, ↓z_rg2, ↓z_rg1, ↓z_is_nn, ↓z_is_tn, ↓z_is_ln, ↓z_is_sn, ↓z_is_in, ↓z_is_bb, ↓z_isn_nn, ↓z_isn_tn, ↓z_isn_ln, ↓z_isn_sn, ↓z_isn_in, ↓z_isn_bb, ↓z_ne_nn, ↓z_eq_nn, ↓z_k_bb, ↓z_seq_l, ↓z_zip_l, ↓z_zip_t, ↓z_ltD_i, ↓z_gtD_i, ↓z_leD_i, ↓z_geD_i, ↓z_ltD_s, ↓z_gtD_s, ↓z_ltD_t, ↓z_gtD_t, ↓z_mulT, ↓z_getD, ↓z_lenD, ↓z_keysL, ↓z_valsL, ↓z_sset_l, ↓z_sortD, ↓z_minDs, c1]; exact hc

theorem is_way_eq {p u e m : List Nat} (h : Way (.tup [.str p, .str u, .str e, .str m])) : m_is_way [.tup [.str p, .str u, .str e, .str m]] = some (.bl true) := by
  obtain ⟨p', u', e', m', he, h1, h2, h3, h4⟩ := h
  simp only [D.tup.injEq, List.cons.injEq, D.str.injEq, and_true] at he
  obtain ⟨rfl, rfl, rfl, rfl⟩ := he
  rcases h1 with rfl | rfl | rfl <;> rcases h2 with rfl | rfl <;> rcases h3 with rfl | rfl <;> rcases h4 with rfl | rfl | rfl <;> rfl
theorem need_way_eq {p u e m : List Nat} (h : Way (.tup [.str p, .str u, .str e, .str m])) : m_need_way [.tup [.str p, .str u, .str e, .str m]] = some .non := by
  rw [← ho_eq]; unfold m_need_way g_need_way
  simp [↓w_eVar, ↓w_eC, ↓w_eUn, ↓w_eUnX, ↓w_eBin, ↓w_eM1, ↓w_oBin, ↓w_oUn, ↓w_eOfO, ↓w_eNil, ↓w_eCons, ↓w_eTup, ↓w_oLst, ↓w_eCall, ↓w_oCall, ↓w_cT, ↓w_cNot, ↓w_cAnd, ↓w_cOr, ↓w_cYes, ↓w_eAndV, ↓w_eOrV, ↓w_eNotV, ↓w_eIf, ↓w_eOwnIdx, ↓w_qNone, ↓w_qSome, ↓w_eCut, ↓w_oCut, ↓w_eChain, ↓w_iAny, ↓w_iRange1, ↓w_iRange2, ↓w_iRange3, ↓w_eCallS, ↓w_oComp, ↓w_bName, ↓w_bNil, ↓w_bCons, ↓w_bTup, ↓s_sNil, ↓s_sSeq, ↓s_sNever, ↓s_sBreak, ↓s_sCont, ↓s_sIf, ↓s_sDrop, ↓s_sRet, ↓s_sRetN, ↓s_sRetO, ↓s_sRetV, ↓s_sSet, ↓s_sSetO, ↓s_sUnpack, ↓s_sParD, ↓w_setD_nil, ↓w_setD_cons, ↓w_vDat, ↓w_vOwn, ↓s_sPar2, ↓s_sAppend, ↓s_sSetIx, ↓s_sFor, ↓ho_mA, ↓ho_mO, ↓ho_mB, frame, ↓seqO_nx, ↓seqO_rt, ↓seqO_bk, ↓seqO_ct, ↓lpO_nx, ↓lpO_rt, ↓lpO_bk, ↓lpO_ct, ↓wsF, ↓wlF, ↓whF, backR, wipeR, datSlot, strsD_signs, join_signs, sum_ones2, ↓w_eOwnBin, ownAt, ↓w_eP, ↓w_eBinX, ↓w_eTupleP, ↓w_iEnumD, ↓w_iZipD, ↓w_eOfM, ↓w_mNew, ↓w_mDisp, ↓w_mDispT, ↓s_sSetM, ↓w_vDic, ↓w_eGetV, ↓w_eGetXV, ↓w_cInV, ↓s_sPutV, ↓w_eGetX, ↓w_iKeysD, ↓w_iItemsD, lookM, ↓z_add_i, ↓z_add_s, ↓z_add_t, ↓z_sub, ↓z_mul_i, ↓z_mul_s, ↓z_div, ↓z_mod, ↓z_pow, ↓z_neg, ↓z_eq_i, ↓z_eq_s, ↓z_eq_b, ↓z_eq_l, ↓z_eq_t, ↓z_ne_i, ↓z_ne_s, ↓z_ne_b, ↓z_ne_l, ↓z_ne_t, ↓z_eq_ns, ↓z_eq_sn, ↓z_ne_ns, ↓z_ne_sn, ↓z_lt, ↓z_le, ↓z_gt, ↓z_ge, ↓z_idx_l, ↓z_idx_t, ↓z_idx_r, ↓z_idx_s, ↓z_len_s, ↓z_len_l, ↓z_len_t, ↓z_len_r, ↓z_abs, ↓z_min2, ↓z_max2, ↓z_int_i, ↓z_int_b, ↓z_cut_s, ↓z_cut_t, ↓z_gcut, ↓z_rev, ↓z_grev, ↓z_gadd, ↓z_gmul, ↓z_list_l, ↓z_list_t, ↓z_list_s, ↓z_tuple_l, ↓z_tuple_t, ↓z_all, ↓z_any, ↓z_sum, ↓z_maxl, ↓z_minl, ↓z_rfind, ↓z_join_l, ↓z_join_t, ↓z_in_s, ↓z_nin_s, ↓z_in_t, ↓z_nin_t, ↓z_in_l, ↓z_nin_l, ↓z_items_l, ↓z_items_t, ↓z_items_r, ↓z_items_s, ↓z_isi_s, ↓z_isi_i, ↓z_isi_b, ↓z_isi_n, ↓z_isi_l, ↓z_isi_t, ↓z_isi_r, ↓z_ty_s, ↓z_ty_i, ↓z_ty_b, ↓z_ty_n, ↓z_ty_l, ↓z_ty_t, ↓z_k_ss, ↓z_k_ii, ↓z_k_ib, ↓z_k_tt, ↓z_k_ll, flatD, pVar, ↓ho_ite, ↓z_lset_l, ↓z_lset_t, ↓z_rg2, ↓z_rg1, ↓z_is_nn, ↓z_is_tn, ↓z_is_ln, ↓z_is_sn, ↓z_is_in, ↓z_is_bb, ↓z_isn_nn, ↓z_isn_tn, ↓z_isn_ln, ↓z_isn_sn, ↓z_isn_in, ↓z_isn_bb, ↓z_ne_nn, ↓z_eq_nn, ↓z_k_bb, ↓z_seq_l, ↓z_zip_l, ↓z_zip_t, ↓z_ltD_i, ↓z_gtD_i, ↓z_leD_i, ↓z_geD_i, ↓z_ltD_s, ↓z_gtD_s, ↓z_ltD_t, ↓z_gtD_t, ↓z_mulT, ↓z_getD, ↓z_lenD, ↓z_keysL, ↓z_valsL, ↓z_sset_l, ↓z_sortD, ↓z_minDs, is_way_eq h]

theorem is_text_eq {t : List Nat} (hl : t.length ≤ 40) (h : ∀ c, c ∈ t → isSign c) : m_is_text [.str t] = some (.bl true) := by
  rw [← ho_eq]; unfold m_is_text g_is_text
  have hl' : t.length ≤ lim := by unfold lim; omega
  simp [↓w_eVar, ↓w_eC, ↓w_eUn, ↓w_eUnX, ↓w_eBin, ↓w_eM1, ↓w_oBin, ↓w_oUn, ↓w_eOfO, ↓w_eNil, ↓w_eCons, ↓w_eTup, ↓w_oLst, ↓w_eCall, ↓w_oCall, ↓w_cT, ↓w_cNot, ↓w_cAnd, ↓w_cOr, ↓w_cYes, ↓w_eAndV, ↓w_eOrV, ↓w_eNotV, ↓w_eIf, ↓w_eOwnIdx, ↓w_qNone, ↓w_qSome, ↓w_eCut, ↓w_oCut, ↓w_eChain, ↓w_iAny, ↓w_iRange1, ↓w_iRange2, ↓w_iRange3, ↓w_eCallS, ↓w_oComp, ↓w_bName, ↓w_bNil, ↓w_bCons, ↓w_bTup, ↓s_sNil, ↓s_sSeq, ↓s_sNever, ↓s_sBreak, ↓s_sCont, ↓s_sIf, ↓s_sDrop, ↓s_sRet, ↓s_sRetN, ↓s_sRetO, ↓s_sRetV, ↓s_sSet, ↓s_sSetO, ↓s_sUnpack, ↓s_sParD, ↓w_setD_nil, ↓w_setD_cons, ↓w_vDat, ↓w_vOwn, ↓s_sPar2, ↓s_sAppend, ↓s_sSetIx, ↓s_sFor, ↓ho_mA, ↓ho_mO, ↓ho_mB, frame, ↓seqO_nx, ↓seqO_rt, ↓seqO_bk, ↓seqO_ct, ↓lpO_nx, ↓lpO_rt, ↓lpO_bk, ↓lpO_ct, ↓wsF, ↓wlF, ↓whF, backR, wipeR, datSlot, strsD_signs, join_signs, sum_ones2, ↓w_eOwnBin, ownAt, ↓w_eP, ↓w_eBinX, ↓w_eTupleP, ↓w_iEnumD, ↓w_iZipD, ↓w_eOfM, ↓w_mNew, ↓w_mDisp, ↓w_mDispT, ↓s_sSetM, ↓w_vDic, ↓w_eGetV, ↓w_eGetXV, ↓w_cInV, ↓s_sPutV, ↓w_eGetX, ↓w_iKeysD, ↓w_iItemsD, lookM, ↓z_add_i, ↓z_add_s, ↓z_add_t, ↓z_sub, ↓z_mul_i, ↓z_mul_s, ↓z_div, ↓z_mod, ↓z_pow, ↓z_neg, ↓z_eq_i, ↓z_eq_s, ↓z_eq_b, ↓z_eq_l, ↓z_eq_t, ↓z_ne_i, ↓z_ne_s, ↓z_ne_b, ↓z_ne_l, ↓z_ne_t, ↓z_eq_ns, ↓z_eq_sn, ↓z_ne_ns, ↓z_ne_sn, ↓z_lt, ↓z_le, ↓z_gt, ↓z_ge, ↓z_idx_l, ↓z_idx_t, ↓z_idx_r, ↓z_idx_s, ↓z_len_s, ↓z_len_l, ↓z_len_t, ↓z_len_r, ↓z_abs, ↓z_min2, ↓z_max2, ↓z_int_i, ↓z_int_b, ↓z_cut_s, ↓z_cut_t, ↓z_gcut, ↓z_rev, ↓z_grev, ↓z_gadd, ↓z_gmul, ↓z_list_l, ↓z_list_t, ↓z_list_s, ↓z_tuple_l, ↓z_tuple_t, ↓z_all, ↓z_any, ↓z_sum, ↓z_maxl, ↓z_minl, ↓z_rfind, ↓z_join_l, ↓z_join_t, ↓z_in_s, ↓z_nin_s, ↓z_in_t, ↓z_nin_t, ↓z_in_l, ↓z_nin_l, ↓z_items_l, ↓z_items_t, ↓z_items_r, ↓z_items_s, ↓z_isi_s, ↓z_isi_i, ↓z_isi_b, ↓z_isi_n, ↓z_isi_l, ↓z_isi_t, ↓z_isi_r, ↓z_ty_s, ↓z_ty_i, ↓z_ty_b, ↓z_ty_n, ↓z_ty_l, ↓z_ty_t, ↓z_k_ss, ↓z_k_ii, ↓z_k_ib, ↓z_k_tt, ↓z_k_ll, flatD, pVar, ↓ho_ite, ↓z_lset_l, ↓z_lset_t, ↓z_rg2, ↓z_rg1, ↓z_is_nn, ↓z_is_tn, ↓z_is_ln, ↓z_is_sn, ↓z_is_in, ↓z_is_bb, ↓z_isn_nn, ↓z_isn_tn, ↓z_isn_ln, ↓z_isn_sn, ↓z_isn_in, ↓z_isn_bb, ↓z_ne_nn, ↓z_eq_nn, ↓z_k_bb, ↓z_seq_l, ↓z_zip_l, ↓z_zip_t, ↓z_ltD_i, ↓z_gtD_i, ↓z_leD_i, ↓z_geD_i, ↓z_ltD_s, ↓z_gtD_s, ↓z_ltD_t, ↓z_gtD_t, ↓z_mulT, ↓z_getD, ↓z_lenD, ↓z_keysL, ↓z_valsL, ↓z_sset_l, ↓z_sortD, ↓z_minDs, z_k_ss, z_ty_s, hl', show (t.length : Int) ≤ 40 by omega]
  refine ⟨by simpa [signsD] using hl', wl_fix (p := fun _ => true) (q := fun _ => .bl true) ?_ ?_⟩
  · intro d hd
    obtain ⟨c, hc, rfl⟩ := List.mem_map.mp hd
    have := h c hc
    simp only [isSign, List.mem_cons, List.not_mem_nil, or_false] at this
    simp [↓w_eVar, ↓w_eC, ↓w_eUn, ↓w_eUnX, ↓w_eBin, ↓w_eM1, ↓w_oBin, ↓w_oUn, ↓w_eOfO, ↓w_eNil, ↓w_eCons, ↓w_eTup, ↓w_oLst, ↓w_eCall, ↓w_oCall, ↓w_cT, ↓w_cNot, ↓w_cAnd, ↓w_cOr, ↓w_cYes, ↓w_eAndV, ↓w_eOrV, ↓w_eNotV, ↓w_eIf, ↓w_eOwnIdx, ↓w_qNone, ↓w_qSome, ↓w_eCut, ↓w_oCut, ↓w_eChain, ↓w_iAny, ↓w_iRange1, ↓w_iRange2, ↓w_iRange3, ↓w_eCallS, ↓w_oComp, ↓w_bName, ↓w_bNil, ↓w_bCons, ↓w_bTup, ↓s_sNil, ↓s_sSeq, ↓s_sNever, ↓s_sBreak, ↓s_sCont, ↓s_sIf, ↓s_sDrop, ↓s_sRet, ↓s_sRetN, ↓s_sRetO, ↓s_sRetV, ↓s_sSet, ↓s_sSetO, ↓s_sUnpack, ↓s_sParD, ↓w_setD_nil, ↓w_setD_cons, ↓w_vDat, ↓w_vOwn, ↓s_sPar2, ↓s_sAppend, ↓s_sSetIx, ↓s_sFor, ↓ho_mA, ↓ho_mO, ↓ho_mB, frame, ↓seqO_nx, ↓seqO_rt, ↓seqO_bk, ↓seqO_ct, ↓lpO_nx, ↓lpO_rt, ↓lpO_bk, ↓lpO_ct, ↓wsF, ↓wlF, ↓whF, backR, wipeR, datSlot, strsD_signs, join_signs, sum_ones2, ↓w_eOwnBin, ownAt, ↓w_eP, ↓w_eBinX, ↓w_eTupleP, ↓w_iEnumD, ↓w_iZipD, ↓w_eOfM, ↓w_mNew, ↓w_mDisp, ↓w_mDispT, ↓s_sSetM, ↓w_vDic, ↓w_eGetV, ↓w_eGetXV, ↓w_cInV, ↓s_sPutV, ↓w_eGetX, ↓w_iKeysD, ↓w_iItemsD, lookM, ↓z_add_i, ↓z_add_s, ↓z_add_t, ↓z_sub, ↓z_mul_i, ↓z_mul_s, ↓z_div, ↓z_mod, ↓z_pow, ↓z_neg, ↓z_eq_i, ↓z_eq_s, ↓z_eq_b, ↓z_eq_l, ↓z_eq_t, ↓z_ne_i, ↓z_ne_s, ↓z_ne_b, ↓z_ne_l, ↓z_ne_t, ↓z_eq_ns, ↓z_eq_sn, ↓z_ne_ns, ↓z_ne_sn, ↓z_lt, ↓z_le, ↓z_gt, ↓z_ge, ↓z_idx_l, ↓z_idx_t, ↓z_idx_r, ↓z_idx_s, ↓z_len_s, ↓z_len_l, ↓z_len_t, ↓z_len_r, ↓z_abs, ↓z_min2, ↓z_max2, ↓z_int_i, ↓z_int_b, ↓z_cut_s, ↓z_cut_t, ↓z_gcut, ↓z_rev, ↓z_grev, ↓z_gadd, ↓z_gmul, ↓z_list_l, ↓z_list_t, ↓z_list_s, ↓z_tuple_l, ↓z_tuple_t, ↓z_all, ↓z_any, ↓z_sum, ↓z_maxl, ↓z_minl, ↓z_rfind, ↓z_join_l, ↓z_join_t, ↓z_in_s, ↓z_nin_s, ↓z_in_t, ↓z_nin_t, ↓z_in_l, ↓z_nin_l, ↓z_items_l, ↓z_items_t, ↓z_items_r, ↓z_items_s, ↓z_isi_s, ↓z_isi_i, ↓z_isi_b, ↓z_isi_n, ↓z_isi_l, ↓z_isi_t, ↓z_isi_r, ↓z_ty_s, ↓z_ty_i, ↓z_ty_b, ↓z_ty_n, ↓z_ty_l, ↓z_ty_t, ↓z_k_ss, ↓z_k_ii, ↓z_k_ib, ↓z_k_tt, ↓z_k_ll, flatD, pVar, ↓ho_ite, ↓z_lset_l, ↓z_lset_t, ↓z_rg2, ↓z_rg1, ↓z_is_nn, ↓z_is_tn, ↓z_is_ln, ↓z_is_sn, ↓z_is_in, ↓z_is_bb, ↓z_isn_nn, ↓z_isn_tn, ↓z_isn_ln, ↓z_isn_sn, ↓z_isn_in, ↓z_isn_bb, ↓z_ne_nn, ↓z_eq_nn, ↓z_k_bb, ↓z_seq_l, ↓z_zip_l, ↓z_zip_t, ↓z_ltD_i, ↓z_gtD_i, ↓z_leD_i, ↓z_geD_i, ↓z_ltD_s, ↓z_gtD_s, ↓z_ltD_t, ↓z_gtD_t, ↓z_mulT, ↓z_getD, ↓z_lenD, ↓z_keysL, ↓z_valsL, ↓z_sset_l, ↓z_sortD, ↓z_minDs, this]
  · have : ∀ s : List D, allB ((s.filter fun _ => true).map fun _ => .bl true) = some true := by
      intro s; induction s with
      | nil => rfl
      | cons a s ih => simp only [List.filter_cons_of_pos, List.map_cons, allB, ih]; rfl
    simp only [↓w_eVar, ↓w_eC, ↓w_eUn, ↓w_eUnX, ↓w_eBin, ↓w_eM1, ↓w_oBin, ↓w_oUn, ↓w_eOfO, ↓w_eNil, ↓w_eCons, ↓w_eTup, ↓w_oLst, ↓w_eCall, ↓w_oCall, ↓w_cT, ↓w_cNot, ↓w_cAnd, ↓w_cOr, ↓w_cYes, ↓w_eAndV, ↓w_eOrV, ↓w_eNotV, ↓w_eIf, ↓w_eOwnIdx, ↓w_qNone, ↓w_qSome, ↓w_eCut, ↓w_oCut, ↓w_eChain, ↓w_iAny, ↓w_iRange1, ↓w_iRange2, ↓w_iRange3, ↓w_eCallS, ↓w_oComp, ↓w_bName, ↓w_bNil, ↓w_bCons, ↓w_bTup, ↓s_sNil, ↓s_sSeq, ↓s_sNever, ↓s_sBreak, ↓s_sCont, ↓s_sIf, ↓s_sDrop, ↓s_sRet, ↓s_sRetN, ↓s_sRetO, ↓s_sRetV, ↓s_sSet, ↓s_sSetO, ↓s_sUnpack, ↓s_sParD, ↓w_setD_nil, ↓w_setD_cons, ↓w_vDat, ↓w_vOwn, ↓s_sPar2, ↓s_sAppend, ↓s_sSetIx, ↓s_sFor, ↓ho_mA, ↓ho_mO, ↓ho_mB, frame, ↓seqO_nx, ↓seqO_rt, ↓seqO_bk, ↓seqO_ct, ↓lpO_nx, ↓lpO_rt, ↓lpO_bk, ↓lpO_ct, ↓wsF, ↓wlF, ↓whF, backR, wipeR, datSlot, strsD_signs, join_signs, sum_ones2, ↓w_eOwnBin, ownAt, ↓w_eP, ↓w_eBinX, ↓w_eTupleP, ↓w_iEnumD, ↓w_iZipD, ↓w_eOfM, ↓w_mNew, ↓w_mDisp, ↓w_mDispT, ↓s_sSetM, ↓w_vDic, ↓w_eGetV, ↓w_eGetXV, ↓w_cInV, ↓s_sPutV, ↓w_eGetX, ↓w_iKeysD, ↓w_iItemsD, lookM, ↓z_all, this]; simp [flatD]

theorem need_text_eq {t : List Nat} (hl : t.length ≤ 40) (h : ∀ c, c ∈ t → isSign c) : m_need_text [.str t] = some .non := by
  rw [← ho_eq]; unfold m_need_text g_need_text
  simp [↓w_eVar, ↓w_eC, ↓w_eUn, ↓w_eUnX, ↓w_eBin, ↓w_eM1, ↓w_oBin, ↓w_oUn, ↓w_eOfO, ↓w_eNil, ↓w_eCons, ↓w_eTup, ↓w_oLst, ↓w_eCall, ↓w_oCall, ↓w_cT, ↓w_cNot, ↓w_cAnd, ↓w_cOr, ↓w_cYes, ↓w_eAndV, ↓w_eOrV, ↓w_eNotV, ↓w_eIf, ↓w_eOwnIdx, ↓w_qNone, ↓w_qSome, ↓w_eCut, ↓w_oCut, ↓w_eChain, ↓w_iAny, ↓w_iRange1, ↓w_iRange2, ↓w_iRange3, ↓w_eCallS, ↓w_oComp, ↓w_bName, ↓w_bNil, ↓w_bCons, ↓w_bTup, ↓s_sNil, ↓s_sSeq, ↓s_sNever, ↓s_sBreak, ↓s_sCont, ↓s_sIf, ↓s_sDrop, ↓s_sRet, ↓s_sRetN, ↓s_sRetO, ↓s_sRetV, ↓s_sSet, ↓s_sSetO, ↓s_sUnpack, ↓s_sParD, ↓w_setD_nil, ↓w_setD_cons, ↓w_vDat, ↓w_vOwn, ↓s_sPar2, ↓s_sAppend, ↓s_sSetIx, ↓s_sFor, ↓ho_mA, ↓ho_mO, ↓ho_mB, frame, ↓seqO_nx, ↓seqO_rt, ↓seqO_bk, ↓seqO_ct, ↓lpO_nx, ↓lpO_rt, ↓lpO_bk, ↓lpO_ct, ↓wsF, ↓wlF, ↓whF, backR, wipeR, datSlot, strsD_signs, join_signs, sum_ones2, ↓w_eOwnBin, ownAt, ↓w_eP, ↓w_eBinX, ↓w_eTupleP, ↓w_iEnumD, ↓w_iZipD, ↓w_eOfM, ↓w_mNew, ↓w_mDisp, ↓w_mDispT, ↓s_sSetM, ↓w_vDic, ↓w_eGetV, ↓w_eGetXV, ↓w_cInV, ↓s_sPutV, ↓w_eGetX, ↓w_iKeysD, ↓w_iItemsD, lookM, ↓z_add_i, ↓z_add_s, ↓z_add_t, ↓z_sub, ↓z_mul_i, ↓z_mul_s, ↓z_div, ↓z_mod, ↓z_pow, ↓z_neg, ↓z_eq_i, ↓z_eq_s, ↓z_eq_b, ↓z_eq_l, ↓z_eq_t, ↓z_ne_i, ↓z_ne_s, ↓z_ne_b, ↓z_ne_l, ↓z_ne_t, ↓z_eq_ns, ↓z_eq_sn, ↓z_ne_ns, ↓z_ne_sn, ↓z_lt, ↓z_le, ↓z_gt, ↓z_ge, ↓z_idx_l, ↓z_idx_t, ↓z_idx_r, ↓z_idx_s, ↓z_len_s, ↓z_len_l, ↓z_len_t, ↓z_len_r, ↓z_abs, ↓z_min2, ↓z_max2, ↓z_int_i, ↓z_int_b, ↓z_cut_s, ↓z_cut_t, ↓z_gcut, ↓z_rev, ↓z_grev, ↓z_gadd, ↓z_gmul, ↓z_list_l, ↓z_list_t, ↓z_list_s, ↓z_tuple_l, ↓z_tuple_t, ↓z_all, ↓z_any, ↓z_sum, ↓z_maxl, ↓z_minl, ↓z_rfind, ↓z_join_l, ↓z_join_t, ↓z_in_s, ↓z_nin_s, ↓z_in_t, ↓z_nin_t, ↓z_in_l, ↓z_nin_l, ↓z_items_l, ↓z_items_t, ↓z_items_r, ↓z_items_s, ↓z_isi_s, ↓z_isi_i, ↓z_isi_b, ↓z_isi_n, ↓z_isi_l, ↓z_isi_t, ↓z_isi_r, ↓z_ty_s, ↓z_ty_i, ↓z_ty_b, ↓z_ty_n, ↓z_ty_l, ↓z_ty_t, ↓z_k_ss, ↓z_k_ii, ↓z_k_ib, ↓z_k_tt, ↓z_k_ll, flatD, pVar, ↓ho_ite, ↓z_lset_l, ↓z_lset_t, ↓z_rg2, ↓z_rg1, ↓z_is_nn, ↓z_is_tn, ↓z_is_ln, ↓z_is_sn, ↓z_is_in, ↓z_is_bb, ↓z_isn_nn, ↓z_isn_tn, ↓z_isn_ln, ↓z_isn_sn, ↓z_isn_in, ↓z_isn_bb, ↓z_ne_nn, ↓z_eq_nn, ↓z_k_bb, ↓z_seq_l, ↓z_zip_l, ↓z_zip_t, ↓z_ltD_i, ↓z_gtD_i, ↓z_leD_i, ↓z_geD_i, ↓z_ltD_s, ↓z_gtD_s, ↓z_ltD_t, ↓z_gtD_t, ↓z_mulT, ↓z_getD, ↓z_lenD, ↓z_keysL, ↓z_valsL, ↓z_sset_l, ↓z_sortD, ↓z_minDs, is_text_eq hl h]

theorem between_eq {i a b : Int} : m_is_between [.int i, .int a, .int b] = some (.bl (decide (a ≤ i ∧ i ≤ b))) := by
  rw [← ho_eq]; unfold m_is_between g_is_between
  by_cases h1 : a ≤ i <;> simp [↓w_eVar, ↓w_eC, ↓w_eUn, ↓w_eUnX, ↓w_eBin, ↓w_eM1, ↓w_oBin, ↓w_oUn, ↓w_eOfO, ↓w_eNil, ↓w_eCons, ↓w_eTup, ↓w_oLst, ↓w_eCall, ↓w_oCall, ↓w_cT, ↓w_cNot, ↓w_cAnd, ↓w_cOr, ↓w_cYes, ↓w_eAndV, ↓w_eOrV, ↓w_eNotV, ↓w_eIf, ↓w_eOwnIdx, ↓w_qNone, ↓w_qSome, ↓w_eCut, ↓w_oCut, ↓w_eChain, ↓w_iAny, ↓w_iRange1, ↓w_iRange2, ↓w_iRange3, ↓w_eCallS, ↓w_oComp, ↓w_bName, ↓w_bNil, ↓w_bCons, ↓w_bTup, ↓s_sNil, ↓s_sSeq, ↓s_sNever, ↓s_sBreak, ↓s_sCont, ↓s_sIf, ↓s_sDrop, ↓s_sRet, ↓s_sRetN, ↓s_sRetO, ↓s_sRetV, ↓s_sSet, ↓s_sSetO, ↓s_sUnpack, ↓s_sParD, ↓w_setD_nil, ↓w_setD_cons, ↓w_vDat, ↓w_vOwn, ↓s_sPar2, ↓s_sAppend, ↓s_sSetIx, ↓s_sFor, ↓ho_mA, ↓ho_mO, ↓ho_mB, frame, ↓seqO_nx, ↓seqO_rt, ↓seqO_bk, ↓seqO_ct, ↓lpO_nx, ↓lpO_rt, ↓lpO_bk, ↓lpO_ct, ↓wsF, ↓wlF, ↓whF, backR, wipeR, datSlot, strsD_signs, join_signs, sum_ones2, ↓w_eOwnBin, ownAt, ↓w_eP, ↓w_eBinX, ↓w_eTupleP, ↓w_iEnumD, ↓w_iZipD, ↓w_eOfM, ↓w_mNew, ↓w_mDisp, ↓w_mDispT, ↓s_sSetM, ↓w_vDic, ↓w_eGetV, ↓w_eGetXV, ↓w_cInV, ↓s_sPutV, ↓w_eGetX, ↓w_iKeysD, ↓w_iItemsD, lookM, ↓z_add_i, ↓z_add_s, ↓z_add_t, ↓z_sub, ↓z_mul_i, ↓z_mul_s, ↓z_div, ↓z_mod, ↓z_pow, ↓z_neg, ↓z_eq_i, ↓z_eq_s, ↓z_eq_b, ↓z_eq_l, ↓z_eq_t, ↓z_ne_i, ↓z_ne_s, ↓z_ne_b, ↓z_ne_l, ↓z_ne_t, ↓z_eq_ns, ↓z_eq_sn, ↓z_ne_ns, ↓z_ne_sn, ↓z_lt, ↓z_le, ↓z_gt, ↓z_ge, ↓z_idx_l, ↓z_idx_t, ↓z_idx_r, ↓z_idx_s, ↓z_len_s, ↓z_len_l, ↓z_len_t, ↓z_len_r, ↓z_abs, ↓z_min2, ↓z_max2, ↓z_int_i, ↓z_int_b, ↓z_cut_s, ↓z_cut_t, ↓z_gcut, ↓z_rev, ↓z_grev, ↓z_gadd, ↓z_gmul, ↓z_list_l, ↓z_list_t, ↓z_list_s, ↓z_tuple_l, ↓z_tuple_t, ↓z_all, ↓z_any, ↓z_sum, ↓z_maxl, ↓z_minl, ↓z_rfind, ↓z_join_l, ↓z_join_t, ↓z_in_s, ↓z_nin_s, ↓z_in_t, ↓z_nin_t, ↓z_in_l, ↓z_nin_l, ↓z_items_l, ↓z_items_t, ↓z_items_r, ↓z_items_s, ↓z_isi_s, ↓z_isi_i, ↓z_isi_b, ↓z_isi_n, ↓z_isi_l, ↓z_isi_t, ↓z_isi_r, ↓z_ty_s, ↓z_ty_i, ↓z_ty_b, ↓z_ty_n, ↓z_ty_l, ↓z_ty_t, ↓z_k_ss, ↓z_k_ii, ↓z_k_ib, ↓z_k_tt, ↓z_k_ll, flatD, pVar, ↓ho_ite, ↓z_lset_l, ↓z_lset_t, ↓z_rg2, ↓z_rg1, ↓z_is_nn, ↓z_is_tn, ↓z_is_ln, ↓z_is_sn, ↓z_is_in, ↓z_is_bb, ↓z_isn_nn, ↓z_isn_tn, ↓z_isn_ln, ↓z_isn_sn, ↓z_isn_in, ↓z_isn_bb, ↓z_ne_nn, ↓z_eq_nn, ↓z_k_bb, ↓z_seq_l, ↓z_zip_l, ↓z_zip_t, ↓z_ltD_i, ↓z_gtD_i, ↓z_leD_i, ↓z_geD_i, ↓z_ltD_s, ↓z_gtD_s, ↓z_ltD_t, ↓z_gtD_t, ↓z_mulT, ↓z_getD, ↓z_lenD, ↓z_keysL, ↓z_valsL, ↓z_sset_l, ↓z_sortD, ↓z_minDs, z_k_ii, z_ty_i, z_k_ib, h1]
theorem need_width_eq {i : Int} (h : 0 ≤ i) (h2 : i ≤ 40) : m_need_width [.int i] = some .non := by
  rw [← ho_eq]; unfold m_need_width g_need_width
  simp [↓w_eVar, ↓w_eC, ↓w_eUn, ↓w_eUnX, ↓w_eBin, ↓w_eM1, ↓w_oBin, ↓w_oUn, ↓w_eOfO, ↓w_eNil, ↓w_eCons, ↓w_eTup, ↓w_oLst, ↓w_eCall, ↓w_oCall, ↓w_cT, ↓w_cNot, ↓w_cAnd, ↓w_cOr, ↓w_cYes, ↓w_eAndV, ↓w_eOrV, ↓w_eNotV, ↓w_eIf, ↓w_eOwnIdx, ↓w_qNone, ↓w_qSome, ↓w_eCut, ↓w_oCut, ↓w_eChain, ↓w_iAny, ↓w_iRange1, ↓w_iRange2, ↓w_iRange3, ↓w_eCallS, ↓w_oComp, ↓w_bName, ↓w_bNil, ↓w_bCons, ↓w_bTup, ↓s_sNil, ↓s_sSeq, ↓s_sNever, ↓s_sBreak, ↓s_sCont, ↓s_sIf, ↓s_sDrop, ↓s_sRet, ↓s_sRetN, ↓s_sRetO, ↓s_sRetV, ↓s_sSet, ↓s_sSetO, ↓s_sUnpack, ↓s_sParD, ↓w_setD_nil, ↓w_setD_cons, ↓w_vDat, ↓w_vOwn, ↓s_sPar2, ↓s_sAppend, ↓s_sSetIx, ↓s_sFor, ↓ho_mA, ↓ho_mO, ↓ho_mB, frame, ↓seqO_nx, ↓seqO_rt, ↓seqO_bk, ↓seqO_ct, ↓lpO_nx, ↓lpO_rt, ↓lpO_bk, ↓lpO_ct, ↓wsF, ↓wlF, ↓whF, backR, wipeR, datSlot, strsD_signs, join_signs, sum_ones2, ↓w_eOwnBin, ownAt, ↓w_eP, ↓w_eBinX, ↓w_eTupleP, ↓w_iEnumD, ↓w_iZipD, ↓w_eOfM, ↓w_mNew, ↓w_mDisp, ↓w_mDispT, ↓s_sSetM, ↓w_vDic, ↓w_eGetV, ↓w_eGetXV, ↓w_cInV, ↓s_sPutV, ↓w_eGetX, ↓w_iKeysD, ↓w_iItemsD, lookM, ↓z_add_i, ↓z_add_s, ↓z_add_t, ↓z_sub, ↓z_mul_i, ↓z_mul_s, ↓z_div, ↓z_mod, ↓z_pow, ↓z_neg, ↓z_eq_i, ↓z_eq_s, ↓z_eq_b, ↓z_eq_l, ↓z_eq_t, ↓z_ne_i, ↓z_ne_s, ↓z_ne_b, ↓z_ne_l, ↓z_ne_t, ↓z_eq_ns, ↓z_eq_sn, ↓z_ne_ns, ↓z_ne_sn, ↓z_lt, ↓z_le, ↓z_gt, ↓z_ge, ↓z_idx_l, ↓z_idx_t, ↓z_idx_r, ↓z_idx_s, ↓z_len_s, ↓z_len_l, ↓z_len_t, ↓z_len_r, ↓z_abs, ↓z_min2, ↓z_max2, ↓z_int_i, ↓z_int_b, ↓z_cut_s, ↓z_cut_t, ↓z_gcut, ↓z_rev, ↓z_grev, ↓z_gadd, ↓z_gmul, ↓z_list_l, ↓z_list_t, ↓z_list_s, ↓z_tuple_l, ↓z_tuple_t, ↓z_all, ↓z_any, ↓z_sum, ↓z_maxl, ↓z_minl, ↓z_rfind, ↓z_join_l, ↓z_join_t, ↓z_in_s, ↓z_nin_s, ↓z_in_t, ↓z_nin_t, ↓z_in_l, ↓z_nin_l, ↓z_items_l, ↓z_items_t, ↓z_items_r, ↓z_items_s, ↓z_isi_s, ↓z_isi_i, ↓z_isi_b, ↓z_isi_n, ↓z_isi_l, ↓z_isi_t, ↓z_isi_r, ↓z_ty_s, ↓z_ty_i, ↓z_ty_b, ↓z_ty_n, ↓z_ty_l, ↓z_ty_t, ↓z_k_ss, ↓z_k_ii, ↓z_k_ib, ↓z_k_tt, ↓z_k_ll, flatD, pVar, ↓ho_ite, ↓z_lset_l, ↓z_lset_t, ↓z_rg2, ↓z_rg1, ↓z_is_nn, ↓z_is_tn, ↓z_is_ln, ↓z_is_sn, ↓z_is_in, ↓z_is_bb, ↓z_isn_nn, ↓z_isn_tn, ↓z_isn_ln, ↓z_isn_sn, ↓z_isn_in, ↓z_isn_bb, ↓z_ne_nn, ↓z_eq_nn, ↓z_k_bb, ↓z_seq_l, ↓z_zip_l, ↓z_zip_t, ↓z_ltD_i, ↓z_gtD_i, ↓z_leD_i, ↓z_geD_i, ↓z_ltD_s, ↓z_gtD_s, ↓z_ltD_t, ↓z_gtD_t, ↓z_mulT, ↓z_getD, ↓z_lenD, ↓z_keysL, ↓z_valsL, ↓z_sset_l, ↓z_sortD, ↓z_minDs, between_eq, h, h2]

theorem shown_eq {p u e m t : List Nat} {w : Nat} (hw : Way (.tup [.str p, .str u, .str e, .str m])) (hl : t.length ≤ 40) (ht : ∀ c, c ∈ t → isSign c) (h : w ≤ 40) :
    m_shown [.tup [.str p, .str u, .str e, .str m], .str t, .int w] = some (.str (shw p u e m t w)) := by
  rw [← ho_eq]; unfold m_shown g_shown
  have hm : m.length ≤ 1 := by
    obtain ⟨p', u', e', m', he, h1, h2, h3, h4⟩ := hw
    simp only [D.tup.injEq, List.cons.injEq, D.str.injEq, and_true] at he
    obtain ⟨rfl, rfl, rfl, rfl⟩ := he
    rcases h4 with rfl | rfl | rfl <;> simp
  simp [↓w_eVar, ↓w_eC, ↓w_eUn, ↓w_eUnX, ↓w_eBin, ↓w_eM1, ↓w_oBin, ↓w_oUn, ↓w_eOfO, ↓w_eNil, ↓w_eCons, ↓w_eTup, ↓w_oLst, ↓w_eCall, ↓w_oCall, ↓w_cT, ↓w_cNot, ↓w_cAnd, ↓w_cOr, ↓w_cYes, ↓w_eAndV, ↓w_eOrV, ↓w_eNotV, ↓w_eIf, ↓w_eOwnIdx, ↓w_qNone, ↓w_qSome, ↓w_eCut, ↓w_oCut, ↓w_eChain, ↓w_iAny, ↓w_iRange1, ↓w_iRange2, ↓w_iRange3, ↓w_eCallS, ↓w_oComp, ↓w_bName, ↓w_bNil, ↓w_bCons, ↓w_bTup, ↓s_sNil, ↓s_sSeq, ↓s_sNever, ↓s_sBreak, ↓s_sCont, ↓s_sIf, ↓s_sDrop, ↓s_sRet, ↓s_sRetN, ↓s_sRetO, ↓s_sRetV, ↓s_sSet, ↓s_sSetO, ↓s_sUnpack, ↓s_sParD, ↓w_setD_nil, ↓w_setD_cons, ↓w_vDat, ↓w_vOwn, ↓s_sPar2, ↓s_sAppend, ↓s_sSetIx, ↓s_sFor, ↓ho_mA, ↓ho_mO, ↓ho_mB, frame, ↓seqO_nx, ↓seqO_rt, ↓seqO_bk, ↓seqO_ct, ↓lpO_nx, ↓lpO_rt, ↓lpO_bk, ↓lpO_ct, ↓wsF, ↓wlF, ↓whF, backR, wipeR, datSlot, strsD_signs, join_signs, sum_ones2, ↓w_eOwnBin, ownAt, ↓w_eP, ↓w_eBinX, ↓w_eTupleP, ↓w_iEnumD, ↓w_iZipD, ↓w_eOfM, ↓w_mNew, ↓w_mDisp, ↓w_mDispT, ↓s_sSetM, ↓w_vDic, ↓w_eGetV, ↓w_eGetXV, ↓w_cInV, ↓s_sPutV, ↓w_eGetX, ↓w_iKeysD, ↓w_iItemsD, lookM, ↓z_add_i, ↓z_add_s, ↓z_add_t, ↓z_sub, ↓z_mul_i, ↓z_mul_s, ↓z_div, ↓z_mod, ↓z_pow, ↓z_neg, ↓z_eq_i, ↓z_eq_s, ↓z_eq_b, ↓z_eq_l, ↓z_eq_t, ↓z_ne_i, ↓z_ne_s, ↓z_ne_b, ↓z_ne_l, ↓z_ne_t, ↓z_eq_ns, ↓z_eq_sn, ↓z_ne_ns, ↓z_ne_sn, ↓z_lt, ↓z_le, ↓z_gt, ↓z_ge, ↓z_idx_l, ↓z_idx_t, ↓z_idx_r, ↓z_idx_s, ↓z_len_s, ↓z_len_l, ↓z_len_t, ↓z_len_r, ↓z_abs, ↓z_min2, ↓z_max2, ↓z_int_i, ↓z_int_b, ↓z_cut_s, ↓z_cut_t, ↓z_gcut, ↓z_rev, ↓z_grev, ↓z_gadd, ↓z_gmul, ↓z_list_l, ↓z_list_t, ↓z_list_s, ↓z_tuple_l, ↓z_tuple_t, ↓z_all, ↓z_any, ↓z_sum, ↓z_maxl, ↓z_minl, ↓z_rfind, ↓z_join_l, ↓z_join_t, ↓z_in_s, ↓z_nin_s, ↓z_in_t, ↓z_nin_t, ↓z_in_l, ↓z_nin_l, ↓z_items_l, ↓z_items_t, ↓z_items_r, ↓z_items_s, ↓z_isi_s, ↓z_isi_i, ↓z_isi_b, ↓z_isi_n, ↓z_isi_l, ↓z_isi_t, ↓z_isi_r, ↓z_ty_s, ↓z_ty_i, ↓z_ty_b, ↓z_ty_n, ↓z_ty_l, ↓z_ty_t, ↓z_k_ss, ↓z_k_ii, ↓z_k_ib, ↓z_k_tt, ↓z_k_ll, flatD, pVar, ↓ho_ite, ↓z_lset_l, ↓z_lset_t, ↓z_rg2, ↓z_rg1, ↓z_is_nn, ↓z_is_tn, ↓z_is_ln, ↓z_is_sn, ↓z_is_in, ↓z_is_bb, ↓z_isn_nn, ↓z_isn_tn, ↓z_isn_ln, ↓z_isn_sn, ↓z_isn_in, ↓z_isn_bb, ↓z_ne_nn, ↓z_eq_nn, ↓z_k_bb, ↓z_seq_l, ↓z_zip_l, ↓z_zip_t, ↓z_ltD_i, ↓z_gtD_i, ↓z_leD_i, ↓z_geD_i, ↓z_ltD_s, ↓z_gtD_s, ↓z_ltD_t, ↓z_gtD_t, ↓z_mulT, ↓z_getD, ↓z_lenD, ↓z_keysL, ↓z_valsL, ↓z_sset_l, ↓z_sortD, ↓z_minDs, need_way_eq hw, need_text_eq hl ht, need_width_eq (i := (w : Int)) (by omega) (by omega), show_eq (p := p) (u := u) (e := e) (m := m) (t := t) (w := w) (by unfold lim; omega) hm]

theorem views_of_eq {x : List Nat × List Nat × List Nat × List Nat} {t : List Nat} (hx : x.2.2.2.length ≤ 1) (hl : t.length ≤ lim) : m_views_of [wayD x, .str t] = some (.lst ((vw (fun w => shwW x w t) 41).map rowD)) := by
  rw [← ho_eq]; unfold m_views_of g_views_of
  obtain ⟨I, hI⟩ : ∃ I : List D → Rho → Prop, ∀ rem ρ, I rem ρ ↔ ∃ (j : Nat) (s3 s4 : Sl), j ≤ 41 ∧ rem = rangeD (j : Int) (41 - j) ∧ ρ = [.dat (wayD x), .dat (.str t), .own ((vw (fun w => shwW x w t) j).map rowD), s3, s4] ∧ FrI [s3, s4] := ⟨_, fun _ _ => Iff.rfl⟩
  simp [↓w_eVar, ↓w_eC, ↓w_eUn, ↓w_eUnX, ↓w_eBin, ↓w_eM1, ↓w_oBin, ↓w_oUn, ↓w_eOfO, ↓w_eNil, ↓w_eCons, ↓w_eTup, ↓w_oLst, ↓w_eCall, ↓w_oCall, ↓w_cT, ↓w_cNot, ↓w_cAnd, ↓w_cOr, ↓w_cYes, ↓w_eAndV, ↓w_eOrV, ↓w_eNotV, ↓w_eIf, ↓w_eOwnIdx, ↓w_qNone, ↓w_qSome, ↓w_eCut, ↓w_oCut, ↓w_eChain, ↓w_iAny, ↓w_iRange1, ↓w_iRange2, ↓w_iRange3, ↓w_eCallS, ↓w_oComp, ↓w_bName, ↓w_bNil, ↓w_bCons, ↓w_bTup, ↓s_sNil, ↓s_sSeq, ↓s_sNever, ↓s_sBreak, ↓s_sCont, ↓s_sIf, ↓s_sDrop, ↓s_sRet, ↓s_sRetN, ↓s_sRetO, ↓s_sRetV, ↓s_sSet, ↓s_sSetO, ↓s_sUnpack, ↓s_sParD, ↓w_setD_nil, ↓w_setD_cons, ↓w_vDat, ↓w_vOwn, ↓s_sPar2, ↓s_sAppend, ↓s_sSetIx, ↓s_sFor, ↓ho_mA, ↓ho_mO, ↓ho_mB, frame, ↓seqO_nx, ↓seqO_rt, ↓seqO_bk, ↓seqO_ct, ↓lpO_nx, ↓lpO_rt, ↓lpO_bk, ↓lpO_ct, ↓wsF, ↓wlF, ↓whF, backR, wipeR, datSlot, strsD_signs, join_signs, sum_ones2, ↓w_eOwnBin, ownAt, ↓w_eP, ↓w_eBinX, ↓w_eTupleP, ↓w_iEnumD, ↓w_iZipD, ↓w_eOfM, ↓w_mNew, ↓w_mDisp, ↓w_mDispT, ↓s_sSetM, ↓w_vDic, ↓w_eGetV, ↓w_eGetXV, ↓w_cInV, ↓s_sPutV, ↓w_eGetX, ↓w_iKeysD, ↓w_iItemsD, lookM, ↓z_add_i, ↓z_add_s, ↓z_add_t, ↓z_sub, ↓z_mul_i, ↓z_mul_s, ↓z_div, ↓z_mod, ↓z_pow, ↓z_neg, ↓z_eq_i, ↓z_eq_s, ↓z_eq_b, ↓z_eq_l, ↓z_eq_t, ↓z_ne_i, ↓z_ne_s, ↓z_ne_b, ↓z_ne_l, ↓z_ne_t, ↓z_eq_ns, ↓z_eq_sn, ↓z_ne_ns, ↓z_ne_sn, ↓z_lt, ↓z_le, ↓z_gt, ↓z_ge, ↓z_idx_l, ↓z_idx_t, ↓z_idx_r, ↓z_idx_s, ↓z_len_s, ↓z_len_l, ↓z_len_t, ↓z_len_r, ↓z_abs, ↓z_min2, ↓z_max2, ↓z_int_i, ↓z_int_b, ↓z_cut_s, ↓z_cut_t, ↓z_gcut, ↓z_rev, ↓z_grev, ↓z_gadd, ↓z_gmul, ↓z_list_l, ↓z_list_t, ↓z_list_s, ↓z_tuple_l, ↓z_tuple_t, ↓z_all, ↓z_any, ↓z_sum, ↓z_maxl, ↓z_minl, ↓z_rfind, ↓z_join_l, ↓z_join_t, ↓z_in_s, ↓z_nin_s, ↓z_in_t, ↓z_nin_t, ↓z_in_l, ↓z_nin_l, ↓z_items_l, ↓z_items_t, ↓z_items_r, ↓z_items_s, ↓z_isi_s, ↓z_isi_i, ↓z_isi_b, ↓z_isi_n, ↓z_isi_l, ↓z_isi_t, ↓z_isi_r, ↓z_ty_s, ↓z_ty_i, ↓z_ty_b, ↓z_ty_n, ↓z_ty_l, ↓z_ty_t, ↓z_k_ss, ↓z_k_ii, ↓z_k_ib, ↓z_k_tt, ↓z_k_ll, flatD, pVar, ↓ho_ite, ↓z_lset_l, ↓z_lset_t, ↓z_rg2, ↓z_rg1, ↓z_is_nn, ↓z_is_tn, ↓z_is_ln, ↓z_is_sn, ↓z_is_in, ↓z_is_bb, ↓z_isn_nn, ↓z_isn_tn, ↓z_isn_ln, ↓z_isn_sn, ↓z_isn_in, ↓z_isn_bb, ↓z_ne_nn, ↓z_eq_nn, ↓z_k_bb, ↓z_seq_l, ↓z_zip_l, ↓z_zip_t, ↓z_ltD_i, ↓z_gtD_i, ↓z_leD_i, ↓z_geD_i, ↓z_ltD_s, ↓z_gtD_s, ↓z_ltD_t, ↓z_gtD_t, ↓z_mulT, ↓z_getD, ↓z_lenD, ↓z_keysL, ↓z_valsL, ↓z_sset_l, ↓z_sortD, ↓z_minDs]
  refine ⟨by decide, ws_forL I ?_ ?_ _ _ ((hI _ _).mpr ⟨0, _, _, by omega, rfl, rfl, by simp [FrI, F1]⟩)⟩
  · intro d ds ρ hI'
    obtain ⟨j, s3, s4, g1, g2, rfl, hf⟩ := (hI _ _).mp hI'
    simp only [frI_cons] at hf
    obtain ⟨f3, f4, _⟩ := hf
    cases hj : 41 - j with
    | zero => rw [hj] at g2; simp [rangeD_zero] at g2
    | succ i =>
      rw [hj, rangeD_succ] at g2; cases g2
      have nx : ∀ L : List D, L = (stepV (vw (fun w => shwW x w t) j) j (shwW x j t)).map rowD → I (rangeD ((j : Int) + 1) i) [.dat (wayD x), .dat (.str t), .own L, .dat (.int j), .dat (.str (shwW x j t))] := fun L hL => by
        subst hL
        exact (hI _ _).mpr ⟨j + 1, _, _, by omega, by rw [show 41 - (j + 1) = i by omega]; rfl, rfl, by simp [FrI, F1]⟩
      have e := show_eq (p := x.1) (u := x.2.1) (e := x.2.2.1) (m := x.2.2.2) (w := j) hl hx
      rw [show shw x.1 x.2.1 x.2.2.1 x.2.2.2 t j = shwW x j t from rfl, show D.tup [.str x.1, .str x.2.1, .str x.2.2.1, .str x.2.2.2] = wayD x from rfl] at e
      have hlen := vw_len (f := fun w => shwW x w t) j
      rcases List.eq_nil_or_concat (vw (fun w => shwW x w t) j) with h0 | ⟨ini, ⟨lo, hi, s⟩, h0⟩
      · rw [h0] at nx ⊢
        simp [↓w_eVar, ↓w_eC, ↓w_eUn, ↓w_eUnX, ↓w_eBin, ↓w_eM1, ↓w_oBin, ↓w_oUn, ↓w_eOfO, ↓w_eNil, ↓w_eCons, ↓w_eTup, ↓w_oLst, ↓w_eCall, ↓w_oCall, ↓w_cT, ↓w_cNot, ↓w_cAnd, ↓w_cOr, ↓w_cYes, ↓w_eAndV, ↓w_eOrV, ↓w_eNotV, ↓w_eIf, ↓w_eOwnIdx, ↓w_qNone, ↓w_qSome, ↓w_eCut, ↓w_oCut, ↓w_eChain, ↓w_iAny, ↓w_iRange1, ↓w_iRange2, ↓w_iRange3, ↓w_eCallS, ↓w_oComp, ↓w_bName, ↓w_bNil, ↓w_bCons, ↓w_bTup, ↓s_sNil, ↓s_sSeq, ↓s_sNever, ↓s_sBreak, ↓s_sCont, ↓s_sIf, ↓s_sDrop, ↓s_sRet, ↓s_sRetN, ↓s_sRetO, ↓s_sRetV, ↓s_sSet, ↓s_sSetO, ↓s_sUnpack, ↓s_sParD, ↓w_setD_nil, ↓w_setD_cons, ↓w_vDat, ↓w_vOwn, ↓s_sPar2, ↓s_sAppend, ↓s_sSetIx, ↓s_sFor, ↓ho_mA, ↓ho_mO, ↓ho_mB, frame, ↓seqO_nx, ↓seqO_rt, ↓seqO_bk, ↓seqO_ct, ↓lpO_nx, ↓lpO_rt, ↓lpO_bk, ↓lpO_ct, ↓wsF, ↓wlF, ↓whF, backR, wipeR, datSlot, strsD_signs, join_signs, sum_ones2, ↓w_eOwnBin, ownAt, ↓w_eP, ↓w_eBinX, ↓w_eTupleP, ↓w_iEnumD, ↓w_iZipD, ↓w_eOfM, ↓w_mNew, ↓w_mDisp, ↓w_mDispT, ↓s_sSetM, ↓w_vDic, ↓w_eGetV, ↓w_eGetXV, ↓w_cInV, ↓s_sPutV, ↓w_eGetX, ↓w_iKeysD, ↓w_iItemsD, lookM, ↓z_add_i, ↓z_add_s, ↓z_add_t, ↓z_sub, ↓z_mul_i, ↓z_mul_s, ↓z_div, ↓z_mod, ↓z_pow, ↓z_neg, ↓z_eq_i, ↓z_eq_s, ↓z_eq_b, ↓z_eq_l, ↓z_eq_t, ↓z_ne_i, ↓z_ne_s, ↓z_ne_b, ↓z_ne_l, ↓z_ne_t, ↓z_eq_ns, ↓z_eq_sn, ↓z_ne_ns, ↓z_ne_sn, ↓z_lt, ↓z_le, ↓z_gt, ↓z_ge, ↓z_idx_l, ↓z_idx_t, ↓z_idx_r, ↓z_idx_s, ↓z_len_s, ↓z_len_l, ↓z_len_t, ↓z_len_r, ↓z_abs, ↓z_min2, ↓z_max2, ↓z_int_i, ↓z_int_b, ↓z_cut_s, ↓z_cut_t, ↓z_gcut, ↓z_rev, ↓z_grev, ↓z_gadd, ↓z_gmul, ↓z_list_l, ↓z_list_t, ↓z_list_s, ↓z_tuple_l, ↓z_tuple_t, ↓z_all, ↓z_any, ↓z_sum, ↓z_maxl, ↓z_minl, ↓z_rfind, ↓z_join_l, ↓z_join_t, ↓z_in_s, ↓z_nin_s, ↓z_in_t, ↓z_nin_t, ↓z_in_l, ↓z_nin_l, ↓z_items_l, ↓z_items_t, ↓z_items_r, ↓z_items_s, ↓z_isi_s, ↓z_isi_i, ↓z_isi_b, ↓z_isi_n, ↓z_isi_l, ↓z_isi_t, ↓z_isi_r, ↓z_ty_s, ↓z_ty_i, ↓z_ty_b, ↓z_ty_n, ↓z_ty_l, ↓z_ty_t, ↓z_k_ss, ↓z_k_ii, ↓z_k_ib, ↓z_k_tt, ↓z_k_ll, flatD, pVar, ↓ho_ite, ↓z_lset_l, ↓z_lset_t, ↓z_rg2, ↓z_rg1, ↓z_is_nn, ↓z_is_tn, ↓z_is_ln, ↓z_is_sn, ↓z_is_in, ↓z_is_bb, ↓z_isn_nn, ↓z_isn_tn, ↓z_isn_ln, ↓z_isn_sn, ↓z_isn_in, ↓z_isn_bb, ↓z_ne_nn, ↓z_eq_nn, ↓z_k_bb, ↓z_seq_l, ↓z_zip_l, ↓z_zip_t, ↓z_ltD_i, ↓z_gtD_i, ↓z_leD_i, ↓z_geD_i, ↓z_ltD_s, ↓z_gtD_s, ↓z_ltD_t, ↓z_gtD_t, ↓z_mulT, ↓z_getD, ↓z_lenD, ↓z_keysL, ↓z_valsL, ↓z_sset_l, ↓z_sortD, ↓z_minDs, oN_free f3, oN_free f4, e, show (1 : Nat) ≤ lim by decide]
        exact nx _ (by simp [stepV, rowD])
      · rw [h0] at nx hlen ⊢
        simp only [List.concat_eq_append] at nx hlen ⊢
        simp at hlen
        have hlim : ini.length + 1 ≤ lim := by unfold lim; omega
        have r0 : rowD (lo, hi, s) = .tup [.int lo, .int hi, .str s] := rfl
        by_cases hs : s = shwW x j t
        · subst hs
          simp [↓w_eVar, ↓w_eC, ↓w_eUn, ↓w_eUnX, ↓w_eBin, ↓w_eM1, ↓w_oBin, ↓w_oUn, ↓w_eOfO, ↓w_eNil, ↓w_eCons, ↓w_eTup, ↓w_oLst, ↓w_eCall, ↓w_oCall, ↓w_cT, ↓w_cNot, ↓w_cAnd, ↓w_cOr, ↓w_cYes, ↓w_eAndV, ↓w_eOrV, ↓w_eNotV, ↓w_eIf, ↓w_eOwnIdx, ↓w_qNone, ↓w_qSome, ↓w_eCut, ↓w_oCut, ↓w_eChain, ↓w_iAny, ↓w_iRange1, ↓w_iRange2, ↓w_iRange3, ↓w_eCallS, ↓w_oComp, ↓w_bName, ↓w_bNil, ↓w_bCons, ↓w_bTup, ↓s_sNil, ↓s_sSeq, ↓s_sNever, ↓s_sBreak, ↓s_sCont, ↓s_sIf, ↓s_sDrop, ↓s_sRet, ↓s_sRetN, ↓s_sRetO, ↓s_sRetV, ↓s_sSet, ↓s_sSetO, ↓s_sUnpack, ↓s_sParD, ↓w_setD_nil, ↓w_setD_cons, ↓w_vDat, ↓w_vOwn, ↓s_sPar2, ↓s_sAppend, ↓s_sSetIx, ↓s_sFor, ↓ho_mA, ↓ho_mO, ↓ho_mB, frame, ↓seqO_nx, ↓seqO_rt, ↓seqO_bk, ↓seqO_ct, ↓lpO_nx, ↓lpO_rt, ↓lpO_bk, ↓lpO_ct, ↓wsF, ↓wlF, ↓whF, backR, wipeR, datSlot, strsD_signs, join_signs, sum_ones2, ↓w_eOwnBin, ownAt, ↓w_eP, ↓w_eBinX, ↓w_eTupleP, ↓w_iEnumD, ↓w_iZipD, ↓w_eOfM, ↓w_mNew, ↓w_mDisp, ↓w_mDispT, ↓s_sSetM, ↓w_vDic, ↓w_eGetV, ↓w_eGetXV, ↓w_cInV, ↓s_sPutV, ↓w_eGetX, ↓w_iKeysD, ↓w_iItemsD, lookM, ↓z_add_i, ↓z_add_s, ↓z_add_t, ↓z_sub, ↓z_mul_i, ↓z_mul_s, ↓z_div, ↓z_mod, ↓z_pow, ↓z_neg, ↓z_eq_i, ↓z_eq_s, ↓z_eq_b, ↓z_eq_l, ↓z_eq_t, ↓z_ne_i, ↓z_ne_s, ↓z_ne_b, ↓z_ne_l, ↓z_ne_t, ↓z_eq_ns, ↓z_eq_sn, ↓z_ne_ns, ↓z_ne_sn, ↓z_lt, ↓z_le, ↓z_gt, ↓z_ge, ↓z_idx_l, ↓z_idx_t, ↓z_idx_r, ↓z_idx_s, ↓z_len_s, ↓z_len_l, ↓z_len_t, ↓z_len_r, ↓z_abs, ↓z_min2, ↓z_max2, ↓z_int_i, ↓z_int_b, ↓z_cut_s, ↓z_cut_t, ↓z_gcut, ↓z_rev, ↓z_grev, ↓z_gadd, ↓z_gmul, ↓z_list_l, ↓z_list_t, ↓z_list_s, ↓z_tuple_l, ↓z_tuple_t, ↓z_all, ↓z_any, ↓z_sum, ↓z_maxl, ↓z_minl, ↓z_rfind, ↓z_join_l, ↓z_join_t, ↓z_in_s, ↓z_nin_s, ↓z_in_t, ↓z_nin_t, ↓z_in_l, ↓z_nin_l, ↓z_items_l, ↓z_items_t, ↓z_items_r, ↓z_items_s, ↓z_isi_s, ↓z_isi_i, ↓z_isi_b, ↓z_isi_n, ↓z_isi_l, ↓z_isi_t, ↓z_isi_r, ↓z_ty_s, ↓z_ty_i, ↓z_ty_b, ↓z_ty_n, ↓z_ty_l, ↓z_ty_t, ↓z_k_ss, ↓z_k_ii, ↓z_k_ib, ↓z_k_tt, ↓z_k_ll, flatD, pVar, ↓ho_ite, ↓z_lset_l, ↓z_lset_t, ↓z_rg2, ↓z_rg1, ↓z_is_nn, ↓z_is_tn, ↓z_is_ln, ↓z_is_sn, ↓z_is_in, ↓z_is_bb, ↓z_isn_nn, ↓z_isn_tn, ↓z_isn_ln, ↓z_isn_sn, ↓z_isn_in, ↓z_isn_bb, ↓z_ne_nn, ↓z_eq_nn, ↓z_k_bb, ↓z_seq_l, ↓z_zip_l, ↓z_zip_t, ↓z_ltD_i, ↓z_gtD_i, ↓z_leD_i, ↓z_geD_i, ↓z_ltD_s, ↓z_gtD_s, ↓z_ltD_t, ↓z_gtD_t, ↓z_mulT, ↓z_getD, ↓z_lenD, ↓z_keysL, ↓z_valsL, ↓z_sset_l, ↓z_sortD, ↓z_minDs, oN_free f3, oN_free f4, e, atL, cut_last, r0, hlim, show atI [D.int (lo : Int), D.int (hi : Int), D.str (shwW x j t)] 2 = some (.str (shwW x j t)) from rfl, show atI [D.int (lo : Int), D.int (hi : Int), D.str (shwW x j t)] 0 = some (.int lo) from rfl]
          exact nx (ini.map rowD ++ [D.tup [.int (lo : Int), .int (j : Int), .str (shwW x j t)]]) (by simp [stepV, rowD])
        · simp [↓w_eVar, ↓w_eC, ↓w_eUn, ↓w_eUnX, ↓w_eBin, ↓w_eM1, ↓w_oBin, ↓w_oUn, ↓w_eOfO, ↓w_eNil, ↓w_eCons, ↓w_eTup, ↓w_oLst, ↓w_eCall, ↓w_oCall, ↓w_cT, ↓w_cNot, ↓w_cAnd, ↓w_cOr, ↓w_cYes, ↓w_eAndV, ↓w_eOrV, ↓w_eNotV, ↓w_eIf, ↓w_eOwnIdx, ↓w_qNone, ↓w_qSome, ↓w_eCut, ↓w_oCut, ↓w_eChain, ↓w_iAny, ↓w_iRange1, ↓w_iRange2, ↓w_iRange3, ↓w_eCallS, ↓w_oComp, ↓w_bName, ↓w_bNil, ↓w_bCons, ↓w_bTup, ↓s_sNil, ↓s_sSeq, ↓s_sNever, ↓s_sBreak, ↓s_sCont, ↓s_sIf, ↓s_sDrop, ↓s_sRet, ↓s_sRetN, ↓s_sRetO, ↓s_sRetV, ↓s_sSet, ↓s_sSetO, ↓s_sUnpack, ↓s_sParD, ↓w_setD_nil, ↓w_setD_cons, ↓w_vDat, ↓w_vOwn, ↓s_sPar2, ↓s_sAppend, ↓s_sSetIx, ↓s_sFor, ↓ho_mA, ↓ho_mO, ↓ho_mB, frame, ↓seqO_nx, ↓seqO_rt, ↓seqO_bk, ↓seqO_ct, ↓lpO_nx, ↓lpO_rt, ↓lpO_bk, ↓lpO_ct, ↓wsF, ↓wlF, ↓whF, backR, wipeR, datSlot, strsD_signs, join_signs, sum_ones2, ↓w_eOwnBin, ownAt, ↓w_eP, ↓w_eBinX, ↓w_eTupleP, ↓w_iEnumD, ↓w_iZipD, ↓w_eOfM, ↓w_mNew, ↓w_mDisp, ↓w_mDispT, ↓s_sSetM, ↓w_vDic, ↓w_eGetV, ↓w_eGetXV, ↓w_cInV, ↓s_sPutV, ↓w_eGetX, ↓w_iKeysD, ↓w_iItemsD, lookM, ↓z_add_i, ↓z_add_s, ↓z_add_t, ↓z_sub, ↓z_mul_i, ↓z_mul_s, ↓z_div, ↓z_mod, ↓z_pow, ↓z_neg, ↓z_eq_i, ↓z_eq_s, ↓z_eq_b, ↓z_eq_l, ↓z_eq_t, ↓z_ne_i, ↓z_ne_s, ↓z_ne_b, ↓z_ne_l, ↓z_ne_t, ↓z_eq_ns, ↓z_eq_sn, ↓z_ne_ns, ↓z_ne_sn, ↓z_lt, ↓z_le, ↓z_gt, ↓z_ge, ↓z_idx_l, ↓z_idx_t, ↓z_idx_r, ↓z_idx_s, ↓z_len_s, ↓z_len_l, ↓z_len_t, ↓z_len_r, ↓z_abs, ↓z_min2, ↓z_max2, ↓z_int_i, ↓z_int_b, ↓z_cut_s, ↓z_cut_t, ↓z_gcut, ↓z_rev, ↓z_grev, ↓z_gadd, ↓z_gmul, ↓z_list_l, ↓z_list_t, ↓z_list_s, ↓z_tuple_l, ↓z_tuple_t, ↓z_all, ↓z_any, ↓z_sum, ↓z_maxl, ↓z_minl, ↓z_rfind, ↓z_join_l, ↓z_join_t, ↓z_in_s, ↓z_nin_s, ↓z_in_t, ↓z_nin_t, ↓z_in_l, ↓z_nin_l, ↓z_items_l, ↓z_items_t, ↓z_items_r, ↓z_items_s, ↓z_isi_s, ↓z_isi_i, ↓z_isi_b, ↓z_isi_n, ↓z_isi_l, ↓z_isi_t, ↓z_isi_r, ↓z_ty_s, ↓z_ty_i, ↓z_ty_b, ↓z_ty_n, ↓z_ty_l, ↓z_ty_t, ↓z_k_ss, ↓z_k_ii, ↓z_k_ib, ↓z_k_tt, ↓z_k_ll, flatD, pVar, ↓ho_ite, ↓z_lset_l, ↓z_lset_t, ↓z_rg2, ↓z_rg1, ↓z_is_nn, ↓z_is_tn, ↓z_is_ln, ↓z_is_sn, ↓z_is_in, ↓z_is_bb, ↓z_isn_nn, ↓z_isn_tn, ↓z_isn_ln, ↓z_isn_sn, ↓z_isn_in, ↓z_isn_bb, ↓z_ne_nn, ↓z_eq_nn, ↓z_k_bb, ↓z_seq_l, ↓z_zip_l, ↓z_zip_t, ↓z_ltD_i, ↓z_gtD_i, ↓z_leD_i, ↓z_geD_i, ↓z_ltD_s, ↓z_gtD_s, ↓z_ltD_t, ↓z_gtD_t, ↓z_mulT, ↓z_getD, ↓z_lenD, ↓z_keysL, ↓z_valsL, ↓z_sset_l, ↓z_sortD, ↓z_minDs, oN_free f3, oN_free f4, e, atL, r0, hs, show ini.length + 1 + 1 ≤ lim by unfold lim; omega, show atI [D.int (lo : Int), D.int (hi : Int), D.str s] 2 = some (.str s) from rfl]
          exact nx _ (by simp [stepV, hs, rowD])
  · intro ρ hI'
    obtain ⟨j, s3, s4, g1, g2, rfl, hf⟩ := (hI _ _).mp hI'
    have : j = 41 := by have := congrArg List.length g2; simp [len_rangeD] at this; omega
    subst this
    simp [↓w_eVar, ↓w_eC, ↓w_eUn, ↓w_eUnX, ↓w_eBin, ↓w_eM1, ↓w_oBin, ↓w_oUn, ↓w_eOfO, ↓w_eNil, ↓w_eCons, ↓w_eTup, ↓w_oLst, ↓w_eCall, ↓w_oCall, ↓w_cT, ↓w_cNot, ↓w_cAnd, ↓w_cOr, ↓w_cYes, ↓w_eAndV, ↓w_eOrV, ↓w_eNotV, ↓w_eIf, ↓w_eOwnIdx, ↓w_qNone, ↓w_qSome, ↓w_eCut, ↓w_oCut, ↓w_eChain, ↓w_iAny, ↓w_iRange1, ↓w_iRange2, ↓w_iRange3, ↓w_eCallS, ↓w_oComp, ↓w_bName, ↓w_bNil, ↓w_bCons, ↓w_bTup, ↓s_sNil, ↓s_sSeq, ↓s_sNever, ↓s_sBreak, ↓s_sCont, ↓s_sIf, ↓s_sDrop, ↓s_sRet, ↓s_sRetN, ↓s_sRetO, ↓s_sRetV, ↓s_sSet, ↓s_sSetO, ↓s_sUnpack, ↓s_sParD, ↓w_setD_nil, ↓w_setD_cons, ↓w_vDat, ↓w_vOwn, ↓s_sPar2, ↓s_sAppend, ↓s_sSetIx, ↓s_sFor, ↓ho_mA, ↓ho_mO, ↓ho_mB, frame, ↓seqO_nx, ↓seqO_rt, ↓seqO_bk, ↓seqO_ct, ↓lpO_nx, ↓lpO_rt, ↓lpO_bk, ↓lpO_ct, ↓wsF, ↓wlF, ↓whF, backR, wipeR, datSlot, strsD_signs, join_signs, sum_ones2, ↓w_eOwnBin, ownAt, ↓w_eP, ↓w_eBinX, ↓w_eTupleP, ↓w_iEnumD, ↓w_iZipD, ↓w_eOfM, ↓w_mNew, ↓w_mDisp, ↓w_mDispT, ↓s_sSetM, ↓w_vDic, ↓w_eGetV, ↓w_eGetXV, ↓w_cInV, ↓s_sPutV, ↓w_eGetX, ↓w_iKeysD, ↓w_iItemsD, lookM, ↓z_add_i, ↓z_add_s, ↓z_add_t, ↓z_sub, ↓z_mul_i, ↓z_mul_s, ↓z_div, ↓z_mod, ↓z_pow, ↓z_neg, ↓z_eq_i, ↓z_eq_s, ↓z_eq_b, ↓z_eq_l, ↓z_eq_t, ↓z_ne_i, ↓z_ne_s, ↓z_ne_b, ↓z_ne_l, ↓z_ne_t, ↓z_eq_ns, ↓z_eq_sn, ↓z_ne_ns, ↓z_ne_sn, ↓z_lt, ↓z_le, ↓z_gt, ↓z_ge, ↓z_idx_l, ↓z_idx_t, ↓z_idx_r, ↓z_idx_s, ↓z_len_s, ↓z_len_l, ↓z_len_t, ↓z_len_r, ↓z_abs, ↓z_min2, ↓z_max2, ↓z_int_i, ↓z_int_b, ↓z_cut_s, ↓z_cut_t, ↓z_gcut, ↓z_rev, ↓z_grev, ↓z_gadd, ↓z_gmul, ↓z_list_l, ↓z_list_t, ↓z_list_s, ↓z_tuple_l, ↓z_tuple_t, ↓z_all, ↓z_any, ↓z_sum, ↓z_maxl, ↓z_minl, ↓z_rfind, ↓z_join_l, ↓z_join_t, ↓z_in_s, ↓z_nin_s, ↓z_in_t, ↓z_nin_t, ↓z_in_l, ↓z_nin_l, ↓z_items_l, ↓z_items_t, ↓z_items_r, ↓z_items_s, ↓z_isi_s, ↓z_isi_i, ↓z_isi_b, ↓z_isi_n, ↓z_isi_l, ↓z_isi_t, ↓z_isi_r, ↓z_ty_s, ↓z_ty_i, ↓z_ty_b, ↓z_ty_n, ↓z_ty_l, ↓z_ty_t, ↓z_k_ss, ↓z_k_ii, ↓z_k_ib, ↓z_k_tt, ↓z_k_ll, flatD, pVar, ↓ho_ite, ↓z_lset_l, ↓z_lset_t, ↓z_rg2, ↓z_rg1, ↓z_is_nn, ↓z_is_tn, ↓z_is_ln, ↓z_is_sn, ↓z_is_in, ↓z_is_bb, ↓z_isn_nn, ↓z_isn_tn, ↓z_isn_ln, ↓z_isn_sn, ↓z_isn_in, ↓z_isn_bb, ↓z_ne_nn, ↓z_eq_nn, ↓z_k_bb, ↓z_seq_l, ↓z_zip_l, ↓z_zip_t, ↓z_ltD_i, ↓z_gtD_i, ↓z_leD_i, ↓z_geD_i, ↓z_ltD_s, ↓z_gtD_s, ↓z_ltD_t, ↓z_gtD_t, ↓z_mulT, ↓z_getD, ↓z_lenD, ↓z_keysL, ↓z_valsL, ↓z_sset_l, ↓z_sortD, ↓z_minDs]
theorem views_eq {x : List Nat × List Nat × List Nat × List Nat} {t : List Nat} (hx : Way (wayD x)) (hl : t.length ≤ 40) (ht : ∀ c, c ∈ t → isSign c) : m_views [wayD x, .str t] = some (.lst ((vw (fun w => shwW x w t) 41).map rowD)) := by
  rw [← ho_eq]; unfold m_views g_views
  have nw : m_need_way [wayD x] = some .non := need_way_eq (p := x.1) (u := x.2.1) (e := x.2.2.1) (m := x.2.2.2) hx
  simp [↓w_eVar, ↓w_eC, ↓w_eUn, ↓w_eUnX, ↓w_eBin, ↓w_eM1, ↓w_oBin, ↓w_oUn, ↓w_eOfO, ↓w_eNil, ↓w_eCons, ↓w_eTup, ↓w_oLst, ↓w_eCall, ↓w_oCall, ↓w_cT, ↓w_cNot, ↓w_cAnd, ↓w_cOr, ↓w_cYes, ↓w_eAndV, ↓w_eOrV, ↓w_eNotV, ↓w_eIf, ↓w_eOwnIdx, ↓w_qNone, ↓w_qSome, ↓w_eCut, ↓w_oCut, ↓w_eChain, ↓w_iAny, ↓w_iRange1, ↓w_iRange2, ↓w_iRange3, ↓w_eCallS, ↓w_oComp, ↓w_bName, ↓w_bNil, ↓w_bCons, ↓w_bTup, ↓s_sNil, ↓s_sSeq, ↓s_sNever, ↓s_sBreak, ↓s_sCont, ↓s_sIf, ↓s_sDrop, ↓s_sRet, ↓s_sRetN, ↓s_sRetO, ↓s_sRetV, ↓s_sSet, ↓s_sSetO, ↓s_sUnpack, ↓s_sParD, ↓w_setD_nil, ↓w_setD_cons, ↓w_vDat, ↓w_vOwn, ↓s_sPar2, ↓s_sAppend, ↓s_sSetIx, ↓s_sFor, ↓ho_mA, ↓ho_mO, ↓ho_mB, frame, ↓seqO_nx, ↓seqO_rt, ↓seqO_bk, ↓seqO_ct, ↓lpO_nx, ↓lpO_rt, ↓lpO_bk, ↓lpO_ct, ↓wsF, ↓wlF, ↓whF, backR, wipeR, datSlot, strsD_signs, join_signs, sum_ones2, ↓w_eOwnBin, ownAt, ↓w_eP, ↓w_eBinX, ↓w_eTupleP, ↓w_iEnumD, ↓w_iZipD, ↓w_eOfM, ↓w_mNew, ↓w_mDisp, ↓w_mDispT, ↓s_sSetM, ↓w_vDic, ↓w_eGetV, ↓w_eGetXV, ↓w_cInV, ↓s_sPutV, ↓w_eGetX, ↓w_iKeysD, ↓w_iItemsD, lookM, ↓z_add_i, ↓z_add_s, ↓z_add_t, ↓z_sub, ↓z_mul_i, ↓z_mul_s, ↓z_div, ↓z_mod, ↓z_pow, ↓z_neg, ↓z_eq_i, ↓z_eq_s, ↓z_eq_b, ↓z_eq_l, ↓z_eq_t, ↓z_ne_i, ↓z_ne_s, ↓z_ne_b, ↓z_ne_l, ↓z_ne_t, ↓z_eq_ns, ↓z_eq_sn, ↓z_ne_ns, ↓z_ne_sn, ↓z_lt, ↓z_le, ↓z_gt, ↓z_ge, ↓z_idx_l, ↓z_idx_t, ↓z_idx_r, ↓z_idx_s, ↓z_len_s, ↓z_len_l, ↓z_len_t, ↓z_len_r, ↓z_abs, ↓z_min2, ↓z_max2, ↓z_int_i, ↓z_int_b, ↓z_cut_s, ↓z_cut_t, ↓z_gcut, ↓z_rev, ↓z_grev, ↓z_gadd, ↓z_gmul, ↓z_list_l, ↓z_list_t, ↓z_list_s, ↓z_tuple_l, ↓z_tuple_t, ↓z_all, ↓z_any, ↓z_sum, ↓z_maxl, ↓z_minl, ↓z_rfind, ↓z_join_l, ↓z_join_t, ↓z_in_s, ↓z_nin_s, ↓z_in_t, ↓z_nin_t, ↓z_in_l, ↓z_nin_l, ↓z_items_l, ↓z_items_t, ↓z_items_r, ↓z_items_s, ↓z_isi_s, ↓z_isi_i, ↓z_isi_b, ↓z_isi_n, ↓z_isi_l, ↓z_isi_t, ↓z_isi_r, ↓z_ty_s, ↓z_ty_i, ↓z_ty_b, ↓z_ty_n, ↓z_ty_l, ↓z_ty_t, ↓z_k_ss, ↓z_k_ii, ↓z_k_ib, ↓z_k_tt, ↓z_k_ll, flatD, pVar, ↓ho_ite, ↓z_lset_l, ↓z_lset_t, ↓z_rg2, ↓z_rg1, ↓z_is_nn, ↓z_is_tn, ↓z_is_ln, ↓z_is_sn, ↓z_is_in, ↓z_is_bb, ↓z_isn_nn, ↓z_isn_tn, ↓z_isn_ln, ↓z_isn_sn, ↓z_isn_in, ↓z_isn_bb, ↓z_ne_nn, ↓z_eq_nn, ↓z_k_bb, ↓z_seq_l, ↓z_zip_l, ↓z_zip_t, ↓z_ltD_i, ↓z_gtD_i, ↓z_leD_i, ↓z_geD_i, ↓z_ltD_s, ↓z_gtD_s, ↓z_ltD_t, ↓z_gtD_t, ↓z_mulT, ↓z_getD, ↓z_lenD, ↓z_keysL, ↓z_valsL, ↓z_sset_l, ↓z_sortD, ↓z_minDs, nw, need_text_eq hl ht, views_of_eq (way_marked hx).1 (show t.length ≤ lim by unfold lim; omega)]

/-! letters exchanged -/
structure Ren (f : Nat → Nat) : Prop where
  bl : ∀ c, f c = 32 ↔ c = 32
  pt : ∀ c, f c = 46 ↔ c = 46
  lt : ∀ c, f c ∈ [97, 98, 99] ↔ c ∈ [97, 98, 99]
section
variable {f : Nat → Nat} (R : Ren f)
include R
theorem Ren.at32 (t : List Nat) (k : Nat) : (t.map f)[k]? = some 32 ↔ t[k]? = some 32 := by
  rw [List.getElem?_map]
  cases t[k]? with
  | none => simp
  | some c => simp [R.bl c]
theorem Ren.at46 (t : List Nat) (k : Nat) : (t.map f)[k]? = some 46 ↔ t[k]? = some 46 := by
  rw [List.getElem?_map]
  cases t[k]? with
  | none => simp
  | some c => simp [R.pt c]
theorem Ren.gap (t : List Nat) (k : Nat) : PD.gap (t.map f) k = PD.gap t k := by
  unfold PD.gap
  have e1 : decide ((t.map f)[k - 1]? ≠ some 32) = decide (t[k - 1]? ≠ some 32) := decide_eq_decide.mpr (not_congr (R.at32 t _))
  have e2 : decide ((t.map f)[k]? = some 32) = decide (t[k]? = some 32) := decide_eq_decide.mpr (R.at32 t _)
  rw [e1, e2]
theorem Ren.front (t u : List Nat) (n : Nat) : PD.front (t.map f) n u = (PD.front t n u).map f := by
  unfold PD.front
  rw [show PD.gap (t.map f) = PD.gap t from funext fun k => R.gap t k, List.map_take]
theorem Ren.back (t u : List Nat) (n : Nat) : PD.back (t.map f) n u = (PD.back t n u).map f := by
  unfold PD.back
  rw [← List.map_reverse, R.front, List.map_reverse]
theorem Ren.rfind : ∀ t : List Nat, rfindL 46 (t.map f) = rfindL 46 t
  | [] => rfl
  | c :: t => by
    rw [List.map_cons, rfindL, rfindL, Ren.rfind t]
    have := R.pt c
    by_cases h : c = 46
    · rw [if_pos h, if_pos (this.mpr h)]
    · rw [if_neg h, if_neg fun z => h (this.mp z)]
theorem Ren.isTail (t : List Nat) (c : Nat) : PD.isTail (t.map f) c ↔ PD.isTail t c := by
  unfold PD.isTail
  rw [R.at46, List.length_map]
  refine and_congr_right fun _ => and_congr_right fun _ => and_congr_right fun _ => and_congr_right fun _ => ?_
  rw [← List.map_drop]
  constructor
  · intro h x hx
    exact (R.lt x).mp (h (f x) (List.mem_map_of_mem hx))
  · intro h x hx
    obtain ⟨y, hy, rfl⟩ := List.mem_map.mp hx
    exact (R.lt y).mpr (h y hy)
theorem Ren.tail (t : List Nat) : PD.tail (t.map f) = (PD.tail t).map f := by
  unfold PD.tail
  rw [R.rfind]
  by_cases h : 0 ≤ rfindL 46 t ∧ PD.isTail t (rfindL 46 t).toNat
  · rw [if_pos h, if_pos ⟨h.1, (R.isTail _ _).mpr h.2⟩, List.map_drop]
  · rw [if_neg h, if_neg fun z => h ⟨z.1, (R.isTail _ _).mp z.2⟩]; rfl
theorem Ren.cutP {p u m t : List Nat} {w : Nat} (hm : m.map f = m) : PD.cutP p u m (t.map f) w = (PD.cutP p u m t w).map f := by
  unfold PD.cutP
  split
  · rfl
  · split
    · rw [R.front, List.map_append, hm]
    · split
      · rw [R.back, List.map_append, hm]
      · rw [R.front, R.back, List.map_append, List.map_append, hm]
theorem Ren.shw {p u e m t : List Nat} {w : Nat} (hm : m.map f = m) : PD.shw p u e m (t.map f) w = (PD.shw p u e m t w).map f := by
  unfold PD.shw
  rw [List.length_map, R.tail, List.length_map]
  split
  · rfl
  · have hc : (PD.tail t).map f ≠ [] ↔ PD.tail t ≠ [] := by simp
    by_cases h : e = [107, 101, 101, 112] ∧ PD.tail t ≠ [] ∧ m.length + (PD.tail t).length ≤ w
    · rw [if_pos h, if_pos ⟨h.1, hc.mpr h.2.1, h.2.2⟩, ← List.map_take, R.cutP hm, List.map_append]
    · rw [if_neg h, if_neg fun z => h ⟨z.1, hc.mp z.2.1, z.2.2⟩]
      exact R.cutP hm
end
/-! a dict's slot that is let go once -/
def MSl (s : Sl) (ks vs : List D) : Prop := s = .dic ks vs ∨ s = .dat (.dct ks vs)
theorem MSl.free {s : Sl} {ks vs : List D} (h : MSl s ks vs) : F1 s := by rcases h with rfl | rfl <;> trivial
theorem MSl.dat {ks vs : List D} : MSl (.dat (.dct ks vs)) ks vs := .inr rfl
theorem w_let {s : Sl} {ks vs : List D} (h : MSl s ks vs) {ρ : Rho} {i : Nat} {Q : D → Rho → Prop} (hs : ρ[i]? = some s) : wp (eVarM i) ρ Q = Q (.dct ks vs) (ρ.set i (.dat (.dct ks vs))) := by
  rw [w_eVarM, hs]
  rcases h with rfl | rfl
  · rfl
  · have : ρ.set i (.dat (.dct ks vs)) = ρ := by
      apply List.ext_getElem?
      intro j
      by_cases e : i = j
      · subst e
        rw [List.getElem?_set_self (List.getElem?_eq_some_iff.mp hs).1, hs]
      · rw [List.getElem?_set_ne e]
    rw [this]

theorem ending_out {t : List Nat} (hl : t.length ≤ 40) (ht : ∀ c, c ∈ t → isSign c) : m_ending [.str t] = some (.str (tail t)) := by
  rw [← ho_eq]; unfold m_ending g_ending
  simp [↓w_eVar, ↓w_eC, ↓w_eUn, ↓w_eUnX, ↓w_eBin, ↓w_eM1, ↓w_oBin, ↓w_oUn, ↓w_eOfO, ↓w_eNil, ↓w_eCons, ↓w_eTup, ↓w_oLst, ↓w_eCall, ↓w_oCall, ↓w_cT, ↓w_cNot, ↓w_cAnd, ↓w_cOr, ↓w_cYes, ↓w_eAndV, ↓w_eOrV, ↓w_eNotV, ↓w_eIf, ↓w_eOwnIdx, ↓w_qNone, ↓w_qSome, ↓w_eCut, ↓w_oCut, ↓w_eChain, ↓w_iAny, ↓w_iRange1, ↓w_iRange2, ↓w_iRange3, ↓w_eCallS, ↓w_oComp, ↓w_bName, ↓w_bNil, ↓w_bCons, ↓w_bTup, ↓s_sNil, ↓s_sSeq, ↓s_sNever, ↓s_sBreak, ↓s_sCont, ↓s_sIf, ↓s_sDrop, ↓s_sRet, ↓s_sRetN, ↓s_sRetO, ↓s_sRetV, ↓s_sSet, ↓s_sSetO, ↓s_sUnpack, ↓s_sParD, ↓w_setD_nil, ↓w_setD_cons, ↓w_vDat, ↓w_vOwn, ↓s_sPar2, ↓s_sAppend, ↓s_sSetIx, ↓s_sFor, ↓ho_mA, ↓ho_mO, ↓ho_mB, frame, ↓seqO_nx, ↓seqO_rt, ↓seqO_bk, ↓seqO_ct, ↓lpO_nx, ↓lpO_rt, ↓lpO_bk, ↓lpO_ct, ↓wsF, ↓wlF, ↓whF, backR, wipeR, datSlot, strsD_signs, join_signs, sum_ones2, ↓w_eOwnBin, ownAt, ↓w_eP, ↓w_eBinX, ↓w_eTupleP, ↓w_iEnumD, ↓w_iZipD, ↓w_eOfM, ↓w_mNew, ↓w_mDisp, ↓w_mDispT, ↓s_sSetM, ↓w_vDic, ↓w_eGetV, ↓w_eGetXV, ↓w_cInV, ↓s_sPutV, ↓w_eGetX, ↓w_iKeysD, ↓w_iItemsD, lookM, ↓z_add_i, ↓z_add_s, ↓z_add_t, ↓z_sub, ↓z_mul_i, ↓z_mul_s, ↓z_div, ↓z_mod, ↓z_pow, ↓z_neg, ↓z_eq_i, ↓z_eq_s, ↓z_eq_b, ↓z_eq_l, ↓z_eq_t, ↓z_ne_i, ↓z_ne_s, ↓z_ne_b, ↓z_ne_l, ↓z_ne_t, ↓z_eq_ns, ↓z_eq_sn, ↓z_ne_ns, ↓z_ne_sn, ↓z_lt, ↓z_le, ↓z_gt, ↓z_ge, ↓z_idx_l, ↓z_idx_t, ↓z_idx_r, ↓z_idx_s, ↓z_len_s, ↓z_len_l, ↓z_len_t, ↓z_len_r, ↓z_abs, ↓z_min2, ↓z_max2, ↓z_int_i, ↓z_int_b, ↓z_cut_s, ↓z_cut_t, ↓z_gcut, ↓z_rev, ↓z_grev, ↓z_gadd, ↓z_gmul, ↓z_list_l, ↓z_list_t, ↓z_list_s, ↓z_tuple_l, ↓z_tuple_t, ↓z_all, ↓z_any, ↓z_sum, ↓z_maxl, ↓z_minl, ↓z_rfind, ↓z_join_l, ↓z_join_t, ↓z_in_s, ↓z_nin_s, ↓z_in_t, ↓z_nin_t, ↓z_in_l, ↓z_nin_l, ↓z_items_l, ↓z_items_t, ↓z_items_r, ↓z_items_s, ↓z_isi_s, ↓z_isi_i, ↓z_isi_b, ↓z_isi_n, ↓z_isi_l, ↓z_isi_t, ↓z_isi_r, ↓z_ty_s, ↓z_ty_i, ↓z_ty_b, ↓z_ty_n, ↓z_ty_l, ↓z_ty_t, ↓z_k_ss, ↓z_k_ii, ↓z_k_ib, ↓z_k_tt, ↓z_k_ll, flatD, pVar, ↓ho_ite, ↓z_lset_l, ↓z_lset_t, ↓z_rg2, ↓z_rg1, ↓z_is_nn, ↓z_is_tn, ↓z_is_ln, ↓z_is_sn, ↓z_is_in, ↓z_is_bb, ↓z_isn_nn, ↓z_isn_tn, ↓z_isn_ln, ↓z_isn_sn, ↓z_isn_in, ↓z_isn_bb, ↓z_ne_nn, ↓z_eq_nn, ↓z_k_bb, ↓z_seq_l, ↓z_zip_l, ↓z_zip_t, ↓z_ltD_i, ↓z_gtD_i, ↓z_leD_i, ↓z_geD_i, ↓z_ltD_s, ↓z_gtD_s, ↓z_ltD_t, ↓z_gtD_t, ↓z_mulT, ↓z_getD, ↓z_lenD, ↓z_keysL, ↓z_valsL, ↓z_sset_l, ↓z_sortD, ↓z_minDs, need_text_eq hl ht, ending_eq (t := t) (by unfold lim; omega)]
def ren (a b c x : Nat) : Nat := if x = 97 then a else if x = 98 then b else if x = 99 then c else x
theorem ren_ok {a b c : Nat} (h : (a, b, c) ∈ [(98, 99, 97), (99, 97, 98), (97, 99, 98), (98, 97, 99)]) : Ren (ren a b c) := by
  simp only [List.mem_cons, List.not_mem_nil, or_false, Prod.mk.injEq] at h
  rcases h with ⟨rfl, rfl, rfl⟩ | ⟨rfl, rfl, rfl⟩ | ⟨rfl, rfl, rfl⟩ | ⟨rfl, rfl, rfl⟩ <;>
  refine ⟨fun x => ?_, fun x => ?_, fun x => ?_⟩ <;> simp only [ren, List.mem_cons, List.not_mem_nil, or_false] <;> (repeat' split) <;> omega
theorem ren_sign {a b c : Nat} (h : (a, b, c) ∈ [(98, 99, 97), (99, 97, 98), (97, 99, 98), (98, 97, 99)]) {x : Nat} (hx : isSign x) : isSign (ren a b c x) := by
  simp only [isSign, List.mem_cons, List.not_mem_nil, or_false] at hx
  simp only [List.mem_cons, List.not_mem_nil, or_false, Prod.mk.injEq] at h
  rcases h with ⟨rfl, rfl, rfl⟩ | ⟨rfl, rfl, rfl⟩ | ⟨rfl, rfl, rfl⟩ | ⟨rfl, rfl, rfl⟩ <;> rcases hx with rfl | rfl | rfl | rfl | rfl | rfl <;> simp [ren, isSign]
def ksN : List D := [.str [97], .str [98], .str [99], .str [32], .str [46], .str [126]]
def vsN (a b c : Nat) : List D := [.str [a], .str [b], .str [c], .str [32], .str [46], .str [126]]
theorem disp_names {a b c : Nat} : dispD [[97], [98], [99], [32], [46], [126]] [.str [a], .str [b], .str [c], .str [32], .str [46], .str [126]] ([], []) = (ksN, vsN a b c) := by rfl
theorem get_name {a b c x : Nat} (hx : isSign x) : dGet ksN (vsN a b c) (.str [x]) = some (.str [ren a b c x]) := by
  simp only [isSign, List.mem_cons, List.not_mem_nil, or_false] at hx
  rcases hx with rfl | rfl | rfl | rfl | rfl | rfl <;> rfl
theorem keyOk_name {x : List Nat} : keyOk ksN (.str x) = true := rfl
theorem law_named_eq {a b c : Nat} {t : List Nat} (hl : t.length ≤ 40) (ht : ∀ c, c ∈ t → isSign c) : m__law_named [.dct ksN (vsN a b c), .str t] = some (.str (t.map (ren a b c))) := by
  rw [← ho_eq]; unfold m__law_named g__law_named
  simp [↓w_eVar, ↓w_eC, ↓w_eUn, ↓w_eUnX, ↓w_eBin, ↓w_eM1, ↓w_oBin, ↓w_oUn, ↓w_eOfO, ↓w_eNil, ↓w_eCons, ↓w_eTup, ↓w_oLst, ↓w_eCall, ↓w_oCall, ↓w_cT, ↓w_cNot, ↓w_cAnd, ↓w_cOr, ↓w_cYes, ↓w_eAndV, ↓w_eOrV, ↓w_eNotV, ↓w_eIf, ↓w_eOwnIdx, ↓w_qNone, ↓w_qSome, ↓w_eCut, ↓w_oCut, ↓w_eChain, ↓w_iAny, ↓w_iRange1, ↓w_iRange2, ↓w_iRange3, ↓w_eCallS, ↓w_oComp, ↓w_bName, ↓w_bNil, ↓w_bCons, ↓w_bTup, ↓s_sNil, ↓s_sSeq, ↓s_sNever, ↓s_sBreak, ↓s_sCont, ↓s_sIf, ↓s_sDrop, ↓s_sRet, ↓s_sRetN, ↓s_sRetO, ↓s_sRetV, ↓s_sSet, ↓s_sSetO, ↓s_sUnpack, ↓s_sParD, ↓w_setD_nil, ↓w_setD_cons, ↓w_vDat, ↓w_vOwn, ↓s_sPar2, ↓s_sAppend, ↓s_sSetIx, ↓s_sFor, ↓ho_mA, ↓ho_mO, ↓ho_mB, frame, ↓seqO_nx, ↓seqO_rt, ↓seqO_bk, ↓seqO_ct, ↓lpO_nx, ↓lpO_rt, ↓lpO_bk, ↓lpO_ct, ↓wsF, ↓wlF, ↓whF, backR, wipeR, datSlot, strsD_signs, join_signs, sum_ones2, ↓w_eOwnBin, ownAt, ↓w_eP, ↓w_eBinX, ↓w_eTupleP, ↓w_iEnumD, ↓w_iZipD, ↓w_eOfM, ↓w_mNew, ↓w_mDisp, ↓w_mDispT, ↓s_sSetM, ↓w_vDic, ↓w_eGetV, ↓w_eGetXV, ↓w_cInV, ↓s_sPutV, ↓w_eGetX, ↓w_iKeysD, ↓w_iItemsD, lookM, ↓z_add_i, ↓z_add_s, ↓z_add_t, ↓z_sub, ↓z_mul_i, ↓z_mul_s, ↓z_div, ↓z_mod, ↓z_pow, ↓z_neg, ↓z_eq_i, ↓z_eq_s, ↓z_eq_b, ↓z_eq_l, ↓z_eq_t, ↓z_ne_i, ↓z_ne_s, ↓z_ne_b, ↓z_ne_l, ↓z_ne_t, ↓z_eq_ns, ↓z_eq_sn, ↓z_ne_ns, ↓z_ne_sn, ↓z_lt, ↓z_le, ↓z_gt, ↓z_ge, ↓z_idx_l, ↓z_idx_t, ↓z_idx_r, ↓z_idx_s, ↓z_len_s, ↓z_len_l, ↓z_len_t, ↓z_len_r, ↓z_abs, ↓z_min2, ↓z_max2, ↓z_int_i, ↓z_int_b, ↓z_cut_s, ↓z_cut_t, ↓z_gcut, ↓z_rev, ↓z_grev, ↓z_gadd, ↓z_gmul, ↓z_list_l, ↓z_list_t, ↓z_list_s, ↓z_tuple_l, ↓z_tuple_t, ↓z_all, ↓z_any, ↓z_sum, ↓z_maxl, ↓z_minl, ↓z_rfind, ↓z_join_l, ↓z_join_t, ↓z_in_s, ↓z_nin_s, ↓z_in_t, ↓z_nin_t, ↓z_in_l, ↓z_nin_l, ↓z_items_l, ↓z_items_t, ↓z_items_r, ↓z_items_s, ↓z_isi_s, ↓z_isi_i, ↓z_isi_b, ↓z_isi_n, ↓z_isi_l, ↓z_isi_t, ↓z_isi_r, ↓z_ty_s, ↓z_ty_i, ↓z_ty_b, ↓z_ty_n, ↓z_ty_l, ↓z_ty_t, ↓z_k_ss, ↓z_k_ii, ↓z_k_ib, ↓z_k_tt, ↓z_k_ll, flatD, pVar, ↓ho_ite, ↓z_lset_l, ↓z_lset_t, ↓z_rg2, ↓z_rg1, ↓z_is_nn, ↓z_is_tn, ↓z_is_ln, ↓z_is_sn, ↓z_is_in, ↓z_is_bb, ↓z_isn_nn, ↓z_isn_tn, ↓z_isn_ln, ↓z_isn_sn, ↓z_isn_in, ↓z_isn_bb, ↓z_ne_nn, ↓z_eq_nn, ↓z_k_bb, ↓z_seq_l, ↓z_zip_l, ↓z_zip_t, ↓z_ltD_i, ↓z_gtD_i, ↓z_leD_i, ↓z_geD_i, ↓z_ltD_s, ↓z_gtD_s, ↓z_ltD_t, ↓z_gtD_t, ↓z_mulT, ↓z_getD, ↓z_lenD, ↓z_keysL, ↓z_valsL, ↓z_sset_l, ↓z_sortD, ↓z_minDs]
  refine ⟨by have : (signsD t).length = t.length := by simp [signsD]
             unfold lim; omega, ?_⟩
  show wl _ _ _ _ (t.map fun c => D.str [c]) _ _
  refine wl_mapS (fun c => D.str [c]) (fun x => .str [ren a b c x]) (fun x hx => ?_) ?_
  · simp [↓w_eVar, ↓w_eC, ↓w_eUn, ↓w_eUnX, ↓w_eBin, ↓w_eM1, ↓w_oBin, ↓w_oUn, ↓w_eOfO, ↓w_eNil, ↓w_eCons, ↓w_eTup, ↓w_oLst, ↓w_eCall, ↓w_oCall, ↓w_cT, ↓w_cNot, ↓w_cAnd, ↓w_cOr, ↓w_cYes, ↓w_eAndV, ↓w_eOrV, ↓w_eNotV, ↓w_eIf, ↓w_eOwnIdx, ↓w_qNone, ↓w_qSome, ↓w_eCut, ↓w_oCut, ↓w_eChain, ↓w_iAny, ↓w_iRange1, ↓w_iRange2, ↓w_iRange3, ↓w_eCallS, ↓w_oComp, ↓w_bName, ↓w_bNil, ↓w_bCons, ↓w_bTup, ↓s_sNil, ↓s_sSeq, ↓s_sNever, ↓s_sBreak, ↓s_sCont, ↓s_sIf, ↓s_sDrop, ↓s_sRet, ↓s_sRetN, ↓s_sRetO, ↓s_sRetV, ↓s_sSet, ↓s_sSetO, ↓s_sUnpack, ↓s_sParD, ↓w_setD_nil, ↓w_setD_cons, ↓w_vDat, ↓w_vOwn, ↓s_sPar2, ↓s_sAppend, ↓s_sSetIx, ↓s_sFor, ↓ho_mA, ↓ho_mO, ↓ho_mB, frame, ↓seqO_nx, ↓seqO_rt, ↓seqO_bk, ↓seqO_ct, ↓lpO_nx, ↓lpO_rt, ↓lpO_bk, ↓lpO_ct, ↓wsF, ↓wlF, ↓whF, backR, wipeR, datSlot, strsD_signs, join_signs, sum_ones2, ↓w_eOwnBin, ownAt, ↓w_eP, ↓w_eBinX, ↓w_eTupleP, ↓w_iEnumD, ↓w_iZipD, ↓w_eOfM, ↓w_mNew, ↓w_mDisp, ↓w_mDispT, ↓s_sSetM, ↓w_vDic, ↓w_eGetV, ↓w_eGetXV, ↓w_cInV, ↓s_sPutV, ↓w_eGetX, ↓w_iKeysD, ↓w_iItemsD, lookM, ↓z_add_i, ↓z_add_s, ↓z_add_t, ↓z_sub, ↓z_mul_i, ↓z_mul_s, ↓z_div, ↓z_mod, ↓z_pow, ↓z_neg, ↓z_eq_i, ↓z_eq_s, ↓z_eq_b, ↓z_eq_l, ↓z_eq_t, ↓z_ne_i, ↓z_ne_s, ↓z_ne_b, ↓z_ne_l, ↓z_ne_t, ↓z_eq_ns, ↓z_eq_sn, ↓z_ne_ns, ↓z_ne_sn, ↓z_lt, ↓z_le, ↓z_gt, ↓z_ge, ↓z_idx_l, ↓z_idx_t, ↓z_idx_r, ↓z_idx_s, ↓z_len_s, ↓z_len_l, ↓z_len_t, ↓z_len_r, ↓z_abs, ↓z_min2, ↓z_max2, ↓z_int_i, ↓z_int_b, ↓z_cut_s, ↓z_cut_t, ↓z_gcut, ↓z_rev, ↓z_grev, ↓z_gadd, ↓z_gmul, ↓z_list_l, ↓z_list_t, ↓z_list_s, ↓z_tuple_l, ↓z_tuple_t, ↓z_all, ↓z_any, ↓z_sum, ↓z_maxl, ↓z_minl, ↓z_rfind, ↓z_join_l, ↓z_join_t, ↓z_in_s, ↓z_nin_s, ↓z_in_t, ↓z_nin_t, ↓z_in_l, ↓z_nin_l, ↓z_items_l, ↓z_items_t, ↓z_items_r, ↓z_items_s, ↓z_isi_s, ↓z_isi_i, ↓z_isi_b, ↓z_isi_n, ↓z_isi_l, ↓z_isi_t, ↓z_isi_r, ↓z_ty_s, ↓z_ty_i, ↓z_ty_b, ↓z_ty_n, ↓z_ty_l, ↓z_ty_t, ↓z_k_ss, ↓z_k_ii, ↓z_k_ib, ↓z_k_tt, ↓z_k_ll, flatD, pVar, ↓ho_ite, ↓z_lset_l, ↓z_lset_t, ↓z_rg2, ↓z_rg1, ↓z_is_nn, ↓z_is_tn, ↓z_is_ln, ↓z_is_sn, ↓z_is_in, ↓z_is_bb, ↓z_isn_nn, ↓z_isn_tn, ↓z_isn_ln, ↓z_isn_sn, ↓z_isn_in, ↓z_isn_bb, ↓z_ne_nn, ↓z_eq_nn, ↓z_k_bb, ↓z_seq_l, ↓z_zip_l, ↓z_zip_t, ↓z_ltD_i, ↓z_gtD_i, ↓z_leD_i, ↓z_geD_i, ↓z_ltD_s, ↓z_gtD_s, ↓z_ltD_t, ↓z_gtD_t, ↓z_mulT, ↓z_getD, ↓z_lenD, ↓z_keysL, ↓z_valsL, ↓z_sset_l, ↓z_sortD, ↓z_minDs, keyOk_name, get_name (ht x hx)]
  · have e : (t.map fun x => D.str [ren a b c x]) = (t.map (ren a b c)).map fun c => D.str [c] := by rw [List.map_map]; rfl
    rw [e]
    have hl' : (t.map (ren a b c)).length ≤ 40 := by simpa using hl
    generalize t.map (ren a b c) = t' at hl'
    simp [↓w_eVar, ↓w_eC, ↓w_eUn, ↓w_eUnX, ↓w_eBin, ↓w_eM1, ↓w_oBin, ↓w_oUn, ↓w_eOfO, ↓w_eNil, ↓w_eCons, ↓w_eTup, ↓w_oLst, ↓w_eCall, ↓w_oCall, ↓w_cT, ↓w_cNot, ↓w_cAnd, ↓w_cOr, ↓w_cYes, ↓w_eAndV, ↓w_eOrV, ↓w_eNotV, ↓w_eIf, ↓w_eOwnIdx, ↓w_qNone, ↓w_qSome, ↓w_eCut, ↓w_oCut, ↓w_eChain, ↓w_iAny, ↓w_iRange1, ↓w_iRange2, ↓w_iRange3, ↓w_eCallS, ↓w_oComp, ↓w_bName, ↓w_bNil, ↓w_bCons, ↓w_bTup, ↓s_sNil, ↓s_sSeq, ↓s_sNever, ↓s_sBreak, ↓s_sCont, ↓s_sIf, ↓s_sDrop, ↓s_sRet, ↓s_sRetN, ↓s_sRetO, ↓s_sRetV, ↓s_sSet, ↓s_sSetO, ↓s_sUnpack, ↓s_sParD, ↓w_setD_nil, ↓w_setD_cons, ↓w_vDat, ↓w_vOwn, ↓s_sPar2, ↓s_sAppend, ↓s_sSetIx, ↓s_sFor, ↓ho_mA, ↓ho_mO, ↓ho_mB, frame, ↓seqO_nx, ↓seqO_rt, ↓seqO_bk, ↓seqO_ct, ↓lpO_nx, ↓lpO_rt, ↓lpO_bk, ↓lpO_ct, ↓wsF, ↓wlF, ↓whF, backR, wipeR, datSlot, strsD_signs, join_signs, sum_ones2, ↓w_eOwnBin, ownAt, ↓w_eP, ↓w_eBinX, ↓w_eTupleP, ↓w_iEnumD, ↓w_iZipD, ↓w_eOfM, ↓w_mNew, ↓w_mDisp, ↓w_mDispT, ↓s_sSetM, ↓w_vDic, ↓w_eGetV, ↓w_eGetXV, ↓w_cInV, ↓s_sPutV, ↓w_eGetX, ↓w_iKeysD, ↓w_iItemsD, lookM, ↓z_add_i, ↓z_add_s, ↓z_add_t, ↓z_sub, ↓z_mul_i, ↓z_mul_s, ↓z_div, ↓z_mod, ↓z_pow, ↓z_neg, ↓z_eq_i, ↓z_eq_s, ↓z_eq_b, ↓z_eq_l, ↓z_eq_t, ↓z_ne_i, ↓z_ne_s, ↓z_ne_b, ↓z_ne_l, ↓z_ne_t, ↓z_eq_ns, ↓z_eq_sn, ↓z_ne_ns, ↓z_ne_sn, ↓z_lt, ↓z_le, ↓z_gt, ↓z_ge, ↓z_idx_l, ↓z_idx_t, ↓z_idx_r, ↓z_idx_s, ↓z_len_s, ↓z_len_l, ↓z_len_t, ↓z_len_r, ↓z_abs, ↓z_min2, ↓z_max2, ↓z_int_i, ↓z_int_b, ↓z_cut_s, ↓z_cut_t, ↓z_gcut, ↓z_rev, ↓z_grev, ↓z_gadd, ↓z_gmul, ↓z_list_l, ↓z_list_t, ↓z_list_s, ↓z_tuple_l, ↓z_tuple_t, ↓z_all, ↓z_any, ↓z_sum, ↓z_maxl, ↓z_minl, ↓z_rfind, ↓z_join_l, ↓z_join_t, ↓z_in_s, ↓z_nin_s, ↓z_in_t, ↓z_nin_t, ↓z_in_l, ↓z_nin_l, ↓z_items_l, ↓z_items_t, ↓z_items_r, ↓z_items_s, ↓z_isi_s, ↓z_isi_i, ↓z_isi_b, ↓z_isi_n, ↓z_isi_l, ↓z_isi_t, ↓z_isi_r, ↓z_ty_s, ↓z_ty_i, ↓z_ty_b, ↓z_ty_n, ↓z_ty_l, ↓z_ty_t, ↓z_k_ss, ↓z_k_ii, ↓z_k_ib, ↓z_k_tt, ↓z_k_ll, flatD, pVar, ↓ho_ite, ↓z_lset_l, ↓z_lset_t, ↓z_rg2, ↓z_rg1, ↓z_is_nn, ↓z_is_tn, ↓z_is_ln, ↓z_is_sn, ↓z_is_in, ↓z_is_bb, ↓z_isn_nn, ↓z_isn_tn, ↓z_isn_ln, ↓z_isn_sn, ↓z_isn_in, ↓z_isn_bb, ↓z_ne_nn, ↓z_eq_nn, ↓z_k_bb, ↓z_seq_l, ↓z_zip_l, ↓z_zip_t, ↓z_ltD_i, ↓z_gtD_i, ↓z_leD_i, ↓z_geD_i, ↓z_ltD_s, ↓z_gtD_s, ↓z_ltD_t, ↓z_gtD_t, ↓z_mulT, ↓z_getD, ↓z_lenD, ↓z_keysL, ↓z_valsL, ↓z_sset_l, ↓z_sortD, ↓z_minDs]
    unfold lim; omega
theorem law_true (ns : List Int) (h : ns.length ≤ 63) : m_law [scr ns] = some (.bl true) := by
  rw [← ho_eq]; unfold m_law g_law
  have sl : (scr ns) = .scr (ns.map D.int) := rfl
  simp [↓w_eVar, ↓w_eC, ↓w_eUn, ↓w_eUnX, ↓w_eBin, ↓w_eM1, ↓w_oBin, ↓w_oUn, ↓w_eOfO, ↓w_eNil, ↓w_eCons, ↓w_eTup, ↓w_oLst, ↓w_eCall, ↓w_oCall, ↓w_cT, ↓w_cNot, ↓w_cAnd, ↓w_cOr, ↓w_cYes, ↓w_eAndV, ↓w_eOrV, ↓w_eNotV, ↓w_eIf, ↓w_eOwnIdx, ↓w_qNone, ↓w_qSome, ↓w_eCut, ↓w_oCut, ↓w_eChain, ↓w_iAny, ↓w_iRange1, ↓w_iRange2, ↓w_iRange3, ↓w_eCallS, ↓w_oComp, ↓w_bName, ↓w_bNil, ↓w_bCons, ↓w_bTup, ↓s_sNil, ↓s_sNever, ↓s_sBreak, ↓s_sCont, ↓s_sIf, ↓s_sDrop, ↓s_sRet, ↓s_sRetN, ↓s_sRetO, ↓s_sRetV, ↓s_sSet, ↓s_sSetO, ↓s_sUnpack, ↓s_sParD, ↓w_setD_nil, ↓w_setD_cons, ↓w_vDat, ↓w_vOwn, ↓s_sPar2, ↓s_sAppend, ↓s_sSetIx, ↓s_sFor, ↓ho_mA, ↓ho_mO, ↓ho_mB, frame, ↓seqO_nx, ↓seqO_rt, ↓seqO_bk, ↓seqO_ct, ↓lpO_nx, ↓lpO_rt, ↓lpO_bk, ↓lpO_ct, ↓wsF, ↓wlF, ↓whF, backR, wipeR, datSlot, strsD_signs, join_signs, sum_ones2, ↓w_eOwnBin, ownAt, ↓w_eP, ↓w_eBinX, ↓w_eTupleP, ↓w_iEnumD, ↓w_iZipD, ↓w_eOfM, ↓w_mNew, ↓w_mDisp, ↓w_mDispT, ↓s_sSetM, ↓w_vDic, ↓w_eGetV, ↓w_eGetXV, ↓w_cInV, ↓s_sPutV, ↓w_eGetX, ↓w_iKeysD, ↓w_iItemsD, lookM, ↓z_add_i, ↓z_add_s, ↓z_add_t, ↓z_sub, ↓z_mul_i, ↓z_mul_s, ↓z_div, ↓z_mod, ↓z_pow, ↓z_neg, ↓z_eq_i, ↓z_eq_s, ↓z_eq_b, ↓z_eq_l, ↓z_eq_t, ↓z_ne_i, ↓z_ne_s, ↓z_ne_b, ↓z_ne_l, ↓z_ne_t, ↓z_eq_ns, ↓z_eq_sn, ↓z_ne_ns, ↓z_ne_sn, ↓z_lt, ↓z_le, ↓z_gt, ↓z_ge, ↓z_idx_l, ↓z_idx_t, ↓z_idx_r, ↓z_idx_s, ↓z_len_s, ↓z_len_l, ↓z_len_t, ↓z_len_r, ↓z_abs, ↓z_min2, ↓z_max2, ↓z_int_i, ↓z_int_b, ↓z_cut_s, ↓z_cut_t, ↓z_gcut, ↓z_rev, ↓z_grev, ↓z_gadd, ↓z_gmul, ↓z_list_l, ↓z_list_t, ↓z_list_s, ↓z_tuple_l, ↓z_tuple_t, ↓z_all, ↓z_any, ↓z_sum, ↓z_maxl, ↓z_minl, ↓z_rfind, ↓z_join_l, ↓z_join_t, ↓z_in_s, ↓z_nin_s, ↓z_in_t, ↓z_nin_t, ↓z_in_l, ↓z_nin_l, ↓z_items_l, ↓z_items_t, ↓z_items_r, ↓z_items_s, ↓z_isi_s, ↓z_isi_i, ↓z_isi_b, ↓z_isi_n, ↓z_isi_l, ↓z_isi_t, ↓z_isi_r, ↓z_ty_s, ↓z_ty_i, ↓z_ty_b, ↓z_ty_n, ↓z_ty_l, ↓z_ty_t, ↓z_k_ss, ↓z_k_ii, ↓z_k_ib, ↓z_k_tt, ↓z_k_ll, flatD, pVar, ↓ho_ite, ↓z_lset_l, ↓z_lset_t, ↓z_rg2, ↓z_rg1, ↓z_is_nn, ↓z_is_tn, ↓z_is_ln, ↓z_is_sn, ↓z_is_in, ↓z_is_bb, ↓z_isn_nn, ↓z_isn_tn, ↓z_isn_ln, ↓z_isn_sn, ↓z_isn_in, ↓z_isn_bb, ↓z_ne_nn, ↓z_eq_nn, ↓z_k_bb, ↓z_seq_l, ↓z_zip_l, ↓z_zip_t, ↓z_ltD_i, ↓z_gtD_i, ↓z_leD_i, ↓z_geD_i, ↓z_ltD_s, ↓z_gtD_s, ↓z_ltD_t, ↓z_gtD_t, ↓z_mulT, ↓z_getD, ↓z_lenD, ↓z_keysL, ↓z_valsL, ↓z_sset_l, ↓z_sortD, ↓z_minDs, sl, ↓frz (m__law_source _)]
  rw [s_sSeq]
  simp [↓w_eVar, ↓w_eC, ↓w_eUn, ↓w_eUnX, ↓w_eBin, ↓w_eM1, ↓w_oBin, ↓w_oUn, ↓w_eOfO, ↓w_eNil, ↓w_eCons, ↓w_eTup, ↓w_oLst, ↓w_eCall, ↓w_oCall, ↓w_cT, ↓w_cNot, ↓w_cAnd, ↓w_cOr, ↓w_cYes, ↓w_eAndV, ↓w_eOrV, ↓w_eNotV, ↓w_eIf, ↓w_eOwnIdx, ↓w_qNone, ↓w_qSome, ↓w_eCut, ↓w_oCut, ↓w_eChain, ↓w_iAny, ↓w_iRange1, ↓w_iRange2, ↓w_iRange3, ↓w_eCallS, ↓w_oComp, ↓w_bName, ↓w_bNil, ↓w_bCons, ↓w_bTup, ↓s_sNil, ↓s_sNever, ↓s_sBreak, ↓s_sCont, ↓s_sIf, ↓s_sDrop, ↓s_sRet, ↓s_sRetN, ↓s_sRetO, ↓s_sRetV, ↓s_sSet, ↓s_sSetO, ↓s_sUnpack, ↓s_sParD, ↓w_setD_nil, ↓w_setD_cons, ↓w_vDat, ↓w_vOwn, ↓s_sPar2, ↓s_sAppend, ↓s_sSetIx, ↓s_sFor, ↓ho_mA, ↓ho_mO, ↓ho_mB, frame, ↓seqO_nx, ↓seqO_rt, ↓seqO_bk, ↓seqO_ct, ↓lpO_nx, ↓lpO_rt, ↓lpO_bk, ↓lpO_ct, ↓wsF, ↓wlF, ↓whF, backR, wipeR, datSlot, strsD_signs, join_signs, sum_ones2, ↓w_eOwnBin, ownAt, ↓w_eP, ↓w_eBinX, ↓w_eTupleP, ↓w_iEnumD, ↓w_iZipD, ↓w_eOfM, ↓w_mNew, ↓w_mDisp, ↓w_mDispT, ↓s_sSetM, ↓w_vDic, ↓w_eGetV, ↓w_eGetXV, ↓w_cInV, ↓s_sPutV, ↓w_eGetX, ↓w_iKeysD, ↓w_iItemsD, lookM, ↓z_add_i, ↓z_add_s, ↓z_add_t, ↓z_sub, ↓z_mul_i, ↓z_mul_s, ↓z_div, ↓z_mod, ↓z_pow, ↓z_neg, ↓z_eq_i, ↓z_eq_s, ↓z_eq_b, ↓z_eq_l, ↓z_eq_t, ↓z_ne_i, ↓z_ne_s, ↓z_ne_b, ↓z_ne_l, ↓z_ne_t, ↓z_eq_ns, ↓z_eq_sn, ↓z_ne_ns, ↓z_ne_sn, ↓z_lt, ↓z_le, ↓z_gt, ↓z_ge, ↓z_idx_l, ↓z_idx_t, ↓z_idx_r, ↓z_idx_s, ↓z_len_s, ↓z_len_l, ↓z_len_t, ↓z_len_r, ↓z_abs, ↓z_min2, ↓z_max2, ↓z_int_i, ↓z_int_b, ↓z_cut_s, ↓z_cut_t, ↓z_gcut, ↓z_rev, ↓z_grev, ↓z_gadd, ↓z_gmul, ↓z_list_l, ↓z_list_t, ↓z_list_s, ↓z_tuple_l, ↓z_tuple_t, ↓z_all, ↓z_any, ↓z_sum, ↓z_maxl, ↓z_minl, ↓z_rfind, ↓z_join_l, ↓z_join_t, ↓z_in_s, ↓z_nin_s, ↓z_in_t, ↓z_nin_t, ↓z_in_l, ↓z_nin_l, ↓z_items_l, ↓z_items_t, ↓z_items_r, ↓z_items_s, ↓z_isi_s, ↓z_isi_i, ↓z_isi_b, ↓z_isi_n, ↓z_isi_l, ↓z_isi_t, ↓z_isi_r, ↓z_ty_s, ↓z_ty_i, ↓z_ty_b, ↓z_ty_n, ↓z_ty_l, ↓z_ty_t, ↓z_k_ss, ↓z_k_ii, ↓z_k_ib, ↓z_k_tt, ↓z_k_ll, flatD, pVar, ↓ho_ite, ↓z_lset_l, ↓z_lset_t, ↓z_rg2, ↓z_rg1, ↓z_is_nn, ↓z_is_tn, ↓z_is_ln, ↓z_is_sn, ↓z_is_in, ↓z_is_bb, ↓z_isn_nn, ↓z_isn_tn, ↓z_isn_ln, ↓z_isn_sn, ↓z_isn_in, ↓z_isn_bb, ↓z_ne_nn, ↓z_eq_nn, ↓z_k_bb, ↓z_seq_l, ↓z_zip_l, ↓z_zip_t, ↓z_ltD_i, ↓z_gtD_i, ↓z_leD_i, ↓z_geD_i, ↓z_ltD_s, ↓z_gtD_s, ↓z_ltD_t, ↓z_gtD_t, ↓z_mulT, ↓z_getD, ↓z_lenD, ↓z_keysL, ↓z_valsL, ↓z_sset_l, ↓z_sortD, ↓z_minDs, sl, ↓frz (m__law_source _)]
  refine ⟨big_small (by split <;> omega) (by split <;> omega), ws_each (fun ρ => ∃ s1 s2 s3 s4 s5 s6 s7 s8 s9 s10 s11, ρ = [.dat (scr ns), s1, s2, s3, s4, s5, s6, s7, s8, s9, s10, s11, .emp] ∧ FrI [s1, s2, s3, s4, s5, s6, s7, s8, s9, s10, s11]) ⟨_, _, _, _, _, _, _, _, _, _, _, rfl, by simp [FrI, F1]⟩ ?_ ?_⟩
  · intro d hd ρ hI
    obtain ⟨s1, s2, s3, s4, s5, s6, s7, s8, s9, s10, s11, rfl, hf⟩ := hI
    simp only [frI_cons] at hf
    obtain ⟨f1, f2, f3, f4, f5, f6, f7, f8, f9, f10, f11, _⟩ := hf
    obtain ⟨k, hk, rfl⟩ := mem_rangeD.mp hd
    have hk2 : (k : Int) ≤ 1000 := by split at hk <;> omega
    simp [↓w_eVar, ↓w_eC, ↓w_eUn, ↓w_eUnX, ↓w_eBin, ↓w_eM1, ↓w_oBin, ↓w_oUn, ↓w_eOfO, ↓w_eNil, ↓w_eCons, ↓w_eTup, ↓w_oLst, ↓w_eCall, ↓w_oCall, ↓w_cT, ↓w_cNot, ↓w_cAnd, ↓w_cOr, ↓w_cYes, ↓w_eAndV, ↓w_eOrV, ↓w_eNotV, ↓w_eIf, ↓w_eOwnIdx, ↓w_qNone, ↓w_qSome, ↓w_eCut, ↓w_oCut, ↓w_eChain, ↓w_iAny, ↓w_iRange1, ↓w_iRange2, ↓w_iRange3, ↓w_eCallS, ↓w_oComp, ↓w_bName, ↓w_bNil, ↓w_bCons, ↓w_bTup, ↓s_sNil, ↓s_sSeq, ↓s_sNever, ↓s_sBreak, ↓s_sCont, ↓s_sIf, ↓s_sDrop, ↓s_sRet, ↓s_sRetN, ↓s_sRetO, ↓s_sRetV, ↓s_sSet, ↓s_sSetO, ↓s_sUnpack, ↓s_sParD, ↓w_setD_nil, ↓w_setD_cons, ↓w_vDat, ↓w_vOwn, ↓s_sPar2, ↓s_sAppend, ↓s_sSetIx, ↓s_sFor, ↓ho_mA, ↓ho_mO, ↓ho_mB, frame, ↓seqO_nx, ↓seqO_rt, ↓seqO_bk, ↓seqO_ct, ↓lpO_nx, ↓lpO_rt, ↓lpO_bk, ↓lpO_ct, ↓wsF, ↓wlF, ↓whF, backR, wipeR, datSlot, strsD_signs, join_signs, sum_ones2, ↓w_eOwnBin, ownAt, ↓w_eP, ↓w_eBinX, ↓w_eTupleP, ↓w_iEnumD, ↓w_iZipD, ↓w_eOfM, ↓w_mNew, ↓w_mDisp, ↓w_mDispT, ↓s_sSetM, ↓w_vDic, ↓w_eGetV, ↓w_eGetXV, ↓w_cInV, ↓s_sPutV, ↓w_eGetX, ↓w_iKeysD, ↓w_iItemsD, lookM, ↓z_add_i, ↓z_add_s, ↓z_add_t, ↓z_sub, ↓z_mul_i, ↓z_mul_s, ↓z_div, ↓z_mod, ↓z_pow, ↓z_neg, ↓z_eq_i, ↓z_eq_s, ↓z_eq_b, ↓z_eq_l, ↓z_eq_t, ↓z_ne_i, ↓z_ne_s, ↓z_ne_b, ↓z_ne_l, ↓z_ne_t, ↓z_eq_ns, ↓z_eq_sn, ↓z_ne_ns, ↓z_ne_sn, ↓z_lt, ↓z_le, ↓z_gt, ↓z_ge, ↓z_idx_l, ↓z_idx_t, ↓z_idx_r, ↓z_idx_s, ↓z_len_s, ↓z_len_l, ↓z_len_t, ↓z_len_r, ↓z_abs, ↓z_min2, ↓z_max2, ↓z_int_i, ↓z_int_b, ↓z_cut_s, ↓z_cut_t, ↓z_gcut, ↓z_rev, ↓z_grev, ↓z_gadd, ↓z_gmul, ↓z_list_l, ↓z_list_t, ↓z_list_s, ↓z_tuple_l, ↓z_tuple_t, ↓z_all, ↓z_any, ↓z_sum, ↓z_maxl, ↓z_minl, ↓z_rfind, ↓z_join_l, ↓z_join_t, ↓z_in_s, ↓z_nin_s, ↓z_in_t, ↓z_nin_t, ↓z_in_l, ↓z_nin_l, ↓z_items_l, ↓z_items_t, ↓z_items_r, ↓z_items_s, ↓z_isi_s, ↓z_isi_i, ↓z_isi_b, ↓z_isi_n, ↓z_isi_l, ↓z_isi_t, ↓z_isi_r, ↓z_ty_s, ↓z_ty_i, ↓z_ty_b, ↓z_ty_n, ↓z_ty_l, ↓z_ty_t, ↓z_k_ss, ↓z_k_ii, ↓z_k_ib, ↓z_k_tt, ↓z_k_ll, flatD, pVar, ↓ho_ite, ↓z_lset_l, ↓z_lset_t, ↓z_rg2, ↓z_rg1, ↓z_is_nn, ↓z_is_tn, ↓z_is_ln, ↓z_is_sn, ↓z_is_in, ↓z_is_bb, ↓z_isn_nn, ↓z_isn_tn, ↓z_isn_ln, ↓z_isn_sn, ↓z_isn_in, ↓z_isn_bb, ↓z_ne_nn, ↓z_eq_nn, ↓z_k_bb, ↓z_seq_l, ↓z_zip_l, ↓z_zip_t, ↓z_ltD_i, ↓z_gtD_i, ↓z_leD_i, ↓z_geD_i, ↓z_ltD_s, ↓z_gtD_s, ↓z_ltD_t, ↓z_gtD_t, ↓z_mulT, ↓z_getD, ↓z_lenD, ↓z_keysL, ↓z_valsL, ↓z_sset_l, ↓z_sortD, ↓z_minDs, oN_free f1, ↓frz (m__law_source _)]
    refine ho_mono (law_source (k := (k : Int)) (by omega) hk2) fun src hs => ?_
    simp [↓w_eVar, ↓w_eC, ↓w_eUn, ↓w_eUnX, ↓w_eBin, ↓w_eM1, ↓w_oBin, ↓w_oUn, ↓w_eOfO, ↓w_eNil, ↓w_eCons, ↓w_eTup, ↓w_oLst, ↓w_eCall, ↓w_oCall, ↓w_cT, ↓w_cNot, ↓w_cAnd, ↓w_cOr, ↓w_cYes, ↓w_eAndV, ↓w_eOrV, ↓w_eNotV, ↓w_eIf, ↓w_eOwnIdx, ↓w_qNone, ↓w_qSome, ↓w_eCut, ↓w_oCut, ↓w_eChain, ↓w_iAny, ↓w_iRange1, ↓w_iRange2, ↓w_iRange3, ↓w_eCallS, ↓w_oComp, ↓w_bName, ↓w_bNil, ↓w_bCons, ↓w_bTup, ↓s_sNil, ↓s_sNever, ↓s_sBreak, ↓s_sCont, ↓s_sIf, ↓s_sDrop, ↓s_sRet, ↓s_sRetN, ↓s_sRetO, ↓s_sRetV, ↓s_sSet, ↓s_sSetO, ↓s_sUnpack, ↓s_sParD, ↓w_setD_nil, ↓w_setD_cons, ↓w_vDat, ↓w_vOwn, ↓s_sPar2, ↓s_sAppend, ↓s_sSetIx, ↓s_sFor, ↓ho_mA, ↓ho_mO, ↓ho_mB, frame, ↓seqO_nx, ↓seqO_rt, ↓seqO_bk, ↓seqO_ct, ↓lpO_nx, ↓lpO_rt, ↓lpO_bk, ↓lpO_ct, ↓wsF, ↓wlF, ↓whF, backR, wipeR, datSlot, strsD_signs, join_signs, sum_ones2, ↓w_eOwnBin, ownAt, ↓w_eP, ↓w_eBinX, ↓w_eTupleP, ↓w_iEnumD, ↓w_iZipD, ↓w_eOfM, ↓w_mNew, ↓w_mDisp, ↓w_mDispT, ↓s_sSetM, ↓w_vDic, ↓w_eGetV, ↓w_eGetXV, ↓w_cInV, ↓s_sPutV, ↓w_eGetX, ↓w_iKeysD, ↓w_iItemsD, lookM, ↓z_add_i, ↓z_add_s, ↓z_add_t, ↓z_sub, ↓z_mul_i, ↓z_mul_s, ↓z_div, ↓z_mod, ↓z_pow, ↓z_neg, ↓z_eq_i, ↓z_eq_s, ↓z_eq_b, ↓z_eq_l, ↓z_eq_t, ↓z_ne_i, ↓z_ne_s, ↓z_ne_b, ↓z_ne_l, ↓z_ne_t, ↓z_eq_ns, ↓z_eq_sn, ↓z_ne_ns, ↓z_ne_sn, ↓z_lt, ↓z_le, ↓z_gt, ↓z_ge, ↓z_idx_l, ↓z_idx_t, ↓z_idx_r, ↓z_idx_s, ↓z_len_s, ↓z_len_l, ↓z_len_t, ↓z_len_r, ↓z_abs, ↓z_min2, ↓z_max2, ↓z_int_i, ↓z_int_b, ↓z_cut_s, ↓z_cut_t, ↓z_gcut, ↓z_rev, ↓z_grev, ↓z_gadd, ↓z_gmul, ↓z_list_l, ↓z_list_t, ↓z_list_s, ↓z_tuple_l, ↓z_tuple_t, ↓z_all, ↓z_any, ↓z_sum, ↓z_maxl, ↓z_minl, ↓z_rfind, ↓z_join_l, ↓z_join_t, ↓z_in_s, ↓z_nin_s, ↓z_in_t, ↓z_nin_t, ↓z_in_l, ↓z_nin_l, ↓z_items_l, ↓z_items_t, ↓z_items_r, ↓z_items_s, ↓z_isi_s, ↓z_isi_i, ↓z_isi_b, ↓z_isi_n, ↓z_isi_l, ↓z_isi_t, ↓z_isi_r, ↓z_ty_s, ↓z_ty_i, ↓z_ty_b, ↓z_ty_n, ↓z_ty_l, ↓z_ty_t, ↓z_k_ss, ↓z_k_ii, ↓z_k_ib, ↓z_k_tt, ↓z_k_ll, flatD, pVar, ↓ho_ite, ↓z_lset_l, ↓z_lset_t, ↓z_rg2, ↓z_rg1, ↓z_is_nn, ↓z_is_tn, ↓z_is_ln, ↓z_is_sn, ↓z_is_in, ↓z_is_bb, ↓z_isn_nn, ↓z_isn_tn, ↓z_isn_ln, ↓z_isn_sn, ↓z_isn_in, ↓z_isn_bb, ↓z_ne_nn, ↓z_eq_nn, ↓z_k_bb, ↓z_seq_l, ↓z_zip_l, ↓z_zip_t, ↓z_ltD_i, ↓z_gtD_i, ↓z_leD_i, ↓z_geD_i, ↓z_ltD_s, ↓z_gtD_s, ↓z_ltD_t, ↓z_gtD_t, ↓z_mulT, ↓z_getD, ↓z_lenD, ↓z_keysL, ↓z_valsL, ↓z_sset_l, ↓z_sortD, ↓z_minDs, oN_free f2, ↓fz_choice]
    rw [s_sSeq]
    simp [↓w_eVar, ↓w_eC, ↓w_eUn, ↓w_eUnX, ↓w_eBin, ↓w_eM1, ↓w_oBin, ↓w_oUn, ↓w_eOfO, ↓w_eNil, ↓w_eCons, ↓w_eTup, ↓w_oLst, ↓w_eCall, ↓w_oCall, ↓w_cT, ↓w_cNot, ↓w_cAnd, ↓w_cOr, ↓w_cYes, ↓w_eAndV, ↓w_eOrV, ↓w_eNotV, ↓w_eIf, ↓w_eOwnIdx, ↓w_qNone, ↓w_qSome, ↓w_eCut, ↓w_oCut, ↓w_eChain, ↓w_iAny, ↓w_iRange1, ↓w_iRange2, ↓w_iRange3, ↓w_eCallS, ↓w_oComp, ↓w_bName, ↓w_bNil, ↓w_bCons, ↓w_bTup, ↓s_sNil, ↓s_sNever, ↓s_sBreak, ↓s_sCont, ↓s_sIf, ↓s_sDrop, ↓s_sRet, ↓s_sRetN, ↓s_sRetO, ↓s_sRetV, ↓s_sSet, ↓s_sSetO, ↓s_sUnpack, ↓s_sParD, ↓w_setD_nil, ↓w_setD_cons, ↓w_vDat, ↓w_vOwn, ↓s_sPar2, ↓s_sAppend, ↓s_sSetIx, ↓s_sFor, ↓ho_mA, ↓ho_mO, ↓ho_mB, frame, ↓seqO_nx, ↓seqO_rt, ↓seqO_bk, ↓seqO_ct, ↓lpO_nx, ↓lpO_rt, ↓lpO_bk, ↓lpO_ct, ↓wsF, ↓wlF, ↓whF, backR, wipeR, datSlot, strsD_signs, join_signs, sum_ones2, ↓w_eOwnBin, ownAt, ↓w_eP, ↓w_eBinX, ↓w_eTupleP, ↓w_iEnumD, ↓w_iZipD, ↓w_eOfM, ↓w_mNew, ↓w_mDisp, ↓w_mDispT, ↓s_sSetM, ↓w_vDic, ↓w_eGetV, ↓w_eGetXV, ↓w_cInV, ↓s_sPutV, ↓w_eGetX, ↓w_iKeysD, ↓w_iItemsD, lookM, ↓z_add_i, ↓z_add_s, ↓z_add_t, ↓z_sub, ↓z_mul_i, ↓z_mul_s, ↓z_div, ↓z_mod, ↓z_pow, ↓z_neg, ↓z_eq_i, ↓z_eq_s, ↓z_eq_b, ↓z_eq_l, ↓z_eq_t, ↓z_ne_i, ↓z_ne_s, ↓z_ne_b, ↓z_ne_l, ↓z_ne_t, ↓z_eq_ns, ↓z_eq_sn, ↓z_ne_ns, ↓z_ne_sn, ↓z_lt, ↓z_le, ↓z_gt, ↓z_ge, ↓z_idx_l, ↓z_idx_t, ↓z_idx_r, ↓z_idx_s, ↓z_len_s, ↓z_len_l, ↓z_len_t, ↓z_len_r, ↓z_abs, ↓z_min2, ↓z_max2, ↓z_int_i, ↓z_int_b, ↓z_cut_s, ↓z_cut_t, ↓z_gcut, ↓z_rev, ↓z_grev, ↓z_gadd, ↓z_gmul, ↓z_list_l, ↓z_list_t, ↓z_list_s, ↓z_tuple_l, ↓z_tuple_t, ↓z_all, ↓z_any, ↓z_sum, ↓z_maxl, ↓z_minl, ↓z_rfind, ↓z_join_l, ↓z_join_t, ↓z_in_s, ↓z_nin_s, ↓z_in_t, ↓z_nin_t, ↓z_in_l, ↓z_nin_l, ↓z_items_l, ↓z_items_t, ↓z_items_r, ↓z_items_s, ↓z_isi_s, ↓z_isi_i, ↓z_isi_b, ↓z_isi_n, ↓z_isi_l, ↓z_isi_t, ↓z_isi_r, ↓z_ty_s, ↓z_ty_i, ↓z_ty_b, ↓z_ty_n, ↓z_ty_l, ↓z_ty_t, ↓z_k_ss, ↓z_k_ii, ↓z_k_ib, ↓z_k_tt, ↓z_k_ll, flatD, pVar, ↓ho_ite, ↓z_lset_l, ↓z_lset_t, ↓z_rg2, ↓z_rg1, ↓z_is_nn, ↓z_is_tn, ↓z_is_ln, ↓z_is_sn, ↓z_is_in, ↓z_is_bb, ↓z_isn_nn, ↓z_isn_tn, ↓z_isn_ln, ↓z_isn_sn, ↓z_isn_in, ↓z_isn_bb, ↓z_ne_nn, ↓z_eq_nn, ↓z_k_bb, ↓z_seq_l, ↓z_zip_l, ↓z_zip_t, ↓z_ltD_i, ↓z_gtD_i, ↓z_leD_i, ↓z_geD_i, ↓z_ltD_s, ↓z_gtD_s, ↓z_ltD_t, ↓z_gtD_t, ↓z_mulT, ↓z_getD, ↓z_lenD, ↓z_keysL, ↓z_valsL, ↓z_sset_l, ↓z_sortD, ↓z_minDs, ↓fz_choice]
    refine law_choice hs (by simp) (by simp) fun dn s1' hn0 h1 => ?_
    obtain ⟨a, b, c, rfl, habc⟩ : ∃ a b c, dn = .str [a, b, c] ∧ (a, b, c) ∈ [(98, 99, 97), (99, 97, 98), (97, 99, 98), (98, 97, 99)] := by
      simp at hn0; rcases hn0 with rfl | rfl | rfl | rfl <;> exact ⟨_, _, _, rfl, by simp⟩
    clear hn0
    simp [↓w_eVar, ↓w_eC, ↓w_eUn, ↓w_eUnX, ↓w_eBin, ↓w_eM1, ↓w_oBin, ↓w_oUn, ↓w_eOfO, ↓w_eNil, ↓w_eCons, ↓w_eTup, ↓w_oLst, ↓w_eCall, ↓w_oCall, ↓w_cT, ↓w_cNot, ↓w_cAnd, ↓w_cOr, ↓w_cYes, ↓w_eAndV, ↓w_eOrV, ↓w_eNotV, ↓w_eIf, ↓w_eOwnIdx, ↓w_qNone, ↓w_qSome, ↓w_eCut, ↓w_oCut, ↓w_eChain, ↓w_iAny, ↓w_iRange1, ↓w_iRange2, ↓w_iRange3, ↓w_eCallS, ↓w_oComp, ↓w_bName, ↓w_bNil, ↓w_bCons, ↓w_bTup, ↓s_sNil, ↓s_sNever, ↓s_sBreak, ↓s_sCont, ↓s_sIf, ↓s_sDrop, ↓s_sRet, ↓s_sRetN, ↓s_sRetO, ↓s_sRetV, ↓s_sSet, ↓s_sSetO, ↓s_sUnpack, ↓s_sParD, ↓w_setD_nil, ↓w_setD_cons, ↓w_vDat, ↓w_vOwn, ↓s_sPar2, ↓s_sAppend, ↓s_sSetIx, ↓s_sFor, ↓ho_mA, ↓ho_mO, ↓ho_mB, frame, ↓seqO_nx, ↓seqO_rt, ↓seqO_bk, ↓seqO_ct, ↓lpO_nx, ↓lpO_rt, ↓lpO_bk, ↓lpO_ct, ↓wsF, ↓wlF, ↓whF, backR, wipeR, datSlot, strsD_signs, join_signs, sum_ones2, ↓w_eOwnBin, ownAt, ↓w_eP, ↓w_eBinX, ↓w_eTupleP, ↓w_iEnumD, ↓w_iZipD, ↓w_eOfM, ↓w_mNew, ↓w_mDisp, ↓w_mDispT, ↓s_sSetM, ↓w_vDic, ↓w_eGetV, ↓w_eGetXV, ↓w_cInV, ↓s_sPutV, ↓w_eGetX, ↓w_iKeysD, ↓w_iItemsD, lookM, ↓z_add_i, ↓z_add_s, ↓z_add_t, ↓z_sub, ↓z_mul_i, ↓z_mul_s, ↓z_div, ↓z_mod, ↓z_pow, ↓z_neg, ↓z_eq_i, ↓z_eq_s, ↓z_eq_b, ↓z_eq_l, ↓z_eq_t, ↓z_ne_i, ↓z_ne_s, ↓z_ne_b, ↓z_ne_l, ↓z_ne_t, ↓z_eq_ns, ↓z_eq_sn, ↓z_ne_ns, ↓z_ne_sn, ↓z_lt, ↓z_le, ↓z_gt, ↓z_ge, ↓z_idx_l, ↓z_idx_t, ↓z_idx_r, ↓z_idx_s, ↓z_len_s, ↓z_len_l, ↓z_len_t, ↓z_len_r, ↓z_abs, ↓z_min2, ↓z_max2, ↓z_int_i, ↓z_int_b, ↓z_cut_s, ↓z_cut_t, ↓z_gcut, ↓z_rev, ↓z_grev, ↓z_gadd, ↓z_gmul, ↓z_list_l, ↓z_list_t, ↓z_list_s, ↓z_tuple_l, ↓z_tuple_t, ↓z_all, ↓z_any, ↓z_sum, ↓z_maxl, ↓z_minl, ↓z_rfind, ↓z_join_l, ↓z_join_t, ↓z_in_s, ↓z_nin_s, ↓z_in_t, ↓z_nin_t, ↓z_in_l, ↓z_nin_l, ↓z_items_l, ↓z_items_t, ↓z_items_r, ↓z_items_s, ↓z_isi_s, ↓z_isi_i, ↓z_isi_b, ↓z_isi_n, ↓z_isi_l, ↓z_isi_t, ↓z_isi_r, ↓z_ty_s, ↓z_ty_i, ↓z_ty_b, ↓z_ty_n, ↓z_ty_l, ↓z_ty_t, ↓z_k_ss, ↓z_k_ii, ↓z_k_ib, ↓z_k_tt, ↓z_k_ll, flatD, pVar, ↓ho_ite, ↓z_lset_l, ↓z_lset_t, ↓z_rg2, ↓z_rg1, ↓z_is_nn, ↓z_is_tn, ↓z_is_ln, ↓z_is_sn, ↓z_is_in, ↓z_is_bb, ↓z_isn_nn, ↓z_isn_tn, ↓z_isn_ln, ↓z_isn_sn, ↓z_isn_in, ↓z_isn_bb, ↓z_ne_nn, ↓z_eq_nn, ↓z_k_bb, ↓z_seq_l, ↓z_zip_l, ↓z_zip_t, ↓z_ltD_i, ↓z_gtD_i, ↓z_leD_i, ↓z_geD_i, ↓z_ltD_s, ↓z_gtD_s, ↓z_ltD_t, ↓z_gtD_t, ↓z_mulT, ↓z_getD, ↓z_lenD, ↓z_keysL, ↓z_valsL, ↓z_sset_l, ↓z_sortD, ↓z_minDs, oN_free f3]
    rw [s_sSeq]
    simp [↓w_eVar, ↓w_eC, ↓w_eUn, ↓w_eUnX, ↓w_eBin, ↓w_eM1, ↓w_oBin, ↓w_oUn, ↓w_eOfO, ↓w_eNil, ↓w_eCons, ↓w_eTup, ↓w_oLst, ↓w_eCall, ↓w_oCall, ↓w_cT, ↓w_cNot, ↓w_cAnd, ↓w_cOr, ↓w_cYes, ↓w_eAndV, ↓w_eOrV, ↓w_eNotV, ↓w_eIf, ↓w_eOwnIdx, ↓w_qNone, ↓w_qSome, ↓w_eCut, ↓w_oCut, ↓w_eChain, ↓w_iAny, ↓w_iRange1, ↓w_iRange2, ↓w_iRange3, ↓w_eCallS, ↓w_oComp, ↓w_bName, ↓w_bNil, ↓w_bCons, ↓w_bTup, ↓s_sNil, ↓s_sNever, ↓s_sBreak, ↓s_sCont, ↓s_sIf, ↓s_sDrop, ↓s_sRet, ↓s_sRetN, ↓s_sRetO, ↓s_sRetV, ↓s_sSet, ↓s_sSetO, ↓s_sUnpack, ↓s_sParD, ↓w_setD_nil, ↓w_setD_cons, ↓w_vDat, ↓w_vOwn, ↓s_sPar2, ↓s_sAppend, ↓s_sSetIx, ↓s_sFor, ↓ho_mA, ↓ho_mO, ↓ho_mB, frame, ↓seqO_nx, ↓seqO_rt, ↓seqO_bk, ↓seqO_ct, ↓lpO_nx, ↓lpO_rt, ↓lpO_bk, ↓lpO_ct, ↓wsF, ↓wlF, ↓whF, backR, wipeR, datSlot, strsD_signs, join_signs, sum_ones2, ↓w_eOwnBin, ownAt, ↓w_eP, ↓w_eBinX, ↓w_eTupleP, ↓w_iEnumD, ↓w_iZipD, ↓w_eOfM, ↓w_mNew, ↓w_mDisp, ↓w_mDispT, ↓s_sSetM, ↓w_vDic, ↓w_eGetV, ↓w_eGetXV, ↓w_cInV, ↓s_sPutV, ↓w_eGetX, ↓w_iKeysD, ↓w_iItemsD, lookM, ↓z_add_i, ↓z_add_s, ↓z_add_t, ↓z_sub, ↓z_mul_i, ↓z_mul_s, ↓z_div, ↓z_mod, ↓z_pow, ↓z_neg, ↓z_eq_i, ↓z_eq_s, ↓z_eq_b, ↓z_eq_l, ↓z_eq_t, ↓z_ne_i, ↓z_ne_s, ↓z_ne_b, ↓z_ne_l, ↓z_ne_t, ↓z_eq_ns, ↓z_eq_sn, ↓z_ne_ns, ↓z_ne_sn, ↓z_lt, ↓z_le, ↓z_gt, ↓z_ge, ↓z_idx_l, ↓z_idx_t, ↓z_idx_r, ↓z_idx_s, ↓z_len_s, ↓z_len_l, ↓z_len_t, ↓z_len_r, ↓z_abs, ↓z_min2, ↓z_max2, ↓z_int_i, ↓z_int_b, ↓z_cut_s, ↓z_cut_t, ↓z_gcut, ↓z_rev, ↓z_grev, ↓z_gadd, ↓z_gmul, ↓z_list_l, ↓z_list_t, ↓z_list_s, ↓z_tuple_l, ↓z_tuple_t, ↓z_all, ↓z_any, ↓z_sum, ↓z_maxl, ↓z_minl, ↓z_rfind, ↓z_join_l, ↓z_join_t, ↓z_in_s, ↓z_nin_s, ↓z_in_t, ↓z_nin_t, ↓z_in_l, ↓z_nin_l, ↓z_items_l, ↓z_items_t, ↓z_items_r, ↓z_items_s, ↓z_isi_s, ↓z_isi_i, ↓z_isi_b, ↓z_isi_n, ↓z_isi_l, ↓z_isi_t, ↓z_isi_r, ↓z_ty_s, ↓z_ty_i, ↓z_ty_b, ↓z_ty_n, ↓z_ty_l, ↓z_ty_t, ↓z_k_ss, ↓z_k_ii, ↓z_k_ib, ↓z_k_tt, ↓z_k_ll, flatD, pVar, ↓ho_ite, ↓z_lset_l, ↓z_lset_t, ↓z_rg2, ↓z_rg1, ↓z_is_nn, ↓z_is_tn, ↓z_is_ln, ↓z_is_sn, ↓z_is_in, ↓z_is_bb, ↓z_isn_nn, ↓z_isn_tn, ↓z_isn_ln, ↓z_isn_sn, ↓z_isn_in, ↓z_isn_bb, ↓z_ne_nn, ↓z_eq_nn, ↓z_k_bb, ↓z_seq_l, ↓z_zip_l, ↓z_zip_t, ↓z_ltD_i, ↓z_gtD_i, ↓z_leD_i, ↓z_geD_i, ↓z_ltD_s, ↓z_gtD_s, ↓z_ltD_t, ↓z_gtD_t, ↓z_mulT, ↓z_getD, ↓z_lenD, ↓z_keysL, ↓z_valsL, ↓z_sset_l, ↓z_sortD, ↓z_minDs, oN_free f4, show (3 : Nat) ≤ lim by decide, show atI [a, b, c] 0 = some a from rfl, show atI [a, b, c] 1 = some b from rfl, show atI [a, b, c] 2 = some c from rfl, disp_names]
    have R := ren_ok habc
    obtain ⟨I, hI⟩ : ∃ I : Rho → Prop, ∀ ρ, I ρ ↔ ∃ src s4 s5 s6 s7 s8 s9 s10 s11, ρ = [.dat (scr ns), .dat (.int k), .own src, .dat (.str [a, b, c]), s4, s5, s6, s7, s8, s9, s10, s11, .emp] ∧ Src src ∧ MSl s4 ksN (vsN a b c) ∧ FrI [s5, s6, s7, s8, s9, s10, s11] := ⟨_, fun _ => Iff.rfl⟩
    refine ⟨by decide, ws_each I ((hI _).mpr ⟨_, _, _, _, _, _, _, _, _, rfl, h1, .inl rfl, by simp [frI_cons, frI_nil, *]⟩) ?_ ?_⟩
    · clear h1 hs src f5 f6 f7 f8 f9 f10 f11
      intro d hd ρ hI'
      obtain ⟨src, s4, s5, s6, s7, s8, s9, s10, s11, rfl, hs, hM, hf⟩ := (hI _).mp hI'
      simp only [frI_cons] at hf
      obtain ⟨f5, f6, f7, f8, f9, f10, f11, _⟩ := hf
      simp [↓w_eVar, ↓w_eC, ↓w_eUn, ↓w_eUnX, ↓w_eBin, ↓w_eM1, ↓w_oBin, ↓w_oUn, ↓w_eOfO, ↓w_eNil, ↓w_eCons, ↓w_eTup, ↓w_oLst, ↓w_eCall, ↓w_oCall, ↓w_cT, ↓w_cNot, ↓w_cAnd, ↓w_cOr, ↓w_cYes, ↓w_eAndV, ↓w_eOrV, ↓w_eNotV, ↓w_eIf, ↓w_eOwnIdx, ↓w_qNone, ↓w_qSome, ↓w_eCut, ↓w_oCut, ↓w_eChain, ↓w_iAny, ↓w_iRange1, ↓w_iRange2, ↓w_iRange3, ↓w_eCallS, ↓w_oComp, ↓w_bName, ↓w_bNil, ↓w_bCons, ↓w_bTup, ↓s_sNil, ↓s_sNever, ↓s_sBreak, ↓s_sCont, ↓s_sIf, ↓s_sDrop, ↓s_sRet, ↓s_sRetN, ↓s_sRetO, ↓s_sRetV, ↓s_sSet, ↓s_sSetO, ↓s_sUnpack, ↓s_sParD, ↓w_setD_nil, ↓w_setD_cons, ↓w_vDat, ↓w_vOwn, ↓s_sPar2, ↓s_sAppend, ↓s_sSetIx, ↓s_sFor, ↓ho_mA, ↓ho_mO, ↓ho_mB, frame, ↓seqO_nx, ↓seqO_rt, ↓seqO_bk, ↓seqO_ct, ↓lpO_nx, ↓lpO_rt, ↓lpO_bk, ↓lpO_ct, ↓wsF, ↓wlF, ↓whF, backR, wipeR, datSlot, strsD_signs, join_signs, sum_ones2, ↓w_eOwnBin, ownAt, ↓w_eP, ↓w_eBinX, ↓w_eTupleP, ↓w_iEnumD, ↓w_iZipD, ↓w_eOfM, ↓w_mNew, ↓w_mDisp, ↓w_mDispT, ↓s_sSetM, ↓w_vDic, ↓w_eGetV, ↓w_eGetXV, ↓w_cInV, ↓s_sPutV, ↓w_eGetX, ↓w_iKeysD, ↓w_iItemsD, lookM, ↓z_add_i, ↓z_add_s, ↓z_add_t, ↓z_sub, ↓z_mul_i, ↓z_mul_s, ↓z_div, ↓z_mod, ↓z_pow, ↓z_neg, ↓z_eq_i, ↓z_eq_s, ↓z_eq_b, ↓z_eq_l, ↓z_eq_t, ↓z_ne_i, ↓z_ne_s, ↓z_ne_b, ↓z_ne_l, ↓z_ne_t, ↓z_eq_ns, ↓z_eq_sn, ↓z_ne_ns, ↓z_ne_sn, ↓z_lt, ↓z_le, ↓z_gt, ↓z_ge, ↓z_idx_l, ↓z_idx_t, ↓z_idx_r, ↓z_idx_s, ↓z_len_s, ↓z_len_l, ↓z_len_t, ↓z_len_r, ↓z_abs, ↓z_min2, ↓z_max2, ↓z_int_i, ↓z_int_b, ↓z_cut_s, ↓z_cut_t, ↓z_gcut, ↓z_rev, ↓z_grev, ↓z_gadd, ↓z_gmul, ↓z_list_l, ↓z_list_t, ↓z_list_s, ↓z_tuple_l, ↓z_tuple_t, ↓z_all, ↓z_any, ↓z_sum, ↓z_maxl, ↓z_minl, ↓z_rfind, ↓z_join_l, ↓z_join_t, ↓z_in_s, ↓z_nin_s, ↓z_in_t, ↓z_nin_t, ↓z_in_l, ↓z_nin_l, ↓z_items_l, ↓z_items_t, ↓z_items_r, ↓z_items_s, ↓z_isi_s, ↓z_isi_i, ↓z_isi_b, ↓z_isi_n, ↓z_isi_l, ↓z_isi_t, ↓z_isi_r, ↓z_ty_s, ↓z_ty_i, ↓z_ty_b, ↓z_ty_n, ↓z_ty_l, ↓z_ty_t, ↓z_k_ss, ↓z_k_ii, ↓z_k_ib, ↓z_k_tt, ↓z_k_ll, flatD, pVar, ↓ho_ite, ↓z_lset_l, ↓z_lset_t, ↓z_rg2, ↓z_rg1, ↓z_is_nn, ↓z_is_tn, ↓z_is_ln, ↓z_is_sn, ↓z_is_in, ↓z_is_bb, ↓z_isn_nn, ↓z_isn_tn, ↓z_isn_ln, ↓z_isn_sn, ↓z_isn_in, ↓z_isn_bb, ↓z_ne_nn, ↓z_eq_nn, ↓z_k_bb, ↓z_seq_l, ↓z_zip_l, ↓z_zip_t, ↓z_ltD_i, ↓z_gtD_i, ↓z_leD_i, ↓z_geD_i, ↓z_ltD_s, ↓z_gtD_s, ↓z_ltD_t, ↓z_gtD_t, ↓z_mulT, ↓z_getD, ↓z_lenD, ↓z_keysL, ↓z_valsL, ↓z_sset_l, ↓z_sortD, ↓z_minDs, oN_free f5]
      rw [s_sSeq]
      simp [↓w_eVar, ↓w_eC, ↓w_eUn, ↓w_eUnX, ↓w_eBin, ↓w_eM1, ↓w_oBin, ↓w_oUn, ↓w_eOfO, ↓w_eNil, ↓w_eCons, ↓w_eTup, ↓w_oLst, ↓w_eCall, ↓w_oCall, ↓w_cT, ↓w_cNot, ↓w_cAnd, ↓w_cOr, ↓w_cYes, ↓w_eAndV, ↓w_eOrV, ↓w_eNotV, ↓w_eIf, ↓w_eOwnIdx, ↓w_qNone, ↓w_qSome, ↓w_eCut, ↓w_oCut, ↓w_eChain, ↓w_iAny, ↓w_iRange1, ↓w_iRange2, ↓w_iRange3, ↓w_eCallS, ↓w_oComp, ↓w_bName, ↓w_bNil, ↓w_bCons, ↓w_bTup, ↓s_sNil, ↓s_sNever, ↓s_sBreak, ↓s_sCont, ↓s_sIf, ↓s_sDrop, ↓s_sRet, ↓s_sRetN, ↓s_sRetO, ↓s_sRetV, ↓s_sSet, ↓s_sSetO, ↓s_sUnpack, ↓s_sParD, ↓w_setD_nil, ↓w_setD_cons, ↓w_vDat, ↓w_vOwn, ↓s_sPar2, ↓s_sAppend, ↓s_sSetIx, ↓s_sFor, ↓ho_mA, ↓ho_mO, ↓ho_mB, frame, ↓seqO_nx, ↓seqO_rt, ↓seqO_bk, ↓seqO_ct, ↓lpO_nx, ↓lpO_rt, ↓lpO_bk, ↓lpO_ct, ↓wsF, ↓wlF, ↓whF, backR, wipeR, datSlot, strsD_signs, join_signs, sum_ones2, ↓w_eOwnBin, ownAt, ↓w_eP, ↓w_eBinX, ↓w_eTupleP, ↓w_iEnumD, ↓w_iZipD, ↓w_eOfM, ↓w_mNew, ↓w_mDisp, ↓w_mDispT, ↓s_sSetM, ↓w_vDic, ↓w_eGetV, ↓w_eGetXV, ↓w_cInV, ↓s_sPutV, ↓w_eGetX, ↓w_iKeysD, ↓w_iItemsD, lookM, ↓z_add_i, ↓z_add_s, ↓z_add_t, ↓z_sub, ↓z_mul_i, ↓z_mul_s, ↓z_div, ↓z_mod, ↓z_pow, ↓z_neg, ↓z_eq_i, ↓z_eq_s, ↓z_eq_b, ↓z_eq_l, ↓z_eq_t, ↓z_ne_i, ↓z_ne_s, ↓z_ne_b, ↓z_ne_l, ↓z_ne_t, ↓z_eq_ns, ↓z_eq_sn, ↓z_ne_ns, ↓z_ne_sn, ↓z_lt, ↓z_le, ↓z_gt, ↓z_ge, ↓z_idx_l, ↓z_idx_t, ↓z_idx_r, ↓z_idx_s, ↓z_len_s, ↓z_len_l, ↓z_len_t, ↓z_len_r, ↓z_abs, ↓z_min2, ↓z_max2, ↓z_int_i, ↓z_int_b, ↓z_cut_s, ↓z_cut_t, ↓z_gcut, ↓z_rev, ↓z_grev, ↓z_gadd, ↓z_gmul, ↓z_list_l, ↓z_list_t, ↓z_list_s, ↓z_tuple_l, ↓z_tuple_t, ↓z_all, ↓z_any, ↓z_sum, ↓z_maxl, ↓z_minl, ↓z_rfind, ↓z_join_l, ↓z_join_t, ↓z_in_s, ↓z_nin_s, ↓z_in_t, ↓z_nin_t, ↓z_in_l, ↓z_nin_l, ↓z_items_l, ↓z_items_t, ↓z_items_r, ↓z_items_s, ↓z_isi_s, ↓z_isi_i, ↓z_isi_b, ↓z_isi_n, ↓z_isi_l, ↓z_isi_t, ↓z_isi_r, ↓z_ty_s, ↓z_ty_i, ↓z_ty_b, ↓z_ty_n, ↓z_ty_l, ↓z_ty_t, ↓z_k_ss, ↓z_k_ii, ↓z_k_ib, ↓z_k_tt, ↓z_k_ll, flatD, pVar, ↓ho_ite, ↓z_lset_l, ↓z_lset_t, ↓z_rg2, ↓z_rg1, ↓z_is_nn, ↓z_is_tn, ↓z_is_ln, ↓z_is_sn, ↓z_is_in, ↓z_is_bb, ↓z_isn_nn, ↓z_isn_tn, ↓z_isn_ln, ↓z_isn_sn, ↓z_isn_in, ↓z_isn_bb, ↓z_ne_nn, ↓z_eq_nn, ↓z_k_bb, ↓z_seq_l, ↓z_zip_l, ↓z_zip_t, ↓z_ltD_i, ↓z_gtD_i, ↓z_leD_i, ↓z_geD_i, ↓z_ltD_s, ↓z_gtD_s, ↓z_ltD_t, ↓z_gtD_t, ↓z_mulT, ↓z_getD, ↓z_lenD, ↓z_keysL, ↓z_valsL, ↓z_sset_l, ↓z_sortD, ↓z_minDs, ↓fz_way, ↓fz_text, ↓fz_draw]
      refine law_way hs fun way s1 hw h1 => ?_
      simp [↓w_eVar, ↓w_eC, ↓w_eUn, ↓w_eUnX, ↓w_eBin, ↓w_eM1, ↓w_oBin, ↓w_oUn, ↓w_eOfO, ↓w_eNil, ↓w_eCons, ↓w_eTup, ↓w_oLst, ↓w_eCall, ↓w_oCall, ↓w_cT, ↓w_cNot, ↓w_cAnd, ↓w_cOr, ↓w_cYes, ↓w_eAndV, ↓w_eOrV, ↓w_eNotV, ↓w_eIf, ↓w_eOwnIdx, ↓w_qNone, ↓w_qSome, ↓w_eCut, ↓w_oCut, ↓w_eChain, ↓w_iAny, ↓w_iRange1, ↓w_iRange2, ↓w_iRange3, ↓w_eCallS, ↓w_oComp, ↓w_bName, ↓w_bNil, ↓w_bCons, ↓w_bTup, ↓s_sNil, ↓s_sNever, ↓s_sBreak, ↓s_sCont, ↓s_sIf, ↓s_sDrop, ↓s_sRet, ↓s_sRetN, ↓s_sRetO, ↓s_sRetV, ↓s_sSet, ↓s_sSetO, ↓s_sUnpack, ↓s_sParD, ↓w_setD_nil, ↓w_setD_cons, ↓w_vDat, ↓w_vOwn, ↓s_sPar2, ↓s_sAppend, ↓s_sSetIx, ↓s_sFor, ↓ho_mA, ↓ho_mO, ↓ho_mB, frame, ↓seqO_nx, ↓seqO_rt, ↓seqO_bk, ↓seqO_ct, ↓lpO_nx, ↓lpO_rt, ↓lpO_bk, ↓lpO_ct, ↓wsF, ↓wlF, ↓whF, backR, wipeR, datSlot, strsD_signs, join_signs, sum_ones2, ↓w_eOwnBin, ownAt, ↓w_eP, ↓w_eBinX, ↓w_eTupleP, ↓w_iEnumD, ↓w_iZipD, ↓w_eOfM, ↓w_mNew, ↓w_mDisp, ↓w_mDispT, ↓s_sSetM, ↓w_vDic, ↓w_eGetV, ↓w_eGetXV, ↓w_cInV, ↓s_sPutV, ↓w_eGetX, ↓w_iKeysD, ↓w_iItemsD, lookM, ↓z_add_i, ↓z_add_s, ↓z_add_t, ↓z_sub, ↓z_mul_i, ↓z_mul_s, ↓z_div, ↓z_mod, ↓z_pow, ↓z_neg, ↓z_eq_i, ↓z_eq_s, ↓z_eq_b, ↓z_eq_l, ↓z_eq_t, ↓z_ne_i, ↓z_ne_s, ↓z_ne_b, ↓z_ne_l, ↓z_ne_t, ↓z_eq_ns, ↓z_eq_sn, ↓z_ne_ns, ↓z_ne_sn, ↓z_lt, ↓z_le, ↓z_gt, ↓z_ge, ↓z_idx_l, ↓z_idx_t, ↓z_idx_r, ↓z_idx_s, ↓z_len_s, ↓z_len_l, ↓z_len_t, ↓z_len_r, ↓z_abs, ↓z_min2, ↓z_max2, ↓z_int_i, ↓z_int_b, ↓z_cut_s, ↓z_cut_t, ↓z_gcut, ↓z_rev, ↓z_grev, ↓z_gadd, ↓z_gmul, ↓z_list_l, ↓z_list_t, ↓z_list_s, ↓z_tuple_l, ↓z_tuple_t, ↓z_all, ↓z_any, ↓z_sum, ↓z_maxl, ↓z_minl, ↓z_rfind, ↓z_join_l, ↓z_join_t, ↓z_in_s, ↓z_nin_s, ↓z_in_t, ↓z_nin_t, ↓z_in_l, ↓z_nin_l, ↓z_items_l, ↓z_items_t, ↓z_items_r, ↓z_items_s, ↓z_isi_s, ↓z_isi_i, ↓z_isi_b, ↓z_isi_n, ↓z_isi_l, ↓z_isi_t, ↓z_isi_r, ↓z_ty_s, ↓z_ty_i, ↓z_ty_b, ↓z_ty_n, ↓z_ty_l, ↓z_ty_t, ↓z_k_ss, ↓z_k_ii, ↓z_k_ib, ↓z_k_tt, ↓z_k_ll, flatD, pVar, ↓ho_ite, ↓z_lset_l, ↓z_lset_t, ↓z_rg2, ↓z_rg1, ↓z_is_nn, ↓z_is_tn, ↓z_is_ln, ↓z_is_sn, ↓z_is_in, ↓z_is_bb, ↓z_isn_nn, ↓z_isn_tn, ↓z_isn_ln, ↓z_isn_sn, ↓z_isn_in, ↓z_isn_bb, ↓z_ne_nn, ↓z_eq_nn, ↓z_k_bb, ↓z_seq_l, ↓z_zip_l, ↓z_zip_t, ↓z_ltD_i, ↓z_gtD_i, ↓z_leD_i, ↓z_geD_i, ↓z_ltD_s, ↓z_gtD_s, ↓z_ltD_t, ↓z_gtD_t, ↓z_mulT, ↓z_getD, ↓z_lenD, ↓z_keysL, ↓z_valsL, ↓z_sset_l, ↓z_sortD, ↓z_minDs, ↓fz_way, ↓fz_text, ↓fz_draw]
      refine law_text h1 (n := 40) (by omega) fun text s2' ht h2 => ?_
      obtain ⟨t, rfl, hl, ht⟩ := ht
      simp [↓w_eVar, ↓w_eC, ↓w_eUn, ↓w_eUnX, ↓w_eBin, ↓w_eM1, ↓w_oBin, ↓w_oUn, ↓w_eOfO, ↓w_eNil, ↓w_eCons, ↓w_eTup, ↓w_oLst, ↓w_eCall, ↓w_oCall, ↓w_cT, ↓w_cNot, ↓w_cAnd, ↓w_cOr, ↓w_cYes, ↓w_eAndV, ↓w_eOrV, ↓w_eNotV, ↓w_eIf, ↓w_eOwnIdx, ↓w_qNone, ↓w_qSome, ↓w_eCut, ↓w_oCut, ↓w_eChain, ↓w_iAny, ↓w_iRange1, ↓w_iRange2, ↓w_iRange3, ↓w_eCallS, ↓w_oComp, ↓w_bName, ↓w_bNil, ↓w_bCons, ↓w_bTup, ↓s_sNil, ↓s_sNever, ↓s_sBreak, ↓s_sCont, ↓s_sIf, ↓s_sDrop, ↓s_sRet, ↓s_sRetN, ↓s_sRetO, ↓s_sRetV, ↓s_sSet, ↓s_sSetO, ↓s_sUnpack, ↓s_sParD, ↓w_setD_nil, ↓w_setD_cons, ↓w_vDat, ↓w_vOwn, ↓s_sPar2, ↓s_sAppend, ↓s_sSetIx, ↓s_sFor, ↓ho_mA, ↓ho_mO, ↓ho_mB, frame, ↓seqO_nx, ↓seqO_rt, ↓seqO_bk, ↓seqO_ct, ↓lpO_nx, ↓lpO_rt, ↓lpO_bk, ↓lpO_ct, ↓wsF, ↓wlF, ↓whF, backR, wipeR, datSlot, strsD_signs, join_signs, sum_ones2, ↓w_eOwnBin, ownAt, ↓w_eP, ↓w_eBinX, ↓w_eTupleP, ↓w_iEnumD, ↓w_iZipD, ↓w_eOfM, ↓w_mNew, ↓w_mDisp, ↓w_mDispT, ↓s_sSetM, ↓w_vDic, ↓w_eGetV, ↓w_eGetXV, ↓w_cInV, ↓s_sPutV, ↓w_eGetX, ↓w_iKeysD, ↓w_iItemsD, lookM, ↓z_add_i, ↓z_add_s, ↓z_add_t, ↓z_sub, ↓z_mul_i, ↓z_mul_s, ↓z_div, ↓z_mod, ↓z_pow, ↓z_neg, ↓z_eq_i, ↓z_eq_s, ↓z_eq_b, ↓z_eq_l, ↓z_eq_t, ↓z_ne_i, ↓z_ne_s, ↓z_ne_b, ↓z_ne_l, ↓z_ne_t, ↓z_eq_ns, ↓z_eq_sn, ↓z_ne_ns, ↓z_ne_sn, ↓z_lt, ↓z_le, ↓z_gt, ↓z_ge, ↓z_idx_l, ↓z_idx_t, ↓z_idx_r, ↓z_idx_s, ↓z_len_s, ↓z_len_l, ↓z_len_t, ↓z_len_r, ↓z_abs, ↓z_min2, ↓z_max2, ↓z_int_i, ↓z_int_b, ↓z_cut_s, ↓z_cut_t, ↓z_gcut, ↓z_rev, ↓z_grev, ↓z_gadd, ↓z_gmul, ↓z_list_l, ↓z_list_t, ↓z_list_s, ↓z_tuple_l, ↓z_tuple_t, ↓z_all, ↓z_any, ↓z_sum, ↓z_maxl, ↓z_minl, ↓z_rfind, ↓z_join_l, ↓z_join_t, ↓z_in_s, ↓z_nin_s, ↓z_in_t, ↓z_nin_t, ↓z_in_l, ↓z_nin_l, ↓z_items_l, ↓z_items_t, ↓z_items_r, ↓z_items_s, ↓z_isi_s, ↓z_isi_i, ↓z_isi_b, ↓z_isi_n, ↓z_isi_l, ↓z_isi_t, ↓z_isi_r, ↓z_ty_s, ↓z_ty_i, ↓z_ty_b, ↓z_ty_n, ↓z_ty_l, ↓z_ty_t, ↓z_k_ss, ↓z_k_ii, ↓z_k_ib, ↓z_k_tt, ↓z_k_ll, flatD, pVar, ↓ho_ite, ↓z_lset_l, ↓z_lset_t, ↓z_rg2, ↓z_rg1, ↓z_is_nn, ↓z_is_tn, ↓z_is_ln, ↓z_is_sn, ↓z_is_in, ↓z_is_bb, ↓z_isn_nn, ↓z_isn_tn, ↓z_isn_ln, ↓z_isn_sn, ↓z_isn_in, ↓z_isn_bb, ↓z_ne_nn, ↓z_eq_nn, ↓z_k_bb, ↓z_seq_l, ↓z_zip_l, ↓z_zip_t, ↓z_ltD_i, ↓z_gtD_i, ↓z_leD_i, ↓z_geD_i, ↓z_ltD_s, ↓z_gtD_s, ↓z_ltD_t, ↓z_gtD_t, ↓z_mulT, ↓z_getD, ↓z_lenD, ↓z_keysL, ↓z_valsL, ↓z_sset_l, ↓z_sortD, ↓z_minDs, oN_free f6, oN_free f7]
      rw [s_sSeq]
      simp [↓w_eVar, ↓w_eC, ↓w_eUn, ↓w_eUnX, ↓w_eBin, ↓w_eM1, ↓w_oBin, ↓w_oUn, ↓w_eOfO, ↓w_eNil, ↓w_eCons, ↓w_eTup, ↓w_oLst, ↓w_eCall, ↓w_oCall, ↓w_cT, ↓w_cNot, ↓w_cAnd, ↓w_cOr, ↓w_cYes, ↓w_eAndV, ↓w_eOrV, ↓w_eNotV, ↓w_eIf, ↓w_eOwnIdx, ↓w_qNone, ↓w_qSome, ↓w_eCut, ↓w_oCut, ↓w_eChain, ↓w_iAny, ↓w_iRange1, ↓w_iRange2, ↓w_iRange3, ↓w_eCallS, ↓w_oComp, ↓w_bName, ↓w_bNil, ↓w_bCons, ↓w_bTup, ↓s_sNil, ↓s_sNever, ↓s_sBreak, ↓s_sCont, ↓s_sIf, ↓s_sDrop, ↓s_sRet, ↓s_sRetN, ↓s_sRetO, ↓s_sRetV, ↓s_sSet, ↓s_sSetO, ↓s_sUnpack, ↓s_sParD, ↓w_setD_nil, ↓w_setD_cons, ↓w_vDat, ↓w_vOwn, ↓s_sPar2, ↓s_sAppend, ↓s_sSetIx, ↓s_sFor, ↓ho_mA, ↓ho_mO, ↓ho_mB, frame, ↓seqO_nx, ↓seqO_rt, ↓seqO_bk, ↓seqO_ct, ↓lpO_nx, ↓lpO_rt, ↓lpO_bk, ↓lpO_ct, ↓wsF, ↓wlF, ↓whF, backR, wipeR, datSlot, strsD_signs, join_signs, sum_ones2, ↓w_eOwnBin, ownAt, ↓w_eP, ↓w_eBinX, ↓w_eTupleP, ↓w_iEnumD, ↓w_iZipD, ↓w_eOfM, ↓w_mNew, ↓w_mDisp, ↓w_mDispT, ↓s_sSetM, ↓w_vDic, ↓w_eGetV, ↓w_eGetXV, ↓w_cInV, ↓s_sPutV, ↓w_eGetX, ↓w_iKeysD, ↓w_iItemsD, lookM, ↓z_add_i, ↓z_add_s, ↓z_add_t, ↓z_sub, ↓z_mul_i, ↓z_mul_s, ↓z_div, ↓z_mod, ↓z_pow, ↓z_neg, ↓z_eq_i, ↓z_eq_s, ↓z_eq_b, ↓z_eq_l, ↓z_eq_t, ↓z_ne_i, ↓z_ne_s, ↓z_ne_b, ↓z_ne_l, ↓z_ne_t, ↓z_eq_ns, ↓z_eq_sn, ↓z_ne_ns, ↓z_ne_sn, ↓z_lt, ↓z_le, ↓z_gt, ↓z_ge, ↓z_idx_l, ↓z_idx_t, ↓z_idx_r, ↓z_idx_s, ↓z_len_s, ↓z_len_l, ↓z_len_t, ↓z_len_r, ↓z_abs, ↓z_min2, ↓z_max2, ↓z_int_i, ↓z_int_b, ↓z_cut_s, ↓z_cut_t, ↓z_gcut, ↓z_rev, ↓z_grev, ↓z_gadd, ↓z_gmul, ↓z_list_l, ↓z_list_t, ↓z_list_s, ↓z_tuple_l, ↓z_tuple_t, ↓z_all, ↓z_any, ↓z_sum, ↓z_maxl, ↓z_minl, ↓z_rfind, ↓z_join_l, ↓z_join_t, ↓z_in_s, ↓z_nin_s, ↓z_in_t, ↓z_nin_t, ↓z_in_l, ↓z_nin_l, ↓z_items_l, ↓z_items_t, ↓z_items_r, ↓z_items_s, ↓z_isi_s, ↓z_isi_i, ↓z_isi_b, ↓z_isi_n, ↓z_isi_l, ↓z_isi_t, ↓z_isi_r, ↓z_ty_s, ↓z_ty_i, ↓z_ty_b, ↓z_ty_n, ↓z_ty_l, ↓z_ty_t, ↓z_k_ss, ↓z_k_ii, ↓z_k_ib, ↓z_k_tt, ↓z_k_ll, flatD, pVar, ↓ho_ite, ↓z_lset_l, ↓z_lset_t, ↓z_rg2, ↓z_rg1, ↓z_is_nn, ↓z_is_tn, ↓z_is_ln, ↓z_is_sn, ↓z_is_in, ↓z_is_bb, ↓z_isn_nn, ↓z_isn_tn, ↓z_isn_ln, ↓z_isn_sn, ↓z_isn_in, ↓z_isn_bb, ↓z_ne_nn, ↓z_eq_nn, ↓z_k_bb, ↓z_seq_l, ↓z_zip_l, ↓z_zip_t, ↓z_ltD_i, ↓z_gtD_i, ↓z_leD_i, ↓z_geD_i, ↓z_ltD_s, ↓z_gtD_s, ↓z_ltD_t, ↓z_gtD_t, ↓z_mulT, ↓z_getD, ↓z_lenD, ↓z_keysL, ↓z_valsL, ↓z_sset_l, ↓z_sortD, ↓z_minDs, ↓fz_way, ↓fz_text, ↓fz_draw]
      refine law_draw h2 (by omega) (by omega) fun r s3' k1 k2 h3 => ?_
      obtain ⟨w, rfl⟩ : ∃ w : Nat, r = w := ⟨r.toNat, by omega⟩
      have hw40 : w ≤ 40 := by omega
      obtain ⟨p, u, e, m, rfl, hp, hu, he, hm⟩ := hw
      have hw : Way (.tup [.str p, .str u, .str e, .str m]) := ⟨_, _, _, _, rfl, hp, hu, he, hm⟩
      have hm1 : m.length ≤ 1 := by rcases hm with rfl | rfl | rfl <;> simp
      have hmr : m.map (ren a b c) = m := by rcases hm with rfl | rfl | rfl <;> simp [ren]
      have hl2 : t.length ≤ lim := by unfold lim; omega
      have htn : ∀ x, x ∈ t.map (ren a b c) → isSign x := fun x hx => by
        obtain ⟨y, hy, rfl⟩ := List.mem_map.mp hx
        exact ren_sign habc (ht y hy)
      have htr : ∀ c, c ∈ t.reverse → isSign c := fun c hc => ht c (by simpa using hc)
      have zl : (shw p u e m t w).length ≤ 40 := by have := shw_len (p := p) (u := u) (e := e) (m := m) (t := t) (w := w); omega
      have zs : ∀ c, c ∈ shw p u e m t w → isSign c := fun c hc => by
        rcases shw_mem hc with y | y
        · exact ht c y
        · rcases hm with rfl | rfl | rfl <;> simp at y <;> subst y <;> simp [isSign]
      have tl : (tail t).length ≤ 40 := by have := (tail_len (t := t)).1; omega
      have ts : ∀ c, c ∈ tail t → isSign c := fun c hc => ht c (tail_mem hc)
      have e1 : m__law_named [.dct ksN (vsN a b c), .str t] = some (.str (t.map (ren a b c))) := law_named_eq hl ht
      have e2 : m_shown [.tup [.str p, .str u, .str e, .str m], .str (t.map (ren a b c)), .int w] = some (.str ((shw p u e m t w).map (ren a b c))) := by
        rw [shown_eq hw (by simpa using hl) htn hw40, R.shw hmr]
      have e3 : m_shown [.tup [.str p, .str u, .str e, .str m], .str t, .int w] = some (.str (shw p u e m t w)) := shown_eq hw hl ht hw40
      have e4 : m__law_named [.dct ksN (vsN a b c), .str (shw p u e m t w)] = some (.str ((shw p u e m t w).map (ren a b c))) := law_named_eq zl zs
      have e5 : m_ending [.str (t.map (ren a b c))] = some (.str ((tail t).map (ren a b c))) := by rw [ending_out (by simpa using hl) htn, R.tail]
      have e6 : m_ending [.str t] = some (.str (tail t)) := ending_out hl ht
      have e7 : m__law_named [.dct ksN (vsN a b c), .str (tail t)] = some (.str ((tail t).map (ren a b c))) := law_named_eq tl ts
      simp [↓w_eVar, ↓w_eC, ↓w_eUn, ↓w_eUnX, ↓w_eBin, ↓w_eM1, ↓w_oBin, ↓w_oUn, ↓w_eOfO, ↓w_eNil, ↓w_eCons, ↓w_eTup, ↓w_oLst, ↓w_eCall, ↓w_oCall, ↓w_cT, ↓w_cNot, ↓w_cAnd, ↓w_cOr, ↓w_cYes, ↓w_eAndV, ↓w_eOrV, ↓w_eNotV, ↓w_eIf, ↓w_eOwnIdx, ↓w_qNone, ↓w_qSome, ↓w_eCut, ↓w_oCut, ↓w_eChain, ↓w_iAny, ↓w_iRange1, ↓w_iRange2, ↓w_iRange3, ↓w_eCallS, ↓w_oComp, ↓w_bName, ↓w_bNil, ↓w_bCons, ↓w_bTup, ↓s_sNil, ↓s_sNever, ↓s_sBreak, ↓s_sCont, ↓s_sIf, ↓s_sDrop, ↓s_sRet, ↓s_sRetN, ↓s_sRetO, ↓s_sRetV, ↓s_sSet, ↓s_sSetO, ↓s_sUnpack, ↓s_sParD, ↓w_setD_nil, ↓w_setD_cons, ↓w_vDat, ↓w_vOwn, ↓s_sPar2, ↓s_sAppend, ↓s_sSetIx, ↓s_sFor, ↓ho_mA, ↓ho_mO, ↓ho_mB, frame, ↓seqO_nx, ↓seqO_rt, ↓seqO_bk, ↓seqO_ct, ↓lpO_nx, ↓lpO_rt, ↓lpO_bk, ↓lpO_ct, ↓wsF, ↓wlF, ↓whF, backR, wipeR, datSlot, strsD_signs, join_signs, sum_ones2, ↓w_eOwnBin, ownAt, ↓w_eP, ↓w_eBinX, ↓w_eTupleP, ↓w_iEnumD, ↓w_iZipD, ↓w_eOfM, ↓w_mNew, ↓w_mDisp, ↓w_mDispT, ↓s_sSetM, ↓w_vDic, ↓w_eGetV, ↓w_eGetXV, ↓w_cInV, ↓s_sPutV, ↓w_eGetX, ↓w_iKeysD, ↓w_iItemsD, lookM, ↓z_add_i, ↓z_add_s, ↓z_add_t, ↓z_sub, ↓z_mul_i, ↓z_mul_s, ↓z_div, ↓z_mod, ↓z_pow, ↓z_neg, ↓z_eq_i, ↓z_eq_s, ↓z_eq_b, ↓z_eq_l, ↓z_eq_t, ↓z_ne_i, ↓z_ne_s, ↓z_ne_b, ↓z_ne_l, ↓z_ne_t, ↓z_eq_ns, ↓z_eq_sn, ↓z_ne_ns, ↓z_ne_sn, ↓z_lt, ↓z_le, ↓z_gt, ↓z_ge, ↓z_idx_l, ↓z_idx_t, ↓z_idx_r, ↓z_idx_s, ↓z_len_s, ↓z_len_l, ↓z_len_t, ↓z_len_r, ↓z_abs, ↓z_min2, ↓z_max2, ↓z_int_i, ↓z_int_b, ↓z_cut_s, ↓z_cut_t, ↓z_gcut, ↓z_rev, ↓z_grev, ↓z_gadd, ↓z_gmul, ↓z_list_l, ↓z_list_t, ↓z_list_s, ↓z_tuple_l, ↓z_tuple_t, ↓z_all, ↓z_any, ↓z_sum, ↓z_maxl, ↓z_minl, ↓z_rfind, ↓z_join_l, ↓z_join_t, ↓z_in_s, ↓z_nin_s, ↓z_in_t, ↓z_nin_t, ↓z_in_l, ↓z_nin_l, ↓z_items_l, ↓z_items_t, ↓z_items_r, ↓z_items_s, ↓z_isi_s, ↓z_isi_i, ↓z_isi_b, ↓z_isi_n, ↓z_isi_l, ↓z_isi_t, ↓z_isi_r, ↓z_ty_s, ↓z_ty_i, ↓z_ty_b, ↓z_ty_n, ↓z_ty_l, ↓z_ty_t, ↓z_k_ss, ↓z_k_ii, ↓z_k_ib, ↓z_k_tt, ↓z_k_ll, flatD, pVar, ↓ho_ite, ↓z_lset_l, ↓z_lset_t, ↓z_rg2, ↓z_rg1, ↓z_is_nn, ↓z_is_tn, ↓z_is_ln, ↓z_is_sn, ↓z_is_in, ↓z_is_bb, ↓z_isn_nn, ↓z_isn_tn, ↓z_isn_ln, ↓z_isn_sn, ↓z_isn_in, ↓z_isn_bb, ↓z_ne_nn, ↓z_eq_nn, ↓z_k_bb, ↓z_seq_l, ↓z_zip_l, ↓z_zip_t, ↓z_ltD_i, ↓z_gtD_i, ↓z_leD_i, ↓z_geD_i, ↓z_ltD_s, ↓z_gtD_s, ↓z_ltD_t, ↓z_gtD_t, ↓z_mulT, ↓z_getD, ↓z_lenD, ↓z_keysL, ↓z_valsL, ↓z_sset_l, ↓z_sortD, ↓z_minDs, oN_free f8]
      rw [s_sSeq]
      simp [↓w_eVar, ↓w_eC, ↓w_eUn, ↓w_eUnX, ↓w_eBin, ↓w_eM1, ↓w_oBin, ↓w_oUn, ↓w_eOfO, ↓w_eNil, ↓w_eCons, ↓w_eTup, ↓w_oLst, ↓w_eCall, ↓w_oCall, ↓w_cT, ↓w_cNot, ↓w_cAnd, ↓w_cOr, ↓w_cYes, ↓w_eAndV, ↓w_eOrV, ↓w_eNotV, ↓w_eIf, ↓w_eOwnIdx, ↓w_qNone, ↓w_qSome, ↓w_eCut, ↓w_oCut, ↓w_eChain, ↓w_iAny, ↓w_iRange1, ↓w_iRange2, ↓w_iRange3, ↓w_eCallS, ↓w_oComp, ↓w_bName, ↓w_bNil, ↓w_bCons, ↓w_bTup, ↓s_sNil, ↓s_sNever, ↓s_sBreak, ↓s_sCont, ↓s_sIf, ↓s_sDrop, ↓s_sRet, ↓s_sRetN, ↓s_sRetO, ↓s_sRetV, ↓s_sSet, ↓s_sSetO, ↓s_sUnpack, ↓s_sParD, ↓w_setD_nil, ↓w_setD_cons, ↓w_vDat, ↓w_vOwn, ↓s_sPar2, ↓s_sAppend, ↓s_sSetIx, ↓s_sFor, ↓ho_mA, ↓ho_mO, ↓ho_mB, frame, ↓seqO_nx, ↓seqO_rt, ↓seqO_bk, ↓seqO_ct, ↓lpO_nx, ↓lpO_rt, ↓lpO_bk, ↓lpO_ct, ↓wsF, ↓wlF, ↓whF, backR, wipeR, datSlot, strsD_signs, join_signs, sum_ones2, ↓w_eOwnBin, ownAt, ↓w_eP, ↓w_eBinX, ↓w_eTupleP, ↓w_iEnumD, ↓w_iZipD, ↓w_eOfM, ↓w_mNew, ↓w_mDisp, ↓w_mDispT, ↓s_sSetM, ↓w_vDic, ↓w_eGetV, ↓w_eGetXV, ↓w_cInV, ↓s_sPutV, ↓w_eGetX, ↓w_iKeysD, ↓w_iItemsD, lookM, ↓z_add_i, ↓z_add_s, ↓z_add_t, ↓z_sub, ↓z_mul_i, ↓z_mul_s, ↓z_div, ↓z_mod, ↓z_pow, ↓z_neg, ↓z_eq_i, ↓z_eq_s, ↓z_eq_b, ↓z_eq_l, ↓z_eq_t, ↓z_ne_i, ↓z_ne_s, ↓z_ne_b, ↓z_ne_l, ↓z_ne_t, ↓z_eq_ns, ↓z_eq_sn, ↓z_ne_ns, ↓z_ne_sn, ↓z_lt, ↓z_le, ↓z_gt, ↓z_ge, ↓z_idx_l, ↓z_idx_t, ↓z_idx_r, ↓z_idx_s, ↓z_len_s, ↓z_len_l, ↓z_len_t, ↓z_len_r, ↓z_abs, ↓z_min2, ↓z_max2, ↓z_int_i, ↓z_int_b, ↓z_cut_s, ↓z_cut_t, ↓z_gcut, ↓z_rev, ↓z_grev, ↓z_gadd, ↓z_gmul, ↓z_list_l, ↓z_list_t, ↓z_list_s, ↓z_tuple_l, ↓z_tuple_t, ↓z_all, ↓z_any, ↓z_sum, ↓z_maxl, ↓z_minl, ↓z_rfind, ↓z_join_l, ↓z_join_t, ↓z_in_s, ↓z_nin_s, ↓z_in_t, ↓z_nin_t, ↓z_in_l, ↓z_nin_l, ↓z_items_l, ↓z_items_t, ↓z_items_r, ↓z_items_s, ↓z_isi_s, ↓z_isi_i, ↓z_isi_b, ↓z_isi_n, ↓z_isi_l, ↓z_isi_t, ↓z_isi_r, ↓z_ty_s, ↓z_ty_i, ↓z_ty_b, ↓z_ty_n, ↓z_ty_l, ↓z_ty_t, ↓z_k_ss, ↓z_k_ii, ↓z_k_ib, ↓z_k_tt, ↓z_k_ll, flatD, pVar, ↓ho_ite, ↓z_lset_l, ↓z_lset_t, ↓z_rg2, ↓z_rg1, ↓z_is_nn, ↓z_is_tn, ↓z_is_ln, ↓z_is_sn, ↓z_is_in, ↓z_is_bb, ↓z_isn_nn, ↓z_isn_tn, ↓z_isn_ln, ↓z_isn_sn, ↓z_isn_in, ↓z_isn_bb, ↓z_ne_nn, ↓z_eq_nn, ↓z_k_bb, ↓z_seq_l, ↓z_zip_l, ↓z_zip_t, ↓z_ltD_i, ↓z_gtD_i, ↓z_leD_i, ↓z_geD_i, ↓z_ltD_s, ↓z_gtD_s, ↓z_ltD_t, ↓z_gtD_t, ↓z_mulT, ↓z_getD, ↓z_lenD, ↓z_keysL, ↓z_valsL, ↓z_sset_l, ↓z_sortD, ↓z_minDs, ↓w_let hM, ↓w_let (MSl.dat (ks := ksN) (vs := vsN a b c)), e1, e2, e3, e4]
      rw [s_sSeq]
      simp [↓w_eVar, ↓w_eC, ↓w_eUn, ↓w_eUnX, ↓w_eBin, ↓w_eM1, ↓w_oBin, ↓w_oUn, ↓w_eOfO, ↓w_eNil, ↓w_eCons, ↓w_eTup, ↓w_oLst, ↓w_eCall, ↓w_oCall, ↓w_cT, ↓w_cNot, ↓w_cAnd, ↓w_cOr, ↓w_cYes, ↓w_eAndV, ↓w_eOrV, ↓w_eNotV, ↓w_eIf, ↓w_eOwnIdx, ↓w_qNone, ↓w_qSome, ↓w_eCut, ↓w_oCut, ↓w_eChain, ↓w_iAny, ↓w_iRange1, ↓w_iRange2, ↓w_iRange3, ↓w_eCallS, ↓w_oComp, ↓w_bName, ↓w_bNil, ↓w_bCons, ↓w_bTup, ↓s_sNil, ↓s_sNever, ↓s_sBreak, ↓s_sCont, ↓s_sIf, ↓s_sDrop, ↓s_sRet, ↓s_sRetN, ↓s_sRetO, ↓s_sRetV, ↓s_sSet, ↓s_sSetO, ↓s_sUnpack, ↓s_sParD, ↓w_setD_nil, ↓w_setD_cons, ↓w_vDat, ↓w_vOwn, ↓s_sPar2, ↓s_sAppend, ↓s_sSetIx, ↓s_sFor, ↓ho_mA, ↓ho_mO, ↓ho_mB, frame, ↓seqO_nx, ↓seqO_rt, ↓seqO_bk, ↓seqO_ct, ↓lpO_nx, ↓lpO_rt, ↓lpO_bk, ↓lpO_ct, ↓wsF, ↓wlF, ↓whF, backR, wipeR, datSlot, strsD_signs, join_signs, sum_ones2, ↓w_eOwnBin, ownAt, ↓w_eP, ↓w_eBinX, ↓w_eTupleP, ↓w_iEnumD, ↓w_iZipD, ↓w_eOfM, ↓w_mNew, ↓w_mDisp, ↓w_mDispT, ↓s_sSetM, ↓w_vDic, ↓w_eGetV, ↓w_eGetXV, ↓w_cInV, ↓s_sPutV, ↓w_eGetX, ↓w_iKeysD, ↓w_iItemsD, lookM, ↓z_add_i, ↓z_add_s, ↓z_add_t, ↓z_sub, ↓z_mul_i, ↓z_mul_s, ↓z_div, ↓z_mod, ↓z_pow, ↓z_neg, ↓z_eq_i, ↓z_eq_s, ↓z_eq_b, ↓z_eq_l, ↓z_eq_t, ↓z_ne_i, ↓z_ne_s, ↓z_ne_b, ↓z_ne_l, ↓z_ne_t, ↓z_eq_ns, ↓z_eq_sn, ↓z_ne_ns, ↓z_ne_sn, ↓z_lt, ↓z_le, ↓z_gt, ↓z_ge, ↓z_idx_l, ↓z_idx_t, ↓z_idx_r, ↓z_idx_s, ↓z_len_s, ↓z_len_l, ↓z_len_t, ↓z_len_r, ↓z_abs, ↓z_min2, ↓z_max2, ↓z_int_i, ↓z_int_b, ↓z_cut_s, ↓z_cut_t, ↓z_gcut, ↓z_rev, ↓z_grev, ↓z_gadd, ↓z_gmul, ↓z_list_l, ↓z_list_t, ↓z_list_s, ↓z_tuple_l, ↓z_tuple_t, ↓z_all, ↓z_any, ↓z_sum, ↓z_maxl, ↓z_minl, ↓z_rfind, ↓z_join_l, ↓z_join_t, ↓z_in_s, ↓z_nin_s, ↓z_in_t, ↓z_nin_t, ↓z_in_l, ↓z_nin_l, ↓z_items_l, ↓z_items_t, ↓z_items_r, ↓z_items_s, ↓z_isi_s, ↓z_isi_i, ↓z_isi_b, ↓z_isi_n, ↓z_isi_l, ↓z_isi_t, ↓z_isi_r, ↓z_ty_s, ↓z_ty_i, ↓z_ty_b, ↓z_ty_n, ↓z_ty_l, ↓z_ty_t, ↓z_k_ss, ↓z_k_ii, ↓z_k_ib, ↓z_k_tt, ↓z_k_ll, flatD, pVar, ↓ho_ite, ↓z_lset_l, ↓z_lset_t, ↓z_rg2, ↓z_rg1, ↓z_is_nn, ↓z_is_tn, ↓z_is_ln, ↓z_is_sn, ↓z_is_in, ↓z_is_bb, ↓z_isn_nn, ↓z_isn_tn, ↓z_isn_ln, ↓z_isn_sn, ↓z_isn_in, ↓z_isn_bb, ↓z_ne_nn, ↓z_eq_nn, ↓z_k_bb, ↓z_seq_l, ↓z_zip_l, ↓z_zip_t, ↓z_ltD_i, ↓z_gtD_i, ↓z_leD_i, ↓z_geD_i, ↓z_ltD_s, ↓z_gtD_s, ↓z_ltD_t, ↓z_gtD_t, ↓z_mulT, ↓z_getD, ↓z_lenD, ↓z_keysL, ↓z_valsL, ↓z_sset_l, ↓z_sortD, ↓z_minDs, ↓w_let (MSl.dat (ks := ksN) (vs := vsN a b c)), e1, e5, e6, e7]
      rw [s_sSeq]
      simp [↓w_eVar, ↓w_eC, ↓w_eUn, ↓w_eUnX, ↓w_eBin, ↓w_eM1, ↓w_oBin, ↓w_oUn, ↓w_eOfO, ↓w_eNil, ↓w_eCons, ↓w_eTup, ↓w_oLst, ↓w_eCall, ↓w_oCall, ↓w_cT, ↓w_cNot, ↓w_cAnd, ↓w_cOr, ↓w_cYes, ↓w_eAndV, ↓w_eOrV, ↓w_eNotV, ↓w_eIf, ↓w_eOwnIdx, ↓w_qNone, ↓w_qSome, ↓w_eCut, ↓w_oCut, ↓w_eChain, ↓w_iAny, ↓w_iRange1, ↓w_iRange2, ↓w_iRange3, ↓w_eCallS, ↓w_oComp, ↓w_bName, ↓w_bNil, ↓w_bCons, ↓w_bTup, ↓s_sNil, ↓s_sNever, ↓s_sBreak, ↓s_sCont, ↓s_sIf, ↓s_sDrop, ↓s_sRet, ↓s_sRetN, ↓s_sRetO, ↓s_sRetV, ↓s_sSet, ↓s_sSetO, ↓s_sUnpack, ↓s_sParD, ↓w_setD_nil, ↓w_setD_cons, ↓w_vDat, ↓w_vOwn, ↓s_sPar2, ↓s_sAppend, ↓s_sSetIx, ↓s_sFor, ↓ho_mA, ↓ho_mO, ↓ho_mB, frame, ↓seqO_nx, ↓seqO_rt, ↓seqO_bk, ↓seqO_ct, ↓lpO_nx, ↓lpO_rt, ↓lpO_bk, ↓lpO_ct, ↓wsF, ↓wlF, ↓whF, backR, wipeR, datSlot, strsD_signs, join_signs, sum_ones2, ↓w_eOwnBin, ownAt, ↓w_eP, ↓w_eBinX, ↓w_eTupleP, ↓w_iEnumD, ↓w_iZipD, ↓w_eOfM, ↓w_mNew, ↓w_mDisp, ↓w_mDispT, ↓s_sSetM, ↓w_vDic, ↓w_eGetV, ↓w_eGetXV, ↓w_cInV, ↓s_sPutV, ↓w_eGetX, ↓w_iKeysD, ↓w_iItemsD, lookM, ↓z_add_i, ↓z_add_s, ↓z_add_t, ↓z_sub, ↓z_mul_i, ↓z_mul_s, ↓z_div, ↓z_mod, ↓z_pow, ↓z_neg, ↓z_eq_i, ↓z_eq_s, ↓z_eq_b, ↓z_eq_l, ↓z_eq_t, ↓z_ne_i, ↓z_ne_s, ↓z_ne_b, ↓z_ne_l, ↓z_ne_t, ↓z_eq_ns, ↓z_eq_sn, ↓z_ne_ns, ↓z_ne_sn, ↓z_lt, ↓z_le, ↓z_gt, ↓z_ge, ↓z_idx_l, ↓z_idx_t, ↓z_idx_r, ↓z_idx_s, ↓z_len_s, ↓z_len_l, ↓z_len_t, ↓z_len_r, ↓z_abs, ↓z_min2, ↓z_max2, ↓z_int_i, ↓z_int_b, ↓z_cut_s, ↓z_cut_t, ↓z_gcut, ↓z_rev, ↓z_grev, ↓z_gadd, ↓z_gmul, ↓z_list_l, ↓z_list_t, ↓z_list_s, ↓z_tuple_l, ↓z_tuple_t, ↓z_all, ↓z_any, ↓z_sum, ↓z_maxl, ↓z_minl, ↓z_rfind, ↓z_join_l, ↓z_join_t, ↓z_in_s, ↓z_nin_s, ↓z_in_t, ↓z_nin_t, ↓z_in_l, ↓z_nin_l, ↓z_items_l, ↓z_items_t, ↓z_items_r, ↓z_items_s, ↓z_isi_s, ↓z_isi_i, ↓z_isi_b, ↓z_isi_n, ↓z_isi_l, ↓z_isi_t, ↓z_isi_r, ↓z_ty_s, ↓z_ty_i, ↓z_ty_b, ↓z_ty_n, ↓z_ty_l, ↓z_ty_t, ↓z_k_ss, ↓z_k_ii, ↓z_k_ib, ↓z_k_tt, ↓z_k_ll, flatD, pVar, ↓ho_ite, ↓z_lset_l, ↓z_lset_t, ↓z_rg2, ↓z_rg1, ↓z_is_nn, ↓z_is_tn, ↓z_is_ln, ↓z_is_sn, ↓z_is_in, ↓z_is_bb, ↓z_isn_nn, ↓z_isn_tn, ↓z_isn_ln, ↓z_isn_sn, ↓z_isn_in, ↓z_isn_bb, ↓z_ne_nn, ↓z_eq_nn, ↓z_k_bb, ↓z_seq_l, ↓z_zip_l, ↓z_zip_t, ↓z_ltD_i, ↓z_gtD_i, ↓z_leD_i, ↓z_geD_i, ↓z_ltD_s, ↓z_gtD_s, ↓z_ltD_t, ↓z_gtD_t, ↓z_mulT, ↓z_getD, ↓z_lenD, ↓z_keysL, ↓z_valsL, ↓z_sset_l, ↓z_sortD, ↓z_minDs, oN_free f9, oN_free f10, show atI [D.str p, .str u, .str e, .str m] 1 = some (.str u) from rfl, show atI [D.str p, .str u, .str e, .str m] 3 = some (.str m) from rfl]
      have we : Way (.tup [.str [101, 110, 100], .str u, .str [100, 114, 111, 112], .str m]) := ⟨_, _, _, _, rfl, by simp, hu, by simp, hm⟩
      have wst : Way (.tup [.str [115, 116, 97, 114, 116], .str u, .str [100, 114, 111, 112], .str m]) := ⟨_, _, _, _, rfl, by simp, hu, by simp, hm⟩
      have a1 : m_shown [.tup [.str [115, 116, 97, 114, 116], .str u, .str [100, 114, 111, 112], .str m], .str t.reverse, .int w] = some (.str (shw [101, 110, 100] u [100, 114, 111, 112] m t w).reverse) := by
        rw [shown_eq wst (by simpa using hl) htr hw40, shw_turn hm1]
      have a2 : m_shown [.tup [.str [101, 110, 100], .str u, .str [100, 114, 111, 112], .str m], .str t, .int w] = some (.str (shw [101, 110, 100] u [100, 114, 111, 112] m t w)) := shown_eq we hl ht hw40
      have lenE : (shw [101, 110, 100] u [100, 114, 111, 112] m t w).length ≤ lim := by have := shw_len (p := [101, 110, 100]) (u := u) (e := [100, 114, 111, 112]) (m := m) (t := t) (w := w); unfold lim; omega
      rw [s_sSeq]
      simp [↓w_eVar, ↓w_eC, ↓w_eUn, ↓w_eUnX, ↓w_eBin, ↓w_eM1, ↓w_oBin, ↓w_oUn, ↓w_eOfO, ↓w_eNil, ↓w_eCons, ↓w_eTup, ↓w_oLst, ↓w_eCall, ↓w_oCall, ↓w_cT, ↓w_cNot, ↓w_cAnd, ↓w_cOr, ↓w_cYes, ↓w_eAndV, ↓w_eOrV, ↓w_eNotV, ↓w_eIf, ↓w_eOwnIdx, ↓w_qNone, ↓w_qSome, ↓w_eCut, ↓w_oCut, ↓w_eChain, ↓w_iAny, ↓w_iRange1, ↓w_iRange2, ↓w_iRange3, ↓w_eCallS, ↓w_oComp, ↓w_bName, ↓w_bNil, ↓w_bCons, ↓w_bTup, ↓s_sNil, ↓s_sNever, ↓s_sBreak, ↓s_sCont, ↓s_sIf, ↓s_sDrop, ↓s_sRet, ↓s_sRetN, ↓s_sRetO, ↓s_sRetV, ↓s_sSet, ↓s_sSetO, ↓s_sUnpack, ↓s_sParD, ↓w_setD_nil, ↓w_setD_cons, ↓w_vDat, ↓w_vOwn, ↓s_sPar2, ↓s_sAppend, ↓s_sSetIx, ↓s_sFor, ↓ho_mA, ↓ho_mO, ↓ho_mB, frame, ↓seqO_nx, ↓seqO_rt, ↓seqO_bk, ↓seqO_ct, ↓lpO_nx, ↓lpO_rt, ↓lpO_bk, ↓lpO_ct, ↓wsF, ↓wlF, ↓whF, backR, wipeR, datSlot, strsD_signs, join_signs, sum_ones2, ↓w_eOwnBin, ownAt, ↓w_eP, ↓w_eBinX, ↓w_eTupleP, ↓w_iEnumD, ↓w_iZipD, ↓w_eOfM, ↓w_mNew, ↓w_mDisp, ↓w_mDispT, ↓s_sSetM, ↓w_vDic, ↓w_eGetV, ↓w_eGetXV, ↓w_cInV, ↓s_sPutV, ↓w_eGetX, ↓w_iKeysD, ↓w_iItemsD, lookM, ↓z_add_i, ↓z_add_s, ↓z_add_t, ↓z_sub, ↓z_mul_i, ↓z_mul_s, ↓z_div, ↓z_mod, ↓z_pow, ↓z_neg, ↓z_eq_i, ↓z_eq_s, ↓z_eq_b, ↓z_eq_l, ↓z_eq_t, ↓z_ne_i, ↓z_ne_s, ↓z_ne_b, ↓z_ne_l, ↓z_ne_t, ↓z_eq_ns, ↓z_eq_sn, ↓z_ne_ns, ↓z_ne_sn, ↓z_lt, ↓z_le, ↓z_gt, ↓z_ge, ↓z_idx_l, ↓z_idx_t, ↓z_idx_r, ↓z_idx_s, ↓z_len_s, ↓z_len_l, ↓z_len_t, ↓z_len_r, ↓z_abs, ↓z_min2, ↓z_max2, ↓z_int_i, ↓z_int_b, ↓z_cut_s, ↓z_cut_t, ↓z_gcut, ↓z_rev, ↓z_grev, ↓z_gadd, ↓z_gmul, ↓z_list_l, ↓z_list_t, ↓z_list_s, ↓z_tuple_l, ↓z_tuple_t, ↓z_all, ↓z_any, ↓z_sum, ↓z_maxl, ↓z_minl, ↓z_rfind, ↓z_join_l, ↓z_join_t, ↓z_in_s, ↓z_nin_s, ↓z_in_t, ↓z_nin_t, ↓z_in_l, ↓z_nin_l, ↓z_items_l, ↓z_items_t, ↓z_items_r, ↓z_items_s, ↓z_isi_s, ↓z_isi_i, ↓z_isi_b, ↓z_isi_n, ↓z_isi_l, ↓z_isi_t, ↓z_isi_r, ↓z_ty_s, ↓z_ty_i, ↓z_ty_b, ↓z_ty_n, ↓z_ty_l, ↓z_ty_t, ↓z_k_ss, ↓z_k_ii, ↓z_k_ib, ↓z_k_tt, ↓z_k_ll, flatD, pVar, ↓ho_ite, ↓z_lset_l, ↓z_lset_t, ↓z_rg2, ↓z_rg1, ↓z_is_nn, ↓z_is_tn, ↓z_is_ln, ↓z_is_sn, ↓z_is_in, ↓z_is_bb, ↓z_isn_nn, ↓z_isn_tn, ↓z_isn_ln, ↓z_isn_sn, ↓z_isn_in, ↓z_isn_bb, ↓z_ne_nn, ↓z_eq_nn, ↓z_k_bb, ↓z_seq_l, ↓z_zip_l, ↓z_zip_t, ↓z_ltD_i, ↓z_gtD_i, ↓z_leD_i, ↓z_geD_i, ↓z_ltD_s, ↓z_gtD_s, ↓z_ltD_t, ↓z_gtD_t, ↓z_mulT, ↓z_getD, ↓z_lenD, ↓z_keysL, ↓z_valsL, ↓z_sset_l, ↓z_sortD, ↓z_minDs, hl2, a1, a2, lenE]
      obtain ⟨xe, hxe⟩ : ∃ x : List Nat × List Nat × List Nat × List Nat, x = ([101, 110, 100], u, [100, 114, 111, 112], m) := ⟨_, rfl⟩
      obtain ⟨xs, hxs⟩ : ∃ x : List Nat × List Nat × List Nat × List Nat, x = ([115, 116, 97, 114, 116], u, [100, 114, 111, 112], m) := ⟨_, rfl⟩
      have v1 := views_eq (x := xe) (t := t) (by rw [hxe]; exact we) hl ht
      have v2 := views_eq (x := xs) (t := t.reverse) (by rw [hxs]; exact wst) (by simpa using hl) htr
      rw [vw_turn (f := fun w => shwW xe w t) (fun w => by rw [hxs, hxe]; exact shw_turn hm1)] at v2
      have vl := vw_len (f := fun w => shwW xe w t) 41
      generalize vw (fun w => shwW xe w t) 41 = V at v1 v2 vl
      rw [show wayD xe = .tup [.str [101, 110, 100], .str u, .str [100, 114, 111, 112], .str m] by rw [hxe]; rfl] at v1
      rw [show wayD xs = .tup [.str [115, 116, 97, 114, 116], .str u, .str [100, 114, 111, 112], .str m] by rw [hxs]; rfl] at v2
      have Vlim : V.length ≤ lim := by unfold lim; omega
      rw [s_sSeq]
      simp [↓w_eVar, ↓w_eC, ↓w_eUn, ↓w_eUnX, ↓w_eBin, ↓w_eM1, ↓w_oBin, ↓w_oUn, ↓w_eOfO, ↓w_eNil, ↓w_eCons, ↓w_eTup, ↓w_oLst, ↓w_eCall, ↓w_oCall, ↓w_cT, ↓w_cNot, ↓w_cAnd, ↓w_cOr, ↓w_cYes, ↓w_eAndV, ↓w_eOrV, ↓w_eNotV, ↓w_eIf, ↓w_eOwnIdx, ↓w_qNone, ↓w_qSome, ↓w_eCut, ↓w_oCut, ↓w_eChain, ↓w_iAny, ↓w_iRange1, ↓w_iRange2, ↓w_iRange3, ↓w_eCallS, ↓w_oComp, ↓w_bName, ↓w_bNil, ↓w_bCons, ↓w_bTup, ↓s_sNil, ↓s_sNever, ↓s_sBreak, ↓s_sCont, ↓s_sIf, ↓s_sDrop, ↓s_sRet, ↓s_sRetN, ↓s_sRetO, ↓s_sRetV, ↓s_sSet, ↓s_sSetO, ↓s_sUnpack, ↓s_sParD, ↓w_setD_nil, ↓w_setD_cons, ↓w_vDat, ↓w_vOwn, ↓s_sPar2, ↓s_sAppend, ↓s_sSetIx, ↓s_sFor, ↓ho_mA, ↓ho_mO, ↓ho_mB, frame, ↓seqO_nx, ↓seqO_rt, ↓seqO_bk, ↓seqO_ct, ↓lpO_nx, ↓lpO_rt, ↓lpO_bk, ↓lpO_ct, ↓wsF, ↓wlF, ↓whF, backR, wipeR, datSlot, strsD_signs, join_signs, sum_ones2, ↓w_eOwnBin, ownAt, ↓w_eP, ↓w_eBinX, ↓w_eTupleP, ↓w_iEnumD, ↓w_iZipD, ↓w_eOfM, ↓w_mNew, ↓w_mDisp, ↓w_mDispT, ↓s_sSetM, ↓w_vDic, ↓w_eGetV, ↓w_eGetXV, ↓w_cInV, ↓s_sPutV, ↓w_eGetX, ↓w_iKeysD, ↓w_iItemsD, lookM, ↓z_add_i, ↓z_add_s, ↓z_add_t, ↓z_sub, ↓z_mul_i, ↓z_mul_s, ↓z_div, ↓z_mod, ↓z_pow, ↓z_neg, ↓z_eq_i, ↓z_eq_s, ↓z_eq_b, ↓z_eq_l, ↓z_eq_t, ↓z_ne_i, ↓z_ne_s, ↓z_ne_b, ↓z_ne_l, ↓z_ne_t, ↓z_eq_ns, ↓z_eq_sn, ↓z_ne_ns, ↓z_ne_sn, ↓z_lt, ↓z_le, ↓z_gt, ↓z_ge, ↓z_idx_l, ↓z_idx_t, ↓z_idx_r, ↓z_idx_s, ↓z_len_s, ↓z_len_l, ↓z_len_t, ↓z_len_r, ↓z_abs, ↓z_min2, ↓z_max2, ↓z_int_i, ↓z_int_b, ↓z_cut_s, ↓z_cut_t, ↓z_gcut, ↓z_rev, ↓z_grev, ↓z_gadd, ↓z_gmul, ↓z_list_l, ↓z_list_t, ↓z_list_s, ↓z_tuple_l, ↓z_tuple_t, ↓z_all, ↓z_any, ↓z_sum, ↓z_maxl, ↓z_minl, ↓z_rfind, ↓z_join_l, ↓z_join_t, ↓z_in_s, ↓z_nin_s, ↓z_in_t, ↓z_nin_t, ↓z_in_l, ↓z_nin_l, ↓z_items_l, ↓z_items_t, ↓z_items_r, ↓z_items_s, ↓z_isi_s, ↓z_isi_i, ↓z_isi_b, ↓z_isi_n, ↓z_isi_l, ↓z_isi_t, ↓z_isi_r, ↓z_ty_s, ↓z_ty_i, ↓z_ty_b, ↓z_ty_n, ↓z_ty_l, ↓z_ty_t, ↓z_k_ss, ↓z_k_ii, ↓z_k_ib, ↓z_k_tt, ↓z_k_ll, flatD, pVar, ↓ho_ite, ↓z_lset_l, ↓z_lset_t, ↓z_rg2, ↓z_rg1, ↓z_is_nn, ↓z_is_tn, ↓z_is_ln, ↓z_is_sn, ↓z_is_in, ↓z_is_bb, ↓z_isn_nn, ↓z_isn_tn, ↓z_isn_ln, ↓z_isn_sn, ↓z_isn_in, ↓z_isn_bb, ↓z_ne_nn, ↓z_eq_nn, ↓z_k_bb, ↓z_seq_l, ↓z_zip_l, ↓z_zip_t, ↓z_ltD_i, ↓z_gtD_i, ↓z_leD_i, ↓z_geD_i, ↓z_ltD_s, ↓z_gtD_s, ↓z_ltD_t, ↓z_gtD_t, ↓z_mulT, ↓z_getD, ↓z_lenD, ↓z_keysL, ↓z_valsL, ↓z_sset_l, ↓z_sortD, ↓z_minDs, hl2, v2, Vlim]
      have c2 : ∀ r : Row, fCut (rowD r) none (some 2) = some (.tup [.int r.1, .int r.2.1]) := fun r => rfl
      rw [← List.map_map]
      refine wl_mapS rowD (fun r => .tup [.int r.1, .int r.2.1]) (fun r hr => ?_) ?_
      · simp [↓w_eVar, ↓w_eC, ↓w_eUn, ↓w_eUnX, ↓w_eBin, ↓w_eM1, ↓w_oBin, ↓w_oUn, ↓w_eOfO, ↓w_eNil, ↓w_eCons, ↓w_eTup, ↓w_oLst, ↓w_eCall, ↓w_oCall, ↓w_cT, ↓w_cNot, ↓w_cAnd, ↓w_cOr, ↓w_cYes, ↓w_eAndV, ↓w_eOrV, ↓w_eNotV, ↓w_eIf, ↓w_eOwnIdx, ↓w_qNone, ↓w_qSome, ↓w_eCut, ↓w_oCut, ↓w_eChain, ↓w_iAny, ↓w_iRange1, ↓w_iRange2, ↓w_iRange3, ↓w_eCallS, ↓w_oComp, ↓w_bName, ↓w_bNil, ↓w_bCons, ↓w_bTup, ↓s_sNil, ↓s_sNever, ↓s_sBreak, ↓s_sCont, ↓s_sIf, ↓s_sDrop, ↓s_sRet, ↓s_sRetN, ↓s_sRetO, ↓s_sRetV, ↓s_sSet, ↓s_sSetO, ↓s_sUnpack, ↓s_sParD, ↓w_setD_nil, ↓w_setD_cons, ↓w_vDat, ↓w_vOwn, ↓s_sPar2, ↓s_sAppend, ↓s_sSetIx, ↓s_sFor, ↓ho_mA, ↓ho_mO, ↓ho_mB, frame, ↓seqO_nx, ↓seqO_rt, ↓seqO_bk, ↓seqO_ct, ↓lpO_nx, ↓lpO_rt, ↓lpO_bk, ↓lpO_ct, ↓wsF, ↓wlF, ↓whF, backR, wipeR, datSlot, strsD_signs, join_signs, sum_ones2, ↓w_eOwnBin, ownAt, ↓w_eP, ↓w_eBinX, ↓w_eTupleP, ↓w_iEnumD, ↓w_iZipD, ↓w_eOfM, ↓w_mNew, ↓w_mDisp, ↓w_mDispT, ↓s_sSetM, ↓w_vDic, ↓w_eGetV, ↓w_eGetXV, ↓w_cInV, ↓s_sPutV, ↓w_eGetX, ↓w_iKeysD, ↓w_iItemsD, lookM, ↓z_add_i, ↓z_add_s, ↓z_add_t, ↓z_sub, ↓z_mul_i, ↓z_mul_s, ↓z_div, ↓z_mod, ↓z_pow, ↓z_neg, ↓z_eq_i, ↓z_eq_s, ↓z_eq_b, ↓z_eq_l, ↓z_eq_t, ↓z_ne_i, ↓z_ne_s, ↓z_ne_b, ↓z_ne_l, ↓z_ne_t, ↓z_eq_ns, ↓z_eq_sn, ↓z_ne_ns, ↓z_ne_sn, ↓z_lt, ↓z_le, ↓z_gt, ↓z_ge, ↓z_idx_l, ↓z_idx_t, ↓z_idx_r, ↓z_idx_s, ↓z_len_s, ↓z_len_l, ↓z_len_t, ↓z_len_r, ↓z_abs, ↓z_min2, ↓z_max2, ↓z_int_i, ↓z_int_b, ↓z_cut_s, ↓z_cut_t, ↓z_gcut, ↓z_rev, ↓z_grev, ↓z_gadd, ↓z_gmul, ↓z_list_l, ↓z_list_t, ↓z_list_s, ↓z_tuple_l, ↓z_tuple_t, ↓z_all, ↓z_any, ↓z_sum, ↓z_maxl, ↓z_minl, ↓z_rfind, ↓z_join_l, ↓z_join_t, ↓z_in_s, ↓z_nin_s, ↓z_in_t, ↓z_nin_t, ↓z_in_l, ↓z_nin_l, ↓z_items_l, ↓z_items_t, ↓z_items_r, ↓z_items_s, ↓z_isi_s, ↓z_isi_i, ↓z_isi_b, ↓z_isi_n, ↓z_isi_l, ↓z_isi_t, ↓z_isi_r, ↓z_ty_s, ↓z_ty_i, ↓z_ty_b, ↓z_ty_n, ↓z_ty_l, ↓z_ty_t, ↓z_k_ss, ↓z_k_ii, ↓z_k_ib, ↓z_k_tt, ↓z_k_ll, flatD, pVar, ↓ho_ite, ↓z_lset_l, ↓z_lset_t, ↓z_rg2, ↓z_rg1, ↓z_is_nn, ↓z_is_tn, ↓z_is_ln, ↓z_is_sn, ↓z_is_in, ↓z_is_bb, ↓z_isn_nn, ↓z_isn_tn, ↓z_isn_ln, ↓z_isn_sn, ↓z_isn_in, ↓z_isn_bb, ↓z_ne_nn, ↓z_eq_nn, ↓z_k_bb, ↓z_seq_l, ↓z_zip_l, ↓z_zip_t, ↓z_ltD_i, ↓z_gtD_i, ↓z_leD_i, ↓z_geD_i, ↓z_ltD_s, ↓z_gtD_s, ↓z_ltD_t, ↓z_gtD_t, ↓z_mulT, ↓z_getD, ↓z_lenD, ↓z_keysL, ↓z_valsL, ↓z_sset_l, ↓z_sortD, ↓z_minDs, c2]
      simp [↓w_eVar, ↓w_eC, ↓w_eUn, ↓w_eUnX, ↓w_eBin, ↓w_eM1, ↓w_oBin, ↓w_oUn, ↓w_eOfO, ↓w_eNil, ↓w_eCons, ↓w_eTup, ↓w_oLst, ↓w_eCall, ↓w_oCall, ↓w_cT, ↓w_cNot, ↓w_cAnd, ↓w_cOr, ↓w_cYes, ↓w_eAndV, ↓w_eOrV, ↓w_eNotV, ↓w_eIf, ↓w_eOwnIdx, ↓w_qNone, ↓w_qSome, ↓w_eCut, ↓w_oCut, ↓w_eChain, ↓w_iAny, ↓w_iRange1, ↓w_iRange2, ↓w_iRange3, ↓w_eCallS, ↓w_oComp, ↓w_bName, ↓w_bNil, ↓w_bCons, ↓w_bTup, ↓s_sNil, ↓s_sNever, ↓s_sBreak, ↓s_sCont, ↓s_sIf, ↓s_sDrop, ↓s_sRet, ↓s_sRetN, ↓s_sRetO, ↓s_sRetV, ↓s_sSet, ↓s_sSetO, ↓s_sUnpack, ↓s_sParD, ↓w_setD_nil, ↓w_setD_cons, ↓w_vDat, ↓w_vOwn, ↓s_sPar2, ↓s_sAppend, ↓s_sSetIx, ↓s_sFor, ↓ho_mA, ↓ho_mO, ↓ho_mB, frame, ↓seqO_nx, ↓seqO_rt, ↓seqO_bk, ↓seqO_ct, ↓lpO_nx, ↓lpO_rt, ↓lpO_bk, ↓lpO_ct, ↓wsF, ↓wlF, ↓whF, backR, wipeR, datSlot, strsD_signs, join_signs, sum_ones2, ↓w_eOwnBin, ownAt, ↓w_eP, ↓w_eBinX, ↓w_eTupleP, ↓w_iEnumD, ↓w_iZipD, ↓w_eOfM, ↓w_mNew, ↓w_mDisp, ↓w_mDispT, ↓s_sSetM, ↓w_vDic, ↓w_eGetV, ↓w_eGetXV, ↓w_cInV, ↓s_sPutV, ↓w_eGetX, ↓w_iKeysD, ↓w_iItemsD, lookM, ↓z_add_i, ↓z_add_s, ↓z_add_t, ↓z_sub, ↓z_mul_i, ↓z_mul_s, ↓z_div, ↓z_mod, ↓z_pow, ↓z_neg, ↓z_eq_i, ↓z_eq_s, ↓z_eq_b, ↓z_eq_l, ↓z_eq_t, ↓z_ne_i, ↓z_ne_s, ↓z_ne_b, ↓z_ne_l, ↓z_ne_t, ↓z_eq_ns, ↓z_eq_sn, ↓z_ne_ns, ↓z_ne_sn, ↓z_lt, ↓z_le, ↓z_gt, ↓z_ge, ↓z_idx_l, ↓z_idx_t, ↓z_idx_r, ↓z_idx_s, ↓z_len_s, ↓z_len_l, ↓z_len_t, ↓z_len_r, ↓z_abs, ↓z_min2, ↓z_max2, ↓z_int_i, ↓z_int_b, ↓z_cut_s, ↓z_cut_t, ↓z_gcut, ↓z_rev, ↓z_grev, ↓z_gadd, ↓z_gmul, ↓z_list_l, ↓z_list_t, ↓z_list_s, ↓z_tuple_l, ↓z_tuple_t, ↓z_all, ↓z_any, ↓z_sum, ↓z_maxl, ↓z_minl, ↓z_rfind, ↓z_join_l, ↓z_join_t, ↓z_in_s, ↓z_nin_s, ↓z_in_t, ↓z_nin_t, ↓z_in_l, ↓z_nin_l, ↓z_items_l, ↓z_items_t, ↓z_items_r, ↓z_items_s, ↓z_isi_s, ↓z_isi_i, ↓z_isi_b, ↓z_isi_n, ↓z_isi_l, ↓z_isi_t, ↓z_isi_r, ↓z_ty_s, ↓z_ty_i, ↓z_ty_b, ↓z_ty_n, ↓z_ty_l, ↓z_ty_t, ↓z_k_ss, ↓z_k_ii, ↓z_k_ib, ↓z_k_tt, ↓z_k_ll, flatD, pVar, ↓ho_ite, ↓z_lset_l, ↓z_lset_t, ↓z_rg2, ↓z_rg1, ↓z_is_nn, ↓z_is_tn, ↓z_is_ln, ↓z_is_sn, ↓z_is_in, ↓z_is_bb, ↓z_isn_nn, ↓z_isn_tn, ↓z_isn_ln, ↓z_isn_sn, ↓z_isn_in, ↓z_isn_bb, ↓z_ne_nn, ↓z_eq_nn, ↓z_k_bb, ↓z_seq_l, ↓z_zip_l, ↓z_zip_t, ↓z_ltD_i, ↓z_gtD_i, ↓z_leD_i, ↓z_geD_i, ↓z_ltD_s, ↓z_gtD_s, ↓z_ltD_t, ↓z_gtD_t, ↓z_mulT, ↓z_getD, ↓z_lenD, ↓z_keysL, ↓z_valsL, ↓z_sset_l, ↓z_sortD, ↓z_minDs, v1, Vlim]
      refine wl_mapS rowD (fun r => .tup [.int r.1, .int r.2.1]) (fun r hr => ?_) ?_
      · simp [↓w_eVar, ↓w_eC, ↓w_eUn, ↓w_eUnX, ↓w_eBin, ↓w_eM1, ↓w_oBin, ↓w_oUn, ↓w_eOfO, ↓w_eNil, ↓w_eCons, ↓w_eTup, ↓w_oLst, ↓w_eCall, ↓w_oCall, ↓w_cT, ↓w_cNot, ↓w_cAnd, ↓w_cOr, ↓w_cYes, ↓w_eAndV, ↓w_eOrV, ↓w_eNotV, ↓w_eIf, ↓w_eOwnIdx, ↓w_qNone, ↓w_qSome, ↓w_eCut, ↓w_oCut, ↓w_eChain, ↓w_iAny, ↓w_iRange1, ↓w_iRange2, ↓w_iRange3, ↓w_eCallS, ↓w_oComp, ↓w_bName, ↓w_bNil, ↓w_bCons, ↓w_bTup, ↓s_sNil, ↓s_sNever, ↓s_sBreak, ↓s_sCont, ↓s_sIf, ↓s_sDrop, ↓s_sRet, ↓s_sRetN, ↓s_sRetO, ↓s_sRetV, ↓s_sSet, ↓s_sSetO, ↓s_sUnpack, ↓s_sParD, ↓w_setD_nil, ↓w_setD_cons, ↓w_vDat, ↓w_vOwn, ↓s_sPar2, ↓s_sAppend, ↓s_sSetIx, ↓s_sFor, ↓ho_mA, ↓ho_mO, ↓ho_mB, frame, ↓seqO_nx, ↓seqO_rt, ↓seqO_bk, ↓seqO_ct, ↓lpO_nx, ↓lpO_rt, ↓lpO_bk, ↓lpO_ct, ↓wsF, ↓wlF, ↓whF, backR, wipeR, datSlot, strsD_signs, join_signs, sum_ones2, ↓w_eOwnBin, ownAt, ↓w_eP, ↓w_eBinX, ↓w_eTupleP, ↓w_iEnumD, ↓w_iZipD, ↓w_eOfM, ↓w_mNew, ↓w_mDisp, ↓w_mDispT, ↓s_sSetM, ↓w_vDic, ↓w_eGetV, ↓w_eGetXV, ↓w_cInV, ↓s_sPutV, ↓w_eGetX, ↓w_iKeysD, ↓w_iItemsD, lookM, ↓z_add_i, ↓z_add_s, ↓z_add_t, ↓z_sub, ↓z_mul_i, ↓z_mul_s, ↓z_div, ↓z_mod, ↓z_pow, ↓z_neg, ↓z_eq_i, ↓z_eq_s, ↓z_eq_b, ↓z_eq_l, ↓z_eq_t, ↓z_ne_i, ↓z_ne_s, ↓z_ne_b, ↓z_ne_l, ↓z_ne_t, ↓z_eq_ns, ↓z_eq_sn, ↓z_ne_ns, ↓z_ne_sn, ↓z_lt, ↓z_le, ↓z_gt, ↓z_ge, ↓z_idx_l, ↓z_idx_t, ↓z_idx_r, ↓z_idx_s, ↓z_len_s, ↓z_len_l, ↓z_len_t, ↓z_len_r, ↓z_abs, ↓z_min2, ↓z_max2, ↓z_int_i, ↓z_int_b, ↓z_cut_s, ↓z_cut_t, ↓z_gcut, ↓z_rev, ↓z_grev, ↓z_gadd, ↓z_gmul, ↓z_list_l, ↓z_list_t, ↓z_list_s, ↓z_tuple_l, ↓z_tuple_t, ↓z_all, ↓z_any, ↓z_sum, ↓z_maxl, ↓z_minl, ↓z_rfind, ↓z_join_l, ↓z_join_t, ↓z_in_s, ↓z_nin_s, ↓z_in_t, ↓z_nin_t, ↓z_in_l, ↓z_nin_l, ↓z_items_l, ↓z_items_t, ↓z_items_r, ↓z_items_s, ↓z_isi_s, ↓z_isi_i, ↓z_isi_b, ↓z_isi_n, ↓z_isi_l, ↓z_isi_t, ↓z_isi_r, ↓z_ty_s, ↓z_ty_i, ↓z_ty_b, ↓z_ty_n, ↓z_ty_l, ↓z_ty_t, ↓z_k_ss, ↓z_k_ii, ↓z_k_ib, ↓z_k_tt, ↓z_k_ll, flatD, pVar, ↓ho_ite, ↓z_lset_l, ↓z_lset_t, ↓z_rg2, ↓z_rg1, ↓z_is_nn, ↓z_is_tn, ↓z_is_ln, ↓z_is_sn, ↓z_is_in, ↓z_is_bb, ↓z_isn_nn, ↓z_isn_tn, ↓z_isn_ln, ↓z_isn_sn, ↓z_isn_in, ↓z_isn_bb, ↓z_ne_nn, ↓z_eq_nn, ↓z_k_bb, ↓z_seq_l, ↓z_zip_l, ↓z_zip_t, ↓z_ltD_i, ↓z_gtD_i, ↓z_leD_i, ↓z_geD_i, ↓z_ltD_s, ↓z_gtD_s, ↓z_ltD_t, ↓z_gtD_t, ↓z_mulT, ↓z_getD, ↓z_lenD, ↓z_keysL, ↓z_valsL, ↓z_sset_l, ↓z_sortD, ↓z_minDs, c2]
      have hse : ((V.map turnR).map fun r : Row => D.tup [.int r.1, .int r.2.1]) = V.map fun r => .tup [.int r.1, .int r.2.1] := by rw [List.map_map]; rfl
      have okv : okD (.lst (V.map fun r : Row => D.tup [.int r.1, .int r.2.1])) = true := by
        refine okD_of (n := 2) ?_ (by omega)
        rw [dp]; exact dpL_map (fun _ => by simp [dp, dpL]) V
      have plv : plL (V.map fun r : Row => D.tup [.int r.1, .int r.2.1]) = true := plL_map (fun _ => rfl) V
      have evv := (eqv_pl (d := .lst (V.map fun r : Row => D.tup [.int r.1, .int r.2.1])) (e := .lst (V.map fun r : Row => D.tup [.int r.1, .int r.2.1])) plv plv).mpr rfl
      rw [hse]
      simp [↓w_eVar, ↓w_eC, ↓w_eUn, ↓w_eUnX, ↓w_eBin, ↓w_eM1, ↓w_oBin, ↓w_oUn, ↓w_eOfO, ↓w_eNil, ↓w_eCons, ↓w_eTup, ↓w_oLst, ↓w_eCall, ↓w_oCall, ↓w_cT, ↓w_cNot, ↓w_cAnd, ↓w_cOr, ↓w_cYes, ↓w_eAndV, ↓w_eOrV, ↓w_eNotV, ↓w_eIf, ↓w_eOwnIdx, ↓w_qNone, ↓w_qSome, ↓w_eCut, ↓w_oCut, ↓w_eChain, ↓w_iAny, ↓w_iRange1, ↓w_iRange2, ↓w_iRange3, ↓w_eCallS, ↓w_oComp, ↓w_bName, ↓w_bNil, ↓w_bCons, ↓w_bTup, ↓s_sNil, ↓s_sNever, ↓s_sBreak, ↓s_sCont, ↓s_sIf, ↓s_sDrop, ↓s_sRet, ↓s_sRetN, ↓s_sRetO, ↓s_sRetV, ↓s_sSet, ↓s_sSetO, ↓s_sUnpack, ↓s_sParD, ↓w_setD_nil, ↓w_setD_cons, ↓w_vDat, ↓w_vOwn, ↓s_sPar2, ↓s_sAppend, ↓s_sSetIx, ↓s_sFor, ↓ho_mA, ↓ho_mO, ↓ho_mB, frame, ↓seqO_nx, ↓seqO_rt, ↓seqO_bk, ↓seqO_ct, ↓lpO_nx, ↓lpO_rt, ↓lpO_bk, ↓lpO_ct, ↓wsF, ↓wlF, ↓whF, backR, wipeR, datSlot, strsD_signs, join_signs, sum_ones2, ↓w_eOwnBin, ownAt, ↓w_eP, ↓w_eBinX, ↓w_eTupleP, ↓w_iEnumD, ↓w_iZipD, ↓w_eOfM, ↓w_mNew, ↓w_mDisp, ↓w_mDispT, ↓s_sSetM, ↓w_vDic, ↓w_eGetV, ↓w_eGetXV, ↓w_cInV, ↓s_sPutV, ↓w_eGetX, ↓w_iKeysD, ↓w_iItemsD, lookM, ↓z_add_i, ↓z_add_s, ↓z_add_t, ↓z_sub, ↓z_mul_i, ↓z_mul_s, ↓z_div, ↓z_mod, ↓z_pow, ↓z_neg, ↓z_eq_i, ↓z_eq_s, ↓z_eq_b, ↓z_eq_l, ↓z_eq_t, ↓z_ne_i, ↓z_ne_s, ↓z_ne_b, ↓z_ne_l, ↓z_ne_t, ↓z_eq_ns, ↓z_eq_sn, ↓z_ne_ns, ↓z_ne_sn, ↓z_lt, ↓z_le, ↓z_gt, ↓z_ge, ↓z_idx_l, ↓z_idx_t, ↓z_idx_r, ↓z_idx_s, ↓z_len_s, ↓z_len_l, ↓z_len_t, ↓z_len_r, ↓z_abs, ↓z_min2, ↓z_max2, ↓z_int_i, ↓z_int_b, ↓z_cut_s, ↓z_cut_t, ↓z_gcut, ↓z_rev, ↓z_grev, ↓z_gadd, ↓z_gmul, ↓z_list_l, ↓z_list_t, ↓z_list_s, ↓z_tuple_l, ↓z_tuple_t, ↓z_all, ↓z_any, ↓z_sum, ↓z_maxl, ↓z_minl, ↓z_rfind, ↓z_join_l, ↓z_join_t, ↓z_in_s, ↓z_nin_s, ↓z_in_t, ↓z_nin_t, ↓z_in_l, ↓z_nin_l, ↓z_items_l, ↓z_items_t, ↓z_items_r, ↓z_items_s, ↓z_isi_s, ↓z_isi_i, ↓z_isi_b, ↓z_isi_n, ↓z_isi_l, ↓z_isi_t, ↓z_isi_r, ↓z_ty_s, ↓z_ty_i, ↓z_ty_b, ↓z_ty_n, ↓z_ty_l, ↓z_ty_t, ↓z_k_ss, ↓z_k_ii, ↓z_k_ib, ↓z_k_tt, ↓z_k_ll, flatD, pVar, ↓ho_ite, ↓z_lset_l, ↓z_lset_t, ↓z_rg2, ↓z_rg1, ↓z_is_nn, ↓z_is_tn, ↓z_is_ln, ↓z_is_sn, ↓z_is_in, ↓z_is_bb, ↓z_isn_nn, ↓z_isn_tn, ↓z_isn_ln, ↓z_isn_sn, ↓z_isn_in, ↓z_isn_bb, ↓z_ne_nn, ↓z_eq_nn, ↓z_k_bb, ↓z_seq_l, ↓z_zip_l, ↓z_zip_t, ↓z_ltD_i, ↓z_gtD_i, ↓z_leD_i, ↓z_geD_i, ↓z_ltD_s, ↓z_gtD_s, ↓z_ltD_t, ↓z_gtD_t, ↓z_mulT, ↓z_getD, ↓z_lenD, ↓z_keysL, ↓z_valsL, ↓z_sset_l, ↓z_sortD, ↓z_minDs, okv, evv]
      have fin : ∀ s11 : Sl, F1 s11 → I [.dat (scr ns), .dat (.int k), .own s3', .dat (.str [a, b, c]), .dat (.dct ksN (vsN a b c)), .dat d, .dat (.tup [.str p, .str u, .str e, .str m]), .dat (.str t), .dat (.int w), .dat (.tup [.str [101, 110, 100], .str u, .str [100, 114, 111, 112], .str m]), .dat (.tup [.str [115, 116, 97, 114, 116], .str u, .str [100, 114, 111, 112], .str m]), s11, .emp] :=
        fun s11 g => (hI _).mpr ⟨_, _, _, _, _, _, _, _, _, rfl, h3, .inr rfl, by simp [frI_cons, frI_nil, F1_dat, g]⟩
      by_cases q1 : w < t.length ∧ 1 < w ∧ u = [115, 105, 103, 110, 115]
      · obtain ⟨q1, q2, rfl⟩ := q1
        have a3 : m_shown [.tup [.str [109, 105, 100, 100, 108, 101], .str [115, 105, 103, 110, 115], .str [100, 114, 111, 112], .str m], .str t, .int w] = some (.str (shw [109, 105, 100, 100, 108, 101] [115, 105, 103, 110, 115] [100, 114, 111, 112] m t w)) := shown_eq ⟨_, _, _, _, rfl, by simp, by simp, by simp, hm⟩ hl ht hw40
        have l1 := shw_full (p := [109, 105, 100, 100, 108, 101]) (u := [115, 105, 103, 110, 115]) (e := [100, 114, 111, 112]) (m := m) rfl q1 (by omega)
        have l2 := shw_full (p := [101, 110, 100]) (u := [115, 105, 103, 110, 115]) (e := [100, 114, 111, 112]) (m := m) rfl q1 (by omega)
        have wl : w ≤ lim := by unfold lim; omega
        simp [↓w_eVar, ↓w_eC, ↓w_eUn, ↓w_eUnX, ↓w_eBin, ↓w_eM1, ↓w_oBin, ↓w_oUn, ↓w_eOfO, ↓w_eNil, ↓w_eCons, ↓w_eTup, ↓w_oLst, ↓w_eCall, ↓w_oCall, ↓w_cT, ↓w_cNot, ↓w_cAnd, ↓w_cOr, ↓w_cYes, ↓w_eAndV, ↓w_eOrV, ↓w_eNotV, ↓w_eIf, ↓w_eOwnIdx, ↓w_qNone, ↓w_qSome, ↓w_eCut, ↓w_oCut, ↓w_eChain, ↓w_iAny, ↓w_iRange1, ↓w_iRange2, ↓w_iRange3, ↓w_eCallS, ↓w_oComp, ↓w_bName, ↓w_bNil, ↓w_bCons, ↓w_bTup, ↓s_sNil, ↓s_sNever, ↓s_sBreak, ↓s_sCont, ↓s_sIf, ↓s_sDrop, ↓s_sRet, ↓s_sRetN, ↓s_sRetO, ↓s_sRetV, ↓s_sSet, ↓s_sSetO, ↓s_sUnpack, ↓s_sParD, ↓w_setD_nil, ↓w_setD_cons, ↓w_vDat, ↓w_vOwn, ↓s_sPar2, ↓s_sAppend, ↓s_sSetIx, ↓s_sFor, ↓ho_mA, ↓ho_mO, ↓ho_mB, frame, ↓seqO_nx, ↓seqO_rt, ↓seqO_bk, ↓seqO_ct, ↓lpO_nx, ↓lpO_rt, ↓lpO_bk, ↓lpO_ct, ↓wsF, ↓wlF, ↓whF, backR, wipeR, datSlot, strsD_signs, join_signs, sum_ones2, ↓w_eOwnBin, ownAt, ↓w_eP, ↓w_eBinX, ↓w_eTupleP, ↓w_iEnumD, ↓w_iZipD, ↓w_eOfM, ↓w_mNew, ↓w_mDisp, ↓w_mDispT, ↓s_sSetM, ↓w_vDic, ↓w_eGetV, ↓w_eGetXV, ↓w_cInV, ↓s_sPutV, ↓w_eGetX, ↓w_iKeysD, ↓w_iItemsD, lookM, ↓z_add_i, ↓z_add_s, ↓z_add_t, ↓z_sub, ↓z_mul_i, ↓z_mul_s, ↓z_div, ↓z_mod, ↓z_pow, ↓z_neg, ↓z_eq_i, ↓z_eq_s, ↓z_eq_b, ↓z_eq_l, ↓z_eq_t, ↓z_ne_i, ↓z_ne_s, ↓z_ne_b, ↓z_ne_l, ↓z_ne_t, ↓z_eq_ns, ↓z_eq_sn, ↓z_ne_ns, ↓z_ne_sn, ↓z_lt, ↓z_le, ↓z_gt, ↓z_ge, ↓z_idx_l, ↓z_idx_t, ↓z_idx_r, ↓z_idx_s, ↓z_len_s, ↓z_len_l, ↓z_len_t, ↓z_len_r, ↓z_abs, ↓z_min2, ↓z_max2, ↓z_int_i, ↓z_int_b, ↓z_cut_s, ↓z_cut_t, ↓z_gcut, ↓z_rev, ↓z_grev, ↓z_gadd, ↓z_gmul, ↓z_list_l, ↓z_list_t, ↓z_list_s, ↓z_tuple_l, ↓z_tuple_t, ↓z_all, ↓z_any, ↓z_sum, ↓z_maxl, ↓z_minl, ↓z_rfind, ↓z_join_l, ↓z_join_t, ↓z_in_s, ↓z_nin_s, ↓z_in_t, ↓z_nin_t, ↓z_in_l, ↓z_nin_l, ↓z_items_l, ↓z_items_t, ↓z_items_r, ↓z_items_s, ↓z_isi_s, ↓z_isi_i, ↓z_isi_b, ↓z_isi_n, ↓z_isi_l, ↓z_isi_t, ↓z_isi_r, ↓z_ty_s, ↓z_ty_i, ↓z_ty_b, ↓z_ty_n, ↓z_ty_l, ↓z_ty_t, ↓z_k_ss, ↓z_k_ii, ↓z_k_ib, ↓z_k_tt, ↓z_k_ll, flatD, pVar, ↓ho_ite, ↓z_lset_l, ↓z_lset_t, ↓z_rg2, ↓z_rg1, ↓z_is_nn, ↓z_is_tn, ↓z_is_ln, ↓z_is_sn, ↓z_is_in, ↓z_is_bb, ↓z_isn_nn, ↓z_isn_tn, ↓z_isn_ln, ↓z_isn_sn, ↓z_isn_in, ↓z_isn_bb, ↓z_ne_nn, ↓z_eq_nn, ↓z_k_bb, ↓z_seq_l, ↓z_zip_l, ↓z_zip_t, ↓z_ltD_i, ↓z_gtD_i, ↓z_leD_i, ↓z_geD_i, ↓z_ltD_s, ↓z_gtD_s, ↓z_ltD_t, ↓z_gtD_t, ↓z_mulT, ↓z_getD, ↓z_lenD, ↓z_keysL, ↓z_valsL, ↓z_sset_l, ↓z_sortD, ↓z_minDs, hl2, show (w : Int) < (t.length : Int) by omega, show (1 : Int) < (w : Int) by omega, show atI [D.str p, .str [115, 105, 103, 110, 115], .str e, .str m] 1 = some (.str [115, 105, 103, 110, 115]) from rfl, show atI [D.str p, .str [115, 105, 103, 110, 115], .str e, .str m] 3 = some (.str m) from rfl, q1, q2]
        rw [s_sSeq]
        simp [↓w_eVar, ↓w_eC, ↓w_eUn, ↓w_eUnX, ↓w_eBin, ↓w_eM1, ↓w_oBin, ↓w_oUn, ↓w_eOfO, ↓w_eNil, ↓w_eCons, ↓w_eTup, ↓w_oLst, ↓w_eCall, ↓w_oCall, ↓w_cT, ↓w_cNot, ↓w_cAnd, ↓w_cOr, ↓w_cYes, ↓w_eAndV, ↓w_eOrV, ↓w_eNotV, ↓w_eIf, ↓w_eOwnIdx, ↓w_qNone, ↓w_qSome, ↓w_eCut, ↓w_oCut, ↓w_eChain, ↓w_iAny, ↓w_iRange1, ↓w_iRange2, ↓w_iRange3, ↓w_eCallS, ↓w_oComp, ↓w_bName, ↓w_bNil, ↓w_bCons, ↓w_bTup, ↓s_sNil, ↓s_sNever, ↓s_sBreak, ↓s_sCont, ↓s_sIf, ↓s_sDrop, ↓s_sRet, ↓s_sRetN, ↓s_sRetO, ↓s_sRetV, ↓s_sSet, ↓s_sSetO, ↓s_sUnpack, ↓s_sParD, ↓w_setD_nil, ↓w_setD_cons, ↓w_vDat, ↓w_vOwn, ↓s_sPar2, ↓s_sAppend, ↓s_sSetIx, ↓s_sFor, ↓ho_mA, ↓ho_mO, ↓ho_mB, frame, ↓seqO_nx, ↓seqO_rt, ↓seqO_bk, ↓seqO_ct, ↓lpO_nx, ↓lpO_rt, ↓lpO_bk, ↓lpO_ct, ↓wsF, ↓wlF, ↓whF, backR, wipeR, datSlot, strsD_signs, join_signs, sum_ones2, ↓w_eOwnBin, ownAt, ↓w_eP, ↓w_eBinX, ↓w_eTupleP, ↓w_iEnumD, ↓w_iZipD, ↓w_eOfM, ↓w_mNew, ↓w_mDisp, ↓w_mDispT, ↓s_sSetM, ↓w_vDic, ↓w_eGetV, ↓w_eGetXV, ↓w_cInV, ↓s_sPutV, ↓w_eGetX, ↓w_iKeysD, ↓w_iItemsD, lookM, ↓z_add_i, ↓z_add_s, ↓z_add_t, ↓z_sub, ↓z_mul_i, ↓z_mul_s, ↓z_div, ↓z_mod, ↓z_pow, ↓z_neg, ↓z_eq_i, ↓z_eq_s, ↓z_eq_b, ↓z_eq_l, ↓z_eq_t, ↓z_ne_i, ↓z_ne_s, ↓z_ne_b, ↓z_ne_l, ↓z_ne_t, ↓z_eq_ns, ↓z_eq_sn, ↓z_ne_ns, ↓z_ne_sn, ↓z_lt, ↓z_le, ↓z_gt, ↓z_ge, ↓z_idx_l, ↓z_idx_t, ↓z_idx_r, ↓z_idx_s, ↓z_len_s, ↓z_len_l, ↓z_len_t, ↓z_len_r, ↓z_abs, ↓z_min2, ↓z_max2, ↓z_int_i, ↓z_int_b, ↓z_cut_s, ↓z_cut_t, ↓z_gcut, ↓z_rev, ↓z_grev, ↓z_gadd, ↓z_gmul, ↓z_list_l, ↓z_list_t, ↓z_list_s, ↓z_tuple_l, ↓z_tuple_t, ↓z_all, ↓z_any, ↓z_sum, ↓z_maxl, ↓z_minl, ↓z_rfind, ↓z_join_l, ↓z_join_t, ↓z_in_s, ↓z_nin_s, ↓z_in_t, ↓z_nin_t, ↓z_in_l, ↓z_nin_l, ↓z_items_l, ↓z_items_t, ↓z_items_r, ↓z_items_s, ↓z_isi_s, ↓z_isi_i, ↓z_isi_b, ↓z_isi_n, ↓z_isi_l, ↓z_isi_t, ↓z_isi_r, ↓z_ty_s, ↓z_ty_i, ↓z_ty_b, ↓z_ty_n, ↓z_ty_l, ↓z_ty_t, ↓z_k_ss, ↓z_k_ii, ↓z_k_ib, ↓z_k_tt, ↓z_k_ll, flatD, pVar, ↓ho_ite, ↓z_lset_l, ↓z_lset_t, ↓z_rg2, ↓z_rg1, ↓z_is_nn, ↓z_is_tn, ↓z_is_ln, ↓z_is_sn, ↓z_is_in, ↓z_is_bb, ↓z_isn_nn, ↓z_isn_tn, ↓z_isn_ln, ↓z_isn_sn, ↓z_isn_in, ↓z_isn_bb, ↓z_ne_nn, ↓z_eq_nn, ↓z_k_bb, ↓z_seq_l, ↓z_zip_l, ↓z_zip_t, ↓z_ltD_i, ↓z_gtD_i, ↓z_leD_i, ↓z_geD_i, ↓z_ltD_s, ↓z_gtD_s, ↓z_ltD_t, ↓z_gtD_t, ↓z_mulT, ↓z_getD, ↓z_lenD, ↓z_keysL, ↓z_valsL, ↓z_sset_l, ↓z_sortD, ↓z_minDs, oN_free f11, show atI [D.str p, .str [115, 105, 103, 110, 115], .str e, .str m] 3 = some (.str m) from rfl, a3, a2, l1, l2, wl]
        exact fin _ F1_dat
      · simp [↓w_eVar, ↓w_eC, ↓w_eUn, ↓w_eUnX, ↓w_eBin, ↓w_eM1, ↓w_oBin, ↓w_oUn, ↓w_eOfO, ↓w_eNil, ↓w_eCons, ↓w_eTup, ↓w_oLst, ↓w_eCall, ↓w_oCall, ↓w_cT, ↓w_cNot, ↓w_cAnd, ↓w_cOr, ↓w_cYes, ↓w_eAndV, ↓w_eOrV, ↓w_eNotV, ↓w_eIf, ↓w_eOwnIdx, ↓w_qNone, ↓w_qSome, ↓w_eCut, ↓w_oCut, ↓w_eChain, ↓w_iAny, ↓w_iRange1, ↓w_iRange2, ↓w_iRange3, ↓w_eCallS, ↓w_oComp, ↓w_bName, ↓w_bNil, ↓w_bCons, ↓w_bTup, ↓s_sNil, ↓s_sNever, ↓s_sBreak, ↓s_sCont, ↓s_sIf, ↓s_sDrop, ↓s_sRet, ↓s_sRetN, ↓s_sRetO, ↓s_sRetV, ↓s_sSet, ↓s_sSetO, ↓s_sUnpack, ↓s_sParD, ↓w_setD_nil, ↓w_setD_cons, ↓w_vDat, ↓w_vOwn, ↓s_sPar2, ↓s_sAppend, ↓s_sSetIx, ↓s_sFor, ↓ho_mA, ↓ho_mO, ↓ho_mB, frame, ↓seqO_nx, ↓seqO_rt, ↓seqO_bk, ↓seqO_ct, ↓lpO_nx, ↓lpO_rt, ↓lpO_bk, ↓lpO_ct, ↓wsF, ↓wlF, ↓whF, backR, wipeR, datSlot, strsD_signs, join_signs, sum_ones2, ↓w_eOwnBin, ownAt, ↓w_eP, ↓w_eBinX, ↓w_eTupleP, ↓w_iEnumD, ↓w_iZipD, ↓w_eOfM, ↓w_mNew, ↓w_mDisp, ↓w_mDispT, ↓s_sSetM, ↓w_vDic, ↓w_eGetV, ↓w_eGetXV, ↓w_cInV, ↓s_sPutV, ↓w_eGetX, ↓w_iKeysD, ↓w_iItemsD, lookM, ↓z_add_i, ↓z_add_s, ↓z_add_t, ↓z_sub, ↓z_mul_i, ↓z_mul_s, ↓z_div, ↓z_mod, ↓z_pow, ↓z_neg, ↓z_eq_i, ↓z_eq_s, ↓z_eq_b, ↓z_eq_l, ↓z_eq_t, ↓z_ne_i, ↓z_ne_s, ↓z_ne_b, ↓z_ne_l, ↓z_ne_t, ↓z_eq_ns, ↓z_eq_sn, ↓z_ne_ns, ↓z_ne_sn, ↓z_lt, ↓z_le, ↓z_gt, ↓z_ge, ↓z_idx_l, ↓z_idx_t, ↓z_idx_r, ↓z_idx_s, ↓z_len_s, ↓z_len_l, ↓z_len_t, ↓z_len_r, ↓z_abs, ↓z_min2, ↓z_max2, ↓z_int_i, ↓z_int_b, ↓z_cut_s, ↓z_cut_t, ↓z_gcut, ↓z_rev, ↓z_grev, ↓z_gadd, ↓z_gmul, ↓z_list_l, ↓z_list_t, ↓z_list_s, ↓z_tuple_l, ↓z_tuple_t, ↓z_all, ↓z_any, ↓z_sum, ↓z_maxl, ↓z_minl, ↓z_rfind, ↓z_join_l, ↓z_join_t, ↓z_in_s, ↓z_nin_s, ↓z_in_t, ↓z_nin_t, ↓z_in_l, ↓z_nin_l, ↓z_items_l, ↓z_items_t, ↓z_items_r, ↓z_items_s, ↓z_isi_s, ↓z_isi_i, ↓z_isi_b, ↓z_isi_n, ↓z_isi_l, ↓z_isi_t, ↓z_isi_r, ↓z_ty_s, ↓z_ty_i, ↓z_ty_b, ↓z_ty_n, ↓z_ty_l, ↓z_ty_t, ↓z_k_ss, ↓z_k_ii, ↓z_k_ib, ↓z_k_tt, ↓z_k_ll, flatD, pVar, ↓ho_ite, ↓z_lset_l, ↓z_lset_t, ↓z_rg2, ↓z_rg1, ↓z_is_nn, ↓z_is_tn, ↓z_is_ln, ↓z_is_sn, ↓z_is_in, ↓z_is_bb, ↓z_isn_nn, ↓z_isn_tn, ↓z_isn_ln, ↓z_isn_sn, ↓z_isn_in, ↓z_isn_bb, ↓z_ne_nn, ↓z_eq_nn, ↓z_k_bb, ↓z_seq_l, ↓z_zip_l, ↓z_zip_t, ↓z_ltD_i, ↓z_gtD_i, ↓z_leD_i, ↓z_geD_i, ↓z_ltD_s, ↓z_gtD_s, ↓z_ltD_t, ↓z_gtD_t, ↓z_mulT, ↓z_getD, ↓z_lenD, ↓z_keysL, ↓z_valsL, ↓z_sset_l, ↓z_sortD, ↓z_minDs, hl2, show atI [D.str p, .str u, .str e, .str m] 1 = some (.str u) from rfl]
        have f := fin _ f11
        by_cases r1 : w < t.length
        · by_cases r2 : 1 < w
          · have r3 : u ≠ [115, 105, 103, 110, 115] := fun z => q1 ⟨r1, r2, z⟩
            simp [↓w_eVar, ↓w_eC, ↓w_eUn, ↓w_eUnX, ↓w_eBin, ↓w_eM1, ↓w_oBin, ↓w_oUn, ↓w_eOfO, ↓w_eNil, ↓w_eCons, ↓w_eTup, ↓w_oLst, ↓w_eCall, ↓w_oCall, ↓w_cT, ↓w_cNot, ↓w_cAnd, ↓w_cOr, ↓w_cYes, ↓w_eAndV, ↓w_eOrV, ↓w_eNotV, ↓w_eIf, ↓w_eOwnIdx, ↓w_qNone, ↓w_qSome, ↓w_eCut, ↓w_oCut, ↓w_eChain, ↓w_iAny, ↓w_iRange1, ↓w_iRange2, ↓w_iRange3, ↓w_eCallS, ↓w_oComp, ↓w_bName, ↓w_bNil, ↓w_bCons, ↓w_bTup, ↓s_sNil, ↓s_sNever, ↓s_sBreak, ↓s_sCont, ↓s_sIf, ↓s_sDrop, ↓s_sRet, ↓s_sRetN, ↓s_sRetO, ↓s_sRetV, ↓s_sSet, ↓s_sSetO, ↓s_sUnpack, ↓s_sParD, ↓w_setD_nil, ↓w_setD_cons, ↓w_vDat, ↓w_vOwn, ↓s_sPar2, ↓s_sAppend, ↓s_sSetIx, ↓s_sFor, ↓ho_mA, ↓ho_mO, ↓ho_mB, frame, ↓seqO_nx, ↓seqO_rt, ↓seqO_bk, ↓seqO_ct, ↓lpO_nx, ↓lpO_rt, ↓lpO_bk, ↓lpO_ct, ↓wsF, ↓wlF, ↓whF, backR, wipeR, datSlot, strsD_signs, join_signs, sum_ones2, ↓w_eOwnBin, ownAt, ↓w_eP, ↓w_eBinX, ↓w_eTupleP, ↓w_iEnumD, ↓w_iZipD, ↓w_eOfM, ↓w_mNew, ↓w_mDisp, ↓w_mDispT, ↓s_sSetM, ↓w_vDic, ↓w_eGetV, ↓w_eGetXV, ↓w_cInV, ↓s_sPutV, ↓w_eGetX, ↓w_iKeysD, ↓w_iItemsD, lookM, ↓z_add_i, ↓z_add_s, ↓z_add_t, ↓z_sub, ↓z_mul_i, ↓z_mul_s, ↓z_div, ↓z_mod, ↓z_pow, ↓z_neg, ↓z_eq_i, ↓z_eq_s, ↓z_eq_b, ↓z_eq_l, ↓z_eq_t, ↓z_ne_i, ↓z_ne_s, ↓z_ne_b, ↓z_ne_l, ↓z_ne_t, ↓z_eq_ns, ↓z_eq_sn, ↓z_ne_ns, ↓z_ne_sn, ↓z_lt, ↓z_le, ↓z_gt, ↓z_ge, ↓z_idx_l, ↓z_idx_t, ↓z_idx_r, ↓z_idx_s, ↓z_len_s, ↓z_len_l, ↓z_len_t, ↓z_len_r, ↓z_abs, ↓z_min2, ↓z_max2, ↓z_int_i, ↓z_int_b, ↓z_cut_s, ↓z_cut_t, ↓z_gcut, ↓z_rev, ↓z_grev, ↓z_gadd, ↓z_gmul, ↓z_list_l, ↓z_list_t, ↓z_list_s, ↓z_tuple_l, ↓z_tuple_t, ↓z_all, ↓z_any, ↓z_sum, ↓z_maxl, ↓z_minl, ↓z_rfind, ↓z_join_l, ↓z_join_t, ↓z_in_s, ↓z_nin_s, ↓z_in_t, ↓z_nin_t, ↓z_in_l, ↓z_nin_l, ↓z_items_l, ↓z_items_t, ↓z_items_r, ↓z_items_s, ↓z_isi_s, ↓z_isi_i, ↓z_isi_b, ↓z_isi_n, ↓z_isi_l, ↓z_isi_t, ↓z_isi_r, ↓z_ty_s, ↓z_ty_i, ↓z_ty_b, ↓z_ty_n, ↓z_ty_l, ↓z_ty_t, ↓z_k_ss, ↓z_k_ii, ↓z_k_ib, ↓z_k_tt, ↓z_k_ll, flatD, pVar, ↓ho_ite, ↓z_lset_l, ↓z_lset_t, ↓z_rg2, ↓z_rg1, ↓z_is_nn, ↓z_is_tn, ↓z_is_ln, ↓z_is_sn, ↓z_is_in, ↓z_is_bb, ↓z_isn_nn, ↓z_isn_tn, ↓z_isn_ln, ↓z_isn_sn, ↓z_isn_in, ↓z_isn_bb, ↓z_ne_nn, ↓z_eq_nn, ↓z_k_bb, ↓z_seq_l, ↓z_zip_l, ↓z_zip_t, ↓z_ltD_i, ↓z_gtD_i, ↓z_leD_i, ↓z_geD_i, ↓z_ltD_s, ↓z_gtD_s, ↓z_ltD_t, ↓z_gtD_t, ↓z_mulT, ↓z_getD, ↓z_lenD, ↓z_keysL, ↓z_valsL, ↓z_sset_l, ↓z_sortD, ↓z_minDs, r1, show (1 : Int) < (w : Int) by omega, r3, show atI [D.str p, .str u, .str e, .str m] 1 = some (.str u) from rfl]; exact f
          · simp [↓w_eVar, ↓w_eC, ↓w_eUn, ↓w_eUnX, ↓w_eBin, ↓w_eM1, ↓w_oBin, ↓w_oUn, ↓w_eOfO, ↓w_eNil, ↓w_eCons, ↓w_eTup, ↓w_oLst, ↓w_eCall, ↓w_oCall, ↓w_cT, ↓w_cNot, ↓w_cAnd, ↓w_cOr, ↓w_cYes, ↓w_eAndV, ↓w_eOrV, ↓w_eNotV, ↓w_eIf, ↓w_eOwnIdx, ↓w_qNone, ↓w_qSome, ↓w_eCut, ↓w_oCut, ↓w_eChain, ↓w_iAny, ↓w_iRange1, ↓w_iRange2, ↓w_iRange3, ↓w_eCallS, ↓w_oComp, ↓w_bName, ↓w_bNil, ↓w_bCons, ↓w_bTup, ↓s_sNil, ↓s_sNever, ↓s_sBreak, ↓s_sCont, ↓s_sIf, ↓s_sDrop, ↓s_sRet, ↓s_sRetN, ↓s_sRetO, ↓s_sRetV, ↓s_sSet, ↓s_sSetO, ↓s_sUnpack, ↓s_sParD, ↓w_setD_nil, ↓w_setD_cons, ↓w_vDat, ↓w_vOwn, ↓s_sPar2, ↓s_sAppend, ↓s_sSetIx, ↓s_sFor, ↓ho_mA, ↓ho_mO, ↓ho_mB, frame, ↓seqO_nx, ↓seqO_rt, ↓seqO_bk, ↓seqO_ct, ↓lpO_nx, ↓lpO_rt, ↓lpO_bk, ↓lpO_ct, ↓wsF, ↓wlF, ↓whF, backR, wipeR, datSlot, strsD_signs, join_signs, sum_ones2, ↓w_eOwnBin, ownAt, ↓w_eP, ↓w_eBinX, ↓w_eTupleP, ↓w_iEnumD, ↓w_iZipD, ↓w_eOfM, ↓w_mNew, ↓w_mDisp, ↓w_mDispT, ↓s_sSetM, ↓w_vDic, ↓w_eGetV, ↓w_eGetXV, ↓w_cInV, ↓s_sPutV, ↓w_eGetX, ↓w_iKeysD, ↓w_iItemsD, lookM, ↓z_add_i, ↓z_add_s, ↓z_add_t, ↓z_sub, ↓z_mul_i, ↓z_mul_s, ↓z_div, ↓z_mod, ↓z_pow, ↓z_neg, ↓z_eq_i, ↓z_eq_s, ↓z_eq_b, ↓z_eq_l, ↓z_eq_t, ↓z_ne_i, ↓z_ne_s, ↓z_ne_b, ↓z_ne_l, ↓z_ne_t, ↓z_eq_ns, ↓z_eq_sn, ↓z_ne_ns, ↓z_ne_sn, ↓z_lt, ↓z_le, ↓z_gt, ↓z_ge, ↓z_idx_l, ↓z_idx_t, ↓z_idx_r, ↓z_idx_s, ↓z_len_s, ↓z_len_l, ↓z_len_t, ↓z_len_r, ↓z_abs, ↓z_min2, ↓z_max2, ↓z_int_i, ↓z_int_b, ↓z_cut_s, ↓z_cut_t, ↓z_gcut, ↓z_rev, ↓z_grev, ↓z_gadd, ↓z_gmul, ↓z_list_l, ↓z_list_t, ↓z_list_s, ↓z_tuple_l, ↓z_tuple_t, ↓z_all, ↓z_any, ↓z_sum, ↓z_maxl, ↓z_minl, ↓z_rfind, ↓z_join_l, ↓z_join_t, ↓z_in_s, ↓z_nin_s, ↓z_in_t, ↓z_nin_t, ↓z_in_l, ↓z_nin_l, ↓z_items_l, ↓z_items_t, ↓z_items_r, ↓z_items_s, ↓z_isi_s, ↓z_isi_i, ↓z_isi_b, ↓z_isi_n, ↓z_isi_l, ↓z_isi_t, ↓z_isi_r, ↓z_ty_s, ↓z_ty_i, ↓z_ty_b, ↓z_ty_n, ↓z_ty_l, ↓z_ty_t, ↓z_k_ss, ↓z_k_ii, ↓z_k_ib, ↓z_k_tt, ↓z_k_ll, flatD, pVar, ↓ho_ite, ↓z_lset_l, ↓z_lset_t, ↓z_rg2, ↓z_rg1, ↓z_is_nn, ↓z_is_tn, ↓z_is_ln, ↓z_is_sn, ↓z_is_in, ↓z_is_bb, ↓z_isn_nn, ↓z_isn_tn, ↓z_isn_ln, ↓z_isn_sn, ↓z_isn_in, ↓z_isn_bb, ↓z_ne_nn, ↓z_eq_nn, ↓z_k_bb, ↓z_seq_l, ↓z_zip_l, ↓z_zip_t, ↓z_ltD_i, ↓z_gtD_i, ↓z_leD_i, ↓z_geD_i, ↓z_ltD_s, ↓z_gtD_s, ↓z_ltD_t, ↓z_gtD_t, ↓z_mulT, ↓z_getD, ↓z_lenD, ↓z_keysL, ↓z_valsL, ↓z_sset_l, ↓z_sortD, ↓z_minDs, r1, show ¬ (1 : Int) < (w : Int) by omega]; exact f
        · simp [↓w_eVar, ↓w_eC, ↓w_eUn, ↓w_eUnX, ↓w_eBin, ↓w_eM1, ↓w_oBin, ↓w_oUn, ↓w_eOfO, ↓w_eNil, ↓w_eCons, ↓w_eTup, ↓w_oLst, ↓w_eCall, ↓w_oCall, ↓w_cT, ↓w_cNot, ↓w_cAnd, ↓w_cOr, ↓w_cYes, ↓w_eAndV, ↓w_eOrV, ↓w_eNotV, ↓w_eIf, ↓w_eOwnIdx, ↓w_qNone, ↓w_qSome, ↓w_eCut, ↓w_oCut, ↓w_eChain, ↓w_iAny, ↓w_iRange1, ↓w_iRange2, ↓w_iRange3, ↓w_eCallS, ↓w_oComp, ↓w_bName, ↓w_bNil, ↓w_bCons, ↓w_bTup, ↓s_sNil, ↓s_sNever, ↓s_sBreak, ↓s_sCont, ↓s_sIf, ↓s_sDrop, ↓s_sRet, ↓s_sRetN, ↓s_sRetO, ↓s_sRetV, ↓s_sSet, ↓s_sSetO, ↓s_sUnpack, ↓s_sParD, ↓w_setD_nil, ↓w_setD_cons, ↓w_vDat, ↓w_vOwn, ↓s_sPar2, ↓s_sAppend, ↓s_sSetIx, ↓s_sFor, ↓ho_mA, ↓ho_mO, ↓ho_mB, frame, ↓seqO_nx, ↓seqO_rt, ↓seqO_bk, ↓seqO_ct, ↓lpO_nx, ↓lpO_rt, ↓lpO_bk, ↓lpO_ct, ↓wsF, ↓wlF, ↓whF, backR, wipeR, datSlot, strsD_signs, join_signs, sum_ones2, ↓w_eOwnBin, ownAt, ↓w_eP, ↓w_eBinX, ↓w_eTupleP, ↓w_iEnumD, ↓w_iZipD, ↓w_eOfM, ↓w_mNew, ↓w_mDisp, ↓w_mDispT, ↓s_sSetM, ↓w_vDic, ↓w_eGetV, ↓w_eGetXV, ↓w_cInV, ↓s_sPutV, ↓w_eGetX, ↓w_iKeysD, ↓w_iItemsD, lookM, ↓z_add_i, ↓z_add_s, ↓z_add_t, ↓z_sub, ↓z_mul_i, ↓z_mul_s, ↓z_div, ↓z_mod, ↓z_pow, ↓z_neg, ↓z_eq_i, ↓z_eq_s, ↓z_eq_b, ↓z_eq_l, ↓z_eq_t, ↓z_ne_i, ↓z_ne_s, ↓z_ne_b, ↓z_ne_l, ↓z_ne_t, ↓z_eq_ns, ↓z_eq_sn, ↓z_ne_ns, ↓z_ne_sn, ↓z_lt, ↓z_le, ↓z_gt, ↓z_ge, ↓z_idx_l, ↓z_idx_t, ↓z_idx_r, ↓z_idx_s, ↓z_len_s, ↓z_len_l, ↓z_len_t, ↓z_len_r, ↓z_abs, ↓z_min2, ↓z_max2, ↓z_int_i, ↓z_int_b, ↓z_cut_s, ↓z_cut_t, ↓z_gcut, ↓z_rev, ↓z_grev, ↓z_gadd, ↓z_gmul, ↓z_list_l, ↓z_list_t, ↓z_list_s, ↓z_tuple_l, ↓z_tuple_t, ↓z_all, ↓z_any, ↓z_sum, ↓z_maxl, ↓z_minl, ↓z_rfind, ↓z_join_l, ↓z_join_t, ↓z_in_s, ↓z_nin_s, ↓z_in_t, ↓z_nin_t, ↓z_in_l, ↓z_nin_l, ↓z_items_l, ↓z_items_t, ↓z_items_r, ↓z_items_s, ↓z_isi_s, ↓z_isi_i, ↓z_isi_b, ↓z_isi_n, ↓z_isi_l, ↓z_isi_t, ↓z_isi_r, ↓z_ty_s, ↓z_ty_i, ↓z_ty_b, ↓z_ty_n, ↓z_ty_l, ↓z_ty_t, ↓z_k_ss, ↓z_k_ii, ↓z_k_ib, ↓z_k_tt, ↓z_k_ll, flatD, pVar, ↓ho_ite, ↓z_lset_l, ↓z_lset_t, ↓z_rg2, ↓z_rg1, ↓z_is_nn, ↓z_is_tn, ↓z_is_ln, ↓z_is_sn, ↓z_is_in, ↓z_is_bb, ↓z_isn_nn, ↓z_isn_tn, ↓z_isn_ln, ↓z_isn_sn, ↓z_isn_in, ↓z_isn_bb, ↓z_ne_nn, ↓z_eq_nn, ↓z_k_bb, ↓z_seq_l, ↓z_zip_l, ↓z_zip_t, ↓z_ltD_i, ↓z_gtD_i, ↓z_leD_i, ↓z_geD_i, ↓z_ltD_s, ↓z_gtD_s, ↓z_ltD_t, ↓z_gtD_t, ↓z_mulT, ↓z_getD, ↓z_lenD, ↓z_keysL, ↓z_valsL, ↓z_sset_l, ↓z_sortD, ↓z_minDs, r1]; exact f
    · intro ρ hI'
      obtain ⟨src, s4, s5, s6, s7, s8, s9, s10, s11, rfl, hs, hM, hf⟩ := (hI _).mp hI'
      have := hM.free
      simp only [frI_cons] at hf
      exact ⟨_, _, _, _, _, _, _, _, _, _, _, rfl, by simp [frI_cons, frI_nil, F1_dat, F1_own, hf, this]⟩
  · intro ρ hI
    obtain ⟨s1, s2, s3, s4, s5, s6, s7, s8, s9, s10, s11, rfl, hf⟩ := hI
    have e1 : m_same_ways [.tup [.str [115, 116, 97, 114, 116], .str [119, 111, 114, 100, 115], .str [107, 101, 101, 112], .str [46]]] = some (.lst [.tup [.str [115, 116, 97, 114, 116], .str [119, 111, 114, 100, 115], .str [107, 101, 101, 112], .str [46]]]) := some_is (by decide +kernel)
    have okv : okD (.lst [.tup [.str [115, 116, 97, 114, 116], .str [119, 111, 114, 100, 115], .str [107, 101, 101, 112], .str [46]]]) = true := okD_of (n := 2) rfl (by omega)
    have evv := (eqv_pl (d := .lst [.tup [.str [115, 116, 97, 114, 116], .str [119, 111, 114, 100, 115], .str [107, 101, 101, 112], .str [46]]]) (e := .lst [.tup [.str [115, 116, 97, 114, 116], .str [119, 111, 114, 100, 115], .str [107, 101, 101, 112], .str [46]]]) rfl rfl).mpr rfl
    simp [↓w_eVar, ↓w_eC, ↓w_eUn, ↓w_eUnX, ↓w_eBin, ↓w_eM1, ↓w_oBin, ↓w_oUn, ↓w_eOfO, ↓w_eNil, ↓w_eCons, ↓w_eTup, ↓w_oLst, ↓w_eCall, ↓w_oCall, ↓w_cT, ↓w_cNot, ↓w_cAnd, ↓w_cOr, ↓w_cYes, ↓w_eAndV, ↓w_eOrV, ↓w_eNotV, ↓w_eIf, ↓w_eOwnIdx, ↓w_qNone, ↓w_qSome, ↓w_eCut, ↓w_oCut, ↓w_eChain, ↓w_iAny, ↓w_iRange1, ↓w_iRange2, ↓w_iRange3, ↓w_eCallS, ↓w_oComp, ↓w_bName, ↓w_bNil, ↓w_bCons, ↓w_bTup, ↓s_sNil, ↓s_sSeq, ↓s_sNever, ↓s_sBreak, ↓s_sCont, ↓s_sIf, ↓s_sDrop, ↓s_sRet, ↓s_sRetN, ↓s_sRetO, ↓s_sRetV, ↓s_sSet, ↓s_sSetO, ↓s_sUnpack, ↓s_sParD, ↓w_setD_nil, ↓w_setD_cons, ↓w_vDat, ↓w_vOwn, ↓s_sPar2, ↓s_sAppend, ↓s_sSetIx, ↓s_sFor, ↓ho_mA, ↓ho_mO, ↓ho_mB, frame, ↓seqO_nx, ↓seqO_rt, ↓seqO_bk, ↓seqO_ct, ↓lpO_nx, ↓lpO_rt, ↓lpO_bk, ↓lpO_ct, ↓wsF, ↓wlF, ↓whF, backR, wipeR, datSlot, strsD_signs, join_signs, sum_ones2, ↓w_eOwnBin, ownAt, ↓w_eP, ↓w_eBinX, ↓w_eTupleP, ↓w_iEnumD, ↓w_iZipD, ↓w_eOfM, ↓w_mNew, ↓w_mDisp, ↓w_mDispT, ↓s_sSetM, ↓w_vDic, ↓w_eGetV, ↓w_eGetXV, ↓w_cInV, ↓s_sPutV, ↓w_eGetX, ↓w_iKeysD, ↓w_iItemsD, lookM, ↓z_add_i, ↓z_add_s, ↓z_add_t, ↓z_sub, ↓z_mul_i, ↓z_mul_s, ↓z_div, ↓z_mod, ↓z_pow, ↓z_neg, ↓z_eq_i, ↓z_eq_s, ↓z_eq_b, ↓z_eq_l, ↓z_eq_t, ↓z_ne_i, ↓z_ne_s, ↓z_ne_b, ↓z_ne_l, ↓z_ne_t, ↓z_eq_ns, ↓z_eq_sn, ↓z_ne_ns, ↓z_ne_sn, ↓z_lt, ↓z_le, ↓z_gt, ↓z_ge, ↓z_idx_l, ↓z_idx_t, ↓z_idx_r, ↓z_idx_s, ↓z_len_s, ↓z_len_l, ↓z_len_t, ↓z_len_r, ↓z_abs, ↓z_min2, ↓z_max2, ↓z_int_i, ↓z_int_b, ↓z_cut_s, ↓z_cut_t, ↓z_gcut, ↓z_rev, ↓z_grev, ↓z_gadd, ↓z_gmul, ↓z_list_l, ↓z_list_t, ↓z_list_s, ↓z_tuple_l, ↓z_tuple_t, ↓z_all, ↓z_any, ↓z_sum, ↓z_maxl, ↓z_minl, ↓z_rfind, ↓z_join_l, ↓z_join_t, ↓z_in_s, ↓z_nin_s, ↓z_in_t, ↓z_nin_t, ↓z_in_l, ↓z_nin_l, ↓z_items_l, ↓z_items_t, ↓z_items_r, ↓z_items_s, ↓z_isi_s, ↓z_isi_i, ↓z_isi_b, ↓z_isi_n, ↓z_isi_l, ↓z_isi_t, ↓z_isi_r, ↓z_ty_s, ↓z_ty_i, ↓z_ty_b, ↓z_ty_n, ↓z_ty_l, ↓z_ty_t, ↓z_k_ss, ↓z_k_ii, ↓z_k_ib, ↓z_k_tt, ↓z_k_ll, flatD, pVar, ↓ho_ite, ↓z_lset_l, ↓z_lset_t, ↓z_rg2, ↓z_rg1, ↓z_is_nn, ↓z_is_tn, ↓z_is_ln, ↓z_is_sn, ↓z_is_in, ↓z_is_bb, ↓z_isn_nn, ↓z_isn_tn, ↓z_isn_ln, ↓z_isn_sn, ↓z_isn_in, ↓z_isn_bb, ↓z_ne_nn, ↓z_eq_nn, ↓z_k_bb, ↓z_seq_l, ↓z_zip_l, ↓z_zip_t, ↓z_ltD_i, ↓z_gtD_i, ↓z_leD_i, ↓z_geD_i, ↓z_ltD_s, ↓z_gtD_s, ↓z_ltD_t, ↓z_gtD_t, ↓z_mulT, ↓z_getD, ↓z_lenD, ↓z_keysL, ↓z_valsL, ↓z_sset_l, ↓z_sortD, ↓z_minDs, e1, okv, evv]

def top (i : Nat) : Stmt := PySem.Challenge.pw_cutwidths_k13_whole_ends_exchanged.main.body.getD i (.Pass ⟨0, 0, 0, 0⟩)
structure Txt (K : PySem.W.Frag) (mg : Str → Option Value) : Prop where
  abs : mg "abs" = none
  all : mg "all" = none
  bool : mg "bool" = none
  int : mg "int" = none
  isinstance : mg "isinstance" = none
  len : mg "len" = none
  list : mg "list" = none
  min : mg "min" = none
  range : mg "range" = none
  str : mg "str" = none
  tuple : mg "tuple" = none
  c_ENDINGS : Gt K mg "ENDINGS" [[100, 114, 111, 112], [107, 101, 101, 112]]
  c_LETTERS : Gs mg "LETTERS" [97, 98, 99]
  c_MARKS : Gt K mg "MARKS" [[], [46], [126]]
  c_MOST_ENDING : Gi mg "MOST_ENDING" 4
  c_MOST_TEXT : Gi mg "MOST_TEXT" 40
  c_MOST_WIDTH : Gi mg "MOST_WIDTH" 40
  c_PLACES : Gt K mg "PLACES" [[101, 110, 100], [109, 105, 100, 100, 108, 101], [115, 116, 97, 114, 116]]
  c_SIGNS : Gs mg "SIGNS" [32, 46, 97, 98, 99, 126]
  c_UNITS : Gt K mg "UNITS" [[115, 105, 103, 110, 115], [119, 111, 114, 100, 115]]
section
variable {P : Program} {w : World} {K : PySem.W.Frag} {mg : Str → Option Value} {base : Heap}
abbrev st__law_source : Stmt := top 36
theorem sc__law_source : FnScope ["script", "index", "cell"] ["script", "index"] (defScope st__law_source) := ⟨rfl, rfl, rfl, by decide +kernel, rfl, by decide +kernel, by decide +kernel⟩
theorem ok__law_source {f : Addr} {fd : FuncData} (F : Fun K "_law_source" "_law_source" st__law_source f fd) (T : Txt K mg) : FnOk P w K mg base CX0 1 f fd ["script", "index"] (spO K m__law_source) :=
  fn_O F sc__law_source (by decide) fun cdv A outer s H E hr =>
    (dss_cons (s_set (i := 2) sc__law_source.nd de_int)
    (dss_cons (ds_if (t_cmp k_lt (de_var 1 (pv 1)) (e_len T.len (dx_e (de_var 0 (pv 0)))))
    (dss_one (s_set (i := 2) sc__law_source.nd (e_abs T.abs (da_cons (e_ix (de_var 0 (pv 0)) (de_var 1 (pv 1))) da_nil))))
    dss_nil)
    (dss_cons (ds_if (t_cmp k_lt (de_var 2 (pv 2)) (e_pow de_int de_int))
    (dss_one (ds_retO (do_lst (da_cons de_int (da_cons (e_add de_int (e_mod (e_int T.int (da_cons (e_add (e_mul (de_var 2 (pv 2)) de_int) (e_mul de_int (de_var 1 (pv 1)))) da_nil)) de_int)) da_nil)))))
    dss_nil)
    (dss_one (ds_retO (do_lst (da_cons (de_var 2 (pv 2)) (da_cons (e_add de_int (e_mod (e_int T.int (da_cons (e_add (de_var 2 (pv 2)) (de_var 1 (pv 1))) da_nil)) de_int)) da_nil))))))))
abbrev st__law_draw : Stmt := top 37
theorem sc__law_draw : FnScope ["source", "size", "drawn"] ["source", "size"] (defScope st__law_draw) := ⟨rfl, rfl, rfl, by decide +kernel, rfl, by decide +kernel, by decide +kernel⟩
theorem ok__law_draw {f : Addr} {fd : FuncData} (F : Fun K "_law_draw" "_law_draw" st__law_draw f fd) (T : Txt K mg) : FnOk P w K mg base CX0 1 f fd ["source", "size"] (spB K m__law_draw) :=
  fn_B F sc__law_draw (by decide) fun cdv A outer s H E hr =>
    (dss_cons (ds_if (t_cmp k_gt (e_ownIx (i := 0) (pv 0) de_int) de_int)
    (dss_cons (s_set (i := 2) sc__law_draw.nd (e_mod (e_int T.int (da_cons (e_ownIx (i := 0) (pv 0) de_int) da_nil)) (de_var 1 (pv 1))))
    (dss_cons (s_setIx (i := 0) (pv 0) (e_div (e_ownIx (i := 0) (pv 0) de_int) (de_var 1 (pv 1))) de_int)
    (dss_one (ds_ret (de_var 2 (pv 2))))))
    dss_nil)
    (dss_cons (s_setIx (i := 0) (pv 0) (e_mod (e_int T.int (da_cons (e_mul (e_ownIx (i := 0) (pv 0) de_int) de_int) da_nil)) de_int) de_int)
    (dss_one (ds_ret (e_mod (e_int T.int (da_cons (e_div (e_mod (e_int T.int (da_cons (e_mul (e_ownIx (i := 0) (pv 0) de_int) (e_ownIx (i := 0) (pv 0) de_int)) da_nil)) de_int) de_int) da_nil)) (de_var 1 (pv 1)))))))
abbrev st__law_choice : Stmt := top 38
theorem sc__law_choice : FnScope ["source", "items"] ["source", "items"] (defScope st__law_choice) := ⟨rfl, rfl, rfl, by decide +kernel, rfl, by decide +kernel, by decide +kernel⟩
theorem ok__law_choice {f : Addr} {fd : FuncData} (F : Fun K "_law_choice" "_law_choice" st__law_choice f fd) (T : Txt K mg) (c__law_draw : Df P w K mg base "_law_draw" 1 ["source", "size"] (spB K m__law_draw)) : FnOk P w K mg base CX0 2 f fd ["source", "items"] (spB K m__law_choice) :=
  fn_B F sc__law_choice (by decide) fun cdv A outer s H E hr =>
    (dss_one (ds_ret (e_ix (de_var 1 (pv 1)) (e_B (i := 0) c__law_draw (hr) (by decide) (pv 0) (da_cons (e_len T.len (dx_e (de_var 1 (pv 1)))) da_nil)))))
abbrev st_is_way : Stmt := top 16
theorem sc_is_way : FnScope ["value", "part"] ["value"] (defScope st_is_way) := ⟨rfl, rfl, rfl, by decide +kernel, rfl, by decide +kernel, by decide +kernel⟩
theorem ok_is_way {f : Addr} {fd : FuncData} (F : Fun K "is_way" "is_way" st_is_way f fd) (T : Txt K mg) : FnOk P w K mg base CX0 1 f fd ["value"] (spA K m_is_way) :=
  fn_A F sc_is_way (by decide) fun cdv A outer s H E hr =>
    (dss_cons (ds_if (dt_w (dw_or (dt_not (t_val (e_isi (T := "tuple") T.isinstance T.tuple (by decide +kernel) (dx_e (de_var 0 (pv 0)))))) (dw_or (t_cmp (k_ne hr.units) (e_len T.len (dx_e (de_var 0 (pv 0)))) de_int) (dw_or1 (dt_not (t_val (e_all rfl T.all (dx_e (de_o (do_lc (own := [("part", 1)]) rfl sc_is_way.nd (i_any (de_var 0 (pv 0))) (blkOk_by (N := ["value", "part"]) (sc := defScope st_is_way) (by decide +kernel)) (fun _ _ _ _ _ => (g_name sc_is_way.nd)) (fun _ _ _ _ _ => dts_nil) (fun _ _ _ _ _ => (e_isi (T := "str") T.isinstance T.str (by decide +kernel) (dx_e (de_var 1 (pv 1))))) (by decide) (by intro _; rfl)))))))))))
    (dss_one (ds_ret de_bl))
    dss_nil)
    (dss_one (ds_ret (de_and (e_cmp (k_in (room65 hr)) (e_ix (de_var 0 (pv 0)) de_int) (e_gt T.c_PLACES)) (de_and (e_cmp (k_in (room65 hr)) (e_ix (de_var 0 (pv 0)) de_int) (e_gt T.c_UNITS)) (de_and (e_cmp (k_in (room65 hr)) (e_ix (de_var 0 (pv 0)) de_int) (e_gt T.c_ENDINGS)) (de_one (e_cmp (k_in (room65 hr)) (e_ix (de_var 0 (pv 0)) de_int) (e_gt T.c_MARKS)))))))))
abbrev st_need_way : Stmt := top 18
theorem sc_need_way : FnScope ["way"] ["way"] (defScope st_need_way) := ⟨rfl, rfl, rfl, by decide +kernel, rfl, by decide +kernel, by decide +kernel⟩
theorem ok_need_way {f : Addr} {fd : FuncData} (F : Fun K "need_way" "need_way" st_need_way f fd) (T : Txt K mg) (c_is_way : Df P w K mg base "is_way" 1 ["value"] (spA K m_is_way)) : FnOk P w K mg base CX0 2 f fd ["way"] (spA K m_need_way) :=
  fn_A F sc_need_way (by decide) fun cdv A outer s H E hr =>
    (dss_one (ds_if (dt_not (t_val (e_A c_is_way (hr) (by decide) (da_cons (de_var 0 (pv 0)) da_nil))))
    (dss_one ds_never)
    dss_nil))
abbrev st_is_text : Stmt := top 17
theorem sc_is_text : FnScope ["value", "sign"] ["value"] (defScope st_is_text) := ⟨rfl, rfl, rfl, by decide +kernel, rfl, by decide +kernel, by decide +kernel⟩
theorem ok_is_text {f : Addr} {fd : FuncData} (F : Fun K "is_text" "is_text" st_is_text f fd) (T : Txt K mg) : FnOk P w K mg base CX0 1 f fd ["value"] (spA K m_is_text) :=
  fn_A F sc_is_text (by decide) fun cdv A outer s H E hr =>
    (dss_one (ds_ret (de_and (e_isi (T := "str") T.isinstance T.str (by decide +kernel) (dx_e (de_var 0 (pv 0)))) (de_and (e_cmp k_le (e_len T.len (dx_e (de_var 0 (pv 0)))) (e_gi T.c_MOST_TEXT)) (de_one (e_all rfl T.all (dx_e (de_o (do_lc (own := [("sign", 1)]) rfl sc_is_text.nd (i_any (de_var 0 (pv 0))) (blkOk_by (N := ["value", "sign"]) (sc := defScope st_is_text) (by decide +kernel)) (fun _ _ _ _ _ => (g_name sc_is_text.nd)) (fun _ _ _ _ _ => dts_nil) (fun _ _ _ _ _ => (e_cmp (k_in (room65 hr)) (de_var 1 (pv 1)) (e_gs T.c_SIGNS))) (by decide) (by intro _; rfl))))))))))
abbrev st_need_text : Stmt := top 19
theorem sc_need_text : FnScope ["text"] ["text"] (defScope st_need_text) := ⟨rfl, rfl, rfl, by decide +kernel, rfl, by decide +kernel, by decide +kernel⟩
theorem ok_need_text {f : Addr} {fd : FuncData} (F : Fun K "need_text" "need_text" st_need_text f fd) (T : Txt K mg) (c_is_text : Df P w K mg base "is_text" 1 ["value"] (spA K m_is_text)) : FnOk P w K mg base CX0 2 f fd ["text"] (spA K m_need_text) :=
  fn_A F sc_need_text (by decide) fun cdv A outer s H E hr =>
    (dss_one (ds_if (dt_not (t_val (e_A c_is_text (hr) (by decide) (da_cons (de_var 0 (pv 0)) da_nil))))
    (dss_one ds_never)
    dss_nil))
abbrev st_ending_of : Stmt := top 21
theorem sc_ending_of : FnScope ["text", "point", "letters", "letter"] ["text"] (defScope st_ending_of) := ⟨rfl, rfl, rfl, by decide +kernel, rfl, by decide +kernel, by decide +kernel⟩
theorem ok_ending_of {f : Addr} {fd : FuncData} (F : Fun K "ending_of" "ending_of" st_ending_of f fd) (T : Txt K mg) : FnOk P w K mg base CX0 1 f fd ["text"] (spA K m_ending_of) :=
  fn_A F sc_ending_of (by decide) fun cdv A outer s H E hr =>
    (dss_cons (s_set (i := 1) sc_ending_of.nd (e_rfind (de_var 0 (pv 0)) (de_str (s := [46]) (by decide +kernel))))
    (dss_cons (s_set (i := 2) sc_ending_of.nd (de_cut (de_var 0 (pv 0)) (dq_some (e_add (de_var 1 (pv 1)) de_int)) dq_none))
    (dss_cons (ds_if (dt_w (dw_or (t_cmp k_lt (de_var 1 (pv 1)) de_int) (dw_or (dt_not (t_chain k_le k_le de_int (e_len T.len (dx_e (de_var 2 (pv 2)))) (e_gi T.c_MOST_ENDING))) (dw_or1 (dt_not (t_val (e_all rfl T.all (dx_e (de_o (do_lc (own := [("letter", 3)]) rfl sc_ending_of.nd (i_any (de_var 2 (pv 2))) (blkOk_by (N := ["text", "point", "letters", "letter"]) (sc := defScope st_ending_of) (by decide +kernel)) (fun _ _ _ _ _ => (g_name sc_ending_of.nd)) (fun _ _ _ _ _ => dts_nil) (fun _ _ _ _ _ => (e_cmp (k_in (room65 hr)) (de_var 3 (pv 3)) (e_gs T.c_LETTERS))) (by decide) (by intro _; rfl)))))))))))
    (dss_one (ds_ret (de_str (s := []) (by decide +kernel))))
    dss_nil)
    (dss_one (ds_ret (de_cut (de_var 0 (pv 0)) (dq_some (de_var 1 (pv 1))) dq_none))))))
abbrev st_ending : Stmt := top 26
theorem sc_ending : FnScope ["text"] ["text"] (defScope st_ending) := ⟨rfl, rfl, rfl, by decide +kernel, rfl, by decide +kernel, by decide +kernel⟩
theorem ok_ending {f : Addr} {fd : FuncData} (F : Fun K "ending" "ending" st_ending f fd) (T : Txt K mg) (c_need_text : Df P w K mg base "need_text" 2 ["text"] (spA K m_need_text)) (c_ending_of : Df P w K mg base "ending_of" 1 ["text"] (spA K m_ending_of)) : FnOk P w K mg base CX0 3 f fd ["text"] (spA K m_ending) :=
  fn_A F sc_ending (by decide) fun cdv A outer s H E hr =>
    (dss_cons (s_drop (e_A c_need_text (hr) (by decide) (da_cons (de_var 0 (pv 0)) da_nil)))
    (dss_one (ds_ret (e_A c_ending_of (hr) (by decide) (da_cons (de_var 0 (pv 0)) da_nil)))))
abbrev st_all_ways : Stmt := top 30
theorem sc_all_ways : FnScope ["found", "where", "unit", "ending", "mark"] [] (defScope st_all_ways) := ⟨rfl, rfl, rfl, by decide +kernel, rfl, by decide +kernel, by decide +kernel⟩
theorem ok_all_ways {f : Addr} {fd : FuncData} (F : Fun K "all_ways" "all_ways" st_all_ways f fd) (T : Txt K mg) (c_ending : Df P w K mg base "ending" 3 ["text"] (spA K m_ending)) : FnOk P w K mg base CX0 4 f fd [] (spA K m_all_ways) :=
  fn_A F sc_all_ways (by decide) fun cdv A outer s H E hr =>
    (dss_cons (s_setO (i := 0) sc_all_ways.nd (do_lst da_nil))
    (dss_cons (s_for rfl PassesOwn.never (i_any (e_gt T.c_PLACES)) (g_name sc_all_ways.nd)
    (dss_one (s_for rfl PassesOwn.never (i_any (e_gt T.c_UNITS)) (g_name sc_all_ways.nd)
    (dss_one (s_for rfl PassesOwn.never (i_any (e_gt T.c_ENDINGS)) (g_name sc_all_ways.nd)
    (dss_one (s_setO (i := 0) sc_all_ways.nd (o_add (de_var 0 (pv 0)) (de_o (do_lc (own := [("mark", 4)]) rfl sc_all_ways.nd (i_any (e_gt T.c_MARKS)) (blkOk_by (N := ["found", "where", "unit", "ending", "mark"]) (sc := defScope st_all_ways) (by decide +kernel)) (fun _ _ _ _ _ => (g_name sc_all_ways.nd)) (fun _ _ _ _ _ => dts_nil) (fun _ _ _ _ _ => (de_tup (da_cons (de_var 1 (pv 1)) (da_cons (de_var 2 (pv 2)) (da_cons (de_var 3 (pv 3)) (da_cons (de_var 4 (pv 4)) da_nil)))))) (by decide) (by intro _; rfl)))))))))))
    (dss_one (ds_ret (de_var 0 (pv 0))))))
abbrev st_are_alike : Stmt := top 29
theorem sc_are_alike : FnScope ["one", "other"] ["one", "other"] (defScope st_are_alike) := ⟨rfl, rfl, rfl, by decide +kernel, rfl, by decide +kernel, by decide +kernel⟩
theorem ok_are_alike {f : Addr} {fd : FuncData} (F : Fun K "are_alike" "are_alike" st_are_alike f fd) (T : Txt K mg) : FnOk P w K mg base CX0 1 f fd ["one", "other"] (spA K m_are_alike) :=
  fn_A F sc_are_alike (by decide) fun cdv A outer s H E hr =>
    (dss_cons (ds_if (dt_w (dw_and (t_cmp (k_eq hr.units) (de_cut (de_var 0 (pv 0)) dq_none (dq_some de_int)) (de_tup (da_cons (de_str (s := [115, 116, 97, 114, 116]) (by decide +kernel)) (da_cons (de_str (s := [115, 105, 103, 110, 115]) (by decide +kernel)) da_nil)))) (dw_and1 (t_cmp (k_eq hr.units) (de_cut (de_var 1 (pv 1)) dq_none (dq_some de_int)) (de_tup (da_cons (de_str (s := [115, 116, 97, 114, 116]) (by decide +kernel)) (da_cons (de_str (s := [115, 105, 103, 110, 115]) (by decide +kernel)) da_nil)))))))
    (dss_one (ds_ret (e_cmp (k_eq hr.units) (e_ix (de_var 0 (pv 0)) de_int) (e_ix (de_var 1 (pv 1)) de_int))))
    dss_nil)
    (dss_one (ds_ret (e_cmp (k_eq hr.units) (de_var 0 (pv 0)) (de_var 1 (pv 1))))))
abbrev st_same_ways : Stmt := top 31
theorem sc_same_ways : FnScope ["way", "other"] ["way"] (defScope st_same_ways) := ⟨rfl, rfl, rfl, by decide +kernel, rfl, by decide +kernel, by decide +kernel⟩
theorem ok_same_ways {f : Addr} {fd : FuncData} (F : Fun K "same_ways" "same_ways" st_same_ways f fd) (T : Txt K mg) (c_need_way : Df P w K mg base "need_way" 2 ["way"] (spA K m_need_way)) (c_all_ways : Df P w K mg base "all_ways" 4 [] (spA K m_all_ways)) (c_are_alike : Df P w K mg base "are_alike" 1 ["one", "other"] (spA K m_are_alike)) : FnOk P w K mg base CX0 5 f fd ["way"] (spA K m_same_ways) :=
  fn_A F sc_same_ways (by decide) fun cdv A outer s H E hr =>
    (dss_cons (s_drop (e_A c_need_way (hr) (by decide) (da_cons (de_var 0 (pv 0)) da_nil)))
    (dss_one (ds_ret (de_o (do_lc (own := [("other", 1)]) rfl sc_same_ways.nd (i_any (e_A0 c_all_ways (hr) (by decide))) (blkOk_by (N := ["way", "other"]) (sc := defScope st_same_ways) (by decide +kernel)) (fun _ _ _ _ _ => (g_name sc_same_ways.nd)) (fun _ _ _ _ _ => (dts_one (t_val (e_A c_are_alike (hr) (by decide) (da_cons (de_var 0 (pv 0)) (da_cons (de_var 1 (pv 1)) da_nil)))))) (fun _ _ _ _ _ => (de_var 1 (pv 1))) (by decide) (by intro _; rfl))))))
abbrev st__law_way : Stmt := top 39
theorem sc__law_way : FnScope ["source", "where", "unit"] ["source"] (defScope st__law_way) := ⟨rfl, rfl, rfl, by decide +kernel, rfl, by decide +kernel, by decide +kernel⟩
theorem ok__law_way {f : Addr} {fd : FuncData} (F : Fun K "_law_way" "_law_way" st__law_way f fd) (T : Txt K mg) (c__law_choice : Df P w K mg base "_law_choice" 2 ["source", "items"] (spB K m__law_choice)) : FnOk P w K mg base CX0 3 f fd ["source"] (spB K m__law_way) :=
  fn_B F sc__law_way (by decide) fun cdv A outer s H E hr =>
    (dss_cons (s_par2D (i := 1) (j := 2) rfl sc__law_way.nd (da_cons (e_B (i := 0) c__law_choice (hr) (by decide) (pv 0) (da_cons (de_o (do_lst (da_cons (de_str (s := [101, 110, 100]) (by decide +kernel)) (da_cons (de_str (s := [109, 105, 100, 100, 108, 101]) (by decide +kernel)) (da_cons (de_str (s := [115, 116, 97, 114, 116]) (by decide +kernel)) da_nil))))) da_nil)) (da_cons (e_B (i := 0) c__law_choice (hr) (by decide) (pv 0) (da_cons (de_o (do_lst (da_cons (de_str (s := [115, 105, 103, 110, 115]) (by decide +kernel)) (da_cons (de_str (s := [119, 111, 114, 100, 115]) (by decide +kernel)) da_nil)))) da_nil)) da_nil)))
    (dss_one (ds_ret (de_tup (da_cons (de_var 1 (pv 1)) (da_cons (de_var 2 (pv 2)) (da_cons (e_B (i := 0) c__law_choice (hr) (by decide) (pv 0) (da_cons (de_o (do_lst (da_cons (de_str (s := [100, 114, 111, 112]) (by decide +kernel)) (da_cons (de_str (s := [107, 101, 101, 112]) (by decide +kernel)) da_nil)))) da_nil)) (da_cons (e_B (i := 0) c__law_choice (hr) (by decide) (pv 0) (da_cons (de_o (do_lst (da_cons (de_str (s := []) (by decide +kernel)) (da_cons (de_str (s := [46]) (by decide +kernel)) (da_cons (de_str (s := [126]) (by decide +kernel)) da_nil))))) da_nil)) da_nil))))))))
abbrev st__law_text : Stmt := top 40
theorem sc__law_text : FnScope ["source", "most", "signs", "text", "size", "sign_so"] ["source", "most"] (defScope st__law_text) := ⟨rfl, rfl, rfl, by decide +kernel, rfl, by decide +kernel, by decide +kernel⟩
theorem ok__law_text {f : Addr} {fd : FuncData} (F : Fun K "_law_text" "_law_text" st__law_text f fd) (T : Txt K mg) (c__law_choice : Df P w K mg base "_law_choice" 2 ["source", "items"] (spB K m__law_choice)) (c__law_draw : Df P w K mg base "_law_draw" 1 ["source", "size"] (spB K m__law_draw)) : FnOk P w K mg base CX0 3 f fd ["source", "most"] (spB K m__law_text) :=
  fn_B F sc__law_text (by decide) fun cdv A outer s H E hr =>
    (dss_cons (s_set (i := 2) sc__law_text.nd (e_B (i := 0) c__law_choice (hr) (by decide) (pv 0) (da_cons (de_o (do_lst (da_cons (de_str (s := [97, 98]) (by decide +kernel)) (da_cons (de_str (s := [97, 98, 99, 32]) (by decide +kernel)) (da_cons (de_str (s := [97, 98, 32, 32, 32]) (by decide +kernel)) (da_cons (de_str (s := [97, 46, 32]) (by decide +kernel)) (da_cons (de_str (s := [97, 98, 99, 46, 32, 126]) (by decide +kernel)) da_nil))))))) da_nil)))
    (dss_cons (s_set (i := 3) sc__law_text.nd (e_join (de_str (s := []) (by decide +kernel)) (de_o (do_lc (own := [("sign_so", 5)]) rfl sc__law_text.nd (i_range1 T.range (da_cons (e_B (i := 0) c__law_draw (hr) (by decide) (pv 0) (da_cons (e_add (de_var 1 (pv 1)) de_int) da_nil)) da_nil)) (blkOk_by (N := ["source", "most", "signs", "text", "size", "sign_so"]) (sc := defScope st__law_text) (by decide +kernel)) (fun _ _ _ _ _ => (g_name sc__law_text.nd)) (fun _ _ _ _ _ => dts_nil) (fun _ _ _ _ _ => (e_B (i := 0) c__law_choice (hr) (by decide) (pv 0) (da_cons (de_o (o_list rfl T.list (da_cons (de_var 2 (pv 2)) da_nil))) da_nil))) (by decide) (by intro _; rfl)))))
    (dss_cons (ds_if (t_cmp (k_eq hr.units) (e_B (i := 0) c__law_draw (hr) (by decide) (pv 0) (da_cons de_int da_nil)) de_int)
    (dss_cons (s_set (i := 4) sc__law_text.nd (e_add de_int (e_B (i := 0) c__law_draw (hr) (by decide) (pv 0) (da_cons de_int da_nil))))
    (dss_one (s_set (i := 3) sc__law_text.nd (e_add (e_add (de_var 3 (pv 3)) (de_str (s := [46]) (by decide +kernel))) (e_join (de_str (s := []) (by decide +kernel)) (de_o (do_lc (own := [("sign_so", 5)]) rfl sc__law_text.nd (i_range1 T.range (da_cons (de_var 4 (pv 4)) da_nil)) (blkOk_by (N := ["source", "most", "signs", "text", "size", "sign_so"]) (sc := defScope st__law_text) (by decide +kernel)) (fun _ _ _ _ _ => (g_name sc__law_text.nd)) (fun _ _ _ _ _ => dts_nil) (fun _ _ _ _ _ => (e_B (i := 0) c__law_choice (hr) (by decide) (pv 0) (da_cons (de_o (do_lst (da_cons (de_str (s := [97]) (by decide +kernel)) (da_cons (de_str (s := [98]) (by decide +kernel)) (da_cons (de_str (s := [99]) (by decide +kernel)) da_nil))))) da_nil))) (by decide) (by intro _; rfl))))))))
    dss_nil)
    (dss_one (ds_ret (de_cut (de_var 3 (pv 3)) dq_none (dq_some (de_var 1 (pv 1)))))))))
abbrev st_is_between : Stmt := top 15
theorem sc_is_between : FnScope ["value", "low", "high"] ["value", "low", "high"] (defScope st_is_between) := ⟨rfl, rfl, rfl, by decide +kernel, rfl, by decide +kernel, by decide +kernel⟩
theorem ok_is_between {f : Addr} {fd : FuncData} (F : Fun K "is_between" "is_between" st_is_between f fd) (T : Txt K mg) : FnOk P w K mg base CX0 1 f fd ["value", "low", "high"] (spA K m_is_between) :=
  fn_A F sc_is_between (by decide) fun cdv A outer s H E hr =>
    (dss_one (ds_ret (de_and (e_isi (T := "int") T.isinstance T.int (by decide +kernel) (dx_e (de_var 0 (pv 0)))) (de_and (de_not (e_isi (T := "bool") T.isinstance T.bool (by decide +kernel) (dx_e (de_var 0 (pv 0))))) (de_one (e_chain k_le k_le (de_var 1 (pv 1)) (de_var 0 (pv 0)) (de_var 2 (pv 2))))))))
abbrev st_need_width : Stmt := top 20
theorem sc_need_width : FnScope ["width"] ["width"] (defScope st_need_width) := ⟨rfl, rfl, rfl, by decide +kernel, rfl, by decide +kernel, by decide +kernel⟩
theorem ok_need_width {f : Addr} {fd : FuncData} (F : Fun K "need_width" "need_width" st_need_width f fd) (T : Txt K mg) (c_is_between : Df P w K mg base "is_between" 1 ["value", "low", "high"] (spA K m_is_between)) : FnOk P w K mg base CX0 2 f fd ["width"] (spA K m_need_width) :=
  fn_A F sc_need_width (by decide) fun cdv A outer s H E hr =>
    (dss_one (ds_if (dt_not (t_val (e_A c_is_between (hr) (by decide) (da_cons (de_var 0 (pv 0)) (da_cons de_int (da_cons (e_gi T.c_MOST_WIDTH) da_nil))))))
    (dss_one ds_never)
    dss_nil))
abbrev st_front_of : Stmt := top 22
theorem sc_front_of : FnScope ["text", "number", "unit", "size"] ["text", "number", "unit"] (defScope st_front_of) := ⟨rfl, rfl, rfl, by decide +kernel, rfl, by decide +kernel, by decide +kernel⟩
theorem ok_front_of {f : Addr} {fd : FuncData} (F : Fun K "front_of" "front_of" st_front_of f fd) (T : Txt K mg) : FnOk P w K mg base CX0 1 f fd ["text", "number", "unit"] (spA K m_front_of) :=
  fn_A F sc_front_of (by decide) fun cdv A outer s H E hr =>
    (dss_cons (ds_if (t_cmp (k_eq hr.units) (de_var 2 (pv 2)) (de_str (s := [119, 111, 114, 100, 115]) (by decide +kernel)))
    (dss_one (s_for rfl PassesOwn.never (i_range3 T.range (da_cons (de_var 1 (pv 1)) (da_cons de_int (da_cons (e_neg de_int) da_nil)))) (g_name sc_front_of.nd)
    (dss_one (ds_if (dt_w (dw_and (t_cmp (k_ne hr.units) (e_ix (de_var 0 (pv 0)) (e_sub (de_var 3 (pv 3)) de_int)) (de_str (s := [32]) (by decide +kernel))) (dw_and1 (t_cmp (k_eq hr.units) (e_ix (de_var 0 (pv 0)) (de_var 3 (pv 3))) (de_str (s := [32]) (by decide +kernel))))))
    (dss_one (ds_ret (de_cut (de_var 0 (pv 0)) dq_none (dq_some (de_var 3 (pv 3))))))
    dss_nil))))
    dss_nil)
    (dss_one (ds_ret (de_cut (de_var 0 (pv 0)) dq_none (dq_some (de_var 1 (pv 1)))))))
abbrev st_back_of : Stmt := top 23
theorem sc_back_of : FnScope ["text", "number", "unit"] ["text", "number", "unit"] (defScope st_back_of) := ⟨rfl, rfl, rfl, by decide +kernel, rfl, by decide +kernel, by decide +kernel⟩
theorem ok_back_of {f : Addr} {fd : FuncData} (F : Fun K "back_of" "back_of" st_back_of f fd) (T : Txt K mg) (c_front_of : Df P w K mg base "front_of" 1 ["text", "number", "unit"] (spA K m_front_of)) : FnOk P w K mg base CX0 2 f fd ["text", "number", "unit"] (spA K m_back_of) :=
  fn_A F sc_back_of (by decide) fun cdv A outer s H E hr =>
    (dss_one (ds_ret (de_rev (e_A c_front_of (hr) (by decide) (da_cons (de_rev (de_var 0 (pv 0))) (da_cons (de_var 1 (pv 1)) (da_cons (de_var 2 (pv 2)) da_nil)))))))
abbrev st_cut_plain : Stmt := top 24
theorem sc_cut_plain : FnScope ["way", "text", "width", "where", "unit", "ending_so", "mark", "room"] ["way", "text", "width"] (defScope st_cut_plain) := ⟨rfl, rfl, rfl, by decide +kernel, rfl, by decide +kernel, by decide +kernel⟩
theorem ok_cut_plain {f : Addr} {fd : FuncData} (F : Fun K "cut_plain" "cut_plain" st_cut_plain f fd) (T : Txt K mg) (c_back_of : Df P w K mg base "back_of" 2 ["text", "number", "unit"] (spA K m_back_of)) (c_front_of : Df P w K mg base "front_of" 1 ["text", "number", "unit"] (spA K m_front_of)) : FnOk P w K mg base CX0 3 f fd ["way", "text", "width"] (spA K m_cut_plain) :=
  fn_A F sc_cut_plain (by decide) fun cdv A outer s H E hr =>
    (dss_cons (s_unpack (de_var 0 (pv 0)) (dg_tup (n := 4) rfl (dgs_cons (g_name sc_cut_plain.nd) (dgs_cons (g_name sc_cut_plain.nd) (dgs_cons (g_name sc_cut_plain.nd) (dgs_cons (g_name sc_cut_plain.nd) dgs_nil))))))
    (dss_cons (s_set (i := 7) sc_cut_plain.nd (e_sub (de_var 2 (pv 2)) (e_len T.len (dx_e (de_var 6 (pv 6))))))
    (dss_cons (ds_if (t_cmp k_lt (de_var 7 (pv 7)) de_int)
    (dss_one (ds_ret (de_str (s := []) (by decide +kernel))))
    dss_nil)
    (dss_cons (ds_if (t_cmp (k_eq hr.units) (de_var 3 (pv 3)) (de_str (s := [101, 110, 100]) (by decide +kernel)))
    (dss_one (ds_ret (e_add (e_A c_front_of (hr) (by decide) (da_cons (de_var 1 (pv 1)) (da_cons (de_var 7 (pv 7)) (da_cons (de_var 4 (pv 4)) da_nil)))) (de_var 6 (pv 6)))))
    dss_nil)
    (dss_cons (ds_if (t_cmp (k_eq hr.units) (de_var 3 (pv 3)) (de_str (s := [115, 116, 97, 114, 116]) (by decide +kernel)))
    (dss_one (ds_ret (e_add (de_var 6 (pv 6)) (e_A c_back_of (hr) (by decide) (da_cons (de_var 1 (pv 1)) (da_cons (de_var 7 (pv 7)) (da_cons (de_var 4 (pv 4)) da_nil)))))))
    dss_nil)
    (dss_one (ds_ret (e_add (e_add (e_A c_front_of (hr) (by decide) (da_cons (de_var 1 (pv 1)) (da_cons (e_sub (de_var 7 (pv 7)) (e_div (de_var 7 (pv 7)) de_int)) (da_cons (de_var 4 (pv 4)) da_nil)))) (de_var 6 (pv 6))) (e_A c_back_of (hr) (by decide) (da_cons (de_var 1 (pv 1)) (da_cons (e_div (de_var 7 (pv 7)) de_int) (da_cons (de_var 4 (pv 4)) da_nil))))))))))))
abbrev st_show : Stmt := top 25
theorem sc_show : FnScope ["way", "text", "width", "tail"] ["way", "text", "width"] (defScope st_show) := ⟨rfl, rfl, rfl, by decide +kernel, rfl, by decide +kernel, by decide +kernel⟩
theorem ok_show {f : Addr} {fd : FuncData} (F : Fun K "show" "show" st_show f fd) (T : Txt K mg) (c_ending_of : Df P w K mg base "ending_of" 1 ["text"] (spA K m_ending_of)) (c_cut_plain : Df P w K mg base "cut_plain" 3 ["way", "text", "width"] (spA K m_cut_plain)) : FnOk P w K mg base CX0 4 f fd ["way", "text", "width"] (spA K m_show) :=
  fn_A F sc_show (by decide) fun cdv A outer s H E hr =>
    (dss_cons (ds_if (t_cmp k_le (e_len T.len (dx_e (de_var 1 (pv 1)))) (de_var 2 (pv 2)))
    (dss_one (ds_ret (de_var 1 (pv 1))))
    dss_nil)
    (dss_cons (s_set (i := 3) sc_show.nd (de_if (t_cmp (k_eq hr.units) (e_ix (de_var 0 (pv 0)) de_int) (de_str (s := [107, 101, 101, 112]) (by decide +kernel))) (e_A c_ending_of (hr) (by decide) (da_cons (de_var 1 (pv 1)) da_nil)) (de_str (s := []) (by decide +kernel))))
    (dss_cons (ds_if (dt_w (dw_or (t_cmp (k_eq hr.units) (de_var 3 (pv 3)) (de_str (s := []) (by decide +kernel))) (dw_or1 (t_cmp k_gt (e_add (e_len T.len (dx_e (e_ix (de_var 0 (pv 0)) de_int))) (e_len T.len (dx_e (de_var 3 (pv 3))))) (de_var 2 (pv 2))))))
    (dss_one (ds_ret (e_A c_cut_plain (hr) (by decide) (da_cons (de_var 0 (pv 0)) (da_cons (de_var 1 (pv 1)) (da_cons (de_var 2 (pv 2)) da_nil))))))
    dss_nil)
    (dss_one (ds_ret (e_add (e_A c_cut_plain (hr) (by decide) (da_cons (de_var 0 (pv 0)) (da_cons (de_cut (de_var 1 (pv 1)) dq_none (dq_some (e_sub (e_len T.len (dx_e (de_var 1 (pv 1)))) (e_len T.len (dx_e (de_var 3 (pv 3))))))) (da_cons (e_sub (de_var 2 (pv 2)) (e_len T.len (dx_e (de_var 3 (pv 3))))) da_nil)))) (de_var 3 (pv 3))))))))
abbrev st_shown : Stmt := top 27
theorem sc_shown : FnScope ["way", "text", "width"] ["way", "text", "width"] (defScope st_shown) := ⟨rfl, rfl, rfl, by decide +kernel, rfl, by decide +kernel, by decide +kernel⟩
theorem ok_shown {f : Addr} {fd : FuncData} (F : Fun K "shown" "shown" st_shown f fd) (T : Txt K mg) (c_need_way : Df P w K mg base "need_way" 2 ["way"] (spA K m_need_way)) (c_need_text : Df P w K mg base "need_text" 2 ["text"] (spA K m_need_text)) (c_need_width : Df P w K mg base "need_width" 2 ["width"] (spA K m_need_width)) (c_show : Df P w K mg base "show" 4 ["way", "text", "width"] (spA K m_show)) : FnOk P w K mg base CX0 5 f fd ["way", "text", "width"] (spA K m_shown) :=
  fn_A F sc_shown (by decide) fun cdv A outer s H E hr =>
    (dss_cons (s_drop (e_A c_need_way (hr) (by decide) (da_cons (de_var 0 (pv 0)) da_nil)))
    (dss_cons (s_drop (e_A c_need_text (hr) (by decide) (da_cons (de_var 1 (pv 1)) da_nil)))
    (dss_cons (s_drop (e_A c_need_width (hr) (by decide) (da_cons (de_var 2 (pv 2)) da_nil)))
    (dss_one (ds_ret (e_A c_show (hr) (by decide) (da_cons (de_var 0 (pv 0)) (da_cons (de_var 1 (pv 1)) (da_cons (de_var 2 (pv 2)) da_nil)))))))))
abbrev st__law_named : Stmt := top 41
theorem sc__law_named : FnScope ["names", "text", "sign"] ["names", "text"] (defScope st__law_named) := ⟨rfl, rfl, rfl, by decide +kernel, rfl, by decide +kernel, by decide +kernel⟩
theorem ok__law_named {f : Addr} {fd : FuncData} (F : Fun K "_law_named" "_law_named" st__law_named f fd) (T : Txt K mg) : FnOk P w K mg base CX0 1 f fd ["names", "text"] (spA K m__law_named) :=
  fn_A F sc__law_named (by decide) fun cdv A outer s H E hr =>
    (dss_one (ds_ret (e_join (de_str (s := []) (by decide +kernel)) (de_o (do_lc (own := [("sign", 2)]) rfl sc__law_named.nd (i_any (de_var 1 (pv 1))) (blkOk_by (N := ["names", "text", "sign"]) (sc := defScope st__law_named) (by decide +kernel)) (fun _ _ _ _ _ => (g_name sc__law_named.nd)) (fun _ _ _ _ _ => dts_nil) (fun _ _ _ _ _ => (de_getV (i := 0) (room65 hr) (pv 0) (de_var 2 (pv 2)))) (by decide) (by intro _; rfl))))))
abbrev st_views_of : Stmt := top 33
theorem sc_views_of : FnScope ["way", "text", "found", "width", "seen"] ["way", "text"] (defScope st_views_of) := ⟨rfl, rfl, rfl, by decide +kernel, rfl, by decide +kernel, by decide +kernel⟩
theorem ok_views_of {f : Addr} {fd : FuncData} (F : Fun K "views_of" "views_of" st_views_of f fd) (T : Txt K mg) (c_show : Df P w K mg base "show" 4 ["way", "text", "width"] (spA K m_show)) : FnOk P w K mg base CX0 5 f fd ["way", "text"] (spA K m_views_of) :=
  fn_A F sc_views_of (by decide) fun cdv A outer s H E hr =>
    (dss_cons (s_setO (i := 2) sc_views_of.nd (do_lst da_nil))
    (dss_cons (s_for rfl PassesOwn.never (i_range1 T.range (da_cons (e_add (e_gi T.c_MOST_WIDTH) de_int) da_nil)) (g_name sc_views_of.nd)
    (dss_cons (s_set (i := 4) sc_views_of.nd (e_A c_show (hr) (by decide) (da_cons (de_var 0 (pv 0)) (da_cons (de_var 1 (pv 1)) (da_cons (de_var 3 (pv 3)) da_nil)))))
    (dss_one (ds_if (dt_w (dw_and (t_cmp k_gt (e_len T.len (dx_e (de_var 2 (pv 2)))) de_int) (dw_and1 (t_cmp (k_eq hr.units) (e_ix (e_ix (de_var 2 (pv 2)) (e_neg de_int)) de_int) (de_var 4 (pv 4))))))
    (dss_one (s_setO (i := 2) sc_views_of.nd (o_add (de_o (do_cut (de_var 2 (pv 2)) dq_none (dq_some (e_neg de_int)))) (de_o (do_lst (da_cons (de_tup (da_cons (e_ix (e_ix (de_var 2 (pv 2)) (e_neg de_int)) de_int) (da_cons (de_var 3 (pv 3)) (da_cons (de_var 4 (pv 4)) da_nil)))) da_nil))))))
    (dss_one (s_setO (i := 2) sc_views_of.nd (o_add (de_var 2 (pv 2)) (de_o (do_lst (da_cons (de_tup (da_cons (de_var 3 (pv 3)) (da_cons (de_var 3 (pv 3)) (da_cons (de_var 4 (pv 4)) da_nil)))) da_nil))))))))))
    (dss_one (ds_ret (de_var 2 (pv 2))))))
abbrev st_views : Stmt := top 34
theorem sc_views : FnScope ["way", "text"] ["way", "text"] (defScope st_views) := ⟨rfl, rfl, rfl, by decide +kernel, rfl, by decide +kernel, by decide +kernel⟩
theorem ok_views {f : Addr} {fd : FuncData} (F : Fun K "views" "views" st_views f fd) (T : Txt K mg) (c_need_way : Df P w K mg base "need_way" 2 ["way"] (spA K m_need_way)) (c_need_text : Df P w K mg base "need_text" 2 ["text"] (spA K m_need_text)) (c_views_of : Df P w K mg base "views_of" 5 ["way", "text"] (spA K m_views_of)) : FnOk P w K mg base CX0 6 f fd ["way", "text"] (spA K m_views) :=
  fn_A F sc_views (by decide) fun cdv A outer s H E hr =>
    (dss_cons (s_drop (e_A c_need_way (hr) (by decide) (da_cons (de_var 0 (pv 0)) da_nil)))
    (dss_cons (s_drop (e_A c_need_text (hr) (by decide) (da_cons (de_var 1 (pv 1)) da_nil)))
    (dss_one (ds_ret (e_A c_views_of (hr) (by decide) (da_cons (de_var 0 (pv 0)) (da_cons (de_var 1 (pv 1)) da_nil)))))))
abbrev st_law : Stmt := top 42
theorem sc_law : FnScope ["script", "k", "source", "new", "names", "turn", "way", "text", "width", "end", "start", "even", "one"] ["script"] (defScope st_law) := ⟨rfl, rfl, rfl, by decide +kernel, rfl, by decide +kernel, by decide +kernel⟩
theorem ok_law {f : Addr} {fd : FuncData} (F : Fun K "law" "law" st_law f fd) (T : Txt K mg) (c__law_source : Df P w K mg base "_law_source" 1 ["script", "index"] (spO K m__law_source)) (c__law_choice : Df P w K mg base "_law_choice" 2 ["source", "items"] (spB K m__law_choice)) (c_same_ways : Df P w K mg base "same_ways" 5 ["way"] (spA K m_same_ways)) (c__law_draw : Df P w K mg base "_law_draw" 1 ["source", "size"] (spB K m__law_draw)) (c__law_way : Df P w K mg base "_law_way" 3 ["source"] (spB K m__law_way)) (c__law_text : Df P w K mg base "_law_text" 3 ["source", "most"] (spB K m__law_text)) (c_shown : Df P w K mg base "shown" 5 ["way", "text", "width"] (spA K m_shown)) (c__law_named : Df P w K mg base "_law_named" 1 ["names", "text"] (spA K m__law_named)) (c_ending : Df P w K mg base "ending" 3 ["text"] (spA K m_ending)) (c_views : Df P w K mg base "views" 6 ["way", "text"] (spA K m_views)) : FnOk P w K mg base CX0 7 f fd ["script"] (spA K m_law) :=
  fn_A F sc_law (by decide) fun cdv A outer s H E hr =>
    (dss_cons (s_for rfl PassesOwn.never (i_range1 T.range (da_cons (e_add de_int (e_min2 rfl T.min (da_cons (e_len T.len (dx_e (de_var 0 (pv 0)))) (da_cons de_int da_nil)))) da_nil)) (g_name sc_law.nd)
    (dss_cons (s_setO (i := 2) sc_law.nd (o_O c__law_source (hr) (by decide) (da_cons (de_var 0 (pv 0)) (da_cons (de_var 1 (pv 1)) da_nil))))
    (dss_cons (s_set (i := 3) sc_law.nd (e_B (i := 2) c__law_choice (hr) (by decide) (pv 2) (da_cons (de_o (do_lst (da_cons (de_str (s := [98, 99, 97]) (by decide +kernel)) (da_cons (de_str (s := [99, 97, 98]) (by decide +kernel)) (da_cons (de_str (s := [97, 99, 98]) (by decide +kernel)) (da_cons (de_str (s := [98, 97, 99]) (by decide +kernel)) da_nil)))))) da_nil)))
    (dss_cons (s_setM (i := 4) sc_law.nd (dm_disp (ns := [[97], [98], [99], [32], [46], [126]]) (dps_cons (n := [97]) (by decide +kernel) (e_ix (de_var 3 (pv 3)) de_int) (dps_cons (n := [98]) (by decide +kernel) (e_ix (de_var 3 (pv 3)) de_int) (dps_cons (n := [99]) (by decide +kernel) (e_ix (de_var 3 (pv 3)) de_int) (dps_cons (n := [32]) (by decide +kernel) (de_str (s := [32]) (by decide +kernel)) (dps_cons (n := [46]) (by decide +kernel) (de_str (s := [46]) (by decide +kernel)) (dps_cons (n := [126]) (by decide +kernel) (de_str (s := [126]) (by decide +kernel)) dps_nil))))))))
    (dss_one (s_for rfl PassesOwn.never (i_range1 T.range (da_cons de_int da_nil)) (g_name sc_law.nd)
    (dss_cons (s_par2D (i := 6) (j := 7) rfl sc_law.nd (da_cons (e_B (i := 2) c__law_way (hr) (by decide) (pv 2) da_nil) (da_cons (e_B (i := 2) c__law_text (hr) (by decide) (pv 2) (da_cons de_int da_nil)) da_nil)))
    (dss_cons (s_set (i := 8) sc_law.nd (e_B (i := 2) c__law_draw (hr) (by decide) (pv 2) (da_cons de_int da_nil)))
    (dss_cons (ds_if (t_cmp (k_ne hr.units) (e_A c_shown (hr) (by decide) (da_cons (de_var 6 (pv 6)) (da_cons (e_A c__law_named (hr) (by decide) (da_cons (de_varM 4 (pv 4)) (da_cons (de_var 7 (pv 7)) da_nil))) (da_cons (de_var 8 (pv 8)) da_nil)))) (e_A c__law_named (hr) (by decide) (da_cons (de_varM 4 (pv 4)) (da_cons (e_A c_shown (hr) (by decide) (da_cons (de_var 6 (pv 6)) (da_cons (de_var 7 (pv 7)) (da_cons (de_var 8 (pv 8)) da_nil)))) da_nil))))
    (dss_one (ds_ret de_bl))
    dss_nil)
    (dss_cons (ds_if (t_cmp (k_ne hr.units) (e_A c_ending (hr) (by decide) (da_cons (e_A c__law_named (hr) (by decide) (da_cons (de_varM 4 (pv 4)) (da_cons (de_var 7 (pv 7)) da_nil))) da_nil)) (e_A c__law_named (hr) (by decide) (da_cons (de_varM 4 (pv 4)) (da_cons (e_A c_ending (hr) (by decide) (da_cons (de_var 7 (pv 7)) da_nil)) da_nil))))
    (dss_one (ds_ret de_bl))
    dss_nil)
    (dss_cons (s_par2D (i := 9) (j := 10) rfl sc_law.nd (da_cons (de_tup (da_cons (de_str (s := [101, 110, 100]) (by decide +kernel)) (da_cons (e_ix (de_var 6 (pv 6)) de_int) (da_cons (de_str (s := [100, 114, 111, 112]) (by decide +kernel)) (da_cons (e_ix (de_var 6 (pv 6)) de_int) da_nil))))) (da_cons (de_tup (da_cons (de_str (s := [115, 116, 97, 114, 116]) (by decide +kernel)) (da_cons (e_ix (de_var 6 (pv 6)) de_int) (da_cons (de_str (s := [100, 114, 111, 112]) (by decide +kernel)) (da_cons (e_ix (de_var 6 (pv 6)) de_int) da_nil))))) da_nil)))
    (dss_cons (ds_if (t_cmp (k_ne hr.units) (e_A c_shown (hr) (by decide) (da_cons (de_var 10 (pv 10)) (da_cons (de_rev (de_var 7 (pv 7))) (da_cons (de_var 8 (pv 8)) da_nil)))) (de_rev (e_A c_shown (hr) (by decide) (da_cons (de_var 9 (pv 9)) (da_cons (de_var 7 (pv 7)) (da_cons (de_var 8 (pv 8)) da_nil))))))
    (dss_one (ds_ret de_bl))
    dss_nil)
    (dss_cons (ds_if (t_cmp (k_ne hr.units) (de_o (do_lc (own := [("one", 12)]) rfl sc_law.nd (i_any (e_A c_views (hr) (by decide) (da_cons (de_var 10 (pv 10)) (da_cons (de_rev (de_var 7 (pv 7))) da_nil)))) (blkOk_by (N := ["script", "k", "source", "new", "names", "turn", "way", "text", "width", "end", "start", "even", "one"]) (sc := defScope st_law) (by decide +kernel)) (fun _ _ _ _ _ => (g_name sc_law.nd)) (fun _ _ _ _ _ => dts_nil) (fun _ _ _ _ _ => (de_cut (de_var 12 (pv 12)) dq_none (dq_some de_int))) (by decide) (by intro _; rfl))) (de_o (do_lc (own := [("one", 12)]) rfl sc_law.nd (i_any (e_A c_views (hr) (by decide) (da_cons (de_var 9 (pv 9)) (da_cons (de_var 7 (pv 7)) da_nil)))) (blkOk_by (N := ["script", "k", "source", "new", "names", "turn", "way", "text", "width", "end", "start", "even", "one"]) (sc := defScope st_law) (by decide +kernel)) (fun _ _ _ _ _ => (g_name sc_law.nd)) (fun _ _ _ _ _ => dts_nil) (fun _ _ _ _ _ => (de_cut (de_var 12 (pv 12)) dq_none (dq_some de_int))) (by decide) (by intro _; rfl))))
    (dss_one (ds_ret de_bl))
    dss_nil)
    (dss_one (ds_if (dt_w (dw_and (t_cmp k_gt (e_len T.len (dx_e (de_var 7 (pv 7)))) (de_var 8 (pv 8))) (dw_and (t_cmp k_gt (de_var 8 (pv 8)) de_int) (dw_and1 (t_cmp (k_eq hr.units) (e_ix (de_var 6 (pv 6)) de_int) (de_str (s := [115, 105, 103, 110, 115]) (by decide +kernel)))))))
    (dss_cons (s_set (i := 11) sc_law.nd (e_A c_shown (hr) (by decide) (da_cons (de_tup (da_cons (de_str (s := [109, 105, 100, 100, 108, 101]) (by decide +kernel)) (da_cons (de_str (s := [115, 105, 103, 110, 115]) (by decide +kernel)) (da_cons (de_str (s := [100, 114, 111, 112]) (by decide +kernel)) (da_cons (e_ix (de_var 6 (pv 6)) de_int) da_nil))))) (da_cons (de_var 7 (pv 7)) (da_cons (de_var 8 (pv 8)) da_nil)))))
    (dss_one (ds_if (dt_w (dw_or (t_cmp (k_ne hr.units) (e_len T.len (dx_e (de_var 11 (pv 11)))) (de_var 8 (pv 8))) (dw_or1 (t_cmp (k_ne hr.units) (e_len T.len (dx_e (e_A c_shown (hr) (by decide) (da_cons (de_var 9 (pv 9)) (da_cons (de_var 7 (pv 7)) (da_cons (de_var 8 (pv 8)) da_nil)))))) (de_var 8 (pv 8))))))
    (dss_one (ds_ret de_bl))
    dss_nil)))
    dss_nil)))))))))))))))
    (dss_one (ds_ret (e_cmp (k_eq hr.units) (e_A c_same_ways (hr) (by decide) (da_cons (de_tup (da_cons (de_str (s := [115, 116, 97, 114, 116]) (by decide +kernel)) (da_cons (de_str (s := [119, 111, 114, 100, 115]) (by decide +kernel)) (da_cons (de_str (s := [107, 101, 101, 112]) (by decide +kernel)) (da_cons (de_str (s := [46]) (by decide +kernel)) da_nil))))) da_nil)) (de_o (do_lst (da_cons (de_tup (da_cons (de_str (s := [115, 116, 97, 114, 116]) (by decide +kernel)) (da_cons (de_str (s := [119, 111, 114, 100, 115]) (by decide +kernel)) (da_cons (de_str (s := [107, 101, 101, 112]) (by decide +kernel)) (da_cons (de_str (s := [46]) (by decide +kernel)) da_nil))))) da_nil)))))))
end
theorem all_mk {l : PySem.W.OpenLaw} {w : World} {K : PySem.W.Frag} {h : Heap} {mg : Str → Option Value} {fa : Addr} (X : K.In h) (G : h.Ns mainGlobals mg) (hfa : mg "law" = some (.ref fa))
    {f_law_source : Addr} {od_law_source an_law_source : Option Addr} {sl_law_source : Array (Option Value)} {oc_law_source kV_law_source dc_law_source pm_law_source cd_law_source ct_law_source : Value}
    {f_law_draw : Addr} {od_law_draw an_law_draw : Option Addr} {sl_law_draw : Array (Option Value)} {oc_law_draw kV_law_draw dc_law_draw pm_law_draw cd_law_draw ct_law_draw : Value}
    {f_law_choice : Addr} {od_law_choice an_law_choice : Option Addr} {sl_law_choice : Array (Option Value)} {oc_law_choice kV_law_choice dc_law_choice pm_law_choice cd_law_choice ct_law_choice : Value}
    {f_is_way : Addr} {od_is_way an_is_way : Option Addr} {sl_is_way : Array (Option Value)} {oc_is_way kV_is_way dc_is_way pm_is_way cd_is_way ct_is_way : Value}
    {f_need_way : Addr} {od_need_way an_need_way : Option Addr} {sl_need_way : Array (Option Value)} {oc_need_way kV_need_way dc_need_way pm_need_way cd_need_way ct_need_way : Value}
    {f_is_text : Addr} {od_is_text an_is_text : Option Addr} {sl_is_text : Array (Option Value)} {oc_is_text kV_is_text dc_is_text pm_is_text cd_is_text ct_is_text : Value}
    {f_need_text : Addr} {od_need_text an_need_text : Option Addr} {sl_need_text : Array (Option Value)} {oc_need_text kV_need_text dc_need_text pm_need_text cd_need_text ct_need_text : Value}
    {f_ending_of : Addr} {od_ending_of an_ending_of : Option Addr} {sl_ending_of : Array (Option Value)} {oc_ending_of kV_ending_of dc_ending_of pm_ending_of cd_ending_of ct_ending_of : Value}
    {f_ending : Addr} {od_ending an_ending : Option Addr} {sl_ending : Array (Option Value)} {oc_ending kV_ending dc_ending pm_ending cd_ending ct_ending : Value}
    {f_all_ways : Addr} {od_all_ways an_all_ways : Option Addr} {sl_all_ways : Array (Option Value)} {oc_all_ways kV_all_ways dc_all_ways pm_all_ways cd_all_ways ct_all_ways : Value}
    {f_are_alike : Addr} {od_are_alike an_are_alike : Option Addr} {sl_are_alike : Array (Option Value)} {oc_are_alike kV_are_alike dc_are_alike pm_are_alike cd_are_alike ct_are_alike : Value}
    {f_same_ways : Addr} {od_same_ways an_same_ways : Option Addr} {sl_same_ways : Array (Option Value)} {oc_same_ways kV_same_ways dc_same_ways pm_same_ways cd_same_ways ct_same_ways : Value}
    {f_law_way : Addr} {od_law_way an_law_way : Option Addr} {sl_law_way : Array (Option Value)} {oc_law_way kV_law_way dc_law_way pm_law_way cd_law_way ct_law_way : Value}
    {f_law_text : Addr} {od_law_text an_law_text : Option Addr} {sl_law_text : Array (Option Value)} {oc_law_text kV_law_text dc_law_text pm_law_text cd_law_text ct_law_text : Value}
    {f_is_between : Addr} {od_is_between an_is_between : Option Addr} {sl_is_between : Array (Option Value)} {oc_is_between kV_is_between dc_is_between pm_is_between cd_is_between ct_is_between : Value}
    {f_need_width : Addr} {od_need_width an_need_width : Option Addr} {sl_need_width : Array (Option Value)} {oc_need_width kV_need_width dc_need_width pm_need_width cd_need_width ct_need_width : Value}
    {f_front_of : Addr} {od_front_of an_front_of : Option Addr} {sl_front_of : Array (Option Value)} {oc_front_of kV_front_of dc_front_of pm_front_of cd_front_of ct_front_of : Value}
    {f_back_of : Addr} {od_back_of an_back_of : Option Addr} {sl_back_of : Array (Option Value)} {oc_back_of kV_back_of dc_back_of pm_back_of cd_back_of ct_back_of : Value}
    {f_cut_plain : Addr} {od_cut_plain an_cut_plain : Option Addr} {sl_cut_plain : Array (Option Value)} {oc_cut_plain kV_cut_plain dc_cut_plain pm_cut_plain cd_cut_plain ct_cut_plain : Value}
    {f_show : Addr} {od_show an_show : Option Addr} {sl_show : Array (Option Value)} {oc_show kV_show dc_show pm_show cd_show ct_show : Value}
    {f_shown : Addr} {od_shown an_shown : Option Addr} {sl_shown : Array (Option Value)} {oc_shown kV_shown dc_shown pm_shown cd_shown ct_shown : Value}
    {f_law_named : Addr} {od_law_named an_law_named : Option Addr} {sl_law_named : Array (Option Value)} {oc_law_named kV_law_named dc_law_named pm_law_named cd_law_named ct_law_named : Value}
    {f_views_of : Addr} {od_views_of an_views_of : Option Addr} {sl_views_of : Array (Option Value)} {oc_views_of kV_views_of dc_views_of pm_views_of cd_views_of ct_views_of : Value}
    {f_views : Addr} {od_views an_views : Option Addr} {sl_views : Array (Option Value)} {oc_views kV_views dc_views pm_views cd_views ct_views : Value}
    {f_law : Addr} {od_law an_law : Option Addr} {sl_law : Array (Option Value)} {oc_law kV_law dc_law pm_law cd_law ct_law : Value}
    {p_ENDINGS : Addr} {q_ENDINGS : Option Addr} {n_ENDINGS : Nat} {s_ENDINGS : Array (Option Value)} {t0_ENDINGS t1_ENDINGS : Tok}
    {t_LETTERS : Tok}
    {p_MARKS : Addr} {q_MARKS : Option Addr} {n_MARKS : Nat} {s_MARKS : Array (Option Value)} {t0_MARKS t1_MARKS t2_MARKS : Tok}
    {t_MOST_ENDING : Tok}
    {t_MOST_TEXT : Tok}
    {t_MOST_WIDTH : Tok}
    {p_PLACES : Addr} {q_PLACES : Option Addr} {n_PLACES : Nat} {s_PLACES : Array (Option Value)} {t0_PLACES t1_PLACES t2_PLACES : Tok}
    {t_SIGNS : Tok}
    {p_UNITS : Addr} {q_UNITS : Option Addr} {n_UNITS : Nat} {s_UNITS : Array (Option Value)} {t0_UNITS t1_UNITS : Tok}
    (a_law_source : PySem.W.nsIn K mainGlobals "_law_source" = some (some (.ref f_law_source)))
    (l_law_source : K.lookup f_law_source = some ⟨oc_law_source, od_law_source, .func (PySem.W.fnOf "_law_source" "_law_source" (defArgs st__law_source) (defBody st__law_source) (defScope st__law_source) .none kV_law_source dc_law_source pm_law_source an_law_source cd_law_source ct_law_source), sl_law_source⟩)
    (c_law_source : PySem.W.codeIn K cd_law_source "_law_source" = true)
    (k_law_source : PySem.W.keepIn K (.ref f_law_source) = true)
    (a_law_draw : PySem.W.nsIn K mainGlobals "_law_draw" = some (some (.ref f_law_draw)))
    (l_law_draw : K.lookup f_law_draw = some ⟨oc_law_draw, od_law_draw, .func (PySem.W.fnOf "_law_draw" "_law_draw" (defArgs st__law_draw) (defBody st__law_draw) (defScope st__law_draw) .none kV_law_draw dc_law_draw pm_law_draw an_law_draw cd_law_draw ct_law_draw), sl_law_draw⟩)
    (c_law_draw : PySem.W.codeIn K cd_law_draw "_law_draw" = true)
    (k_law_draw : PySem.W.keepIn K (.ref f_law_draw) = true)
    (a_law_choice : PySem.W.nsIn K mainGlobals "_law_choice" = some (some (.ref f_law_choice)))
    (l_law_choice : K.lookup f_law_choice = some ⟨oc_law_choice, od_law_choice, .func (PySem.W.fnOf "_law_choice" "_law_choice" (defArgs st__law_choice) (defBody st__law_choice) (defScope st__law_choice) .none kV_law_choice dc_law_choice pm_law_choice an_law_choice cd_law_choice ct_law_choice), sl_law_choice⟩)
    (c_law_choice : PySem.W.codeIn K cd_law_choice "_law_choice" = true)
    (k_law_choice : PySem.W.keepIn K (.ref f_law_choice) = true)
    (a_is_way : PySem.W.nsIn K mainGlobals "is_way" = some (some (.ref f_is_way)))
    (l_is_way : K.lookup f_is_way = some ⟨oc_is_way, od_is_way, .func (PySem.W.fnOf "is_way" "is_way" (defArgs st_is_way) (defBody st_is_way) (defScope st_is_way) .none kV_is_way dc_is_way pm_is_way an_is_way cd_is_way ct_is_way), sl_is_way⟩)
    (c_is_way : PySem.W.codeIn K cd_is_way "is_way" = true)
    (k_is_way : PySem.W.keepIn K (.ref f_is_way) = true)
    (a_need_way : PySem.W.nsIn K mainGlobals "need_way" = some (some (.ref f_need_way)))
    (l_need_way : K.lookup f_need_way = some ⟨oc_need_way, od_need_way, .func (PySem.W.fnOf "need_way" "need_way" (defArgs st_need_way) (defBody st_need_way) (defScope st_need_way) .none kV_need_way dc_need_way pm_need_way an_need_way cd_need_way ct_need_way), sl_need_way⟩)
    (c_need_way : PySem.W.codeIn K cd_need_way "need_way" = true)
    (k_need_way : PySem.W.keepIn K (.ref f_need_way) = true)
    (a_is_text : PySem.W.nsIn K mainGlobals "is_text" = some (some (.ref f_is_text)))
    (l_is_text : K.lookup f_is_text = some ⟨oc_is_text, od_is_text, .func (PySem.W.fnOf "is_text" "is_text" (defArgs st_is_text) (defBody st_is_text) (defScope st_is_text) .none kV_is_text dc_is_text pm_is_text an_is_text cd_is_text ct_is_text), sl_is_text⟩)
    (c_is_text : PySem.W.codeIn K cd_is_text "is_text" = true)
    (k_is_text : PySem.W.keepIn K (.ref f_is_text) = true)
    (a_need_text : PySem.W.nsIn K mainGlobals "need_text" = some (some (.ref f_need_text)))
    (l_need_text : K.lookup f_need_text = some ⟨oc_need_text, od_need_text, .func (PySem.W.fnOf "need_text" "need_text" (defArgs st_need_text) (defBody st_need_text) (defScope st_need_text) .none kV_need_text dc_need_text pm_need_text an_need_text cd_need_text ct_need_text), sl_need_text⟩)
    (c_need_text : PySem.W.codeIn K cd_need_text "need_text" = true)
    (k_need_text : PySem.W.keepIn K (.ref f_need_text) = true)
    (a_ending_of : PySem.W.nsIn K mainGlobals "ending_of" = some (some (.ref f_ending_of)))
    (l_ending_of : K.lookup f_ending_of = some ⟨oc_ending_of, od_ending_of, .func (PySem.W.fnOf "ending_of" "ending_of" (defArgs st_ending_of) (defBody st_ending_of) (defScope st_ending_of) .none kV_ending_of dc_ending_of pm_ending_of an_ending_of cd_ending_of ct_ending_of), sl_ending_of⟩)
    (c_ending_of : PySem.W.codeIn K cd_ending_of "ending_of" = true)
    (k_ending_of : PySem.W.keepIn K (.ref f_ending_of) = true)
    (a_ending : PySem.W.nsIn K mainGlobals "ending" = some (some (.ref f_ending)))
    (l_ending : K.lookup f_ending = some ⟨oc_ending, od_ending, .func (PySem.W.fnOf "ending" "ending" (defArgs st_ending) (defBody st_ending) (defScope st_ending) .none kV_ending dc_ending pm_ending an_ending cd_ending ct_ending), sl_ending⟩)
    (c_ending : PySem.W.codeIn K cd_ending "ending" = true)
    (k_ending : PySem.W.keepIn K (.ref f_ending) = true)
    (a_all_ways : PySem.W.nsIn K mainGlobals "all_ways" = some (some (.ref f_all_ways)))
    (l_all_ways : K.lookup f_all_ways = some ⟨oc_all_ways, od_all_ways, .func (PySem.W.fnOf "all_ways" "all_ways" (defArgs st_all_ways) (defBody st_all_ways) (defScope st_all_ways) .none kV_all_ways dc_all_ways pm_all_ways an_all_ways cd_all_ways ct_all_ways), sl_all_ways⟩)
    (c_all_ways : PySem.W.codeIn K cd_all_ways "all_ways" = true)
    (k_all_ways : PySem.W.keepIn K (.ref f_all_ways) = true)
    (a_are_alike : PySem.W.nsIn K mainGlobals "are_alike" = some (some (.ref f_are_alike)))
    (l_are_alike : K.lookup f_are_alike = some ⟨oc_are_alike, od_are_alike, .func (PySem.W.fnOf "are_alike" "are_alike" (defArgs st_are_alike) (defBody st_are_alike) (defScope st_are_alike) .none kV_are_alike dc_are_alike pm_are_alike an_are_alike cd_are_alike ct_are_alike), sl_are_alike⟩)
    (c_are_alike : PySem.W.codeIn K cd_are_alike "are_alike" = true)
    (k_are_alike : PySem.W.keepIn K (.ref f_are_alike) = true)
    (a_same_ways : PySem.W.nsIn K mainGlobals "same_ways" = some (some (.ref f_same_ways)))
    (l_same_ways : K.lookup f_same_ways = some ⟨oc_same_ways, od_same_ways, .func (PySem.W.fnOf "same_ways" "same_ways" (defArgs st_same_ways) (defBody st_same_ways) (defScope st_same_ways) .none kV_same_ways dc_same_ways pm_same_ways an_same_ways cd_same_ways ct_same_ways), sl_same_ways⟩)
    (c_same_ways : PySem.W.codeIn K cd_same_ways "same_ways" = true)
    (k_same_ways : PySem.W.keepIn K (.ref f_same_ways) = true)
    (a_law_way : PySem.W.nsIn K mainGlobals "_law_way" = some (some (.ref f_law_way)))
    (l_law_way : K.lookup f_law_way = some ⟨oc_law_way, od_law_way, .func (PySem.W.fnOf "_law_way" "_law_way" (defArgs st__law_way) (defBody st__law_way) (defScope st__law_way) .none kV_law_way dc_law_way pm_law_way an_law_way cd_law_way ct_law_way), sl_law_way⟩)
    (c_law_way : PySem.W.codeIn K cd_law_way "_law_way" = true)
    (k_law_way : PySem.W.keepIn K (.ref f_law_way) = true)
    (a_law_text : PySem.W.nsIn K mainGlobals "_law_text" = some (some (.ref f_law_text)))
    (l_law_text : K.lookup f_law_text = some ⟨oc_law_text, od_law_text, .func (PySem.W.fnOf "_law_text" "_law_text" (defArgs st__law_text) (defBody st__law_text) (defScope st__law_text) .none kV_law_text dc_law_text pm_law_text an_law_text cd_law_text ct_law_text), sl_law_text⟩)
    (c_law_text : PySem.W.codeIn K cd_law_text "_law_text" = true)
    (k_law_text : PySem.W.keepIn K (.ref f_law_text) = true)
    (a_is_between : PySem.W.nsIn K mainGlobals "is_between" = some (some (.ref f_is_between)))
    (l_is_between : K.lookup f_is_between = some ⟨oc_is_between, od_is_between, .func (PySem.W.fnOf "is_between" "is_between" (defArgs st_is_between) (defBody st_is_between) (defScope st_is_between) .none kV_is_between dc_is_between pm_is_between an_is_between cd_is_between ct_is_between), sl_is_between⟩)
    (c_is_between : PySem.W.codeIn K cd_is_between "is_between" = true)
    (k_is_between : PySem.W.keepIn K (.ref f_is_between) = true)
    (a_need_width : PySem.W.nsIn K mainGlobals "need_width" = some (some (.ref f_need_width)))
    (l_need_width : K.lookup f_need_width = some ⟨oc_need_width, od_need_width, .func (PySem.W.fnOf "need_width" "need_width" (defArgs st_need_width) (defBody st_need_width) (defScope st_need_width) .none kV_need_width dc_need_width pm_need_width an_need_width cd_need_width ct_need_width), sl_need_width⟩)
    (c_need_width : PySem.W.codeIn K cd_need_width "need_width" = true)
    (k_need_width : PySem.W.keepIn K (.ref f_need_width) = true)
    (a_front_of : PySem.W.nsIn K mainGlobals "front_of" = some (some (.ref f_front_of)))
    (l_front_of : K.lookup f_front_of = some ⟨oc_front_of, od_front_of, .func (PySem.W.fnOf "front_of" "front_of" (defArgs st_front_of) (defBody st_front_of) (defScope st_front_of) .none kV_front_of dc_front_of pm_front_of an_front_of cd_front_of ct_front_of), sl_front_of⟩)
    (c_front_of : PySem.W.codeIn K cd_front_of "front_of" = true)
    (k_front_of : PySem.W.keepIn K (.ref f_front_of) = true)
    (a_back_of : PySem.W.nsIn K mainGlobals "back_of" = some (some (.ref f_back_of)))
    (l_back_of : K.lookup f_back_of = some ⟨oc_back_of, od_back_of, .func (PySem.W.fnOf "back_of" "back_of" (defArgs st_back_of) (defBody st_back_of) (defScope st_back_of) .none kV_back_of dc_back_of pm_back_of an_back_of cd_back_of ct_back_of), sl_back_of⟩)
    (c_back_of : PySem.W.codeIn K cd_back_of "back_of" = true)
    (k_back_of : PySem.W.keepIn K (.ref f_back_of) = true)
    (a_cut_plain : PySem.W.nsIn K mainGlobals "cut_plain" = some (some (.ref f_cut_plain)))
    (l_cut_plain : K.lookup f_cut_plain = some ⟨oc_cut_plain, od_cut_plain, .func (PySem.W.fnOf "cut_plain" "cut_plain" (defArgs st_cut_plain) (defBody st_cut_plain) (defScope st_cut_plain) .none kV_cut_plain dc_cut_plain pm_cut_plain an_cut_plain cd_cut_plain ct_cut_plain), sl_cut_plain⟩)
    (c_cut_plain : PySem.W.codeIn K cd_cut_plain "cut_plain" = true)
    (k_cut_plain : PySem.W.keepIn K (.ref f_cut_plain) = true)
    (a_show : PySem.W.nsIn K mainGlobals "show" = some (some (.ref f_show)))
    (l_show : K.lookup f_show = some ⟨oc_show, od_show, .func (PySem.W.fnOf "show" "show" (defArgs st_show) (defBody st_show) (defScope st_show) .none kV_show dc_show pm_show an_show cd_show ct_show), sl_show⟩)
    (c_show : PySem.W.codeIn K cd_show "show" = true)
    (k_show : PySem.W.keepIn K (.ref f_show) = true)
    (a_shown : PySem.W.nsIn K mainGlobals "shown" = some (some (.ref f_shown)))
    (l_shown : K.lookup f_shown = some ⟨oc_shown, od_shown, .func (PySem.W.fnOf "shown" "shown" (defArgs st_shown) (defBody st_shown) (defScope st_shown) .none kV_shown dc_shown pm_shown an_shown cd_shown ct_shown), sl_shown⟩)
    (c_shown : PySem.W.codeIn K cd_shown "shown" = true)
    (k_shown : PySem.W.keepIn K (.ref f_shown) = true)
    (a_law_named : PySem.W.nsIn K mainGlobals "_law_named" = some (some (.ref f_law_named)))
    (l_law_named : K.lookup f_law_named = some ⟨oc_law_named, od_law_named, .func (PySem.W.fnOf "_law_named" "_law_named" (defArgs st__law_named) (defBody st__law_named) (defScope st__law_named) .none kV_law_named dc_law_named pm_law_named an_law_named cd_law_named ct_law_named), sl_law_named⟩)
    (c_law_named : PySem.W.codeIn K cd_law_named "_law_named" = true)
    (k_law_named : PySem.W.keepIn K (.ref f_law_named) = true)
    (a_views_of : PySem.W.nsIn K mainGlobals "views_of" = some (some (.ref f_views_of)))
    (l_views_of : K.lookup f_views_of = some ⟨oc_views_of, od_views_of, .func (PySem.W.fnOf "views_of" "views_of" (defArgs st_views_of) (defBody st_views_of) (defScope st_views_of) .none kV_views_of dc_views_of pm_views_of an_views_of cd_views_of ct_views_of), sl_views_of⟩)
    (c_views_of : PySem.W.codeIn K cd_views_of "views_of" = true)
    (k_views_of : PySem.W.keepIn K (.ref f_views_of) = true)
    (a_views : PySem.W.nsIn K mainGlobals "views" = some (some (.ref f_views)))
    (l_views : K.lookup f_views = some ⟨oc_views, od_views, .func (PySem.W.fnOf "views" "views" (defArgs st_views) (defBody st_views) (defScope st_views) .none kV_views dc_views pm_views an_views cd_views ct_views), sl_views⟩)
    (c_views : PySem.W.codeIn K cd_views "views" = true)
    (k_views : PySem.W.keepIn K (.ref f_views) = true)
    (a_law : PySem.W.nsIn K mainGlobals "law" = some (some (.ref f_law)))
    (l_law : K.lookup f_law = some ⟨oc_law, od_law, .func (PySem.W.fnOf "law" "law" (defArgs st_law) (defBody st_law) (defScope st_law) .none kV_law dc_law pm_law an_law cd_law ct_law), sl_law⟩)
    (c_law : PySem.W.codeIn K cd_law "law" = true)
    (k_law : PySem.W.keepIn K (.ref f_law) = true)
    (z_abs : PySem.W.nsIn K mainGlobals "abs" = some none)
    (z_all : PySem.W.nsIn K mainGlobals "all" = some none)
    (z_bool : PySem.W.nsIn K mainGlobals "bool" = some none)
    (z_int : PySem.W.nsIn K mainGlobals "int" = some none)
    (z_isinstance : PySem.W.nsIn K mainGlobals "isinstance" = some none)
    (z_len : PySem.W.nsIn K mainGlobals "len" = some none)
    (z_list : PySem.W.nsIn K mainGlobals "list" = some none)
    (z_min : PySem.W.nsIn K mainGlobals "min" = some none)
    (z_range : PySem.W.nsIn K mainGlobals "range" = some none)
    (z_str : PySem.W.nsIn K mainGlobals "str" = some none)
    (z_tuple : PySem.W.nsIn K mainGlobals "tuple" = some none)
    (g_ENDINGS : PySem.W.nsIn K mainGlobals "ENDINGS" = some (some (.ref p_ENDINGS)))
    (h_ENDINGS : K.lookup p_ENDINGS = some ⟨.type "tuple", q_ENDINGS, .seq #[.str "drop" t0_ENDINGS, .str "keep" t1_ENDINGS] n_ENDINGS, s_ENDINGS⟩)
    (g_LETTERS : PySem.W.nsIn K mainGlobals "LETTERS" = some (some (.str "abc" t_LETTERS)))
    (g_MARKS : PySem.W.nsIn K mainGlobals "MARKS" = some (some (.ref p_MARKS)))
    (h_MARKS : K.lookup p_MARKS = some ⟨.type "tuple", q_MARKS, .seq #[.str "" t0_MARKS, .str "." t1_MARKS, .str "~" t2_MARKS] n_MARKS, s_MARKS⟩)
    (g_MOST_ENDING : PySem.W.nsIn K mainGlobals "MOST_ENDING" = some (some (.int 4 t_MOST_ENDING)))
    (g_MOST_TEXT : PySem.W.nsIn K mainGlobals "MOST_TEXT" = some (some (.int 40 t_MOST_TEXT)))
    (g_MOST_WIDTH : PySem.W.nsIn K mainGlobals "MOST_WIDTH" = some (some (.int 40 t_MOST_WIDTH)))
    (g_PLACES : PySem.W.nsIn K mainGlobals "PLACES" = some (some (.ref p_PLACES)))
    (h_PLACES : K.lookup p_PLACES = some ⟨.type "tuple", q_PLACES, .seq #[.str "end" t0_PLACES, .str "middle" t1_PLACES, .str "start" t2_PLACES] n_PLACES, s_PLACES⟩)
    (g_SIGNS : PySem.W.nsIn K mainGlobals "SIGNS" = some (some (.str " .abc~" t_SIGNS)))
    (g_UNITS : PySem.W.nsIn K mainGlobals "UNITS" = some (some (.ref p_UNITS)))
    (h_UNITS : K.lookup p_UNITS = some ⟨.type "tuple", q_UNITS, .seq #[.str "signs" t0_UNITS, .str "words" t1_UNITS] n_UNITS, s_UNITS⟩)
    : ∃ fd : FuncData, (∀ (s : Shared) (v : Value), BindsTo s fd ⟨[v], []⟩ [("script", v)]) ∧ ∀ base : Heap, K.In base → base.Ns mainGlobals mg → FnOk l.prog w K mg base CX0 7 fa fd ["script"] (spA K m_law) := by
  have e := hfa.symm.trans (PySem.W.mg_of X G a_law)
  cases e
  have T : Txt K mg := ⟨PySem.W.mg_none_of X G z_abs, PySem.W.mg_none_of X G z_all, PySem.W.mg_none_of X G z_bool, PySem.W.mg_none_of X G z_int, PySem.W.mg_none_of X G z_isinstance, PySem.W.mg_none_of X G z_len, PySem.W.mg_none_of X G z_list, PySem.W.mg_none_of X G z_min, PySem.W.mg_none_of X G z_range, PySem.W.mg_none_of X G z_str, PySem.W.mg_none_of X G z_tuple, gt_mk (PySem.W.mg_of X G g_ENDINGS) h_ENDINGS (show (2 : Nat) ≤ sizeLine from le_line (by decide)) (.cons ⟨_, strV (by decide +kernel)⟩ (.cons ⟨_, strV (by decide +kernel)⟩ (.nil))), gs_mk (PySem.W.mg_of X G g_LETTERS) (by decide +kernel), gt_mk (PySem.W.mg_of X G g_MARKS) h_MARKS (show (3 : Nat) ≤ sizeLine from le_line (by decide)) (.cons ⟨_, strV (by decide +kernel)⟩ (.cons ⟨_, strV (by decide +kernel)⟩ (.cons ⟨_, strV (by decide +kernel)⟩ (.nil)))), gi_mk (PySem.W.mg_of X G g_MOST_ENDING), gi_mk (PySem.W.mg_of X G g_MOST_TEXT), gi_mk (PySem.W.mg_of X G g_MOST_WIDTH), gt_mk (PySem.W.mg_of X G g_PLACES) h_PLACES (show (3 : Nat) ≤ sizeLine from le_line (by decide)) (.cons ⟨_, strV (by decide +kernel)⟩ (.cons ⟨_, strV (by decide +kernel)⟩ (.cons ⟨_, strV (by decide +kernel)⟩ (.nil)))), gs_mk (PySem.W.mg_of X G g_SIGNS) (by decide +kernel), gt_mk (PySem.W.mg_of X G g_UNITS) h_UNITS (show (2 : Nat) ≤ sizeLine from le_line (by decide)) (.cons ⟨_, strV (by decide +kernel)⟩ (.cons ⟨_, strV (by decide +kernel)⟩ (.nil)))⟩
  refine ⟨PySem.W.fnOf "law" "law" (defArgs st_law) (defBody st_law) (defScope st_law) .none kV_law dc_law pm_law an_law cd_law ct_law, fun s v => .of_eq rfl, fun base _ _ => ?_⟩
  have F_law_source := fun_mk (st := st__law_source) l_law_source c_law_source k_law_source
  have D_law_source : Df l.prog w K mg base "_law_source" 1 ["script", "index"] (spO K m__law_source) := ⟨f_law_source, _, ok__law_source F_law_source T, PySem.W.mg_of X G a_law_source, k_law_source, F_law_source.binds (ps := ["script", "index"]) fun _ _ _ _ _ _ us hl => match us, hl with | [_, _], _ => rfl⟩
  have F_law_draw := fun_mk (st := st__law_draw) l_law_draw c_law_draw k_law_draw
  have D_law_draw : Df l.prog w K mg base "_law_draw" 1 ["source", "size"] (spB K m__law_draw) := ⟨f_law_draw, _, ok__law_draw F_law_draw T, PySem.W.mg_of X G a_law_draw, k_law_draw, F_law_draw.binds (ps := ["source", "size"]) fun _ _ _ _ _ _ us hl => match us, hl with | [_, _], _ => rfl⟩
  have F_law_choice := fun_mk (st := st__law_choice) l_law_choice c_law_choice k_law_choice
  have D_law_choice : Df l.prog w K mg base "_law_choice" 2 ["source", "items"] (spB K m__law_choice) := ⟨f_law_choice, _, ok__law_choice F_law_choice T D_law_draw, PySem.W.mg_of X G a_law_choice, k_law_choice, F_law_choice.binds (ps := ["source", "items"]) fun _ _ _ _ _ _ us hl => match us, hl with | [_, _], _ => rfl⟩
  have F_is_way := fun_mk (st := st_is_way) l_is_way c_is_way k_is_way
  have D_is_way : Df l.prog w K mg base "is_way" 1 ["value"] (spA K m_is_way) := ⟨f_is_way, _, ok_is_way F_is_way T, PySem.W.mg_of X G a_is_way, k_is_way, F_is_way.binds (ps := ["value"]) fun _ _ _ _ _ _ us hl => match us, hl with | [_], _ => rfl⟩
  have F_need_way := fun_mk (st := st_need_way) l_need_way c_need_way k_need_way
  have D_need_way : Df l.prog w K mg base "need_way" 2 ["way"] (spA K m_need_way) := ⟨f_need_way, _, ok_need_way F_need_way T D_is_way, PySem.W.mg_of X G a_need_way, k_need_way, F_need_way.binds (ps := ["way"]) fun _ _ _ _ _ _ us hl => match us, hl with | [_], _ => rfl⟩
  have F_is_text := fun_mk (st := st_is_text) l_is_text c_is_text k_is_text
  have D_is_text : Df l.prog w K mg base "is_text" 1 ["value"] (spA K m_is_text) := ⟨f_is_text, _, ok_is_text F_is_text T, PySem.W.mg_of X G a_is_text, k_is_text, F_is_text.binds (ps := ["value"]) fun _ _ _ _ _ _ us hl => match us, hl with | [_], _ => rfl⟩
  have F_need_text := fun_mk (st := st_need_text) l_need_text c_need_text k_need_text
  have D_need_text : Df l.prog w K mg base "need_text" 2 ["text"] (spA K m_need_text) := ⟨f_need_text, _, ok_need_text F_need_text T D_is_text, PySem.W.mg_of X G a_need_text, k_need_text, F_need_text.binds (ps := ["text"]) fun _ _ _ _ _ _ us hl => match us, hl with | [_], _ => rfl⟩
  have F_ending_of := fun_mk (st := st_ending_of) l_ending_of c_ending_of k_ending_of
  have D_ending_of : Df l.prog w K mg base "ending_of" 1 ["text"] (spA K m_ending_of) := ⟨f_ending_of, _, ok_ending_of F_ending_of T, PySem.W.mg_of X G a_ending_of, k_ending_of, F_ending_of.binds (ps := ["text"]) fun _ _ _ _ _ _ us hl => match us, hl with | [_], _ => rfl⟩
  have F_ending := fun_mk (st := st_ending) l_ending c_ending k_ending
  have D_ending : Df l.prog w K mg base "ending" 3 ["text"] (spA K m_ending) := ⟨f_ending, _, ok_ending F_ending T D_need_text D_ending_of, PySem.W.mg_of X G a_ending, k_ending, F_ending.binds (ps := ["text"]) fun _ _ _ _ _ _ us hl => match us, hl with | [_], _ => rfl⟩
  have F_all_ways := fun_mk (st := st_all_ways) l_all_ways c_all_ways k_all_ways
  have D_all_ways : Df l.prog w K mg base "all_ways" 4 [] (spA K m_all_ways) := ⟨f_all_ways, _, ok_all_ways F_all_ways T D_ending, PySem.W.mg_of X G a_all_ways, k_all_ways, F_all_ways.binds (ps := []) fun _ _ _ _ _ _ us hl => match us, hl with | [], _ => rfl⟩
  have F_are_alike := fun_mk (st := st_are_alike) l_are_alike c_are_alike k_are_alike
  have D_are_alike : Df l.prog w K mg base "are_alike" 1 ["one", "other"] (spA K m_are_alike) := ⟨f_are_alike, _, ok_are_alike F_are_alike T, PySem.W.mg_of X G a_are_alike, k_are_alike, F_are_alike.binds (ps := ["one", "other"]) fun _ _ _ _ _ _ us hl => match us, hl with | [_, _], _ => rfl⟩
  have F_same_ways := fun_mk (st := st_same_ways) l_same_ways c_same_ways k_same_ways
  have D_same_ways : Df l.prog w K mg base "same_ways" 5 ["way"] (spA K m_same_ways) := ⟨f_same_ways, _, ok_same_ways F_same_ways T D_need_way D_all_ways D_are_alike, PySem.W.mg_of X G a_same_ways, k_same_ways, F_same_ways.binds (ps := ["way"]) fun _ _ _ _ _ _ us hl => match us, hl with | [_], _ => rfl⟩
  have F_law_way := fun_mk (st := st__law_way) l_law_way c_law_way k_law_way
  have D_law_way : Df l.prog w K mg base "_law_way" 3 ["source"] (spB K m__law_way) := ⟨f_law_way, _, ok__law_way F_law_way T D_law_choice, PySem.W.mg_of X G a_law_way, k_law_way, F_law_way.binds (ps := ["source"]) fun _ _ _ _ _ _ us hl => match us, hl with | [_], _ => rfl⟩
  have F_law_text := fun_mk (st := st__law_text) l_law_text c_law_text k_law_text
  have D_law_text : Df l.prog w K mg base "_law_text" 3 ["source", "most"] (spB K m__law_text) := ⟨f_law_text, _, ok__law_text F_law_text T D_law_choice D_law_draw, PySem.W.mg_of X G a_law_text, k_law_text, F_law_text.binds (ps := ["source", "most"]) fun _ _ _ _ _ _ us hl => match us, hl with | [_, _], _ => rfl⟩
  have F_is_between := fun_mk (st := st_is_between) l_is_between c_is_between k_is_between
  have D_is_between : Df l.prog w K mg base "is_between" 1 ["value", "low", "high"] (spA K m_is_between) := ⟨f_is_between, _, ok_is_between F_is_between T, PySem.W.mg_of X G a_is_between, k_is_between, F_is_between.binds (ps := ["value", "low", "high"]) fun _ _ _ _ _ _ us hl => match us, hl with | [_, _, _], _ => rfl⟩
  have F_need_width := fun_mk (st := st_need_width) l_need_width c_need_width k_need_width
  have D_need_width : Df l.prog w K mg base "need_width" 2 ["width"] (spA K m_need_width) := ⟨f_need_width, _, ok_need_width F_need_width T D_is_between, PySem.W.mg_of X G a_need_width, k_need_width, F_need_width.binds (ps := ["width"]) fun _ _ _ _ _ _ us hl => match us, hl with | [_], _ => rfl⟩
  have F_front_of := fun_mk (st := st_front_of) l_front_of c_front_of k_front_of
  have D_front_of : Df l.prog w K mg base "front_of" 1 ["text", "number", "unit"] (spA K m_front_of) := ⟨f_front_of, _, ok_front_of F_front_of T, PySem.W.mg_of X G a_front_of, k_front_of, F_front_of.binds (ps := ["text", "number", "unit"]) fun _ _ _ _ _ _ us hl => match us, hl with | [_, _, _], _ => rfl⟩
  have F_back_of := fun_mk (st := st_back_of) l_back_of c_back_of k_back_of
  have D_back_of : Df l.prog w K mg base "back_of" 2 ["text", "number", "unit"] (spA K m_back_of) := ⟨f_back_of, _, ok_back_of F_back_of T D_front_of, PySem.W.mg_of X G a_back_of, k_back_of, F_back_of.binds (ps := ["text", "number", "unit"]) fun _ _ _ _ _ _ us hl => match us, hl with | [_, _, _], _ => rfl⟩
  have F_cut_plain := fun_mk (st := st_cut_plain) l_cut_plain c_cut_plain k_cut_plain
  have D_cut_plain : Df l.prog w K mg base "cut_plain" 3 ["way", "text", "width"] (spA K m_cut_plain) := ⟨f_cut_plain, _, ok_cut_plain F_cut_plain T D_back_of D_front_of, PySem.W.mg_of X G a_cut_plain, k_cut_plain, F_cut_plain.binds (ps := ["way", "text", "width"]) fun _ _ _ _ _ _ us hl => match us, hl with | [_, _, _], _ => rfl⟩
  have F_show := fun_mk (st := st_show) l_show c_show k_show
  have D_show : Df l.prog w K mg base "show" 4 ["way", "text", "width"] (spA K m_show) := ⟨f_show, _, ok_show F_show T D_ending_of D_cut_plain, PySem.W.mg_of X G a_show, k_show, F_show.binds (ps := ["way", "text", "width"]) fun _ _ _ _ _ _ us hl => match us, hl with | [_, _, _], _ => rfl⟩
  have F_shown := fun_mk (st := st_shown) l_shown c_shown k_shown
  have D_shown : Df l.prog w K mg base "shown" 5 ["way", "text", "width"] (spA K m_shown) := ⟨f_shown, _, ok_shown F_shown T D_need_way D_need_text D_need_width D_show, PySem.W.mg_of X G a_shown, k_shown, F_shown.binds (ps := ["way", "text", "width"]) fun _ _ _ _ _ _ us hl => match us, hl with | [_, _, _], _ => rfl⟩
  have F_law_named := fun_mk (st := st__law_named) l_law_named c_law_named k_law_named
  have D_law_named : Df l.prog w K mg base "_law_named" 1 ["names", "text"] (spA K m__law_named) := ⟨f_law_named, _, ok__law_named F_law_named T, PySem.W.mg_of X G a_law_named, k_law_named, F_law_named.binds (ps := ["names", "text"]) fun _ _ _ _ _ _ us hl => match us, hl with | [_, _], _ => rfl⟩
  have F_views_of := fun_mk (st := st_views_of) l_views_of c_views_of k_views_of
  have D_views_of : Df l.prog w K mg base "views_of" 5 ["way", "text"] (spA K m_views_of) := ⟨f_views_of, _, ok_views_of F_views_of T D_show, PySem.W.mg_of X G a_views_of, k_views_of, F_views_of.binds (ps := ["way", "text"]) fun _ _ _ _ _ _ us hl => match us, hl with | [_, _], _ => rfl⟩
  have F_views := fun_mk (st := st_views) l_views c_views k_views
  have D_views : Df l.prog w K mg base "views" 6 ["way", "text"] (spA K m_views) := ⟨f_views, _, ok_views F_views T D_need_way D_need_text D_views_of, PySem.W.mg_of X G a_views, k_views, F_views.binds (ps := ["way", "text"]) fun _ _ _ _ _ _ us hl => match us, hl with | [_, _], _ => rfl⟩
  have F_law := fun_mk (st := st_law) l_law c_law k_law
  exact ok_law F_law T D_law_source D_law_choice D_same_ways D_law_draw D_law_way D_law_text D_shown D_law_named D_ending D_views
theorem walk {l : PySem.W.OpenLaw} {q : Program} {loose : List Str} {XP : (Str → Option Value) → Heap → Prop} {YP : World → Heap → Prop} {d : DefRec} {K : Params → PySem.W.Frag} (hn : l.most = some 63) (hdf : d.params.defaults = [])
    (hY : ∀ (w : World) (h : Heap), YP w h → (K w.params).In h)
    (F : ∀ (w : World) (mg : Str → Option Value) (fa : Addr) (h : Heap), (K w.params).In h → h.Ns mainGlobals mg → mg d.name = some (.ref fa) →
      ∃ fd : FuncData, (∀ (s : Shared) (u : Value), BindsTo s fd ⟨[u], []⟩ [("script", u)]) ∧ ∀ base : Heap, (K w.params).In base → base.Ns mainGlobals mg → FnOk l.prog w (K w.params) mg base CX0 7 fa fd ["script"] (spA (K w.params) m_law)) :
    PySem.W.WalkO q loose XP YP l.row.toRowW d [] (fun f vs => PySem.call f vs) :=
  L2.walk_ofK (n := 63) (k := 7) (x := "script") (CX := CX0) (sp := fun K => spA K m_law) hn (by rw [PySem.sizeLine_eq]; decide) hdf ⟨rfl, by decide, by decide⟩ hY F (fun K H a ns hl hO hS => law_sp (law_true ns hl) hO hS) fun _ _ _ _ z => z
end Lw
open PySem PySem.W PyProof.Rows
set_option maxRecDepth 100000 in
set_option maxHeartbeats 0 in
theorem PySem.Challenge.cw_cutwidths_k13_whole_ends_exchanged_holds : PySem.Challenge.rw_cutwidths_k13_whole_ends_exchanged.Holds := by
  w_on; o_law; k_head; (case hw => w_witness2)
  k_fill
  refine Lw.walk (l := PySem.Challenge.rw_cutwidths_k13_whole_ends_exchanged) rfl rfl (fun w h Y => PySem.W.kIn_of Y) ?F
  case F =>
    intro w mg fa h KX G hmg
    refine' Lw.all_mk KX G hmg ?a_law_source ?l_law_source ?c_law_source ?k_law_source ?a_law_draw ?l_law_draw ?c_law_draw ?k_law_draw ?a_law_choice ?l_law_choice ?c_law_choice ?k_law_choice ?a_is_way ?l_is_way ?c_is_way ?k_is_way ?a_need_way ?l_need_way ?c_need_way ?k_need_way ?a_is_text ?l_is_text ?c_is_text ?k_is_text ?a_need_text ?l_need_text ?c_need_text ?k_need_text ?a_ending_of ?l_ending_of ?c_ending_of ?k_ending_of ?a_ending ?l_ending ?c_ending ?k_ending ?a_all_ways ?l_all_ways ?c_all_ways ?k_all_ways ?a_are_alike ?l_are_alike ?c_are_alike ?k_are_alike ?a_same_ways ?l_same_ways ?c_same_ways ?k_same_ways ?a_law_way ?l_law_way ?c_law_way ?k_law_way ?a_law_text ?l_law_text ?c_law_text ?k_law_text ?a_is_between ?l_is_between ?c_is_between ?k_is_between ?a_need_width ?l_need_width ?c_need_width ?k_need_width ?a_front_of ?l_front_of ?c_front_of ?k_front_of ?a_back_of ?l_back_of ?c_back_of ?k_back_of ?a_cut_plain ?l_cut_plain ?c_cut_plain ?k_cut_plain ?a_show ?l_show ?c_show ?k_show ?a_shown ?l_shown ?c_shown ?k_shown ?a_law_named ?l_law_named ?c_law_named ?k_law_named ?a_views_of ?l_views_of ?c_views_of ?k_views_of ?a_views ?l_views ?c_views ?k_views ?a_law ?l_law ?c_law ?k_law ?z_abs ?z_all ?z_bool ?z_int ?z_isinstance ?z_len ?z_list ?z_min ?z_range ?z_str ?z_tuple ?g_ENDINGS ?h_ENDINGS ?g_LETTERS ?g_MARKS ?h_MARKS ?g_MOST_ENDING ?g_MOST_TEXT ?g_MOST_WIDTH ?g_PLACES ?h_PLACES ?g_SIGNS ?g_UNITS ?h_UNITS
    (case a_law_source => k_is)
    (case l_law_source => k_is)
    (case c_law_source => k_is)
    (case k_law_source => k_is)
    (case a_law_draw => k_is)
    (case l_law_draw => k_is)
    (case c_law_draw => k_is)
    (case k_law_draw => k_is)
    (case a_law_choice => k_is)
    (case l_law_choice => k_is)
    (case c_law_choice => k_is)
    (case k_law_choice => k_is)
    (case a_is_way => k_is)
    (case l_is_way => k_is)
    (case c_is_way => k_is)
    (case k_is_way => k_is)
    (case a_need_way => k_is)
    (case l_need_way => k_is)
    (case c_need_way => k_is)
    (case k_need_way => k_is)
    (case a_is_text => k_is)
    (case l_is_text => k_is)
    (case c_is_text => k_is)
    (case k_is_text => k_is)
    (case a_need_text => k_is)
    (case l_need_text => k_is)
    (case c_need_text => k_is)
    (case k_need_text => k_is)
    (case a_ending_of => k_is)
    (case l_ending_of => k_is)
    (case c_ending_of => k_is)
    (case k_ending_of => k_is)
    (case a_ending => k_is)
    (case l_ending => k_is)
    (case c_ending => k_is)
    (case k_ending => k_is)
    (case a_all_ways => k_is)
    (case l_all_ways => k_is)
    (case c_all_ways => k_is)
    (case k_all_ways => k_is)
    (case a_are_alike => k_is)
    (case l_are_alike => k_is)
    (case c_are_alike => k_is)
    (case k_are_alike => k_is)
    (case a_same_ways => k_is)
    (case l_same_ways => k_is)
    (case c_same_ways => k_is)
    (case k_same_ways => k_is)
    (case a_law_way => k_is)
    (case l_law_way => k_is)
    (case c_law_way => k_is)
    (case k_law_way => k_is)
    (case a_law_text => k_is)
    (case l_law_text => k_is)
    (case c_law_text => k_is)
    (case k_law_text => k_is)
    (case a_is_between => k_is)
    (case l_is_between => k_is)
    (case c_is_between => k_is)
    (case k_is_between => k_is)
    (case a_need_width => k_is)
    (case l_need_width => k_is)
    (case c_need_width => k_is)
    (case k_need_width => k_is)
    (case a_front_of => k_is)
    (case l_front_of => k_is)
    (case c_front_of => k_is)
    (case k_front_of => k_is)
    (case a_back_of => k_is)
    (case l_back_of => k_is)
    (case c_back_of => k_is)
    (case k_back_of => k_is)
    (case a_cut_plain => k_is)
    (case l_cut_plain => k_is)
    (case c_cut_plain => k_is)
    (case k_cut_plain => k_is)
    (case a_show => k_is)
    (case l_show => k_is)
    (case c_show => k_is)
    (case k_show => k_is)
    (case a_shown => k_is)
    (case l_shown => k_is)
    (case c_shown => k_is)
    (case k_shown => k_is)
    (case a_law_named => k_is)
    (case l_law_named => k_is)
    (case c_law_named => k_is)
    (case k_law_named => k_is)
    (case a_views_of => k_is)
    (case l_views_of => k_is)
    (case c_views_of => k_is)
    (case k_views_of => k_is)
    (case a_views => k_is)
    (case l_views => k_is)
    (case c_views => k_is)
    (case k_views => k_is)
    (case a_law => k_is)
    (case l_law => k_is)
    (case c_law => k_is)
    (case k_law => k_is)
    (case z_abs => k_is)
    (case z_all => k_is)
    (case z_bool => k_is)
    (case z_int => k_is)
    (case z_isinstance => k_is)
    (case z_len => k_is)
    (case z_list => k_is)
    (case z_min => k_is)
    (case z_range => k_is)
    (case z_str => k_is)
    (case z_tuple => k_is)
    (case g_ENDINGS => k_is)
    (case h_ENDINGS => k_is)
    (case g_LETTERS => k_is)
    (case g_MARKS => k_is)
    (case h_MARKS => k_is)
    (case g_MOST_ENDING => k_is)
    (case g_MOST_TEXT => k_is)
    (case g_MOST_WIDTH => k_is)
    (case g_PLACES => k_is)
    (case h_PLACES => k_is)
    (case g_SIGNS => k_is)
    (case g_UNITS => k_is)
    (case h_UNITS => k_is)
